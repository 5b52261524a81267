/- A part of the proof: what the functions of the program compute. -/
import Derived.Test.YtcaadpceoajapaaC4
namespace Go.UK
open Go Go.Proofs
set_option maxRecDepth 20000
set_option maxHeartbeats 4000000
set_option linter.all false

attribute [local irreducible] owp awl aw FnM NatFn opS Stab TOK Big

/-! umbra/umbraref09.Sum -/
def p_umbraref09_Sum_L2 (N : Nat) (z3 : (List Int)) (s6 : Int) : Nat → (Vector Int 64) → Int → Option ((Vector Int 64))
  | 0, _, _ => none
  | k + 1, s9, s10 =>
    cond (decide (s10 < 64)) (
      Option.bind (idx z3 (I64 (s6 + s10))) fun e11 =>
      Option.bind (inRO s10 64) fun _ =>
      Option.bind (s9.toList[s10.toNat]?) fun e13 =>
      p_umbraref09_Sum_L2 N z3 s6 k (s9.setIfInBounds s10.toNat e11) (I64 (s10 + 1))) (
      some s9)

def p_umbraref09_Sum_L1 (N : Nat) (z3 : (List Int)) : Nat → (Vector Int 8) → Int → Option ((Vector Int 8))
  | 0, _, _ => none
  | k + 1, s5, s6 =>
    letO (decide ((I64 (s6 + 64)) ≤ ((z3.length : Int)))) fun x7 =>
    cond x7 (
      Option.bind (p_umbraref09_Sum_L2 N z3 s6 N (Vector.replicate 64 0) 0) fun p8 =>
      Option.bind (p_umbraref09_Compress N s5 p8) fun r14 =>
      p_umbraref09_Sum_L1 N z3 k r14 (I64 (s6 + 64))) (
      some s5)

def p_umbraref09_Sum_L3 (N : Nat) (p4 : (Vector Int 8)) : Nat → (Vector Int 32) → Int → Option ((Vector Int 32))
  | 0, _, _ => none
  | k + 1, s16, s17 =>
    cond (decide (s17 < 32)) (
      Option.bind (inRO (I64 (Int.tdiv s17 4)) 8) fun _ =>
      Option.bind (p4.toList[(I64 (Int.tdiv s17 4)).toNat]?) fun e19 =>
      letO (I64 (8 * (Int.tmod s17 4))) fun x20 =>
      Option.bind (shrO .u32 e19 (I64 (24 - x20))) fun x21 =>
      Option.bind (inRO s17 32) fun _ =>
      Option.bind (s16.toList[s17.toNat]?) fun e23 =>
      p_umbraref09_Sum_L3 N p4 k (s16.setIfInBounds s17.toNat (U8 x21)) (I64 (s17 + 1))) (
      some s16)

def p_umbraref09_Sum (N : Nat) (a0 : (List Int)) : Option ((Vector Int 32)) :=
  Option.bind (appO 1 (([] : List Int)) a0) fun z1 =>
  Option.bind (p_umbraref09_Pad N ((a0.length : Int))) fun r2 =>
  Option.bind (appO 1 z1 r2) fun z3 =>
  Option.bind (p_umbraref09_Sum_L1 N z3 N (#v[1779033703, 3144134277, 1013904242, 2773480762, 1359893119, 2600822924, 528734635, 1541459225]) 0) fun p4 =>
  Option.bind (p_umbraref09_Sum_L3 N p4 N (Vector.replicate 32 0) 0) fun p15 =>
  some p15

theorem umbraref09_Sum_ok {N : Nat} {a0 : (List Int)} {r : (Vector Int 32)} (h : p_umbraref09_Sum N a0 = some r) : FnM Try.prog 180 [] [(eL 1 k8 a0)] (eA 32 1 k8 r) [] := by
  unfold p_umbraref09_Sum at h
  refine fnM_of_aw (m := 57) (lo := 0) (rs := [.cell 2 53]) hT Try.func180 rfl (by kernel_rfl) rfl ?_
  refine aw_sregU hT m_no [] (by kernel_rfl) ?_
  refine aw_sreg ?_
  refine awl_big (big_rowO hT k8 (k := 1) ([] : List Int) (by kernel_rfl) (by kernel_rfl)) (by kernel_rfl) ?_
  first | refine awl_to ⟨[en 0 (eL 1 k8 a0), en 2 (.ref 0 [] 0), en 10 (eO 1 1 k8 (([] : List Int)))], [.var (eA 32 1 k8 (Vector.replicate 32 0)), .tail ((([] : List Int)).length * 1)]⟩ (by kernel_rfl) ?_ | skip
  refine awl_u hT m_no [] 1 (by kernel_rfl) ?_
  obtain ⟨z1, hz1, h⟩ := obind h
  refine awl_big (big_app hT k8 (id := 1) (k := 1) hz1 (by kernel_rfl) (by kernel_rfl)) (by kernel_rfl) ?_
  refine awl_u hT m_no [] 2 (by kernel_rfl) ?_
  obtain ⟨r2, hr2, h⟩ := obind h
  refine awl_big (big_call [] (umbraref09_Pad_ok hr2) umbraref09_Pad_ok_c (by kernel_rfl) (by kernel_rfl)) (by kernel_rfl) ?_
  obtain ⟨z3, hz3, h⟩ := obind h
  refine awl_big (big_app hT k8 (id := 1) (k := 1) hz3 (by kernel_rfl) (by kernel_rfl)) (by kernel_rfl) ?_
  refine awl_u hT m_no [] 1 (by kernel_rfl) ?_
  refine awl_nil ?_
  refine aw_sregU hT m_no [] (by kernel_rfl) ?_
  refine aw_seq ?_
  refine aw_sregU hT m_no [] (by kernel_rfl) ?_
  obtain ⟨p4, h, g4⟩ := obind h
  refine aw_joinTK ⟨[en 2 (.ref 0 [] 0), en 4 (.ref 2 [] 0)], [.var (eA 32 1 k8 (Vector.replicate 32 0)), .tail (z3.length * 1), .var (eA 8 1 k32 p4)]⟩ ?_ ?_
  · refine aw_block (aw_loop (fun k s => ∃ s5 s6, p_umbraref09_Sum_L1 N z3 k s5 s6 = some p4 ∧ JR (Fr.f 57 0) ⟨[en 2 (.ref 0 [] 0), en 3 (eO 1 1 k8 z3), en 4 (.ref 2 [] 0), en 5 (j64 s6)], [.var (eA 32 1 k8 (Vector.replicate 32 0)), .tail (z3.length * 1), .var (eA 8 1 k32 s5)]⟩ s) (fun k s hI => ?_) N _ ⟨_, _, h, jr (by kernel_rfl)⟩)
    obtain ⟨s5, s6, h, hj⟩ := hI
    cases k with
    | zero => cases h
    | succ k =>
      refine aw_jr hj ?_
      refine aw_seq ?_
      obtain ⟨x7, hx7, h⟩ := letE h
      refine aw_sregU hT m_no [] (by kernel_rfl) ?_
      refine aw_nms [(22, (eB x7))] (by subst hx7; kernel_rfl) ?_
      refine aw_condH h (by kernel_rfl) (fun _ h => ?_) (fun _ h => ?_)
      · refine aw_skip (tn_n ?_)
        refine aw_seq ?_
        refine aw_block ?_
        refine aw_sregU hT m_no [] (by kernel_rfl) ?_
        refine aw_seq ?_
        refine aw_sregU hT m_no [] (by kernel_rfl) ?_
        obtain ⟨p8, h, g8⟩ := obind h
        refine aw_joinTK ⟨[en 2 (.ref 0 [] 0), en 3 (eO 1 1 k8 z3), en 4 (.ref 2 [] 0), en 5 (j64 s6), en 6 (.ref 3 [] 0)], [.var (eA 32 1 k8 (Vector.replicate 32 0)), .tail (z3.length * 1), .var (eA 8 1 k32 s5), .var (eA 64 1 k8 p8)]⟩ ?_ ?_
        · refine aw_block (aw_loop (fun k s => ∃ s9 s10, p_umbraref09_Sum_L2 N z3 s6 k s9 s10 = some p8 ∧ JR (Fr.f 57 0) ⟨[en 2 (.ref 0 [] 0), en 3 (eO 1 1 k8 z3), en 4 (.ref 2 [] 0), en 5 (j64 s6), en 6 (.ref 3 [] 0), en 7 (j64 s10)], [.var (eA 32 1 k8 (Vector.replicate 32 0)), .tail (z3.length * 1), .var (eA 8 1 k32 s5), .var (eA 64 1 k8 s9)]⟩ s) (fun k s hI => ?_) N _ ⟨_, _, h, jr (by kernel_rfl)⟩)
          obtain ⟨s9, s10, h, hj⟩ := hI
          cases k with
          | zero => cases h
          | succ k =>
            refine aw_jr hj ?_
            refine aw_seq ?_
            refine aw_sregU hT m_no [] (by kernel_rfl) ?_
            refine aw_condH h (by kernel_rfl) (fun _ h => ?_) (fun _ h => ?_)
            · refine aw_skip (tn_n ?_)
              refine aw_seq ?_
              refine aw_block ?_
              refine aw_region ?_
              refine awl_u hT m_no [] 5 (by kernel_rfl) ?_
              obtain ⟨e11, he11, h⟩ := obind h
              refine awl_big (big_idx hT k8 he11 (by kernel_rfl) (by kernel_rfl)) (by kernel_rfl) ?_
              refine awl_u hT m_no [] 1 (by kernel_rfl) ?_
              obtain ⟨u12, hu12, h⟩ := obind h
              refine awl_big (big_adR hT (k := 1) 3 [] 0 hu12 (by kernel_rfl) (by kernel_rfl)) (by kernel_rfl) ?_
              obtain ⟨e13, he13, h⟩ := obind h
              refine awl_big (big_stV hT k8 0 s9 he13 e11 (by kernel_rfl) (by kernel_rfl) (H' := [.var (eA 32 1 k8 (Vector.replicate 32 0)), .tail (z3.length * 1), .var (eA 8 1 k32 s5), .var (eA 64 1 k8 (s9.setIfInBounds s10.toNat e11))]) (by kernel_rfl)) (by kernel_rfl) ?_
              refine awl_nil (inB_n (tn_n ?_))
              refine aw_regU hT m_no [] (by kernel_rfl) (tn_n ?_)
              exact ⟨k, Nat.lt_succ_self k, _, _, h, jr (by kernel_rfl)⟩
            · refine aw_exit (tn_x (tn_x (inB_e (tn_n ?_))))
              cases h
              exact jr (by kernel_rfl)
        · have h := g8
          refine (tn_n ?_)
          refine aw_region ?_
          refine awl_u hT m_no [] 2 (by kernel_rfl) ?_
          obtain ⟨r14, hr14, h⟩ := obind h
          refine awl_big (big_call [] (umbraref09_Compress_ok hr14) umbraref09_Compress_ok_c (by kernel_rfl) (by kernel_rfl)) (by kernel_rfl) ?_
          refine awl_u hT m_no [] 1 (by kernel_rfl) ?_
          refine awl_nil (inB_n (tn_n ?_))
          refine aw_regU hT m_no [] (by kernel_rfl) (tn_n ?_)
          exact ⟨k, Nat.lt_succ_self k, _, _, h, jr (by kernel_rfl)⟩
      · refine aw_exit (tn_x (tn_x (inB_e (tn_n ?_))))
        cases h
        exact jr (by kernel_rfl)
  · have h := g4
    refine (tn_n ?_)
    refine aw_sregU hT m_no [] (by kernel_rfl) ?_
    refine aw_seq ?_
    refine aw_sregU hT m_no [] (by kernel_rfl) ?_
    obtain ⟨p15, h, g15⟩ := obind h
    refine aw_joinTK ⟨[en 2 (.ref 0 [] 0), en 8 (.ref 3 [] 0)], [.var (eA 32 1 k8 (Vector.replicate 32 0)), .tail (z3.length * 1), .var (eA 8 1 k32 p4), .var (eA 32 1 k8 p15)]⟩ ?_ ?_
    · refine aw_block (aw_loop (fun k s => ∃ s16 s17, p_umbraref09_Sum_L3 N p4 k s16 s17 = some p15 ∧ JR (Fr.f 57 0) ⟨[en 2 (.ref 0 [] 0), en 4 (.ref 2 [] 0), en 8 (.ref 3 [] 0), en 9 (j64 s17)], [.var (eA 32 1 k8 (Vector.replicate 32 0)), .tail (z3.length * 1), .var (eA 8 1 k32 p4), .var (eA 32 1 k8 s16)]⟩ s) (fun k s hI => ?_) N _ ⟨_, _, h, jr (by kernel_rfl)⟩)
      obtain ⟨s16, s17, h, hj⟩ := hI
      cases k with
      | zero => cases h
      | succ k =>
        refine aw_jr hj ?_
        refine aw_seq ?_
        refine aw_sregU hT m_no [] (by kernel_rfl) ?_
        refine aw_condH h (by kernel_rfl) (fun _ h => ?_) (fun _ h => ?_)
        · refine aw_skip (tn_n ?_)
          refine aw_seq ?_
          refine aw_block ?_
          refine aw_region ?_
          refine awl_u hT m_no [] 3 (by kernel_rfl) ?_
          obtain ⟨u18, hu18, h⟩ := obind h
          refine awl_big (big_adR hT (k := 1) 2 [] 0 hu18 (by kernel_rfl) (by kernel_rfl)) (by kernel_rfl) ?_
          obtain ⟨e19, he19, h⟩ := obind h
          refine awl_big (big_ldE hT k32 0 he19 (by kernel_rfl) (by kernel_rfl)) (by kernel_rfl) ?_
          first | refine awl_to ⟨[en 2 (.ref 0 [] 0), en 4 (.ref 2 [] 0), en 8 (.ref 3 [] 0), en 9 (j64 s17), en 44 (j64 s17), en 48 (k32 e19)], [.var (eA 32 1 k8 (Vector.replicate 32 0)), .tail (z3.length * 1), .var (eA 8 1 k32 p4), .var (eA 32 1 k8 s16)]⟩ (by kernel_rfl) ?_ | skip
          obtain ⟨x20, hx20, h⟩ := letE h
          refine awl_u hT m_no [] 4 (by kernel_rfl) ?_
          refine awl_nms [(52, (j64 (I64 (24 - x20))))] (by subst hx20; kernel_rfl) ?_
          obtain ⟨x21, hx21, h⟩ := obind h
          refine awl_big (big_shr hT (k' := .i64) hx21 (by kernel_rfl) (by kernel_rfl)) (by kernel_rfl) ?_
          refine awl_u hT m_no [] 1 (by kernel_rfl) ?_
          obtain ⟨u22, hu22, h⟩ := obind h
          refine awl_big (big_adR hT (k := 1) 3 [] 0 hu22 (by kernel_rfl) (by kernel_rfl)) (by kernel_rfl) ?_
          obtain ⟨e23, he23, h⟩ := obind h
          refine awl_big (big_stV hT k8 0 s16 he23 (U8 x21) (by kernel_rfl) (by kernel_rfl) (H' := [.var (eA 32 1 k8 (Vector.replicate 32 0)), .tail (z3.length * 1), .var (eA 8 1 k32 p4), .var (eA 32 1 k8 (s16.setIfInBounds s17.toNat (U8 x21)))]) (by kernel_rfl)) (by kernel_rfl) ?_
          refine awl_nil (inB_n (tn_n ?_))
          refine aw_regU hT m_no [] (by kernel_rfl) (tn_n ?_)
          exact ⟨k, Nat.lt_succ_self k, _, _, h, jr (by kernel_rfl)⟩
        · refine aw_exit (tn_x (tn_x (inB_e (tn_n ?_))))
          cases h
          exact jr (by kernel_rfl)
    · have h := g15
      refine (tn_n ?_)
      refine aw_sregU hT m_no [] (by kernel_rfl) ?_
      refine aw_ret ?_
      cases h
      exact fin_r (by kernel_rfl)

theorem umbraref09_Sum_ok_c : callable Try.prog 180 := ⟨_, Try.func180, by decide, rfl⟩

/-! umbra/umbraref32.Start -/
def p_umbraref32_Start (N : Nat) (a0 : Int) : Option ((Vector Int 32)) :=
  Option.bind (p_umbraref11_Signed N (([117, 109, 98, 114, 97, 32, 97, 117, 100, 105, 116, 32, 99, 104, 97, 105, 110] : List Int)) 8 ([a0])) fun r1 =>
  Option.bind (p_umbraref09_Sum N r1.1) fun r2 =>
  some r2

theorem umbraref32_Start_ok {N : Nat} {a0 : Int} {r : (Vector Int 32)} (h : p_umbraref32_Start N a0 = some r) : FnM Try.prog 149 [] [(j64 a0)] (eA 32 1 k8 r) [] := by
  unfold p_umbraref32_Start at h
  refine fnM_of_aw (m := 15) (lo := 0) (rs := [.cell 2 53]) hT Try.func149 rfl (by kernel_rfl) rfl ?_
  refine aw_sregU hT m_no [] (by kernel_rfl) ?_
  refine aw_sreg ?_
  refine awl_lit2 hT k8 (k := 1) (t := 75) (e := 5) ([117, 109, 98, 114, 97, 32, 97, 117, 100, 105, 116, 32, 99, 104, 97, 105, 110] : List Int) rfl rfl rfl rfl rfl (by kernel_rfl) rfl rfl rfl (by kernel_rfl) (by kernel_rfl) ?_
  refine awl_u hT m_no [] 1 (by kernel_rfl) ?_
  refine awl_big (big_row hT (x := (.sl 1 1 [(j64 a0)])) (by kernel_rfl) (by kernel_rfl)) (by kernel_rfl) ?_
  obtain ⟨r1, hr1, h⟩ := obind h
  refine awl_big (big_call [] (umbraref11_Signed_ok hr1) umbraref11_Signed_ok_c (by kernel_rfl) (by kernel_rfl)) (by kernel_rfl) ?_
  refine awl_u hT m_no [] 5 (by kernel_rfl) ?_
  refine awl_nil ?_
  refine aw_sreg ?_
  refine awl_u hT m_no [] 1 (by kernel_rfl) ?_
  obtain ⟨r2, hr2, h⟩ := obind h
  refine awl_big (big_call [] (umbraref09_Sum_ok hr2) umbraref09_Sum_ok_c (by kernel_rfl) (by kernel_rfl)) (by kernel_rfl) ?_
  refine awl_u hT m_no [] 1 (by kernel_rfl) ?_
  refine awl_nil ?_
  refine aw_ret ?_
  cases h
  exact fin_r (by kernel_rfl)

theorem umbraref32_Start_ok_c : callable Try.prog 149 := ⟨_, Try.func149, by decide, rfl⟩

/-! umbra/umbraref32.Bytes -/
def m_umbraref32_Bytes : Nat → Bool := imL [1]

def p_umbraref32_Bytes_L1 (N : Nat) (a0 : S_api_Entry) : Nat → (List Int) → Int → Option ((List Int))
  | 0, _, _ => none
  | k + 1, s3, s4 =>
    cond (decide (s4 < 32)) (
      Option.bind (idx a0.gSum.toList s4) fun e5 =>
      Option.bind (appO 1 s3 (([e5] : List Int))) fun z6 =>
      p_umbraref32_Bytes_L1 N a0 k z6 (I64 (s4 + 1))) (
      some s3)

def p_umbraref32_Bytes (N : Nat) (a0 : S_api_Entry) : Option ((List Int)) :=
  Option.bind (p_umbraref11_Signed N [] 8 ([a0.gSeq, I64 a0.gClock, a0.gWho, a0.gErr])) fun r1 =>
  Option.bind (p_umbraref32_Bytes_L1 N a0 N r1.1 0) fun p2 =>
  some p2

theorem umbraref32_Bytes_ok {N : Nat} {a0 : S_api_Entry} {r : (List Int)} (h : p_umbraref32_Bytes N a0 = some r) : FnM Try.prog 181 [] [(S_api_Entry.enc a0)] (eL 1 k8 r) [] := by
  unfold p_umbraref32_Bytes at h
  refine fnM_of_aw (m := 32) (lo := 0) (rs := [.tmp 2]) hT Try.func181 rfl (by kernel_rfl) rfl ?_
  refine aw_sregU hT m_umbraref32_Bytes [] (by kernel_rfl) ?_
  refine aw_sreg ?_
  refine awl_u hT m_umbraref32_Bytes [] 9 (by kernel_rfl) ?_
  refine awl_big (big_row hT (x := (.sl 1 4 [(j64 a0.gSeq), (j64 (I64 a0.gClock)), (j64 a0.gWho), (j64 a0.gErr)])) (by kernel_rfl) (by kernel_rfl)) (by kernel_rfl) ?_
  obtain ⟨r1, hr1, h⟩ := obind h
  refine awl_big (big_call [] (umbraref11_Signed_ok hr1) umbraref11_Signed_ok_c (by kernel_rfl) (by kernel_rfl)) (by kernel_rfl) ?_
  refine awl_u hT m_umbraref32_Bytes [] 5 (by kernel_rfl) ?_
  refine awl_nil ?_
  refine aw_seq ?_
  refine aw_sregU hT m_umbraref32_Bytes [] (by kernel_rfl) ?_
  obtain ⟨p2, h, g2⟩ := obind h
  refine aw_joinTK ⟨[en 3 (eO 0 1 k8 p2)], [.tail (p2.length * 1)]⟩ ?_ ?_
  · refine aw_block (aw_loop (fun k s => ∃ s3 s4, p_umbraref32_Bytes_L1 N a0 k s3 s4 = some p2 ∧ JR (Fr.f 32 0) ⟨[en 1 (.im (S_api_Entry.enc a0)), en 3 (eO 0 1 k8 s3), en 5 (j64 s4)], [.tail (s3.length * 1)]⟩ s) (fun k s hI => ?_) N _ ⟨_, _, h, jr (by kernel_rfl)⟩)
    obtain ⟨s3, s4, h, hj⟩ := hI
    cases k with
    | zero => cases h
    | succ k =>
      refine aw_jr hj ?_
      refine aw_seq ?_
      refine aw_sregU hT m_umbraref32_Bytes [] (by kernel_rfl) ?_
      refine aw_condH h (by kernel_rfl) (fun _ h => ?_) (fun _ h => ?_)
      · refine aw_skip (tn_n ?_)
        refine aw_seq ?_
        refine aw_block ?_
        refine aw_region ?_
        refine awl_u hT m_umbraref32_Bytes [] 3 (by kernel_rfl) ?_
        obtain ⟨e5, he5, h⟩ := obind h
        refine awl_big (big_adI hT (N := 32) (k := 1) k8 a0.gSum he5 (by kernel_rfl) (by kernel_rfl)) (by kernel_rfl) ?_
        refine awl_u hT m_umbraref32_Bytes [] 1 (by kernel_rfl) ?_
        refine awl_big (big_row hT (x := (.sl 1 1 [(k8 e5)])) (by kernel_rfl) (by kernel_rfl)) (by kernel_rfl) ?_
        obtain ⟨z6, hz6, h⟩ := obind h
        refine awl_big (big_app hT k8 (id := 0) (k := 1) hz6 (by kernel_rfl) (by kernel_rfl)) (by kernel_rfl) ?_
        refine awl_u hT m_umbraref32_Bytes [] 1 (by kernel_rfl) ?_
        refine awl_nil (inB_n (tn_n ?_))
        refine aw_regU hT m_umbraref32_Bytes [] (by kernel_rfl) (tn_n ?_)
        exact ⟨k, Nat.lt_succ_self k, _, _, h, jr (by kernel_rfl)⟩
      · refine aw_exit (tn_x (tn_x (inB_e (tn_n ?_))))
        cases h
        exact jr (by kernel_rfl)
  · have h := g2
    refine (tn_n ?_)
    refine aw_sregU hT m_umbraref32_Bytes [] (by kernel_rfl) ?_
    refine aw_ret ?_
    cases h
    exact fin_r (by kernel_rfl)

theorem umbraref32_Bytes_ok_c : callable Try.prog 181 := ⟨_, Try.func181, by decide, rfl⟩

/-! umbra/umbraref32.Next -/
def m_umbraref32_Next : Nat → Bool := imL [2, 3]

def p_umbraref32_Next_L1 (N : Nat) (a0 : (Vector Int 32)) : Nat → (List Int) → Int → Option ((List Int))
  | 0, _, _ => none
  | k + 1, s2, s3 =>
    cond (decide (s3 < 32)) (
      Option.bind (idx a0.toList s3) fun e4 =>
      Option.bind (appO 1 s2 (([e4] : List Int))) fun z5 =>
      p_umbraref32_Next_L1 N a0 k z5 (I64 (s3 + 1))) (
      some s2)

def p_umbraref32_Next (N : Nat) (a0 : (Vector Int 32)) (a1 : S_api_Entry) : Option ((Vector Int 32)) :=
  Option.bind (p_umbraref32_Next_L1 N a0 N [] 0) fun p1 =>
  Option.bind (p_umbraref32_Bytes N a1) fun r6 =>
  Option.bind (appO 1 p1 r6) fun z7 =>
  Option.bind (p_umbraref09_Sum N z7) fun r8 =>
  some r8

theorem umbraref32_Next_ok {N : Nat} {a0 : (Vector Int 32)} {a1 : S_api_Entry} {r : (Vector Int 32)} (h : p_umbraref32_Next N a0 a1 = some r) : FnM Try.prog 150 [] [(eA 32 1 k8 a0), (S_api_Entry.enc a1)] (eA 32 1 k8 r) [] := by
  unfold p_umbraref32_Next at h
  refine fnM_of_aw (m := 22) (lo := 0) (rs := [.cell 4 53]) hT Try.func150 rfl (by kernel_rfl) rfl ?_
  refine aw_sregU hT m_umbraref32_Next [] (by kernel_rfl) ?_
  refine aw_sregU hT m_umbraref32_Next [] (by kernel_rfl) ?_
  refine aw_seq ?_
  refine aw_sregU hT m_umbraref32_Next [] (by kernel_rfl) ?_
  refine aw_own_nil 5 1 (by kernel_rfl) ?_
  obtain ⟨p1, h, g1⟩ := obind h
  refine aw_joinTK ⟨[en 3 (.im (S_api_Entry.enc a1)), en 4 (.ref 0 [] 0), en 5 (eO 1 1 k8 p1)], [.var (eA 32 1 k8 (Vector.replicate 32 0)), .tail (p1.length * 1)]⟩ ?_ ?_
  · refine aw_block (aw_loop (fun k s => ∃ s2 s3, p_umbraref32_Next_L1 N a0 k s2 s3 = some p1 ∧ JR (Fr.f 22 0) ⟨[en 2 (.im (eA 32 1 k8 a0)), en 3 (.im (S_api_Entry.enc a1)), en 4 (.ref 0 [] 0), en 5 (eO 1 1 k8 s2), en 6 (j64 s3)], [.var (eA 32 1 k8 (Vector.replicate 32 0)), .tail (s2.length * 1)]⟩ s) (fun k s hI => ?_) N _ ⟨_, _, h, jr (by kernel_rfl)⟩)
    obtain ⟨s2, s3, h, hj⟩ := hI
    cases k with
    | zero => cases h
    | succ k =>
      refine aw_jr hj ?_
      refine aw_seq ?_
      refine aw_sregU hT m_umbraref32_Next [] (by kernel_rfl) ?_
      refine aw_condH h (by kernel_rfl) (fun _ h => ?_) (fun _ h => ?_)
      · refine aw_skip (tn_n ?_)
        refine aw_seq ?_
        refine aw_block ?_
        refine aw_region ?_
        refine awl_u hT m_umbraref32_Next [] 2 (by kernel_rfl) ?_
        obtain ⟨e4, he4, h⟩ := obind h
        refine awl_big (big_adI hT (N := 32) (k := 1) k8 a0 he4 (by kernel_rfl) (by kernel_rfl)) (by kernel_rfl) ?_
        refine awl_u hT m_umbraref32_Next [] 1 (by kernel_rfl) ?_
        refine awl_big (big_row hT (x := (.sl 1 1 [(k8 e4)])) (by kernel_rfl) (by kernel_rfl)) (by kernel_rfl) ?_
        obtain ⟨z5, hz5, h⟩ := obind h
        refine awl_big (big_app hT k8 (id := 1) (k := 1) hz5 (by kernel_rfl) (by kernel_rfl)) (by kernel_rfl) ?_
        refine awl_u hT m_umbraref32_Next [] 1 (by kernel_rfl) ?_
        refine awl_nil (inB_n (tn_n ?_))
        refine aw_regU hT m_umbraref32_Next [] (by kernel_rfl) (tn_n ?_)
        exact ⟨k, Nat.lt_succ_self k, _, _, h, jr (by kernel_rfl)⟩
      · refine aw_exit (tn_x (tn_x (inB_e (tn_n ?_))))
        cases h
        exact jr (by kernel_rfl)
  · have h := g1
    refine (tn_n ?_)
    refine aw_sreg ?_
    refine awl_u hT m_umbraref32_Next [] 2 (by kernel_rfl) ?_
    obtain ⟨r6, hr6, h⟩ := obind h
    refine awl_big (big_call [] (umbraref32_Bytes_ok hr6) umbraref32_Bytes_ok_c (by kernel_rfl) (by kernel_rfl)) (by kernel_rfl) ?_
    obtain ⟨z7, hz7, h⟩ := obind h
    refine awl_big (big_app hT k8 (id := 1) (k := 1) hz7 (by kernel_rfl) (by kernel_rfl)) (by kernel_rfl) ?_
    obtain ⟨r8, hr8, h⟩ := obind h
    refine awl_big (big_call [] (umbraref09_Sum_ok hr8) umbraref09_Sum_ok_c (by kernel_rfl) (by kernel_rfl)) (by kernel_rfl) ?_
    refine awl_u hT m_umbraref32_Next [] 1 (by kernel_rfl) ?_
    refine awl_nil ?_
    refine aw_ret ?_
    cases h
    exact fin_r (by kernel_rfl)

theorem umbraref32_Next_ok_c : callable Try.prog 150 := ⟨_, Try.func150, by decide, rfl⟩

/-! umbra/umbraref32.Head -/
def p_umbraref32_Head_L1 (N : Nat) (a1 : (List S_api_Entry)) : Nat → (Vector Int 32) → Int → Option ((Vector Int 32))
  | 0, _, _ => none
  | k + 1, s3, s4 =>
    letO (decide (s4 < ((a1.length : Int)))) fun x5 =>
    cond x5 (
      Option.bind (idx a1 s4) fun e6 =>
      Option.bind (p_umbraref32_Next N s3 e6) fun r7 =>
      p_umbraref32_Head_L1 N a1 k r7 (I64 (s4 + 1))) (
      some s3)

def p_umbraref32_Head (N : Nat) (a0 : Int) (a1 : (List S_api_Entry)) : Option ((Vector Int 32)) :=
  Option.bind (p_umbraref32_Start N a0) fun r1 =>
  Option.bind (p_umbraref32_Head_L1 N a1 N r1 0) fun p2 =>
  some p2

theorem umbraref32_Head_ok {N : Nat} {a0 : Int} {a1 : (List S_api_Entry)} {r : (Vector Int 32)} (h : p_umbraref32_Head N a0 a1 = some r) : FnM Try.prog 97 [] [(j64 a0), (eL 36 S_api_Entry.enc a1)] (eA 32 1 k8 r) [] := by
  unfold p_umbraref32_Head at h
  refine fnM_of_aw (m := 22) (lo := 0) (rs := [.cell 4 53]) hT Try.func97 rfl (by kernel_rfl) rfl ?_
  refine aw_sregU hT m_no [] (by kernel_rfl) ?_
  refine aw_sreg ?_
  refine awl_u hT m_no [] 1 (by kernel_rfl) ?_
  obtain ⟨r1, hr1, h⟩ := obind h
  refine awl_big (big_call [] (umbraref32_Start_ok hr1) umbraref32_Start_ok_c (by kernel_rfl) (by kernel_rfl)) (by kernel_rfl) ?_
  refine awl_u hT m_no [] 2 (by kernel_rfl) ?_
  refine awl_nil ?_
  refine aw_seq ?_
  refine aw_sregU hT m_no [] (by kernel_rfl) ?_
  obtain ⟨p2, h, g2⟩ := obind h
  refine aw_joinTK ⟨[en 4 (.ref 0 [] 0), en 5 (.ref 1 [] 0)], [.var (eA 32 1 k8 (Vector.replicate 32 0)), .var (eA 32 1 k8 p2)]⟩ ?_ ?_
  · refine aw_block (aw_loop (fun k s => ∃ s3 s4, p_umbraref32_Head_L1 N a1 k s3 s4 = some p2 ∧ JR (Fr.f 22 0) ⟨[en 1 (eL 36 S_api_Entry.enc a1), en 4 (.ref 0 [] 0), en 5 (.ref 1 [] 0), en 6 (j64 s4)], [.var (eA 32 1 k8 (Vector.replicate 32 0)), .var (eA 32 1 k8 s3)]⟩ s) (fun k s hI => ?_) N _ ⟨_, _, h, jr (by kernel_rfl)⟩)
    obtain ⟨s3, s4, h, hj⟩ := hI
    cases k with
    | zero => cases h
    | succ k =>
      refine aw_jr hj ?_
      refine aw_seq ?_
      obtain ⟨x5, hx5, h⟩ := letE h
      refine aw_sregU hT m_no [] (by kernel_rfl) ?_
      refine aw_nms [(12, (eB x5))] (by subst hx5; kernel_rfl) ?_
      refine aw_condH h (by kernel_rfl) (fun _ h => ?_) (fun _ h => ?_)
      · refine aw_skip (tn_n ?_)
        refine aw_seq ?_
        refine aw_block ?_
        obtain ⟨e6, he6, h⟩ := obind h
        obtain ⟨r7, hr7, h⟩ := obind h
        refine aw_drawM hT hmo m_no [(3, (.im (S_api_Entry.enc e6))), (5, (eA 32 1 k8 r7))] [] (by kernel_rfl) (by kernel_rfl) (by kernel_rfl) ⟨fun _ => big_idx hT S_api_Entry.enc he6 (by kernel_rfl) (by kernel_rfl), fun _ => big_call0 (umbraref32_Next_ok hr7) umbraref32_Next_ok_c (by kernel_rfl) (by kernel_rfl) (by kernel_rfl), trivial⟩ trivial (inB_n (tn_n ?_))
        refine aw_regU hT m_no [] (by kernel_rfl) (tn_n ?_)
        exact ⟨k, Nat.lt_succ_self k, _, _, h, jr (by kernel_rfl)⟩
      · refine aw_exit (tn_x (tn_x (inB_e (tn_n ?_))))
        cases h
        exact jr (by kernel_rfl)
  · have h := g2
    refine (tn_n ?_)
    refine aw_sregU hT m_no [] (by kernel_rfl) ?_
    refine aw_ret ?_
    cases h
    exact fin_r (by kernel_rfl)

theorem umbraref32_Head_ok_c : callable Try.prog 97 := ⟨_, Try.func97, by decide, rfl⟩

/-! umbra/umbraref35.Bytes -/
def m_umbraref35_Bytes : Nat → Bool := imL [1]

def p_umbraref35_Bytes_L1 (N : Nat) (a0 : (Vector Int 32)) : Nat → (List Int) → Int → Option ((List Int))
  | 0, _, _ => none
  | k + 1, s2, s3 =>
    cond (decide (s3 < 32)) (
      Option.bind (idx a0.toList s3) fun e4 =>
      Option.bind (appO 1 s2 (([e4] : List Int))) fun z5 =>
      p_umbraref35_Bytes_L1 N a0 k z5 (I64 (s3 + 1))) (
      some s2)

def p_umbraref35_Bytes (N : Nat) (a0 : (Vector Int 32)) : Option ((List Int)) :=
  Option.bind (p_umbraref35_Bytes_L1 N a0 N [] 0) fun p1 =>
  some p1

theorem umbraref35_Bytes_ok {N : Nat} {a0 : (Vector Int 32)} {r : (List Int)} (h : p_umbraref35_Bytes N a0 = some r) : FnM Try.prog 117 [] [(eA 32 1 k8 a0)] (eL 1 k8 r) [] := by
  unfold p_umbraref35_Bytes at h
  refine fnM_of_aw (m := 16) (lo := 0) (rs := [.tmp 2]) hT Try.func117 rfl (by kernel_rfl) rfl ?_
  refine aw_sregU hT m_umbraref35_Bytes [] (by kernel_rfl) ?_
  refine aw_sregU hT m_umbraref35_Bytes [] (by kernel_rfl) ?_
  refine aw_seq ?_
  refine aw_sregU hT m_umbraref35_Bytes [] (by kernel_rfl) ?_
  refine aw_own_nil 3 1 (by kernel_rfl) ?_
  obtain ⟨p1, h, g1⟩ := obind h
  refine aw_joinTK ⟨[en 3 (eO 0 1 k8 p1)], [.tail (p1.length * 1)]⟩ ?_ ?_
  · refine aw_block (aw_loop (fun k s => ∃ s2 s3, p_umbraref35_Bytes_L1 N a0 k s2 s3 = some p1 ∧ JR (Fr.f 16 0) ⟨[en 1 (.im (eA 32 1 k8 a0)), en 3 (eO 0 1 k8 s2), en 4 (j64 s3)], [.tail (s2.length * 1)]⟩ s) (fun k s hI => ?_) N _ ⟨_, _, h, jr (by kernel_rfl)⟩)
    obtain ⟨s2, s3, h, hj⟩ := hI
    cases k with
    | zero => cases h
    | succ k =>
      refine aw_jr hj ?_
      refine aw_seq ?_
      refine aw_sregU hT m_umbraref35_Bytes [] (by kernel_rfl) ?_
      refine aw_condH h (by kernel_rfl) (fun _ h => ?_) (fun _ h => ?_)
      · refine aw_skip (tn_n ?_)
        refine aw_seq ?_
        refine aw_block ?_
        refine aw_region ?_
        refine awl_u hT m_umbraref35_Bytes [] 2 (by kernel_rfl) ?_
        obtain ⟨e4, he4, h⟩ := obind h
        refine awl_big (big_adI hT (N := 32) (k := 1) k8 a0 he4 (by kernel_rfl) (by kernel_rfl)) (by kernel_rfl) ?_
        refine awl_u hT m_umbraref35_Bytes [] 1 (by kernel_rfl) ?_
        refine awl_big (big_row hT (x := (.sl 1 1 [(k8 e4)])) (by kernel_rfl) (by kernel_rfl)) (by kernel_rfl) ?_
        obtain ⟨z5, hz5, h⟩ := obind h
        refine awl_big (big_app hT k8 (id := 0) (k := 1) hz5 (by kernel_rfl) (by kernel_rfl)) (by kernel_rfl) ?_
        refine awl_u hT m_umbraref35_Bytes [] 1 (by kernel_rfl) ?_
        refine awl_nil (inB_n (tn_n ?_))
        refine aw_regU hT m_umbraref35_Bytes [] (by kernel_rfl) (tn_n ?_)
        exact ⟨k, Nat.lt_succ_self k, _, _, h, jr (by kernel_rfl)⟩
      · refine aw_exit (tn_x (tn_x (inB_e (tn_n ?_))))
        cases h
        exact jr (by kernel_rfl)
  · have h := g1
    refine (tn_n ?_)
    refine aw_sregU hT m_umbraref35_Bytes [] (by kernel_rfl) ?_
    refine aw_ret ?_
    cases h
    exact fin_r (by kernel_rfl)

theorem umbraref35_Bytes_ok_c : callable Try.prog 117 := ⟨_, Try.func117, by decide, rfl⟩

/-! umbra/umbraref37.Encode -/
def m_umbraref37_Encode : Nat → Bool := imL [1]

def p_umbraref37_Encode (N : Nat) (a0 : S_api_Receipt) : Option ((List Int)) :=
  Option.bind (p_umbraref11_Signed N [] 8 ([a0.gLayer, a0.gSeq, a0.gWho])) fun r1 =>
  Option.bind (p_umbraref11_Put N r1.1 4 ([U64 a0.gClock])) fun r2 =>
  Option.bind (p_umbraref35_Bytes N a0.gSum) fun r3 =>
  Option.bind (appO 1 r2.1 r3) fun z4 =>
  Option.bind (p_umbraref35_Bytes N a0.gHead) fun r5 =>
  Option.bind (appO 1 z4 r5) fun z6 =>
  Option.bind (p_umbraref35_Bytes N a0.gTag) fun r7 =>
  Option.bind (appO 1 z6 r7) fun z8 =>
  some z8

theorem umbraref37_Encode_ok {N : Nat} {a0 : S_api_Receipt} {r : (List Int)} (h : p_umbraref37_Encode N a0 = some r) : FnM Try.prog 54 [] [(S_api_Receipt.enc a0)] (eL 1 k8 r) [] := by
  unfold p_umbraref37_Encode at h
  refine fnM_of_aw (m := 40) (lo := 0) (rs := [.tmp 2]) hT Try.func54 rfl (by kernel_rfl) rfl ?_
  refine aw_sregU hT m_umbraref37_Encode [] (by kernel_rfl) ?_
  refine aw_sreg ?_
  refine awl_u hT m_umbraref37_Encode [] 6 (by kernel_rfl) ?_
  refine awl_big (big_row hT (x := (.sl 1 3 [(j64 a0.gLayer), (j64 a0.gSeq), (j64 a0.gWho)])) (by kernel_rfl) (by kernel_rfl)) (by kernel_rfl) ?_
  obtain ⟨r1, hr1, h⟩ := obind h
  refine awl_big (big_call [] (umbraref11_Signed_ok hr1) umbraref11_Signed_ok_c (by kernel_rfl) (by kernel_rfl)) (by kernel_rfl) ?_
  refine awl_u hT m_umbraref37_Encode [] 5 (by kernel_rfl) ?_
  refine awl_nil ?_
  refine aw_sreg ?_
  refine awl_u hT m_umbraref37_Encode [] 4 (by kernel_rfl) ?_
  refine awl_big (big_row hT (x := (.sl 1 1 [(k64 (U64 a0.gClock))])) (by kernel_rfl) (by kernel_rfl)) (by kernel_rfl) ?_
  first | refine awl_to ⟨[en 1 (.im (S_api_Receipt.enc a0)), en 17 (eO 0 1 k8 r1.1), en 21 (.sl 1 1 [(k64 (U64 a0.gClock))])], [.tail (r1.1.length * 1)]⟩ (by kernel_rfl) ?_ | skip
  obtain ⟨r2, hr2, h⟩ := obind h
  refine awl_big (big_call [] (umbraref11_Put_ok hr2) umbraref11_Put_ok_c (by kernel_rfl) (by kernel_rfl)) (by kernel_rfl) ?_
  refine awl_u hT m_umbraref37_Encode [] 4 (by kernel_rfl) ?_
  refine awl_nil ?_
  refine aw_sreg ?_
  refine awl_u hT m_umbraref37_Encode [] 3 (by kernel_rfl) ?_
  obtain ⟨r3, hr3, h⟩ := obind h
  refine awl_big (big_call [] (umbraref35_Bytes_ok hr3) umbraref35_Bytes_ok_c (by kernel_rfl) (by kernel_rfl)) (by kernel_rfl) ?_
  obtain ⟨z4, hz4, h⟩ := obind h
  refine awl_big (big_app hT k8 (id := 1) (k := 1) hz4 (by kernel_rfl) (by kernel_rfl)) (by kernel_rfl) ?_
  refine awl_u hT m_umbraref37_Encode [] 1 (by kernel_rfl) ?_
  refine awl_nil ?_
  refine aw_sreg ?_
  refine awl_u hT m_umbraref37_Encode [] 3 (by kernel_rfl) ?_
  obtain ⟨r5, hr5, h⟩ := obind h
  refine awl_big (big_call [] (umbraref35_Bytes_ok hr5) umbraref35_Bytes_ok_c (by kernel_rfl) (by kernel_rfl)) (by kernel_rfl) ?_
  first | refine awl_to ⟨[en 1 (.im (S_api_Receipt.enc a0)), en 30 (eO 1 1 k8 z4), en 33 (eL 1 k8 r5)], [.tail (r1.1.length * 1), .tail (z4.length * 1)]⟩ (by kernel_rfl) ?_ | skip
  obtain ⟨z6, hz6, h⟩ := obind h
  refine awl_big (big_app hT k8 (id := 1) (k := 1) hz6 (by kernel_rfl) (by kernel_rfl)) (by kernel_rfl) ?_
  refine awl_u hT m_umbraref37_Encode [] 1 (by kernel_rfl) ?_
  refine awl_nil ?_
  refine aw_sreg ?_
  refine awl_u hT m_umbraref37_Encode [] 3 (by kernel_rfl) ?_
  obtain ⟨r7, hr7, h⟩ := obind h
  refine awl_big (big_call [] (umbraref35_Bytes_ok hr7) umbraref35_Bytes_ok_c (by kernel_rfl) (by kernel_rfl)) (by kernel_rfl) ?_
  obtain ⟨z8, hz8, h⟩ := obind h
  refine awl_big (big_app hT k8 (id := 1) (k := 1) hz8 (by kernel_rfl) (by kernel_rfl)) (by kernel_rfl) ?_
  refine awl_u hT m_umbraref37_Encode [] 1 (by kernel_rfl) ?_
  refine awl_nil ?_
  refine aw_ret ?_
  cases h
  exact fin_r (by kernel_rfl)

theorem umbraref37_Encode_ok_c : callable Try.prog 54 := ⟨_, Try.func54, by decide, rfl⟩

/-! umbra/umbraref35.Sum -/
def p_umbraref35_Sum_L1 (N : Nat) (r4 : (Vector Int 32)) : Nat → (List Int) → Int → Option ((List Int))
  | 0, _, _ => none
  | k + 1, s6, s7 =>
    cond (decide (s7 < 32)) (
      Option.bind (inRO s7 32) fun _ =>
      Option.bind (r4.toList[s7.toNat]?) fun e9 =>
      Option.bind (appO 1 s6 (([e9] : List Int))) fun z10 =>
      p_umbraref35_Sum_L1 N r4 k z10 (I64 (s7 + 1))) (
      some s6)

def p_umbraref35_Sum_L2 (N : Nat)  : Nat → (List Int) → Option ((List Int))
  | 0, _ => none
  | k + 1, s12 =>
    letO (decide (((s12.length : Int)) < 64)) fun x13 =>
    cond x13 (
      Option.bind (appO 1 s12 (([0] : List Int))) fun z14 =>
      p_umbraref35_Sum_L2 N k z14) (
      some s12)

def p_umbraref35_Sum_L3 (N : Nat) (p11 : (List Int)) : Nat → (List Int) → (List Int) → Int → Option ((List Int) × (List Int))
  | 0, _, _, _ => none
  | k + 1, s16, s17, s18 =>
    cond (decide (s18 < 64)) (
      Option.bind (idx p11 s18) fun e19 =>
      Option.bind (appO 1 s16 (([bxor .u8 e19 54] : List Int))) fun z20 =>
      Option.bind (idx p11 s18) fun e21 =>
      Option.bind (appO 1 s17 (([bxor .u8 e21 92] : List Int))) fun z22 =>
      p_umbraref35_Sum_L3 N p11 k z20 z22 (I64 (s18 + 1))) (
      some ((s16, s17)))

def p_umbraref35_Sum_L4 (N : Nat) (r24 : (Vector Int 32)) : Nat → (List Int) → Int → Option ((List Int))
  | 0, _, _ => none
  | k + 1, s26, s27 =>
    cond (decide (s27 < 32)) (
      Option.bind (inRO s27 32) fun _ =>
      Option.bind (r24.toList[s27.toNat]?) fun e29 =>
      Option.bind (appO 1 s26 (([e29] : List Int))) fun z30 =>
      p_umbraref35_Sum_L4 N r24 k z30 (I64 (s27 + 1))) (
      some s26)

def p_umbraref35_Sum (N : Nat) (a0 : (List Int)) (a1 : (List Int)) : Option ((Vector Int 32)) :=
  Option.bind (appO 1 (([] : List Int)) a0) fun z1 =>
  Option.bind (letO (decide (((z1.length : Int)) > 64)) fun x3 =>
  cond x3 (
    Option.bind (p_umbraref09_Sum N z1) fun r4 =>
    Option.bind (p_umbraref35_Sum_L1 N r4 N [] 0) fun p5 =>
    some p5) (
    some z1)) fun p2 =>
  Option.bind (p_umbraref35_Sum_L2 N N p2) fun p11 =>
  Option.bind (p_umbraref35_Sum_L3 N p11 N [] [] 0) fun p15 =>
  Option.bind (appO 1 p15.1 a1) fun z23 =>
  Option.bind (p_umbraref09_Sum N z23) fun r24 =>
  Option.bind (p_umbraref35_Sum_L4 N r24 N p15.2 0) fun p25 =>
  Option.bind (p_umbraref09_Sum N p25) fun r31 =>
  some r31

theorem umbraref35_Sum_ok {N : Nat} {a0 : (List Int)} {a1 : (List Int)} {r : (Vector Int 32)} (h : p_umbraref35_Sum N a0 a1 = some r) : FnM Try.prog 151 [] [(eL 1 k8 a0), (eL 1 k8 a1)] (eA 32 1 k8 r) [] := by
  unfold p_umbraref35_Sum at h
  refine fnM_of_aw (m := 73) (lo := 0) (rs := [.cell 4 53]) hT Try.func151 rfl (by kernel_rfl) rfl ?_
  refine aw_sregU hT m_no [] (by kernel_rfl) ?_
  refine aw_sreg ?_
  refine awl_big (big_rowO hT k8 (k := 1) ([] : List Int) (by kernel_rfl) (by kernel_rfl)) (by kernel_rfl) ?_
  refine awl_u hT m_no [] 1 (by kernel_rfl) ?_
  obtain ⟨z1, hz1, h⟩ := obind h
  refine awl_big (big_app hT k8 (id := 1) (k := 1) hz1 (by kernel_rfl) (by kernel_rfl)) (by kernel_rfl) ?_
  refine awl_u hT m_no [] 1 (by kernel_rfl) ?_
  refine awl_nil ?_
  obtain ⟨p2, h, g2⟩ := obind h
  refine aw_joinT ⟨[en 1 (eL 1 k8 a1), en 4 (.ref 0 [] 0), en 5 (eO 1 1 k8 p2)], [.var (eA 32 1 k8 (Vector.replicate 32 0)), .tail (p2.length * 1)]⟩ ?_ ?_
  · obtain ⟨x3, hx3, h⟩ := letE h
    refine aw_sregU hT m_no [] (by kernel_rfl) ?_
    refine aw_nms [(18, (eB x3))] (by subst hx3; kernel_rfl) ?_
    refine aw_condH h (by kernel_rfl) (fun _ h => ?_) (fun _ h => ?_)
    · refine aw_sreg ?_
      refine awl_u hT m_no [] 1 (by kernel_rfl) ?_
      obtain ⟨r4, hr4, h⟩ := obind h
      refine awl_big (big_call [] (umbraref09_Sum_ok hr4) umbraref09_Sum_ok_c (by kernel_rfl) (by kernel_rfl)) (by kernel_rfl) ?_
      refine awl_u hT m_no [] 2 (by kernel_rfl) ?_
      refine awl_nil ?_
      refine aw_sregU hT m_no [] (by kernel_rfl) ?_
      refine aw_sregU hT m_no [] (by kernel_rfl) ?_
      refine aw_own_nil 5 1 (by kernel_rfl) ?_
      obtain ⟨p5, h, g5⟩ := obind h
      refine aw_joinTK ⟨[en 1 (eL 1 k8 a1), en 4 (.ref 0 [] 0), en 5 (eO 3 1 k8 p5)], [.var (eA 32 1 k8 (Vector.replicate 32 0)), .tail (z1.length * 1), .var (eA 32 1 k8 r4), .tail (p5.length * 1)]⟩ ?_ ?_
      · refine aw_block (aw_loop (fun k s => ∃ s6 s7, p_umbraref35_Sum_L1 N r4 k s6 s7 = some p5 ∧ JR (Fr.f 73 0) ⟨[en 1 (eL 1 k8 a1), en 4 (.ref 0 [] 0), en 5 (eO 3 1 k8 s6), en 6 (.ref 2 [] 0), en 7 (j64 s7)], [.var (eA 32 1 k8 (Vector.replicate 32 0)), .tail (z1.length * 1), .var (eA 32 1 k8 r4), .tail (s6.length * 1)]⟩ s) (fun k s hI => ?_) N _ ⟨_, _, h, jr (by kernel_rfl)⟩)
        obtain ⟨s6, s7, h, hj⟩ := hI
        cases k with
        | zero => cases h
        | succ k =>
          refine aw_jr hj ?_
          refine aw_seq ?_
          refine aw_sregU hT m_no [] (by kernel_rfl) ?_
          refine aw_condH h (by kernel_rfl) (fun _ h => ?_) (fun _ h => ?_)
          · refine aw_skip (tn_n ?_)
            refine aw_seq ?_
            refine aw_block ?_
            refine aw_region ?_
            refine awl_u hT m_no [] 2 (by kernel_rfl) ?_
            obtain ⟨u8, hu8, h⟩ := obind h
            refine awl_big (big_adR hT (k := 1) 2 [] 0 hu8 (by kernel_rfl) (by kernel_rfl)) (by kernel_rfl) ?_
            first | refine awl_to ⟨[en 1 (eL 1 k8 a1), en 4 (.ref 0 [] 0), en 6 (.ref 2 [] 0), en 7 (j64 s7), en 25 (eO 3 1 k8 s6), en 27 (.ref 2 [s7.toNat] (0 + s7.toNat * 1))], [.var (eA 32 1 k8 (Vector.replicate 32 0)), .tail (z1.length * 1), .var (eA 32 1 k8 r4), .tail (s6.length * 1)]⟩ (by kernel_rfl) ?_ | skip
            obtain ⟨e9, he9, h⟩ := obind h
            refine awl_big (big_ldE hT k8 0 he9 (by kernel_rfl) (by kernel_rfl)) (by kernel_rfl) ?_
            refine awl_big (big_row hT (x := (.sl 1 1 [(k8 e9)])) (by kernel_rfl) (by kernel_rfl)) (by kernel_rfl) ?_
            obtain ⟨z10, hz10, h⟩ := obind h
            refine awl_big (big_app hT k8 (id := 3) (k := 1) hz10 (by kernel_rfl) (by kernel_rfl)) (by kernel_rfl) ?_
            refine awl_u hT m_no [] 1 (by kernel_rfl) ?_
            refine awl_nil (inB_n (tn_n ?_))
            refine aw_regU hT m_no [] (by kernel_rfl) (tn_n ?_)
            exact ⟨k, Nat.lt_succ_self k, _, _, h, jr (by kernel_rfl)⟩
          · refine aw_exit (tn_x (tn_x (inB_e (tn_n ?_))))
            cases h
            exact jr (by kernel_rfl)
      · have h := g5
        refine (tn_n ?_)
        cases h
        exact jr_sw 3 1 (by kernel_rfl) (jr (by kernel_rfl))
    · refine aw_skip (tn_n ?_)
      cases h
      exact jr (by kernel_rfl)
  · have h := g2
    obtain ⟨p11, h, g11⟩ := obind h
    refine aw_joinT ⟨[en 1 (eL 1 k8 a1), en 4 (.ref 0 [] 0), en 5 (eO 1 1 k8 p11)], [.var (eA 32 1 k8 (Vector.replicate 32 0)), .tail (p11.length * 1)]⟩ ?_ ?_
    · refine aw_block (aw_loop (fun k s => ∃ s12, p_umbraref35_Sum_L2 N k s12 = some p11 ∧ JR (Fr.f 73 0) ⟨[en 1 (eL 1 k8 a1), en 4 (.ref 0 [] 0), en 5 (eO 1 1 k8 s12)], [.var (eA 32 1 k8 (Vector.replicate 32 0)), .tail (s12.length * 1)]⟩ s) (fun k s hI => ?_) N _ ⟨_, h, jr (by kernel_rfl)⟩)
      obtain ⟨s12, h, hj⟩ := hI
      cases k with
      | zero => cases h
      | succ k =>
        refine aw_jr hj ?_
        refine aw_seq ?_
        obtain ⟨x13, hx13, h⟩ := letE h
        refine aw_sregU hT m_no [] (by kernel_rfl) ?_
        refine aw_nms [(33, (eB x13))] (by subst hx13; kernel_rfl) ?_
        refine aw_condH h (by kernel_rfl) (fun _ h => ?_) (fun _ h => ?_)
        · refine aw_skip (tn_n ?_)
          refine aw_block ?_
          refine aw_region ?_
          refine awl_u hT m_no [] 1 (by kernel_rfl) ?_
          refine awl_big (big_row hT (x := (.sl 1 1 [(k8 0)])) (by kernel_rfl) (by kernel_rfl)) (by kernel_rfl) ?_
          obtain ⟨z14, hz14, h⟩ := obind h
          refine awl_big (big_app hT k8 (id := 1) (k := 1) hz14 (by kernel_rfl) (by kernel_rfl)) (by kernel_rfl) ?_
          refine awl_u hT m_no [] 1 (by kernel_rfl) ?_
          refine awl_nil (inB_n (tn_n ?_))
          exact ⟨k, Nat.lt_succ_self k, _, h, jr (by kernel_rfl)⟩
        · refine aw_exit (tn_x (tn_x (inB_e (tn_n ?_))))
          cases h
          exact jr (by kernel_rfl)
    · have h := g11
      refine aw_sregU hT m_no [] (by kernel_rfl) ?_
      refine aw_seq ?_
      refine aw_sregU hT m_no [] (by kernel_rfl) ?_
      refine aw_own_nil 8 1 (by kernel_rfl) ?_
      refine aw_own_nil 9 1 (by kernel_rfl) ?_
      obtain ⟨p15, h, g15⟩ := obind h
      refine aw_joinTK ⟨[en 1 (eL 1 k8 a1), en 4 (.ref 0 [] 0), en 8 (eO 2 1 k8 p15.1), en 9 (eO 3 1 k8 p15.2)], [.var (eA 32 1 k8 (Vector.replicate 32 0)), .tail (p11.length * 1), .tail (p15.1.length * 1), .tail (p15.2.length * 1)]⟩ ?_ ?_
      · refine aw_block (aw_loop (fun k s => ∃ s16 s17 s18, p_umbraref35_Sum_L3 N p11 k s16 s17 s18 = some p15 ∧ JR (Fr.f 73 0) ⟨[en 1 (eL 1 k8 a1), en 4 (.ref 0 [] 0), en 5 (eO 1 1 k8 p11), en 8 (eO 2 1 k8 s16), en 9 (eO 3 1 k8 s17), en 10 (j64 s18)], [.var (eA 32 1 k8 (Vector.replicate 32 0)), .tail (p11.length * 1), .tail (s16.length * 1), .tail (s17.length * 1)]⟩ s) (fun k s hI => ?_) N _ ⟨_, _, _, h, jr (by kernel_rfl)⟩)
        obtain ⟨s16, s17, s18, h, hj⟩ := hI
        cases k with
        | zero => cases h
        | succ k =>
          refine aw_jr hj ?_
          refine aw_seq ?_
          refine aw_sregU hT m_no [] (by kernel_rfl) ?_
          refine aw_condH h (by kernel_rfl) (fun _ h => ?_) (fun _ h => ?_)
          · refine aw_skip (tn_n ?_)
            refine aw_seq ?_
            refine aw_block ?_
            refine aw_sreg ?_
            refine awl_u hT m_no [] 3 (by kernel_rfl) ?_
            obtain ⟨e19, he19, h⟩ := obind h
            refine awl_big (big_idx hT k8 he19 (by kernel_rfl) (by kernel_rfl)) (by kernel_rfl) ?_
            refine awl_u hT m_no [] 2 (by kernel_rfl) ?_
            refine awl_big (big_row hT (x := (.sl 1 1 [(k8 (bxor .u8 e19 54))])) (by kernel_rfl) (by kernel_rfl)) (by kernel_rfl) ?_
            obtain ⟨z20, hz20, h⟩ := obind h
            refine awl_big (big_app hT k8 (id := 2) (k := 1) hz20 (by kernel_rfl) (by kernel_rfl)) (by kernel_rfl) ?_
            first | refine awl_to ⟨[en 1 (eL 1 k8 a1), en 4 (.ref 0 [] 0), en 5 (eO 1 1 k8 p11), en 9 (eO 3 1 k8 s17), en 10 (j64 s18), en 48 (eO 2 1 k8 z20)], [.var (eA 32 1 k8 (Vector.replicate 32 0)), .tail (p11.length * 1), .tail (z20.length * 1), .tail (s17.length * 1)]⟩ (by kernel_rfl) ?_ | skip
            refine awl_u hT m_no [] 1 (by kernel_rfl) ?_
            refine awl_nil ?_
            refine aw_region ?_
            refine awl_u hT m_no [] 3 (by kernel_rfl) ?_
            obtain ⟨e21, he21, h⟩ := obind h
            refine awl_big (big_idx hT k8 he21 (by kernel_rfl) (by kernel_rfl)) (by kernel_rfl) ?_
            refine awl_u hT m_no [] 2 (by kernel_rfl) ?_
            refine awl_big (big_row hT (x := (.sl 1 1 [(k8 (bxor .u8 e21 92))])) (by kernel_rfl) (by kernel_rfl)) (by kernel_rfl) ?_
            obtain ⟨z22, hz22, h⟩ := obind h
            refine awl_big (big_app hT k8 (id := 3) (k := 1) hz22 (by kernel_rfl) (by kernel_rfl)) (by kernel_rfl) ?_
            refine awl_u hT m_no [] 1 (by kernel_rfl) ?_
            refine awl_nil (inB_n (tn_n ?_))
            refine aw_regU hT m_no [] (by kernel_rfl) (tn_n ?_)
            exact ⟨k, Nat.lt_succ_self k, _, _, _, h, jr (by kernel_rfl)⟩
          · refine aw_exit (tn_x (tn_x (inB_e (tn_n ?_))))
            cases h
            exact jr (by kernel_rfl)
      · have h := g15
        refine (tn_n ?_)
        refine aw_sreg ?_
        refine awl_u hT m_no [] 2 (by kernel_rfl) ?_
        obtain ⟨z23, hz23, h⟩ := obind h
        refine awl_big (big_app hT k8 (id := 2) (k := 1) hz23 (by kernel_rfl) (by kernel_rfl)) (by kernel_rfl) ?_
        obtain ⟨r24, hr24, h⟩ := obind h
        refine awl_big (big_call [] (umbraref09_Sum_ok hr24) umbraref09_Sum_ok_c (by kernel_rfl) (by kernel_rfl)) (by kernel_rfl) ?_
        refine awl_u hT m_no [] 2 (by kernel_rfl) ?_
        refine awl_nil ?_
        refine aw_seq ?_
        refine aw_sregU hT m_no [] (by kernel_rfl) ?_
        obtain ⟨p25, h, g25⟩ := obind h
        refine aw_joinTK ⟨[en 4 (.ref 0 [] 0), en 9 (eO 3 1 k8 p25)], [.var (eA 32 1 k8 (Vector.replicate 32 0)), .tail (p11.length * 1), .tail (z23.length * 1), .tail (p25.length * 1), .var (eA 32 1 k8 r24)]⟩ ?_ ?_
        · refine aw_block (aw_loop (fun k s => ∃ s26 s27, p_umbraref35_Sum_L4 N r24 k s26 s27 = some p25 ∧ JR (Fr.f 73 0) ⟨[en 4 (.ref 0 [] 0), en 9 (eO 3 1 k8 s26), en 11 (.ref 4 [] 0), en 12 (j64 s27)], [.var (eA 32 1 k8 (Vector.replicate 32 0)), .tail (p11.length * 1), .tail (z23.length * 1), .tail (s26.length * 1), .var (eA 32 1 k8 r24)]⟩ s) (fun k s hI => ?_) N _ ⟨_, _, h, jr (by kernel_rfl)⟩)
          obtain ⟨s26, s27, h, hj⟩ := hI
          cases k with
          | zero => cases h
          | succ k =>
            refine aw_jr hj ?_
            refine aw_seq ?_
            refine aw_sregU hT m_no [] (by kernel_rfl) ?_
            refine aw_condH h (by kernel_rfl) (fun _ h => ?_) (fun _ h => ?_)
            · refine aw_skip (tn_n ?_)
              refine aw_seq ?_
              refine aw_block ?_
              refine aw_region ?_
              refine awl_u hT m_no [] 2 (by kernel_rfl) ?_
              obtain ⟨u28, hu28, h⟩ := obind h
              refine awl_big (big_adR hT (k := 1) 4 [] 0 hu28 (by kernel_rfl) (by kernel_rfl)) (by kernel_rfl) ?_
              first | refine awl_to ⟨[en 4 (.ref 0 [] 0), en 11 (.ref 4 [] 0), en 12 (j64 s27), en 65 (eO 3 1 k8 s26), en 67 (.ref 4 [s27.toNat] (0 + s27.toNat * 1))], [.var (eA 32 1 k8 (Vector.replicate 32 0)), .tail (p11.length * 1), .tail (z23.length * 1), .tail (s26.length * 1), .var (eA 32 1 k8 r24)]⟩ (by kernel_rfl) ?_ | skip
              obtain ⟨e29, he29, h⟩ := obind h
              refine awl_big (big_ldE hT k8 0 he29 (by kernel_rfl) (by kernel_rfl)) (by kernel_rfl) ?_
              refine awl_big (big_row hT (x := (.sl 1 1 [(k8 e29)])) (by kernel_rfl) (by kernel_rfl)) (by kernel_rfl) ?_
              obtain ⟨z30, hz30, h⟩ := obind h
              refine awl_big (big_app hT k8 (id := 3) (k := 1) hz30 (by kernel_rfl) (by kernel_rfl)) (by kernel_rfl) ?_
              refine awl_u hT m_no [] 1 (by kernel_rfl) ?_
              refine awl_nil (inB_n (tn_n ?_))
              refine aw_regU hT m_no [] (by kernel_rfl) (tn_n ?_)
              exact ⟨k, Nat.lt_succ_self k, _, _, h, jr (by kernel_rfl)⟩
            · refine aw_exit (tn_x (tn_x (inB_e (tn_n ?_))))
              cases h
              exact jr (by kernel_rfl)
        · have h := g25
          refine (tn_n ?_)
          refine aw_sreg ?_
          refine awl_u hT m_no [] 1 (by kernel_rfl) ?_
          obtain ⟨r31, hr31, h⟩ := obind h
          refine awl_big (big_call [] (umbraref09_Sum_ok hr31) umbraref09_Sum_ok_c (by kernel_rfl) (by kernel_rfl)) (by kernel_rfl) ?_
          refine awl_u hT m_no [] 1 (by kernel_rfl) ?_
          refine awl_nil ?_
          refine aw_ret ?_
          cases h
          exact fin_r (by kernel_rfl)

theorem umbraref35_Sum_ok_c : callable Try.prog 151 := ⟨_, Try.func151, by decide, rfl⟩

end Go.UK
