/- A part of the proof: what the functions of the program compute. -/
import Derived.Test.YtcaadpceoajapaaC1
namespace Go.UK
open Go Go.Proofs
set_option maxRecDepth 20000
set_option maxHeartbeats 4000000
set_option linter.all false

attribute [local irreducible] owp awl aw FnM NatFn opS Stab TOK Big

/-! (*umbra/sha.Hash).Write -/
def p_sha_Hash_Write_rd_L2 (N : Nat)  : Nat → (Vector Int 8) → (Vector Int 64) → Int → (List Int) → Option ((Vector Int 8) × (Vector Int 64) × Int)
  | 0, _, _, _, _ => none
  | k + 1, s10, s11, s12, s13 =>
    letO (decide (((s13.length : Int)) > 0)) fun x14 =>
    cond x14 (
      Option.bind (slcL 64 (Int.tmod s12 64) 64) fun _ =>
      Option.bind (cpV s11 s13 ((Int.tmod s12 64).toNat) ((64 : Int).toNat - (Int.tmod s12 64).toNat)) fun v16 =>
      letO (((min s13.length ((64 : Int).toNat - (Int.tmod s12 64).toNat) : Nat) : Int)) fun x17 =>
      Option.bind (slcO s13 x17 ((s13.length : Int))) fun s18 =>
      letO (Int.tmod (I64 (s12 + x17)) 64) fun x19 =>
      cond (x19 == 0) (
        Option.bind (p_sha_Compress N s10 v16) fun r20 =>
        p_sha_Hash_Write_rd_L2 N k r20 v16 (I64 (s12 + x17)) s18) (
        p_sha_Hash_Write_rd_L2 N k s10 v16 (I64 (s12 + x17)) s18)) (
      some ((s10, s11, s12)))

def p_sha_Hash_Write_rd_L1 (N : Nat) (a0 : (List (List Int))) : Nat → (Vector Int 8) → (Vector Int 64) → Int → Int → Option ((Vector Int 8) × (Vector Int 64) × Int)
  | 0, _, _, _, _ => none
  | k + 1, s3, s4, s5, s6 =>
    letO (decide (s6 < ((a0.length : Int)))) fun x7 =>
    cond x7 (
      Option.bind (idx a0 s6) fun e8 =>
      Option.bind (p_sha_Hash_Write_rd_L2 N N s3 s4 s5 e8) fun p9 =>
      p_sha_Hash_Write_rd_L1 N a0 k p9.1 p9.2.1 p9.2.2 (I64 (s6 + 1))) (
      some ((s3, s4, s5)))

def p_sha_Hash_Write_rd (N : Nat) (a0 : (List (List Int))) (a1 : S_sha_Hash) : Option ((Vector Int 8) × (Vector Int 64) × Int) :=
  Option.bind (p_sha_Hash_none_r N a1) fun r1 =>
  cond r1 (
    some ((a1.gh, a1.gblock, a1.gn))) (
    Option.bind (p_sha_Hash_Write_rd_L1 N a0 N a1.gh a1.gblock a1.gn 0) fun p2 =>
    some ((p2.1, p2.2.1, p2.2.2)))

theorem sha_Hash_Write_rd_ok {N : Nat} {a0 : (List (List Int))} {a1 : S_sha_Hash} {r : (Vector Int 8) × (Vector Int 64) × Int} (h : p_sha_Hash_Write_rd N a0 a1 = some r) : FnM Try.prog 178 [.var (S_sha_Hash.enc a1)] [(.ref 0 [] 0), (eL 1 (eL 1 k8) a0)] (.tup []) [.var (.st 73 [(eA 8 1 k32 r.1), (eA 64 1 k8 r.2.1), (j64 r.2.2)])] := by
  unfold p_sha_Hash_Write_rd at h
  refine fnM_of_aw (m := 59) (lo := 1) (rs := []) hT Try.func178 rfl (by kernel_rfl) rfl ?_
  refine aw_seq ?_
  refine aw_sreg ?_
  refine awl_u hT m_no [] 1 (by kernel_rfl) ?_
  obtain ⟨r1, hr1, h⟩ := obind h
  refine awl_big (big_call [0] (sha_Hash_none_r_ok hr1) sha_Hash_none_r_ok_c (by kernel_rfl) (by kernel_rfl)) (by kernel_rfl) ?_
  refine awl_nil ?_
  refine aw_condH h (by kernel_rfl) (fun _ h => ?_) (fun _ h => ?_)
  · refine aw_ret (tn_r ?_)
    cases h
    exact fin_r (by kernel_rfl)
  · refine aw_skip (tn_n ?_)
    refine aw_sregU hT m_no [] (by kernel_rfl) ?_
    obtain ⟨p2, h, g2⟩ := obind h
    refine aw_joinTK ⟨[], [.var (.st 73 [(eA 8 1 k32 p2.1), (eA 64 1 k8 p2.2.1), (j64 p2.2.2)])]⟩ ?_ ?_
    · refine aw_block (aw_loop (fun k s => ∃ s3 s4 s5 s6, p_sha_Hash_Write_rd_L1 N a0 k s3 s4 s5 s6 = some p2 ∧ JR (Fr.f 59 1) ⟨[en 0 (.ref 0 [] 0), en 9 (eL 1 (eL 1 k8) a0), en 10 (j64 ((a0.length : Int))), en 11 (j64 s6)], [.var (.st 73 [(eA 8 1 k32 s3), (eA 64 1 k8 s4), (j64 s5)])]⟩ s) (fun k s hI => ?_) N _ ⟨_, _, _, _, h, jr (by kernel_rfl)⟩)
      obtain ⟨s3, s4, s5, s6, h, hj⟩ := hI
      cases k with
      | zero => cases h
      | succ k =>
        refine aw_jr hj ?_
        obtain ⟨x7, hx7, h⟩ := letE h
        refine aw_sregU hT m_no [] (by kernel_rfl) ?_
        refine aw_nms [(12, (eB x7))] (by subst hx7; kernel_rfl) ?_
        refine aw_seq ?_
        refine aw_condH h (by kernel_rfl) (fun _ h => ?_) (fun _ h => ?_)
        · refine aw_skip (tn_n ?_)
          refine aw_seq ?_
          refine aw_block ?_
          refine aw_sreg ?_
          obtain ⟨e8, he8, h⟩ := obind h
          refine awl_big (big_idx hT (eL 1 k8) he8 (by kernel_rfl) (by kernel_rfl)) (by kernel_rfl) ?_
          refine awl_u hT m_no [] 2 (by kernel_rfl) ?_
          refine awl_nil ?_
          obtain ⟨p9, h, g9⟩ := obind h
          refine aw_joinTK ⟨[en 0 (.ref 0 [] 0), en 9 (eL 1 (eL 1 k8) a0), en 10 (j64 ((a0.length : Int))), en 11 (j64 s6)], [.var (.st 73 [(eA 8 1 k32 p9.1), (eA 64 1 k8 p9.2.1), (j64 p9.2.2)])]⟩ ?_ ?_
          · refine aw_block (aw_loop (fun k s => ∃ s10 s11 s12 s13, p_sha_Hash_Write_rd_L2 N k s10 s11 s12 s13 = some p9 ∧ JR (Fr.f 59 1) ⟨[en 0 (.ref 0 [] 0), en 5 (eL 1 k8 s13), en 9 (eL 1 (eL 1 k8) a0), en 10 (j64 ((a0.length : Int))), en 11 (j64 s6)], [.var (.st 73 [(eA 8 1 k32 s10), (eA 64 1 k8 s11), (j64 s12)])]⟩ s) (fun k s hI => ?_) N _ ⟨_, _, _, _, h, jr (by kernel_rfl)⟩)
            obtain ⟨s10, s11, s12, s13, h, hj⟩ := hI
            cases k with
            | zero => cases h
            | succ k =>
              refine aw_jr hj ?_
              refine aw_seq ?_
              obtain ⟨x14, hx14, h⟩ := letE h
              refine aw_sregU hT m_no [] (by kernel_rfl) ?_
              refine aw_nms [(17, (eB x14))] (by subst hx14; kernel_rfl) ?_
              refine aw_condH h (by kernel_rfl) (fun _ h => ?_) (fun _ h => ?_)
              · refine aw_skip (tn_n ?_)
                refine aw_block ?_
                obtain ⟨s15, hs15, h⟩ := obind h
                obtain ⟨v16, hv16, h⟩ := obind h
                obtain ⟨x17, hx17, h⟩ := letE h
                refine aw_sdrawV hT hmo m_no [(8, (.bsl 0 [1] 8 1 ((Int.tmod s12 64).toNat) ((64 : Int).toNat - (Int.tmod s12 64).toNat)))] [(10, fun _ => ((j64 (((min s13.length ((64 : Int).toNat - (Int.tmod s12 64).toNat) : Nat) : Int))), [.var (.st 73 [(eA 8 1 k32 s10), (eA 64 1 k8 v16), (j64 s12)])]))] (by subst hx17; kernel_rfl) (by subst hx17; kernel_rfl) (by kernel_rfl) ⟨fun _ => big_slR2 hT (k := 1) 0 [1] 8 hs15 (by kernel_rfl) (by kernel_rfl), trivial⟩ ⟨big_at (big_cpyV hT k8 (id := 0) (path := [1]) (off := 8) (H' := [.var (.st 73 [(eA 8 1 k32 s10), (eA 64 1 k8 v16), (j64 s12)])]) hv16 (by kernel_rfl) (by kernel_rfl) (by kernel_rfl)) (by subst hx17; kernel_rfl), trivial⟩ ?_
                refine aw_nms [(6, (j64 x17))] (by subst hx17; kernel_rfl) ?_
                refine aw_sregU hT m_no [] (by kernel_rfl) ?_
                refine aw_sreg ?_
                refine awl_u hT m_no [] 2 (by kernel_rfl) ?_
                obtain ⟨s18, hs18, h⟩ := obind h
                refine awl_big (big_slc hT (k := 1) k8 hs18 (by kernel_rfl) (by kernel_rfl)) (by kernel_rfl) ?_
                refine awl_u hT m_no [] 1 (by kernel_rfl) ?_
                refine awl_nil ?_
                obtain ⟨x19, hx19, h⟩ := letE h
                refine aw_sregU hT m_no [] (by kernel_rfl) ?_
                refine aw_nms [(45, (eB (x19 == 0)))] (by subst hx19; kernel_rfl) ?_
                refine aw_condH h (by kernel_rfl) (fun _ h => ?_) (fun _ h => ?_)
                · obtain ⟨r20, hr20, h⟩ := obind h
                  refine aw_drawM hT hmo m_no [(9, (eA 8 1 k32 r20))] [] (by kernel_rfl) (by kernel_rfl) (by kernel_rfl) ⟨fun _ => big_call0 (sha_Compress_ok hr20) sha_Compress_ok_c (by kernel_rfl) (by kernel_rfl) (by kernel_rfl), trivial⟩ trivial (inB_n (tn_n ?_))
                  exact ⟨k, Nat.lt_succ_self k, _, _, _, _, h, jr (by kernel_rfl)⟩
                · refine aw_skip (inB_n (tn_n ?_))
                  exact ⟨k, Nat.lt_succ_self k, _, _, _, _, h, jr (by kernel_rfl)⟩
              · refine aw_exit (tn_x (tn_x (inB_e (tn_n ?_))))
                cases h
                exact jr (by kernel_rfl)
          · have h := g9
            refine (inB_n (tn_n ?_))
            refine aw_regU hT m_no [] (by kernel_rfl) (tn_n ?_)
            exact ⟨k, Nat.lt_succ_self k, _, _, _, _, h, jr (by kernel_rfl)⟩
        · refine aw_exit (tn_x (tn_x (inB_e (tn_n ?_))))
          cases h
          exact jr (by kernel_rfl)
    · have h := g2
      refine ?_
      cases h
      exact fin_n (by kernel_rfl)

theorem sha_Hash_Write_rd_ok_c : callable Try.prog 178 := ⟨_, Try.func178, by decide, rfl⟩

/-! umbra/sha.Pad -/
def p_sha_Pad_L1 (N : Nat) (x6 : Int) (a0 : Int) : Nat → (List Int) → Int → Option ((List Int))
  | 0, _, _ => none
  | k + 1, s11, s12 =>
    cond (decide (s12 < 8)) (
      letO (I64 (((x6.toNat : Int)) - 1)) fun x15 =>
      letO (shl .u64 (U64 (imax a0 0)) 3) fun x16 =>
      Option.bind (shrO .u64 x16 (I64 (8 * s12))) fun x17 =>
      Option.bind (inRO (I64 (x15 - s12)) x6.toNat) fun _ =>
      Option.bind (s11[(I64 (x15 - s12)).toNat]?) fun e19 =>
      p_sha_Pad_L1 N x6 a0 k (s11.set ((I64 (x15 - s12)).toNat) (U8 x17)) (I64 (s12 + 1))) (
      some s11)

def p_sha_Pad (N : Nat) (a0 : Int) : Option ((List Int)) :=
  letO (Int.tmod (imax a0 0) 64) fun x4 =>
  letO (Int.tmod (I64 (119 - x4)) 64) fun x5 =>
  letO (I64 ((I64 (1 + x5)) + 8)) fun x6 =>
  Option.bind (mkO 1 x6) fun _ =>
  Option.bind (inRO 0 x6.toNat) fun _ =>
  Option.bind ((List.replicate x6.toNat (0 : Int))[((0 : Int).toNat)]?) fun e9 =>
  Option.bind (p_sha_Pad_L1 N x6 a0 N ((List.replicate x6.toNat (0 : Int)).set (((0 : Int).toNat)) 128) 0) fun p10 =>
  Option.bind (lenO p10 x6.toNat) fun _ =>
  some p10

theorem sha_Pad_ok {N : Nat} {a0 : Int} {r : (List Int)} (h : p_sha_Pad N a0 = some r) : FnM Try.prog 204 [] [(j64 a0)] (eL 1 k8 r) [] := by
  unfold p_sha_Pad at h
  refine fnM_of_aw (m := 35) (lo := 0) (rs := [.tmp 2]) hT Try.func204 rfl (by kernel_rfl) rfl ?_
  refine aw_sregU hT m_no [] (by kernel_rfl) ?_
  refine aw_sregU hT m_no [] (by kernel_rfl) ?_
  refine aw_sreg ?_
  obtain ⟨x4, hx4, h⟩ := letE h
  obtain ⟨x5, hx5, h⟩ := letE h
  obtain ⟨x6, hx6, h⟩ := letE h
  refine awl_u hT m_no [] 6 (by kernel_rfl) ?_
  refine awl_nms [(12, (j64 x6))] (by subst hx6 hx5 hx4; kernel_rfl) ?_
  obtain ⟨u7, hu7, h⟩ := obind h
  refine awl_big (big_mk hT k8 ((0 : Int)) (k := 1) (kd := .int .u8) hu7 (by kernel_rfl) (by kernel_rfl) rfl) (by kernel_rfl) ?_
  refine awl_u hT m_no [] 1 (by kernel_rfl) ?_
  refine awl_nil ?_
  refine aw_sreg ?_
  refine awl_u hT m_no [] 1 (by kernel_rfl) ?_
  obtain ⟨u8, hu8, h⟩ := obind h
  refine awl_big (big_adS hT 0 [] 0 0 x6.toNat (k := 1) hu8 (by kernel_rfl) (by kernel_rfl)) (by kernel_rfl) ?_
  obtain ⟨e9, he9, h⟩ := obind h
  refine awl_big (big_stE hT k8 0 he9 128 (by kernel_rfl) (by kernel_rfl) (by kernel_rfl)) (by kernel_rfl) ?_
  refine awl_nil ?_
  refine aw_seq ?_
  refine aw_sregU hT m_no [] (by kernel_rfl) ?_
  obtain ⟨p10, h, g10⟩ := obind h
  refine aw_joinTK ⟨[en 3 (.bsl 0 [] 0 1 0 x6.toNat)], [.var (.arr (x6.toNat * 1) 1 (List.map k8 p10))]⟩ ?_ ?_
  · refine aw_block (aw_loop (fun k s => ∃ s11 s12, p_sha_Pad_L1 N x6 a0 k s11 s12 = some p10 ∧ JR (Fr.f 35 0) ⟨[en 0 (j64 (imax a0 0)), en 3 (.bsl 0 [] 0 1 0 x6.toNat), en 16 (j64 s12)], [.var (.arr (x6.toNat * 1) 1 (List.map k8 s11))]⟩ s) (fun k s hI => ?_) N _ ⟨_, _, h, jr (by kernel_rfl)⟩)
    obtain ⟨s11, s12, h, hj⟩ := hI
    cases k with
    | zero => cases h
    | succ k =>
      refine aw_jr hj ?_
      refine aw_sregU hT m_no [] (by kernel_rfl) ?_
      refine aw_seq ?_
      refine aw_condH h (by kernel_rfl) (fun _ h => ?_) (fun _ h => ?_)
      · refine aw_skip (tn_n ?_)
        refine aw_seq ?_
        refine aw_block ?_
        refine aw_sregU hT m_no [] (by kernel_rfl) ?_
        refine aw_region ?_
        obtain ⟨x15, hx15, h⟩ := letE h
        obtain ⟨x16, hx16, h⟩ := letE h
        refine awl_u hT m_no [] 11 (by kernel_rfl) ?_
        refine awl_nms [(24, (j64 (I64 (x15 - s12)))), (27, (k64 x16))] (by subst hx16 hx15; kernel_rfl) ?_
        obtain ⟨x17, hx17, h⟩ := obind h
        refine awl_big (big_shr hT (k' := .i64) hx17 (by kernel_rfl) (by kernel_rfl)) (by kernel_rfl) ?_
        refine awl_u hT m_no [] 1 (by kernel_rfl) ?_
        obtain ⟨u18, hu18, h⟩ := obind h
        refine awl_big (big_adS hT 0 [] 0 0 x6.toNat (k := 1) hu18 (by kernel_rfl) (by kernel_rfl)) (by kernel_rfl) ?_
        obtain ⟨e19, he19, h⟩ := obind h
        refine awl_big (big_stE hT k8 0 he19 (U8 x17) (by kernel_rfl) (by kernel_rfl) (by kernel_rfl)) (by kernel_rfl) ?_
        refine awl_nil (inB_n (tn_n ?_))
        refine aw_regU hT m_no [] (by kernel_rfl) (tn_n ?_)
        exact ⟨k, Nat.lt_succ_self k, _, _, h, jr (by kernel_rfl)⟩
      · refine aw_exit (tn_x (tn_x (inB_e (tn_n ?_))))
        cases h
        exact jr (by kernel_rfl)
  · have h := g10
    refine (tn_n ?_)
    refine aw_sregU hT m_no [] (by kernel_rfl) ?_
    obtain ⟨u20, hu20, h⟩ := obind h
    refine aw_fz 0 1 x6.toNat _ (List.map k8 p10) (List.length_map _) (by kernel_rfl) (by kernel_rfl) (lenM k8 hu20) (by kernel_rfl) ?_
    refine aw_ret ?_
    cases h
    exact fin_r (by kernel_rfl)

theorem sha_Pad_ok_c : callable Try.prog 204 := ⟨_, Try.func204, by decide, rfl⟩

/-! (*umbra/sha.Hash).Sum -/
def p_sha_Hash_Sum_r_L1 (N : Nat) (r3 : (Vector Int 8) × (Vector Int 64) × Int) : Nat → (Vector Int 32) → Int → Option ((Vector Int 32))
  | 0, _, _ => none
  | k + 1, s5, s6 =>
    cond (decide (s6 < 8)) (
      Option.bind (idx r3.1.toList s6) fun e7 =>
      letO (I64 ((I64 (4 * s6)) + 1)) fun x11 =>
      letO (I64 ((I64 (4 * s6)) + 2)) fun x12 =>
      letO (I64 ((I64 (4 * s6)) + 3)) fun x13 =>
      Option.bind (inRO (I64 (4 * s6)) 32) fun _ =>
      Option.bind (s5.toList[(I64 (4 * s6)).toNat]?) fun e15 =>
      Option.bind (inRO x11 32) fun _ =>
      Option.bind ((s5.setIfInBounds ((I64 (4 * s6)).toNat) (U8 (shr .u32 e7 24))).toList[x11.toNat]?) fun e17 =>
      Option.bind (inRO x12 32) fun _ =>
      Option.bind (((s5.setIfInBounds ((I64 (4 * s6)).toNat) (U8 (shr .u32 e7 24))).setIfInBounds x11.toNat (U8 (shr .u32 e7 16))).toList[x12.toNat]?) fun e19 =>
      Option.bind (inRO x13 32) fun _ =>
      Option.bind ((((s5.setIfInBounds ((I64 (4 * s6)).toNat) (U8 (shr .u32 e7 24))).setIfInBounds x11.toNat (U8 (shr .u32 e7 16))).setIfInBounds x12.toNat (U8 (shr .u32 e7 8))).toList[x13.toNat]?) fun e21 =>
      p_sha_Hash_Sum_r_L1 N r3 k ((((s5.setIfInBounds ((I64 (4 * s6)).toNat) (U8 (shr .u32 e7 24))).setIfInBounds x11.toNat (U8 (shr .u32 e7 16))).setIfInBounds x12.toNat (U8 (shr .u32 e7 8))).setIfInBounds x13.toNat (U8 e7)) (I64 (s6 + 1))) (
      some s5)

def p_sha_Hash_Sum_r (N : Nat) (a0 : S_sha_Hash) : Option ((Vector Int 32)) :=
  Option.bind (p_sha_Hash_none_r N a0) fun r1 =>
  cond r1 (
    some (Vector.replicate 32 0)) (
    Option.bind (p_sha_Pad N a0.gn) fun r2 =>
    Option.bind (p_sha_Hash_Write_rd N ([r2]) a0) fun r3 =>
    Option.bind (p_sha_Hash_Sum_r_L1 N r3 N (Vector.replicate 32 0) 0) fun p4 =>
    some p4)

theorem sha_Hash_Sum_r_ok {N : Nat} {a0 : S_sha_Hash} {r : (Vector Int 32)} (h : p_sha_Hash_Sum_r N a0 = some r) : FnM Try.prog 179 [.var (S_sha_Hash.enc a0)] [(.ref 0 [] 0)] (eA 32 1 k8 r) [.var (S_sha_Hash.enc a0)] := by
  unfold p_sha_Hash_Sum_r at h
  refine fnM_of_aw (m := 54) (lo := 1) (rs := [.cell 2 53]) hT Try.func179 rfl (by kernel_rfl) rfl ?_
  refine aw_sregU hT m_no [] (by kernel_rfl) ?_
  refine aw_seq ?_
  refine aw_sreg ?_
  refine awl_u hT m_no [] 1 (by kernel_rfl) ?_
  obtain ⟨r1, hr1, h⟩ := obind h
  refine awl_big (big_call [0] (sha_Hash_none_r_ok hr1) sha_Hash_none_r_ok_c (by kernel_rfl) (by kernel_rfl)) (by kernel_rfl) ?_
  refine awl_nil ?_
  refine aw_condH h (by kernel_rfl) (fun _ h => ?_) (fun _ h => ?_)
  · refine aw_sregU hT m_no [] (by kernel_rfl) ?_
    refine aw_ret (tn_r ?_)
    cases h
    exact fin_r (by kernel_rfl)
  · refine aw_skip (tn_n ?_)
    refine aw_sregU hT m_no [] (by kernel_rfl) ?_
    refine aw_sreg ?_
    refine awl_u hT m_no [] 4 (by kernel_rfl) ?_
    obtain ⟨r2, hr2, h⟩ := obind h
    refine awl_big (big_call [] (sha_Pad_ok hr2) sha_Pad_ok_c (by kernel_rfl) (by kernel_rfl)) (by kernel_rfl) ?_
    refine awl_big (big_row hT (x := (.sl 1 1 [(eL 1 k8 r2)])) (by kernel_rfl) (by kernel_rfl)) (by kernel_rfl) ?_
    obtain ⟨r3, hr3, h⟩ := obind h
    refine awl_big (big_call [2] (sha_Hash_Write_rd_ok hr3) sha_Hash_Write_rd_ok_c (by kernel_rfl) (by kernel_rfl)) (by kernel_rfl) ?_
    refine awl_nil ?_
    refine aw_sregU hT m_no [] (by kernel_rfl) ?_
    refine aw_seq ?_
    refine aw_sregU hT m_no [] (by kernel_rfl) ?_
    obtain ⟨p4, h, g4⟩ := obind h
    refine aw_joinTK ⟨[en 2 (.ref 1 [] 0), en 4 (.ref 3 [] 0)], [.var (S_sha_Hash.enc a0), .var (eA 32 1 k8 (Vector.replicate 32 0)), .var (.st 73 [(eA 8 1 k32 r3.1), (eA 64 1 k8 r3.2.1), (j64 r3.2.2)]), .var (eA 32 1 k8 p4)]⟩ ?_ ?_
    · refine aw_block (aw_loop (fun k s => ∃ s5 s6, p_sha_Hash_Sum_r_L1 N r3 k s5 s6 = some p4 ∧ JR (Fr.f 54 1) ⟨[en 2 (.ref 1 [] 0), en 4 (.ref 3 [] 0), en 21 (eA 8 1 k32 r3.1), en 22 (j64 s6)], [.var (S_sha_Hash.enc a0), .var (eA 32 1 k8 (Vector.replicate 32 0)), .var (.st 73 [(eA 8 1 k32 r3.1), (eA 64 1 k8 r3.2.1), (j64 r3.2.2)]), .var (eA 32 1 k8 s5)]⟩ s) (fun k s hI => ?_) N _ ⟨_, _, h, jr (by kernel_rfl)⟩)
      obtain ⟨s5, s6, h, hj⟩ := hI
      cases k with
      | zero => cases h
      | succ k =>
        refine aw_jr hj ?_
        refine aw_sregU hT m_no [] (by kernel_rfl) ?_
        refine aw_seq ?_
        refine aw_condH h (by kernel_rfl) (fun _ h => ?_) (fun _ h => ?_)
        · refine aw_skip (tn_n ?_)
          refine aw_seq ?_
          refine aw_block ?_
          refine aw_sreg ?_
          refine awl_u hT m_no [] 1 (by kernel_rfl) ?_
          obtain ⟨e7, he7, h⟩ := obind h
          refine awl_big (big_ixA hT k32 r3.1 he7 (by kernel_rfl) (by kernel_rfl)) (by kernel_rfl) ?_
          refine awl_u hT m_no [] 2 (by kernel_rfl) ?_
          refine awl_nil ?_
          refine aw_region ?_
          obtain ⟨x11, hx11, h⟩ := letE h
          obtain ⟨x12, hx12, h⟩ := letE h
          obtain ⟨x13, hx13, h⟩ := letE h
          refine awl_u hT m_no [] 22 (by kernel_rfl) ?_
          refine awl_nms [(30, (j64 x11)), (33, (j64 x12)), (36, (j64 x13))] (by subst hx13 hx12 hx11; kernel_rfl) ?_
          obtain ⟨u14, hu14, h⟩ := obind h
          refine awl_big (big_adR hT (k := 1) 3 [] 0 hu14 (by kernel_rfl) (by kernel_rfl)) (by kernel_rfl) ?_
          first | refine awl_to ⟨[en 2 (.ref 1 [] 0), en 4 (.ref 3 [] 0), en 21 (eA 8 1 k32 r3.1), en 22 (j64 s6), en 30 (j64 x11), en 33 (j64 x12), en 36 (j64 x13), en 39 (k8 (U8 (shr .u32 e7 24))), en 42 (k8 (U8 (shr .u32 e7 16))), en 45 (k8 (U8 (shr .u32 e7 8))), en 47 (k8 (U8 e7)), en 48 (.ref 3 [(I64 (4 * s6)).toNat] (0 + (I64 (4 * s6)).toNat * 1))], [.var (S_sha_Hash.enc a0), .var (eA 32 1 k8 (Vector.replicate 32 0)), .var (.st 73 [(eA 8 1 k32 r3.1), (eA 64 1 k8 r3.2.1), (j64 r3.2.2)]), .var (eA 32 1 k8 s5)]⟩ (by kernel_rfl) ?_ | skip
          obtain ⟨e15, he15, h⟩ := obind h
          refine awl_big (big_stV hT k8 0 s5 he15 (U8 (shr .u32 e7 24)) (by kernel_rfl) (by kernel_rfl) (H' := [.var (S_sha_Hash.enc a0), .var (eA 32 1 k8 (Vector.replicate 32 0)), .var (.st 73 [(eA 8 1 k32 r3.1), (eA 64 1 k8 r3.2.1), (j64 r3.2.2)]), .var (eA 32 1 k8 (s5.setIfInBounds ((I64 (4 * s6)).toNat) (U8 (shr .u32 e7 24))))]) (by kernel_rfl)) (by kernel_rfl) ?_
          obtain ⟨u16, hu16, h⟩ := obind h
          refine awl_big (big_adR hT (k := 1) 3 [] 0 hu16 (by kernel_rfl) (by kernel_rfl)) (by kernel_rfl) ?_
          obtain ⟨e17, he17, h⟩ := obind h
          refine awl_big (big_stV hT k8 0 (s5.setIfInBounds ((I64 (4 * s6)).toNat) (U8 (shr .u32 e7 24))) he17 (U8 (shr .u32 e7 16)) (by kernel_rfl) (by kernel_rfl) (H' := [.var (S_sha_Hash.enc a0), .var (eA 32 1 k8 (Vector.replicate 32 0)), .var (.st 73 [(eA 8 1 k32 r3.1), (eA 64 1 k8 r3.2.1), (j64 r3.2.2)]), .var (eA 32 1 k8 ((s5.setIfInBounds ((I64 (4 * s6)).toNat) (U8 (shr .u32 e7 24))).setIfInBounds x11.toNat (U8 (shr .u32 e7 16))))]) (by kernel_rfl)) (by kernel_rfl) ?_
          obtain ⟨u18, hu18, h⟩ := obind h
          refine awl_big (big_adR hT (k := 1) 3 [] 0 hu18 (by kernel_rfl) (by kernel_rfl)) (by kernel_rfl) ?_
          first | refine awl_to ⟨[en 2 (.ref 1 [] 0), en 4 (.ref 3 [] 0), en 21 (eA 8 1 k32 r3.1), en 22 (j64 s6), en 36 (j64 x13), en 45 (k8 (U8 (shr .u32 e7 8))), en 47 (k8 (U8 e7)), en 50 (.ref 3 [x12.toNat] (0 + x12.toNat * 1))], [.var (S_sha_Hash.enc a0), .var (eA 32 1 k8 (Vector.replicate 32 0)), .var (.st 73 [(eA 8 1 k32 r3.1), (eA 64 1 k8 r3.2.1), (j64 r3.2.2)]), .var (eA 32 1 k8 ((s5.setIfInBounds ((I64 (4 * s6)).toNat) (U8 (shr .u32 e7 24))).setIfInBounds x11.toNat (U8 (shr .u32 e7 16))))]⟩ (by kernel_rfl) ?_ | skip
          obtain ⟨e19, he19, h⟩ := obind h
          refine awl_big (big_stV hT k8 0 ((s5.setIfInBounds ((I64 (4 * s6)).toNat) (U8 (shr .u32 e7 24))).setIfInBounds x11.toNat (U8 (shr .u32 e7 16))) he19 (U8 (shr .u32 e7 8)) (by kernel_rfl) (by kernel_rfl) (H' := [.var (S_sha_Hash.enc a0), .var (eA 32 1 k8 (Vector.replicate 32 0)), .var (.st 73 [(eA 8 1 k32 r3.1), (eA 64 1 k8 r3.2.1), (j64 r3.2.2)]), .var (eA 32 1 k8 (((s5.setIfInBounds ((I64 (4 * s6)).toNat) (U8 (shr .u32 e7 24))).setIfInBounds x11.toNat (U8 (shr .u32 e7 16))).setIfInBounds x12.toNat (U8 (shr .u32 e7 8))))]) (by kernel_rfl)) (by kernel_rfl) ?_
          obtain ⟨u20, hu20, h⟩ := obind h
          refine awl_big (big_adR hT (k := 1) 3 [] 0 hu20 (by kernel_rfl) (by kernel_rfl)) (by kernel_rfl) ?_
          obtain ⟨e21, he21, h⟩ := obind h
          refine awl_big (big_stV hT k8 0 (((s5.setIfInBounds ((I64 (4 * s6)).toNat) (U8 (shr .u32 e7 24))).setIfInBounds x11.toNat (U8 (shr .u32 e7 16))).setIfInBounds x12.toNat (U8 (shr .u32 e7 8))) he21 (U8 e7) (by kernel_rfl) (by kernel_rfl) (H' := [.var (S_sha_Hash.enc a0), .var (eA 32 1 k8 (Vector.replicate 32 0)), .var (.st 73 [(eA 8 1 k32 r3.1), (eA 64 1 k8 r3.2.1), (j64 r3.2.2)]), .var (eA 32 1 k8 ((((s5.setIfInBounds ((I64 (4 * s6)).toNat) (U8 (shr .u32 e7 24))).setIfInBounds x11.toNat (U8 (shr .u32 e7 16))).setIfInBounds x12.toNat (U8 (shr .u32 e7 8))).setIfInBounds x13.toNat (U8 e7)))]) (by kernel_rfl)) (by kernel_rfl) ?_
          refine awl_nil (inB_n (tn_n ?_))
          refine aw_regU hT m_no [] (by kernel_rfl) (tn_n ?_)
          exact ⟨k, Nat.lt_succ_self k, _, _, h, jr (by kernel_rfl)⟩
        · refine aw_exit (tn_x (tn_x (inB_e (tn_n ?_))))
          cases h
          exact jr (by kernel_rfl)
    · have h := g4
      refine (tn_n ?_)
      refine aw_sregU hT m_no [] (by kernel_rfl) ?_
      refine aw_ret ?_
      cases h
      exact fin_r (by kernel_rfl)

theorem sha_Hash_Sum_r_ok_c : callable Try.prog 179 := ⟨_, Try.func179, by decide, rfl⟩

/-! umbra/sha.Sum -/
def p_sha_Sum (N : Nat) (a0 : (List (List Int))) : Option ((Vector Int 32)) :=
  Option.bind (p_sha_New N ) fun r1 =>
  Option.bind (p_sha_Hash_Write_rd N a0 (S_sha_Hash.mk (#v[1779033703, 3144134277, 1013904242, 2773480762, 1359893119, 2600822924, 528734635, 1541459225]) (Vector.replicate 64 0) 0)) fun r2 =>
  Option.bind (p_sha_Hash_Sum_r N (S_sha_Hash.mk r2.1 r2.2.1 r2.2.2)) fun r3 =>
  some r3

theorem sha_Sum_ok {N : Nat} {a0 : (List (List Int))} {r : (Vector Int 32)} (h : p_sha_Sum N a0 = some r) : FnM Try.prog 167 [] [(eL 1 (eL 1 k8) a0)] (eA 32 1 k8 r) [] := by
  unfold p_sha_Sum at h
  refine fnM_of_aw (m := 10) (lo := 0) (rs := [.cell 2 53]) hT Try.func167 rfl (by kernel_rfl) rfl ?_
  refine aw_sregU hT m_no [] (by kernel_rfl) ?_
  refine aw_sreg ?_
  obtain ⟨r1, hr1, h⟩ := obind h
  refine awl_big (big_call [] (sha_New_ok hr1) sha_New_ok_c (by kernel_rfl) (by kernel_rfl)) (by kernel_rfl) ?_
  refine awl_u hT m_no [] 1 (by kernel_rfl) ?_
  refine awl_nil ?_
  refine aw_sreg ?_
  refine awl_u hT m_no [] 2 (by kernel_rfl) ?_
  obtain ⟨r2, hr2, h⟩ := obind h
  refine awl_big (big_call [1] (sha_Hash_Write_rd_ok hr2) sha_Hash_Write_rd_ok_c (by kernel_rfl) (by kernel_rfl)) (by kernel_rfl) ?_
  refine awl_nil ?_
  refine aw_sreg ?_
  refine awl_u hT m_no [] 1 (by kernel_rfl) ?_
  obtain ⟨r3, hr3, h⟩ := obind h
  refine awl_big (big_call [1] (sha_Hash_Sum_r_ok hr3) sha_Hash_Sum_r_ok_c (by kernel_rfl) (by kernel_rfl)) (by kernel_rfl) ?_
  refine awl_u hT m_no [] 1 (by kernel_rfl) ?_
  refine awl_nil ?_
  refine aw_ret ?_
  cases h
  exact fin_r (by kernel_rfl)

theorem sha_Sum_ok_c : callable Try.prog 167 := ⟨_, Try.func167, by decide, rfl⟩

/-! umbra/chain.Start -/
def p_chain_Start (N : Nat) (a0 : Int) : Option ((Vector Int 32)) :=
  Option.bind (p_codec_Signed N (([117, 109, 98, 114, 97, 32, 97, 117, 100, 105, 116, 32, 99, 104, 97, 105, 110] : List Int)) 8 ([a0])) fun r1 =>
  Option.bind (p_sha_Sum N ([r1.1])) fun r2 =>
  some r2

theorem chain_Start_ok {N : Nat} {a0 : Int} {r : (Vector Int 32)} (h : p_chain_Start N a0 = some r) : FnM Try.prog 134 [] [(j64 a0)] (eA 32 1 k8 r) [] := by
  unfold p_chain_Start at h
  refine fnM_of_aw (m := 16) (lo := 0) (rs := [.cell 2 53]) hT Try.func134 rfl (by kernel_rfl) rfl ?_
  refine aw_sregU hT m_no [] (by kernel_rfl) ?_
  refine aw_sreg ?_
  refine awl_lit2 hT k8 (k := 1) (t := 75) (e := 5) ([117, 109, 98, 114, 97, 32, 97, 117, 100, 105, 116, 32, 99, 104, 97, 105, 110] : List Int) rfl rfl rfl rfl rfl (by kernel_rfl) rfl rfl rfl (by kernel_rfl) (by kernel_rfl) ?_
  refine awl_u hT m_no [] 1 (by kernel_rfl) ?_
  refine awl_big (big_row hT (x := (.sl 1 1 [(j64 a0)])) (by kernel_rfl) (by kernel_rfl)) (by kernel_rfl) ?_
  first | refine awl_to ⟨[en 2 (.ref 0 [] 0), en 7 (eO 1 1 k8 (([117, 109, 98, 114, 97, 32, 97, 117, 100, 105, 116, 32, 99, 104, 97, 105, 110] : List Int))), en 9 (.sl 1 1 [(j64 a0)])], [.var (eA 32 1 k8 (Vector.replicate 32 0)), .tail ((([117, 109, 98, 114, 97, 32, 97, 117, 100, 105, 116, 32, 99, 104, 97, 105, 110] : List Int)).length * 1)]⟩ (by kernel_rfl) ?_ | skip
  obtain ⟨r1, hr1, h⟩ := obind h
  refine awl_big (big_call [] (codec_Signed_ok hr1) codec_Signed_ok_c (by kernel_rfl) (by kernel_rfl)) (by kernel_rfl) ?_
  refine awl_u hT m_no [] 5 (by kernel_rfl) ?_
  refine awl_nil ?_
  refine aw_sreg ?_
  refine awl_u hT m_no [] 1 (by kernel_rfl) ?_
  refine awl_wk 13 ((eL 1 k8 r1.1)) ?_
  refine awl_big (big_row hT (x := (.sl 1 1 [(eL 1 k8 r1.1)])) (by kernel_rfl) (by kernel_rfl)) (by kernel_rfl) ?_
  obtain ⟨r2, hr2, h⟩ := obind h
  refine awl_big (big_call [] (sha_Sum_ok hr2) sha_Sum_ok_c (by kernel_rfl) (by kernel_rfl)) (by kernel_rfl) ?_
  refine awl_u hT m_no [] 1 (by kernel_rfl) ?_
  refine awl_nil ?_
  refine aw_ret ?_
  cases h
  exact fin_r (by kernel_rfl)

theorem chain_Start_ok_c : callable Try.prog 134 := ⟨_, Try.func134, by decide, rfl⟩

/-! umbra/chain.Bytes -/
def m_chain_Bytes : Nat → Bool := imL [1]

def p_chain_Bytes (N : Nat) (a0 : S_api_Entry) : Option ((List Int)) :=
  Option.bind (p_codec_Signed N [] 8 ([a0.gSeq, I64 a0.gClock, a0.gWho, a0.gErr])) fun r1 =>
  Option.bind (slcO a0.gSum.toList 0 32) fun s2 =>
  Option.bind (appO 1 r1.1 s2) fun z3 =>
  some z3

theorem chain_Bytes_ok {N : Nat} {a0 : S_api_Entry} {r : (List Int)} (h : p_chain_Bytes N a0 = some r) : FnM Try.prog 200 [] [(S_api_Entry.enc a0)] (eL 1 k8 r) [] := by
  unfold p_chain_Bytes at h
  refine fnM_of_aw (m := 23) (lo := 0) (rs := [.tmp 2]) hT Try.func200 rfl (by kernel_rfl) rfl ?_
  refine aw_sregU hT m_chain_Bytes [] (by kernel_rfl) ?_
  refine aw_sreg ?_
  refine awl_u hT m_chain_Bytes [] 9 (by kernel_rfl) ?_
  refine awl_big (big_row hT (x := (.sl 1 4 [(j64 a0.gSeq), (j64 (I64 a0.gClock)), (j64 a0.gWho), (j64 a0.gErr)])) (by kernel_rfl) (by kernel_rfl)) (by kernel_rfl) ?_
  first | refine awl_to ⟨[en 1 (.im (S_api_Entry.enc a0)), en 15 (.sl 1 4 [(j64 a0.gSeq), (j64 (I64 a0.gClock)), (j64 a0.gWho), (j64 a0.gErr)])], []⟩ (by kernel_rfl) ?_ | skip
  obtain ⟨r1, hr1, h⟩ := obind h
  refine awl_big (big_call [] (codec_Signed_ok hr1) codec_Signed_ok_c (by kernel_rfl) (by kernel_rfl)) (by kernel_rfl) ?_
  refine awl_u hT m_chain_Bytes [] 5 (by kernel_rfl) ?_
  refine awl_nil ?_
  refine aw_sreg ?_
  refine awl_u hT m_chain_Bytes [] 2 (by kernel_rfl) ?_
  obtain ⟨s2, hs2, h⟩ := obind h
  refine awl_big (big_slI hT (N := 32) (k := 1) k8 a0.gSum hs2 (by kernel_rfl) (by kernel_rfl)) (by kernel_rfl) ?_
  obtain ⟨z3, hz3, h⟩ := obind h
  refine awl_big (big_app hT k8 (id := 0) (k := 1) hz3 (by kernel_rfl) (by kernel_rfl)) (by kernel_rfl) ?_
  refine awl_u hT m_chain_Bytes [] 1 (by kernel_rfl) ?_
  refine awl_nil ?_
  refine aw_ret ?_
  cases h
  exact fin_r (by kernel_rfl)

theorem chain_Bytes_ok_c : callable Try.prog 200 := ⟨_, Try.func200, by decide, rfl⟩

/-! umbra/chain.Next -/
def m_chain_Next : Nat → Bool := imL [2, 3]

def p_chain_Next (N : Nat) (a0 : (Vector Int 32)) (a1 : S_api_Entry) : Option ((Vector Int 32)) :=
  Option.bind (slcO a0.toList 0 32) fun s1 =>
  Option.bind (p_chain_Bytes N a1) fun r2 =>
  Option.bind (p_sha_Sum N ([s1, r2])) fun r3 =>
  some r3

theorem chain_Next_ok {N : Nat} {a0 : (Vector Int 32)} {a1 : S_api_Entry} {r : (Vector Int 32)} (h : p_chain_Next N a0 a1 = some r) : FnM Try.prog 168 [] [(eA 32 1 k8 a0), (S_api_Entry.enc a1)] (eA 32 1 k8 r) [] := by
  unfold p_chain_Next at h
  refine fnM_of_aw (m := 10) (lo := 0) (rs := [.cell 4 53]) hT Try.func168 rfl (by kernel_rfl) rfl ?_
  refine aw_sregU hT m_chain_Next [] (by kernel_rfl) ?_
  obtain ⟨s1, hs1, h⟩ := obind h
  obtain ⟨r2, hr2, h⟩ := obind h
  obtain ⟨r3, hr3, h⟩ := obind h
  refine aw_sdrawV hT hmo m_chain_Next [(0, (eL 1 k8 s1)), (2, (eL 1 k8 r2)), (3, (.sl 1 2 [(eL 1 k8 s1), (eL 1 k8 r2)])), (4, (eA 32 1 k8 r3))] [] (by kernel_rfl) (by kernel_rfl) (by kernel_rfl) ⟨fun _ => big_slI hT (N := 32) (k := 1) k8 a0 hs1 (by kernel_rfl) (by kernel_rfl), fun _ => big_call0 (chain_Bytes_ok hr2) chain_Bytes_ok_c (by kernel_rfl) (by kernel_rfl) (by kernel_rfl), fun _ => big_row hT (x := (.sl 1 2 [(eL 1 k8 s1), (eL 1 k8 r2)])) (by kernel_rfl) (by kernel_rfl), fun _ => big_call0 (sha_Sum_ok hr3) sha_Sum_ok_c (by kernel_rfl) (by kernel_rfl) (by kernel_rfl), trivial⟩ trivial ?_
  refine aw_ret ?_
  cases h
  exact fin_r (by kernel_rfl)

theorem chain_Next_ok_c : callable Try.prog 168 := ⟨_, Try.func168, by decide, rfl⟩

/-! umbra/chain.Head -/
def p_chain_Head_L1 (N : Nat) (a1 : (List S_api_Entry)) : Nat → (Vector Int 32) → Int → Option ((Vector Int 32))
  | 0, _, _ => none
  | k + 1, s3, s4 =>
    letO (decide (s4 < ((a1.length : Int)))) fun x5 =>
    cond x5 (
      Option.bind (idx a1 s4) fun e6 =>
      Option.bind (p_chain_Next N s3 e6) fun r7 =>
      p_chain_Head_L1 N a1 k r7 (I64 (s4 + 1))) (
      some s3)

def p_chain_Head (N : Nat) (a0 : Int) (a1 : (List S_api_Entry)) : Option ((Vector Int 32)) :=
  Option.bind (p_chain_Start N a0) fun r1 =>
  Option.bind (p_chain_Head_L1 N a1 N r1 0) fun p2 =>
  some p2

theorem chain_Head_ok {N : Nat} {a0 : Int} {a1 : (List S_api_Entry)} {r : (Vector Int 32)} (h : p_chain_Head N a0 a1 = some r) : FnM Try.prog 147 [] [(j64 a0), (eL 36 S_api_Entry.enc a1)] (eA 32 1 k8 r) [] := by
  unfold p_chain_Head at h
  refine fnM_of_aw (m := 21) (lo := 0) (rs := [.cell 4 53]) hT Try.func147 rfl (by kernel_rfl) rfl ?_
  refine aw_sregU hT m_no [] (by kernel_rfl) ?_
  refine aw_sreg ?_
  refine awl_u hT m_no [] 1 (by kernel_rfl) ?_
  obtain ⟨r1, hr1, h⟩ := obind h
  refine awl_big (big_call [] (chain_Start_ok hr1) chain_Start_ok_c (by kernel_rfl) (by kernel_rfl)) (by kernel_rfl) ?_
  refine awl_u hT m_no [] 2 (by kernel_rfl) ?_
  refine awl_nil ?_
  refine aw_seq ?_
  refine aw_sregU hT m_no [] (by kernel_rfl) ?_
  obtain ⟨p2, h, g2⟩ := obind h
  refine aw_joinTK ⟨[en 4 (.ref 0 [] 0), en 5 (.ref 1 [] 0)], [.var (eA 32 1 k8 (Vector.replicate 32 0)), .var (eA 32 1 k8 p2)]⟩ ?_ ?_
  · refine aw_block (aw_loop (fun k s => ∃ s3 s4, p_chain_Head_L1 N a1 k s3 s4 = some p2 ∧ JR (Fr.f 21 0) ⟨[en 4 (.ref 0 [] 0), en 5 (.ref 1 [] 0), en 10 (eL 36 S_api_Entry.enc a1), en 11 (j64 ((a1.length : Int))), en 12 (j64 s4)], [.var (eA 32 1 k8 (Vector.replicate 32 0)), .var (eA 32 1 k8 s3)]⟩ s) (fun k s hI => ?_) N _ ⟨_, _, h, jr (by kernel_rfl)⟩)
    obtain ⟨s3, s4, h, hj⟩ := hI
    cases k with
    | zero => cases h
    | succ k =>
      refine aw_jr hj ?_
      obtain ⟨x5, hx5, h⟩ := letE h
      refine aw_sregU hT m_no [] (by kernel_rfl) ?_
      refine aw_nms [(13, (eB x5))] (by subst hx5; kernel_rfl) ?_
      refine aw_seq ?_
      refine aw_condH h (by kernel_rfl) (fun _ h => ?_) (fun _ h => ?_)
      · refine aw_skip (tn_n ?_)
        refine aw_seq ?_
        refine aw_block ?_
        refine aw_sreg ?_
        obtain ⟨e6, he6, h⟩ := obind h
        refine awl_big (big_idx hT S_api_Entry.enc he6 (by kernel_rfl) (by kernel_rfl)) (by kernel_rfl) ?_
        refine awl_u hT m_no [] 3 (by kernel_rfl) ?_
        refine awl_nil ?_
        refine aw_region ?_
        refine awl_u hT m_no [] 2 (by kernel_rfl) ?_
        obtain ⟨r7, hr7, h⟩ := obind h
        refine awl_big (big_call [] (chain_Next_ok hr7) chain_Next_ok_c (by kernel_rfl) (by kernel_rfl)) (by kernel_rfl) ?_
        refine awl_u hT m_no [] 1 (by kernel_rfl) ?_
        refine awl_nil (inB_n (tn_n ?_))
        refine aw_regU hT m_no [] (by kernel_rfl) (tn_n ?_)
        exact ⟨k, Nat.lt_succ_self k, _, _, h, jr (by kernel_rfl)⟩
      · refine aw_exit (tn_x (tn_x (inB_e (tn_n ?_))))
        cases h
        exact jr (by kernel_rfl)
  · have h := g2
    refine (tn_n ?_)
    refine aw_sregU hT m_no [] (by kernel_rfl) ?_
    refine aw_ret ?_
    cases h
    exact fin_r (by kernel_rfl)

theorem chain_Head_ok_c : callable Try.prog 147 := ⟨_, Try.func147, by decide, rfl⟩

/-! umbra/receipt.of -/
def p_receipt_of (N : Nat) (a0 : Int) (a1 : (List S_api_Entry)) (a2 : Int) : Option (S_api_Receipt) :=
  Option.bind (idx a1 a2) fun e1 =>
  Option.bind (slcO a1 0 (I64 (a2 + 1))) fun s2 =>
  Option.bind (p_chain_Head N a0 s2) fun r3 =>
  some (S_api_Receipt.mk a0 e1.gSeq e1.gWho e1.gClock e1.gSum r3 (Vector.replicate 32 0))

theorem receipt_of_ok {N : Nat} {a0 : Int} {a1 : (List S_api_Entry)} {a2 : Int} {r : S_api_Receipt} (h : p_receipt_of N a0 a1 a2 = some r) : FnM Try.prog 95 [] [(j64 a0), (eL 36 S_api_Entry.enc a1), (j64 a2)] (S_api_Receipt.enc r) [] := by
  unfold p_receipt_of at h
  refine fnM_of_aw (m := 28) (lo := 0) (rs := [.cell 6 59]) hT Try.func95 rfl (by kernel_rfl) rfl ?_
  refine aw_sregU hT m_no [] (by kernel_rfl) ?_
  refine aw_sreg ?_
  refine awl_u hT m_no [] 2 (by kernel_rfl) ?_
  obtain ⟨e1, he1, h⟩ := obind h
  refine awl_big (big_idx hT S_api_Entry.enc he1 (by kernel_rfl) (by kernel_rfl)) (by kernel_rfl) ?_
  refine awl_u hT m_no [] 3 (by kernel_rfl) ?_
  refine awl_nil ?_
  obtain ⟨s2, hs2, h⟩ := obind h
  obtain ⟨r3, hr3, h⟩ := obind h
  refine aw_sdrawV hT hmo m_no [(13, (eL 36 S_api_Entry.enc s2)), (14, (eA 32 1 k8 r3))] [] (by kernel_rfl) (by kernel_rfl) (by kernel_rfl) ⟨fun _ => big_slc hT (k := 36) S_api_Entry.enc hs2 (by kernel_rfl) (by kernel_rfl), fun _ => big_call0 (chain_Head_ok hr3) chain_Head_ok_c (by kernel_rfl) (by kernel_rfl) (by kernel_rfl), trivial⟩ trivial ?_
  refine aw_ret ?_
  cases h
  exact fin_r (by kernel_rfl)

theorem receipt_of_ok_c : callable Try.prog 95 := ⟨_, Try.func95, by decide, rfl⟩

def gren_157 : Go.Shelf.Ren := ⟨fun | 4 => 157 | n => n, fun | 0 => 0 | 3 => 3 | 4 => 4 | 9 => 9 | 20 => 20 | 22 => 75 | 25 => 5 | n => n, fun n => n⟩
theorem glay_157 : Lays8.n4 Try.prog gren_157 := { mixed := by kernel_rfl, f4 := ⟨Try.f157.name, by decide, Try.func157.trans (congrArg some (by kernel_rfl))⟩, t0 := Try.underlying0, a0 := Try.isAgg0, z0 := Try.sizeOf0, v0 := Try.zeroValue0, t3 := Try.underlying3, a3 := Try.isAgg3, z3 := Try.sizeOf3, v3 := Try.zeroValue3, t4 := Try.underlying4, a4 := Try.isAgg4, z4 := Try.sizeOf4, v4 := Try.zeroValue4, t9 := Try.underlying9, a9 := Try.isAgg9, z9 := Try.sizeOf9, v9 := Try.zeroValue9, t20 := Try.underlying20, a20 := Try.isAgg20, z20 := Try.sizeOf20, v20 := Try.zeroValue20, t22 := Try.underlying75, a22 := Try.isAgg75, z22 := Try.sizeOf75, v22 := Try.zeroValue75 }
theorem grow_157 {n : Int} {r : List Int} (h : growO Int 1 n = some r) : FnM Try.prog 157 [] [.v (.slice none 0 0), .v (.int .i64 n)] (eO 0 1 k8 r) [.tail (r.length * 1)] :=
  grow_fn (i0 := Try.t5) glay_157 rfl k8 (by kernel_rfl) rfl (by kernel_rfl) (by kernel_rfl) (by kernel_rfl) (by decide) h
theorem grow_157_c : callable Try.prog 157 := ⟨_, Try.func157, by decide, rfl⟩

/-! slices.Concat[[]byte,byte] -/
def p_slices_Concat_byte_byte_L1 (N : Nat) (a0 : (List (List Int))) : Nat → Int → Int → Option (Int)
  | 0, _, _ => none
  | k + 1, s2, s3 =>
    letO (decide (s3 < ((a0.length : Int)))) fun x4 =>
    cond x4 (
      Option.bind (idx a0 s3) fun e5 =>
      letO (I64 (s2 + ((e5.length : Int)))) fun x6 =>
      cond (decide (x6 < 0)) (none) (p_slices_Concat_byte_byte_L1 N a0 k x6 (I64 (s3 + 1)))) (
      some s2)

def p_slices_Concat_byte_byte_L2 (N : Nat) (a0 : (List (List Int))) : Nat → (List Int) → Int → Option ((List Int))
  | 0, _, _ => none
  | k + 1, s9, s10 =>
    letO (decide (s10 < ((a0.length : Int)))) fun x11 =>
    cond x11 (
      Option.bind (idx a0 s10) fun e12 =>
      Option.bind (appO 1 s9 e12) fun z13 =>
      p_slices_Concat_byte_byte_L2 N a0 k z13 (I64 (s10 + 1))) (
      some s9)

def p_slices_Concat_byte_byte (N : Nat) (a0 : (List (List Int))) : Option ((List Int)) :=
  Option.bind (p_slices_Concat_byte_byte_L1 N a0 N 0 0) fun p1 =>
  Option.bind (growO Int 1 p1) fun r7 =>
  Option.bind (p_slices_Concat_byte_byte_L2 N a0 N r7 0) fun p8 =>
  some p8

theorem slices_Concat_byte_byte_ok {N : Nat} {a0 : (List (List Int))} {r : (List Int)} (h : p_slices_Concat_byte_byte N a0 = some r) : FnM Try.prog 114 [] [(eL 1 (eL 1 k8) a0)] (eL 1 k8 r) [] := by
  unfold p_slices_Concat_byte_byte at h
  refine fnM_of_aw (m := 36) (lo := 0) (rs := [.tmp 2]) hT Try.func114 rfl (by kernel_rfl) rfl ?_
  refine aw_sregU hT m_no [] (by kernel_rfl) ?_
  refine aw_sregU hT m_no [] (by kernel_rfl) ?_
  refine aw_seq ?_
  refine aw_sregU hT m_no [] (by kernel_rfl) ?_
  obtain ⟨p1, h, g1⟩ := obind h
  refine aw_joinTK ⟨[en 0 (eL 1 (eL 1 k8) a0), en 3 (j64 p1)], []⟩ ?_ ?_
  · refine aw_block (aw_loop (fun k s => ∃ s2 s3, p_slices_Concat_byte_byte_L1 N a0 k s2 s3 = some p1 ∧ JR (Fr.f 36 0) ⟨[en 0 (eL 1 (eL 1 k8) a0), en 3 (j64 s2), en 9 (eL 1 (eL 1 k8) a0), en 10 (j64 ((a0.length : Int))), en 11 (j64 s3)], []⟩ s) (fun k s hI => ?_) N _ ⟨_, _, h, jr (by kernel_rfl)⟩)
    obtain ⟨s2, s3, h, hj⟩ := hI
    cases k with
    | zero => cases h
    | succ k =>
      refine aw_jr hj ?_
      obtain ⟨x4, hx4, h⟩ := letE h
      refine aw_sregU hT m_no [] (by kernel_rfl) ?_
      refine aw_nms [(12, (eB x4))] (by subst hx4; kernel_rfl) ?_
      refine aw_seq ?_
      refine aw_condH h (by kernel_rfl) (fun _ h => ?_) (fun _ h => ?_)
      · refine aw_skip (tn_n ?_)
        refine aw_seq ?_
        refine aw_block ?_
        refine aw_sreg ?_
        obtain ⟨e5, he5, h⟩ := obind h
        refine awl_big (big_idx hT (eL 1 k8) he5 (by kernel_rfl) (by kernel_rfl)) (by kernel_rfl) ?_
        refine awl_u hT m_no [] 2 (by kernel_rfl) ?_
        refine awl_nil ?_
        obtain ⟨x6, hx6, h⟩ := letE h
        refine aw_sregU hT m_no [] (by kernel_rfl) ?_
        refine aw_nms [(3, (j64 x6))] (by subst hx6; kernel_rfl) ?_
        refine aw_sregU hT m_no [] (by kernel_rfl) ?_
        refine aw_condH h (by kernel_rfl) (fun _ h => ?_) (fun _ h => ?_)
        · cases h
        · refine aw_skip (inB_n (tn_n ?_))
          refine aw_regU hT m_no [] (by kernel_rfl) (tn_n ?_)
          exact ⟨k, Nat.lt_succ_self k, _, _, h, jr (by kernel_rfl)⟩
      · refine aw_exit (tn_x (tn_x (inB_e (tn_n ?_))))
        cases h
        exact jr (by kernel_rfl)
  · have h := g1
    refine (tn_n ?_)
    refine aw_sreg ?_
    refine awl_u hT m_no [] 1 (by kernel_rfl) ?_
    obtain ⟨r7, hr7, h⟩ := obind h
    refine awl_big (big_call [] (grow_157 hr7) grow_157_c (by kernel_rfl) (by kernel_rfl)) (by kernel_rfl) ?_
    refine awl_u hT m_no [] 1 (by kernel_rfl) ?_
    refine awl_nil ?_
    refine aw_seq ?_
    refine aw_sregU hT m_no [] (by kernel_rfl) ?_
    obtain ⟨p8, h, g8⟩ := obind h
    refine aw_joinTK ⟨[en 6 (eO 0 1 k8 p8)], [.tail (p8.length * 1)]⟩ ?_ ?_
    · refine aw_block (aw_loop (fun k s => ∃ s9 s10, p_slices_Concat_byte_byte_L2 N a0 k s9 s10 = some p8 ∧ JR (Fr.f 36 0) ⟨[en 6 (eO 0 1 k8 s9), en 25 (eL 1 (eL 1 k8) a0), en 26 (j64 ((a0.length : Int))), en 27 (j64 s10)], [.tail (s9.length * 1)]⟩ s) (fun k s hI => ?_) N _ ⟨_, _, h, jr (by kernel_rfl)⟩)
      obtain ⟨s9, s10, h, hj⟩ := hI
      cases k with
      | zero => cases h
      | succ k =>
        refine aw_jr hj ?_
        obtain ⟨x11, hx11, h⟩ := letE h
        refine aw_sregU hT m_no [] (by kernel_rfl) ?_
        refine aw_nms [(28, (eB x11))] (by subst hx11; kernel_rfl) ?_
        refine aw_seq ?_
        refine aw_condH h (by kernel_rfl) (fun _ h => ?_) (fun _ h => ?_)
        · refine aw_skip (tn_n ?_)
          refine aw_seq ?_
          refine aw_block ?_
          refine aw_sreg ?_
          obtain ⟨e12, he12, h⟩ := obind h
          refine awl_big (big_idx hT (eL 1 k8) he12 (by kernel_rfl) (by kernel_rfl)) (by kernel_rfl) ?_
          refine awl_u hT m_no [] 2 (by kernel_rfl) ?_
          refine awl_nil ?_
          refine aw_region ?_
          refine awl_u hT m_no [] 2 (by kernel_rfl) ?_
          obtain ⟨z13, hz13, h⟩ := obind h
          refine awl_big (big_app hT k8 (id := 0) (k := 1) hz13 (by kernel_rfl) (by kernel_rfl)) (by kernel_rfl) ?_
          refine awl_u hT m_no [] 1 (by kernel_rfl) ?_
          refine awl_nil (inB_n (tn_n ?_))
          refine aw_regU hT m_no [] (by kernel_rfl) (tn_n ?_)
          exact ⟨k, Nat.lt_succ_self k, _, _, h, jr (by kernel_rfl)⟩
        · refine aw_exit (tn_x (tn_x (inB_e (tn_n ?_))))
          cases h
          exact jr (by kernel_rfl)
    · have h := g8
      refine (tn_n ?_)
      refine aw_sregU hT m_no [] (by kernel_rfl) ?_
      refine aw_ret ?_
      cases h
      exact fin_r (by kernel_rfl)

theorem slices_Concat_byte_byte_ok_c : callable Try.prog 114 := ⟨_, Try.func114, by decide, rfl⟩

end Go.UK
