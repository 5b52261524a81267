/- A part of the proof: what the functions of the program compute. -/
import Derived.Test.YtljnaeghnleipaaB8
namespace Go.UK
open Go Go.Proofs
set_option maxRecDepth 20000
set_option maxHeartbeats 4000000
set_option linter.all false

attribute [local irreducible] owp awl aw FnM NatFn opS Stab TOK Big
def p_poly_Mac_Sum_r_L1 (N : Nat) (r1 : (List (Vector Int 17))) (a0 : S_poly_Mac) : Nat → (Vector Int 3) → Int → Option ((Vector Int 3))
 | 0, _, _ => none
 | k + 1, s3, s4 =>
  letO (decide (s4 < ((r1.length : Int)))) fun x5 =>
  cond x5 (
   Option.bind (idx r1 s4) fun e6 =>
   Option.bind (p_poly_sum_step_rddd_q_q N e6 a0.gr0 a0.gr1 (S_poly_sum.mk s3)) fun r7 =>
   p_poly_Mac_Sum_r_L1 N r1 a0 k r7 (I64 (s4 + 1))) (
   some s3)

def p_poly_Mac_Sum_r (N : Nat) (a0 : S_poly_Mac) : Option ((Vector Int 16)) :=
 cond (!a0.gmade) (
  some (Vector.replicate 16 0)) (
  Option.bind (p_poly_Blocks N a0.grest) fun r1 =>
  Option.bind (p_poly_Mac_Sum_r_L1 N r1 a0 N a0.gsum.gh 0) fun p2 =>
  Option.bind (p_poly_sum_end N (S_poly_sum.mk p2) a0.gs0 a0.gs1) fun r8 =>
  some r8)

theorem poly_Mac_Sum_r_ok {N : Nat} {a0 : S_poly_Mac} {r : (Vector Int 16)} (h : p_poly_Mac_Sum_r N a0 = some r) : FnM Try.prog 73 [.var (S_poly_Mac.enc a0)] [(.ref 0 [] 0)] (eA 16 1 k8 r) [.var (S_poly_Mac.enc a0)] := by
 unfold p_poly_Mac_Sum_r at h
 refine fnM_of_aw (m := 51) (lo := 1) (rs := [.cell 2 88]) hT Try.func73 rfl (by kernel_rfl) rfl ?_
 refine aw_sregU hT m_no [] (by kernel_rfl) ?_
 refine aw_seq ?_
 refine aw_sreg ?_
 refine awl_u hT m_no [] 1 (by kernel_rfl) ?_
 refine awl_big (big_eqp hT (t := 124) (x := (.ref 0 [] 0)) (b := true) (by kernel_rfl) rfl rfl (by kernel_rfl)) (by kernel_rfl) ?_
 refine awl_u hT m_no [8] 7 (by kernel_rfl) ?_
 refine awl_nil ?_
 refine aw_condH h (by kernel_rfl) (fun _ h => ?_) (fun _ h => ?_)
 ·refine aw_sregU hT m_no [] (by kernel_rfl) ?_
  refine aw_ret (tn_r ?_)
  cases h
  exact fin_r
 ·refine aw_skip (tn_n ?_)
  refine aw_sregU hT m_no [] (by kernel_rfl) ?_
  refine aw_seq ?_
  refine aw_sreg ?_
  refine awl_u hT m_no [] 4 (by kernel_rfl) ?_
  obtain ⟨r1, hr1, h⟩ := obind h
  refine awl_big (big_call [] (poly_Blocks_ok hr1) poly_Blocks_ok_c) (by kernel_rfl) ?_
  refine awl_u hT m_no [] 2 (by kernel_rfl) ?_
  refine awl_nil ?_
  obtain ⟨p2, h, g2⟩ := obind h
  refine aw_joinTK ⟨[en 0 (.ref 0 [] 0), en 2 (.ref 1 [] 0), en 3 (.ref 2 [] 0)], [.var (S_poly_Mac.enc a0), .var (eA 16 1 k8 (Vector.replicate 16 0)), .var (.st 3 [(eA 3 1 k64 p2)])]⟩ ?_ ?_
  ·refine aw_block (aw_loop (fun k s => ∃ s3 s4, p_poly_Mac_Sum_r_L1 N r1 a0 k s3 s4 = some p2 ∧ JR (Fr.f 51 1) ⟨[en 0 (.ref 0 [] 0), en 2 (.ref 1 [] 0), en 3 (.ref 2 [] 0), en 24 (eL 17 (eA 17 1 k8) r1), en 25 (j64 ((r1.length : Int))), en 26 (j64 s4)], [.var (S_poly_Mac.enc a0), .var (eA 16 1 k8 (Vector.replicate 16 0)), .var (.st 3 [(eA 3 1 k64 s3)])]⟩ s) (fun k s hI => ?_) N _ ⟨_, _, h, jr⟩)
   obtain ⟨s3, s4, h, hj⟩ := hI
   cases k with
   | zero => cases h
   | succ k =>
    refine aw_jr hj ?_
    obtain ⟨x5, hx5, h⟩ := letE h
    refine aw_sregU hT m_no [] (by kernel_rfl) ?_
    refine aw_nms [(27, (eB x5))] (by subst hx5; kernel_rfl) ?_
    refine aw_seq ?_
    refine aw_condH h (by kernel_rfl) (fun _ h => ?_) (fun _ h => ?_)
    ·refine aw_skip (tn_n ?_)
     refine aw_seq ?_
     refine aw_block ?_
     refine aw_sreg ?_
     obtain ⟨e6, he6, h⟩ := obind h
     refine awl_big (big_idx hT (eA 17 1 k8) he6) (by kernel_rfl) ?_
     refine awl_u hT m_no [] 3 (by kernel_rfl) ?_
     refine awl_nil ?_
     obtain ⟨r7, hr7, h⟩ := obind h
     refine aw_drawM hT hmo m_no [] [(9, fun _ => ((.tup []), [.var (S_poly_Mac.enc a0), .var (eA 16 1 k8 (Vector.replicate 16 0)), .var (.st 3 [(eA 3 1 k64 r7)]), .var (eA 17 1 k8 e6)]))] (by kernel_rfl) (by kernel_rfl) (by kernel_rfl) trivial ⟨big_at (big_call [2] (poly_sum_step_rddd_q_q_ok hr7) poly_sum_step_rddd_q_q_ok_c), trivial⟩ (inB_n (tn_n ?_))
     refine aw_regU hT m_no [] (by kernel_rfl) (tn_n ?_)
     exact ⟨k, Nat.lt_succ_self k, _, _, h, jr⟩
    ·refine aw_exit (tn_x (tn_x (inB_e (tn_n ?_))))
     cases h
     exact jr
  ·have h := g2
   refine (tn_n ?_)
   obtain ⟨r8, hr8, h⟩ := obind h
   refine aw_sdrawV hT hmo m_no [(9, (eA 16 1 k8 r8))] [] (by kernel_rfl) (by kernel_rfl) (by kernel_rfl) ⟨fun _ => big_call0 (poly_sum_end_ok hr8) poly_sum_end_ok_c (by kernel_rfl) (by kernel_rfl) (by kernel_rfl), trivial⟩ trivial ?_
   refine aw_ret ?_
   cases h
   exact fin_r

theorem poly_Mac_Sum_r_ok_c : callable Try.prog 73 := ⟨_, Try.func73, by decide, rfl⟩

def m_poly_Tag : Nat → Bool := imL [2]

def p_poly_Tag (N : Nat) (a0 : (Vector Int 32)) (a1 : (List (List Int))) : Option ((Vector Int 16)) :=
 Option.bind (p_poly_New N a0) fun r1 =>
 Option.bind (p_poly_Mac_Add_rd N [] a1 (S_poly_sum.mk (#v[0, 0, 0])) true r1.1 r1.2.1 r1.2.2.1 r1.2.2.2 0) fun r2 =>
 Option.bind (p_poly_Mac_Sum_r N (S_poly_Mac.mk (S_poly_sum.mk r2.2.1) r2.2.2.1 r2.2.2.2.1 r2.2.2.2.2.1 r2.2.2.2.2.2.1 r2.2.2.2.2.2.2.1 r2.2.2.2.2.2.2.2.1 r2.2.2.2.2.2.2.2.2)) fun r3 =>
 some r3

theorem poly_Tag_ok {N : Nat} {a0 : (Vector Int 32)} {a1 : (List (List Int))} {r : (Vector Int 16)} (h : p_poly_Tag N a0 a1 = some r) : FnM Try.prog 61 [] [(eA 32 1 k8 a0), (eL 1 (eL 1 k8) a1)] (eA 16 1 k8 r) [] := by
 unfold p_poly_Tag at h
 refine fnM_of_aw (m := 13) (lo := 0) (rs := [.cell 4 88]) hT Try.func61 rfl (by kernel_rfl) rfl ?_
 refine aw_sregU hT m_poly_Tag [] (by kernel_rfl) ?_
 refine aw_sreg ?_
 refine awl_u hT m_poly_Tag [] 1 (by kernel_rfl) ?_
 obtain ⟨r1, hr1, h⟩ := obind h
 refine awl_big (big_call [] (poly_New_ok hr1) poly_New_ok_c) (by kernel_rfl) ?_
 refine awl_u hT m_poly_Tag [] 1 (by kernel_rfl) ?_
 refine awl_nil ?_
 refine aw_sreg ?_
 refine awl_u hT m_poly_Tag [] 2 (by kernel_rfl) ?_
 refine awl_own_box 2 1 [6] ?_
 obtain ⟨r2, hr2, h⟩ := obind h
 refine awl_big (big_call [2, 3] (poly_Mac_Add_rd_ok hr2) poly_Mac_Add_rd_ok_c) (by kernel_rfl) ?_
 refine awl_nil ?_
 refine aw_sreg ?_
 refine awl_u hT m_poly_Tag [] 1 (by kernel_rfl) ?_
 obtain ⟨r3, hr3, h⟩ := obind h
 refine awl_big (big_call [2] (poly_Mac_Sum_r_ok hr3) poly_Mac_Sum_r_ok_c) (by kernel_rfl) ?_
 refine awl_u hT m_poly_Tag [] 1 (by kernel_rfl) ?_
 refine awl_nil ?_
 refine aw_ret ?_
 cases h
 exact fin_r

theorem poly_Tag_ok_c : callable Try.prog 61 := ⟨_, Try.func61, by decide, rfl⟩

def m_aead_Mac : Nat → Bool := imL [4, 5]

def p_aead_Mac_L1 (N : Nat) (a2 : (List Int)) (a3 : (List Int)) : Nat → (Vector Int 16) → Int → Option ((Vector Int 16))
 | 0, _, _ => none
 | k + 1, s2, s3 =>
  cond (decide (s3 < 8)) (
   Option.bind (shrO .i64 ((a2.length : Int)) (I64 (8 * s3))) fun x4 =>
   Option.bind (shrO .i64 ((a3.length : Int)) (I64 (8 * s3))) fun x5 =>
   Option.bind (inRO s3 16) fun _ =>
   Option.bind (s2.toList[s3.toNat]?) fun e7 =>
   Option.bind (inRO (I64 (8 + s3)) 16) fun _ =>
   Option.bind ((s2.setIfInBounds s3.toNat (U8 x4)).toList[(I64 (8 + s3)).toNat]?) fun e9 =>
   p_aead_Mac_L1 N a2 a3 k ((s2.setIfInBounds s3.toNat (U8 x4)).setIfInBounds ((I64 (8 + s3)).toNat) (U8 x5)) (I64 (s3 + 1))) (
   some s2)

def p_aead_Mac (N : Nat) (a0 : (Vector Int 32)) (a1 : (Vector Int 12)) (a2 : (List Int)) (a3 : (List Int)) : Option ((Vector Int 16)) :=
 Option.bind (p_aead_Mac_L1 N a2 a3 N (Vector.replicate 16 0) 0) fun p1 =>
 Option.bind (p_aead_Key N a0 a1) fun r10 =>
 Option.bind (p_aead_Mac_1 N a2) fun r11 =>
 Option.bind (p_aead_Mac_1 N a3) fun r12 =>
 Option.bind (slcO p1.toList 0 16) fun s13 =>
 Option.bind (p_poly_Tag N r10 ([a2, r11, a3, r12, s13])) fun r14 =>
 some r14

theorem aead_Mac_ok {N : Nat} {a0 : (Vector Int 32)} {a1 : (Vector Int 12)} {a2 : (List Int)} {a3 : (List Int)} {r : (Vector Int 16)} (h : p_aead_Mac N a0 a1 a2 a3 = some r) : FnM Try.prog 37 [] [(eA 32 1 k8 a0), (eA 12 1 k8 a1), (eL 1 k8 a2), (eL 1 k8 a3)] (eA 16 1 k8 r) [] := by
 unfold p_aead_Mac at h
 refine fnM_of_aw (m := 47) (lo := 0) (rs := [.cell 8 88]) hT Try.func37 rfl (by kernel_rfl) rfl ?_
 refine aw_sregU hT m_aead_Mac [] (by kernel_rfl) ?_
 refine aw_sregU hT m_aead_Mac [] (by kernel_rfl) ?_
 refine aw_sregU hT m_aead_Mac [] (by kernel_rfl) ?_
 refine aw_seq ?_
 refine aw_sregU hT m_aead_Mac [] (by kernel_rfl) ?_
 obtain ⟨p1, h, g1⟩ := obind h
 refine aw_joinTK ⟨[en 2 (eL 1 k8 a2), en 3 (eL 1 k8 a3), en 4 (.im (eA 32 1 k8 a0)), en 5 (.im (eA 12 1 k8 a1)), en 8 (.ref 0 [] 0), en 9 (.fn (.func 60) [] []), en 10 (.ref 1 [] 0)], [.var (eA 16 1 k8 (Vector.replicate 16 0)), .var (eA 16 1 k8 p1)]⟩ ?_ ?_
 ·refine aw_block (aw_loop (fun k s => ∃ s2 s3, p_aead_Mac_L1 N a2 a3 k s2 s3 = some p1 ∧ JR (Fr.f 47 0) ⟨[en 2 (eL 1 k8 a2), en 3 (eL 1 k8 a3), en 4 (.im (eA 32 1 k8 a0)), en 5 (.im (eA 12 1 k8 a1)), en 8 (.ref 0 [] 0), en 9 (.fn (.func 60) [] []), en 10 (.ref 1 [] 0), en 12 (j64 s3)], [.var (eA 16 1 k8 (Vector.replicate 16 0)), .var (eA 16 1 k8 s2)]⟩ s) (fun k s hI => ?_) N _ ⟨_, _, h, jr⟩)
  obtain ⟨s2, s3, h, hj⟩ := hI
  cases k with
  | zero => cases h
  | succ k =>
   refine aw_jr hj ?_
   refine aw_sregU hT m_aead_Mac [] (by kernel_rfl) ?_
   refine aw_seq ?_
   refine aw_condH h (by kernel_rfl) (fun _ h => ?_) (fun _ h => ?_)
   ·refine aw_skip (tn_n ?_)
    refine aw_seq ?_
    refine aw_block ?_
    refine aw_sregU hT m_aead_Mac [] (by kernel_rfl) ?_
    obtain ⟨x4, hx4, h⟩ := obind h
    obtain ⟨x5, hx5, h⟩ := obind h
    obtain ⟨u6, hu6, h⟩ := obind h
    obtain ⟨e7, he7, h⟩ := obind h
    obtain ⟨u8, hu8, h⟩ := obind h
    obtain ⟨e9, he9, h⟩ := obind h
    refine aw_drawM hT hmo m_aead_Mac [(7, (j64 x4)), (13, (j64 x5)), (15, (.ref 1 [s3.toNat] (0 + s3.toNat * 1))), (17, (.ref 1 [(I64 (8 + s3)).toNat] (0 + (I64 (8 + s3)).toNat * 1)))] [(16, fun _ => ((.v (.bool false)), [.var (eA 16 1 k8 (Vector.replicate 16 0)), .var (eA 16 1 k8 (s2.setIfInBounds s3.toNat (U8 x4)))])), (18, fun _ => ((.v (.bool false)), [.var (eA 16 1 k8 (Vector.replicate 16 0)), .var (eA 16 1 k8 ((s2.setIfInBounds s3.toNat (U8 x4)).setIfInBounds ((I64 (8 + s3)).toNat) (U8 x5)))]))] (by kernel_rfl) (by kernel_rfl) (by kernel_rfl) ⟨fun _ => big_shr hT (k' := .i64) hx4 (by kernel_rfl) (by kernel_rfl), fun _ => big_shr hT (k' := .i64) hx5 (by kernel_rfl) (by kernel_rfl), fun _ => big_adR hT (k := 1) 1 [] 0 hu6, fun _ => big_adR hT (k := 1) 1 [] 0 hu8, trivial⟩ ⟨big_at (big_stV hT k8 0 s2 he7 (U8 x4) (by kernel_rfl) (by kernel_rfl) (H' := [.var (eA 16 1 k8 (Vector.replicate 16 0)), .var (eA 16 1 k8 (s2.setIfInBounds s3.toNat (U8 x4)))])), big_at (big_stV hT k8 0 (s2.setIfInBounds s3.toNat (U8 x4)) he9 (U8 x5) (by kernel_rfl) (by kernel_rfl) (H' := [.var (eA 16 1 k8 (Vector.replicate 16 0)), .var (eA 16 1 k8 ((s2.setIfInBounds s3.toNat (U8 x4)).setIfInBounds ((I64 (8 + s3)).toNat) (U8 x5)))])), trivial⟩ (inB_n (tn_n ?_))
    refine aw_regU hT m_aead_Mac [] (by kernel_rfl) (tn_n ?_)
    exact ⟨k, Nat.lt_succ_self k, _, _, h, jr⟩
   ·refine aw_exit (tn_x (tn_x (inB_e (tn_n ?_))))
    cases h
    exact jr
 ·have h := g1
  refine (tn_n ?_)
  refine aw_gz 1 ((eA 16 1 k8 p1)) (by kernel_rfl) (by kernel_rfl) ?_
  obtain ⟨r10, hr10, h⟩ := obind h
  obtain ⟨r11, hr11, h⟩ := obind h
  obtain ⟨r12, hr12, h⟩ := obind h
  obtain ⟨s13, hs13, h⟩ := obind h
  obtain ⟨r14, hr14, h⟩ := obind h
  refine aw_sdrawV hT hmo m_aead_Mac [(2, (eA 32 1 k8 r10)), (6, (eL 1 k8 r11)), (10, (eL 1 k8 r12)), (11, (eL 1 k8 s13)), (12, (.sl 1 5 [(eL 1 k8 a2), (eL 1 k8 r11), (eL 1 k8 a3), (eL 1 k8 r12), (eL 1 k8 s13)])), (13, (eA 16 1 k8 r14))] [] (by kernel_rfl) (by kernel_rfl) (by kernel_rfl) ⟨fun _ => big_call0 (aead_Key_ok hr10) aead_Key_ok_c (by kernel_rfl) (by kernel_rfl) (by kernel_rfl), fun _ => big_call0 (aead_Mac_1_ok hr11) aead_Mac_1_ok_c (by kernel_rfl) (by kernel_rfl) (by kernel_rfl), fun _ => big_call0 (aead_Mac_1_ok hr12) aead_Mac_1_ok_c (by kernel_rfl) (by kernel_rfl) (by kernel_rfl), fun _ => big_slI hT (N := 16) (k := 1) k8 p1 hs13, fun _ => big_row hT (x := (.sl 1 5 [(eL 1 k8 a2), (eL 1 k8 r11), (eL 1 k8 a3), (eL 1 k8 r12), (eL 1 k8 s13)])), fun _ => big_call0 (poly_Tag_ok hr14) poly_Tag_ok_c (by kernel_rfl) (by kernel_rfl) (by kernel_rfl), trivial⟩ trivial ?_
  refine aw_ret ?_
  cases h
  exact fin_r

theorem aead_Mac_ok_c : callable Try.prog 37 := ⟨_, Try.func37, by decide, rfl⟩

def m_aead_Seal : Nat → Bool := imL [4, 5]

def p_aead_Seal (N : Nat) (a0 : (Vector Int 32)) (a1 : (Vector Int 12)) (a2 : (List Int)) (a3 : (List Int)) : Option ((List Int) × Int) :=
 letO (decide (((a2.length : Int)) > 16384)) fun x1 =>
 letO (decide (((a3.length : Int)) > 16384)) fun x2 =>
 cond (cond x1 true x2) (
  some (([], 3))) (
  Option.bind (p_chacha_Xor N a0 1 a1 ([a3])) fun r3 =>
  Option.bind (p_aead_Mac N a0 a1 a2 r3) fun r4 =>
  Option.bind (slcO r4.toList 0 16) fun s6 =>
  Option.bind (p_slices_Concat_byte_byte N ([r3, s6])) fun r7 =>
  some ((r7, 0)))

theorem aead_Seal_ok {N : Nat} {a0 : (Vector Int 32)} {a1 : (Vector Int 12)} {a2 : (List Int)} {a3 : (List Int)} {r : (List Int) × Int} (h : p_aead_Seal N a0 a1 a2 a3 = some r) : FnM Try.prog 21 [] [(eA 32 1 k8 a0), (eA 12 1 k8 a1), (eL 1 k8 a2), (eL 1 k8 a3)] (.tup [(eL 1 k8 r.1), (j64 r.2)]) [] := by
 unfold p_aead_Seal at h
 refine fnM_of_aw (m := 34) (lo := 0) (rs := [.tmp 8, .tmp 9]) hT Try.func21 rfl (by kernel_rfl) rfl ?_
 refine aw_sregU hT m_aead_Seal [] (by kernel_rfl) ?_
 refine aw_seq ?_
 obtain ⟨x1, hx1, h⟩ := letE h
 obtain ⟨x2, hx2, h⟩ := letE h
 refine aw_sregU hT m_aead_Seal [] (by kernel_rfl) ?_
 refine aw_nms [(19, (eB (cond x1 true x2)))] (by subst hx2 hx1; kernel_rfl) ?_
 refine aw_condH h (by kernel_rfl) (fun _ h => ?_) (fun _ h => ?_)
 ·refine aw_sregU hT m_aead_Seal [] (by kernel_rfl) ?_
  refine aw_ret (tn_r ?_)
  cases h
  exact fin_r
 ·refine aw_skip (tn_n ?_)
  refine aw_sreg ?_
  refine awl_u hT m_aead_Seal [] 3 (by kernel_rfl) ?_
  refine awl_big (big_row hT (x := (.sl 1 1 [(eL 1 k8 a3)]))) (by kernel_rfl) ?_
  obtain ⟨r3, hr3, h⟩ := obind h
  refine awl_big (big_call [] (chacha_Xor_ok hr3) chacha_Xor_ok_c) (by kernel_rfl) ?_
  refine awl_u hT m_aead_Seal [] 1 (by kernel_rfl) ?_
  refine awl_nil ?_
  refine aw_sreg ?_
  refine awl_u hT m_aead_Seal [] 4 (by kernel_rfl) ?_
  obtain ⟨r4, hr4, h⟩ := obind h
  refine awl_big (big_call [] (aead_Mac_ok hr4) aead_Mac_ok_c) (by kernel_rfl) ?_
  first | refine awl_to ⟨[en 10 (eL 1 k8 r3), en 29 (eA 16 1 k8 r4)], []⟩ (by kernel_rfl) ?_ | skip
  refine awl_u hT m_aead_Seal [] 2 (by kernel_rfl) ?_
  refine awl_nil ?_
  refine aw_sreg ?_
  refine awl_u hT m_aead_Seal [] 1 (by kernel_rfl) ?_
  refine awl_gz 0 ((eA 16 1 k8 r4)) (by kernel_rfl) (by kernel_rfl) ?_
  obtain ⟨s6, hs6, h⟩ := obind h
  refine awl_big (big_slI hT (N := 16) (k := 1) k8 r4 hs6) (by kernel_rfl) ?_
  refine awl_big (big_row hT (x := (.sl 1 2 [(eL 1 k8 r3), (eL 1 k8 s6)]))) (by kernel_rfl) ?_
  obtain ⟨r7, hr7, h⟩ := obind h
  refine awl_big (big_call [] (slices_Concat_byte_byte_ok hr7) slices_Concat_byte_byte_ok_c) (by kernel_rfl) ?_
  refine awl_u hT m_aead_Seal [] 2 (by kernel_rfl) ?_
  refine awl_nil ?_
  refine aw_ret ?_
  cases h
  exact fin_r

theorem aead_Seal_ok_c : callable Try.prog 21 := ⟨_, Try.func21, by decide, rfl⟩

def p_bundle_chunks (N : Nat) (a0 : (List Int)) : Option (Unit) :=
 some (())

theorem bundle_chunks_ok {N : Nat} {a0 : (List Int)} {r : Unit} (h : p_bundle_chunks N a0 = some r) : FnM Try.prog 22 [] [(eL 1 k8 a0)] (.fn (.func 41) [] [(.ref 0 [] 0)]) [.var (eL 1 k8 a0)] := by
 unfold p_bundle_chunks at h
 refine fnM_of_aw (m := 4) (lo := 0) (rs := [.tmp 2]) hT Try.func22 rfl (by kernel_rfl) rfl ?_
 refine aw_sregU hT m_no [] (by kernel_rfl) ?_
 refine aw_sreg ?_
 refine awl_big (big_mkf (x := (.fn (.func 41) [] [(.ref 0 [] 0)])) (by kernel_rfl) (by kernel_rfl)) (by kernel_rfl) ?_
 refine awl_u hT m_no [] 1 (by kernel_rfl) ?_
 refine awl_nil ?_
 refine aw_ret ?_
 cases h
 exact fin_r

theorem bundle_chunks_ok_c : callable Try.prog 22 := ⟨_, Try.func22, by decide, rfl⟩

def m_bundle_Seal_R1 : Nat → Bool := imL [4, 5, 7]

def p_bundle_Seal_R1 (N : Nat) (b3 : (List Int)) (a1 : (Vector Int 32)) (a2 : (Vector Int 8)) (a3 : (List Int)) (a4 : (List Int)) (a5 : Int) (a6 : (List Int)) : Option ((List Int)) :=
 letO (U64 ((a6.length : Int))) fun x2 =>
 Option.bind (p_codec_Put N [] 2 ([U64 a5, x2])) fun r3 =>
 Option.bind (p_bundle_Nonce N a2 (I64 (a5 + 1))) fun r4 =>
 Option.bind (p_slices_Concat_byte_byte N ([r3.1, a3])) fun r5 =>
 Option.bind (p_aead_Seal N a1 r4 r5 a6) fun r6 =>
 Option.bind (appO 1 b3 r3.1) fun z7 =>
 Option.bind (appO 1 z7 r6.1) fun z8 =>
 some z8

theorem bundle_Seal_R1_ok {N : Nat} {b3 : (List Int)} {a1 : (Vector Int 32)} {a2 : (Vector Int 8)} {a3 : (List Int)} {a4 : (List Int)} {a5 : Int} {a6 : (List Int)} {r : (List Int)} (h : p_bundle_Seal_R1 N b3 a1 a2 a3 a4 a5 a6 = some r) : YldM Try.prog (siteAt 101 Try.f8.body [1, 1, 1, 1, 1, 1, 1, 1, 1, 1, 0, 1, 0]) [en 4 (.im (eA 32 1 k8 a1)), en 5 (.im (eA 8 1 k8 a2)), en 13 (.ref 0 [] 0), en 14 (.ref 1 [] 0)] [.var (eO 3 1 k8 b3), .var (eL 1 k8 a3), .var (eL 1 k8 a4), .tail (b3.length * 1)] [(j64 a5), (eL 1 k8 a6)] [.var (eO 3 1 k8 r), .var (eL 1 k8 a3), .var (eL 1 k8 a4), .tail (r.length * 1)] none := by
 unfold p_bundle_Seal_R1 at h
 refine yldM_of_aw (lo := 5) (by kernel_rfl) (fun bk rl => ?_)
 refine aw_to ⟨[en 4 (.im (eA 32 1 k8 a1)), en 5 (.im (eA 8 1 k8 a2)), en 13 (.ref 0 [] 0), en 14 (.ref 1 [] 0), en 69 (j64 a5), en 70 (eL 1 k8 a6)], [.var (eO 3 1 k8 b3), .var (eL 1 k8 a3), .var (eL 1 k8 a4), .tail (b3.length * 1), .loop rl]⟩ (by kernel_rfl) ?_
 refine aw_sregU hT m_bundle_Seal_R1 [] (by kernel_rfl) ?_
 refine aw_regU hT m_bundle_Seal_R1 [] (by kernel_rfl) ?_
 refine mid_n (by kernel_rfl) (fun rl2 => ?_)
 refine aw_block ?_
 refine aw_sreg ?_
 obtain ⟨x2, hx2, h⟩ := letE h
 refine awl_u hT m_bundle_Seal_R1 [] 5 (by kernel_rfl) ?_
 refine awl_nms [(76, (k64 x2))] (by subst hx2; kernel_rfl) ?_
 refine awl_big (big_row hT (x := (.sl 1 2 [(k64 (U64 a5)), (k64 x2)]))) (by kernel_rfl) ?_
 first | refine awl_to ⟨[en 4 (.im (eA 32 1 k8 a1)), en 5 (.im (eA 8 1 k8 a2)), en 13 (.ref 0 [] 0), en 14 (.ref 1 [] 0), en 16 (j64 a5), en 17 (eL 1 k8 a6), en 77 (.sl 1 2 [(k64 (U64 a5)), (k64 x2)])], [.var (eO 3 1 k8 b3), .var (eL 1 k8 a3), .var (eL 1 k8 a4), .tail (b3.length * 1), .loop rl2]⟩ (by kernel_rfl) ?_ | skip
 obtain ⟨r3, hr3, h⟩ := obind h
 refine awl_big (big_call [] (codec_Put_ok hr3) codec_Put_ok_c) (by kernel_rfl) ?_
 refine awl_u hT m_bundle_Seal_R1 [] 5 (by kernel_rfl) ?_
 refine awl_nil ?_
 refine aw_wk 18 ((eL 1 k8 r3.1)) ?_
 obtain ⟨r4, hr4, h⟩ := obind h
 obtain ⟨r5, hr5, h⟩ := obind h
 obtain ⟨r6, hr6, h⟩ := obind h
 refine aw_sdrawV hT hmo m_bundle_Seal_R1 [(4, (eA 12 1 k8 r4)), (7, (.sl 1 2 [(eL 1 k8 r3.1), (eL 1 k8 a3)])), (10, (.tup [(eL 1 k8 r6.1), (j64 r6.2)]))] [(8, fun _ => ((eO 6 1 k8 r5), [.var (eO 3 1 k8 b3), .var (eL 1 k8 a3), .var (eL 1 k8 a4), .tail (b3.length * 1), .loop rl2, .tail (r3.1.length * 1), .tail (r5.length * 1)]))] (by kernel_rfl) (by kernel_rfl) (by kernel_rfl) ⟨fun _ => big_call0 (bundle_Nonce_ok hr4) bundle_Nonce_ok_c (by kernel_rfl) (by kernel_rfl) (by kernel_rfl), fun _ => big_row hT (x := (.sl 1 2 [(eL 1 k8 r3.1), (eL 1 k8 a3)])), fun _ => big_call0 (aead_Seal_ok hr6) aead_Seal_ok_c (by kernel_rfl) (by kernel_rfl) (by kernel_rfl), trivial⟩ ⟨big_at (big_call [] (slices_Concat_byte_byte_ok hr5) slices_Concat_byte_byte_ok_c), trivial⟩ ?_
 refine aw_region ?_
 refine awl_u hT m_bundle_Seal_R1 [] 2 (by kernel_rfl) ?_
 obtain ⟨z7, hz7, h⟩ := obind h
 refine awl_big (big_app hT k8 (id := 3) (k := 1) hz7) (by kernel_rfl) ?_
 refine awl_u hT m_bundle_Seal_R1 [] 1 (by kernel_rfl) ?_
 obtain ⟨z8, hz8, h⟩ := obind h
 refine awl_big (big_app hT k8 (id := 3) (k := 1) hz8) (by kernel_rfl) ?_
 refine awl_u hT m_bundle_Seal_R1 [] 1 (by kernel_rfl) ?_
 refine awl_nil (inB_n ?_)
 cases h
 exact rnd_n (by kernel_rfl)

def p_bundle_chunks_1_for_bundle_Seal_R1_L1 (N : Nat) (a1 : (Vector Int 32)) (a2 : (Vector Int 8)) (a3 : (List Int)) : Nat → (List Int) → (List Int) → Int → Option ((List Int) × (List Int))
 | 0, _, _, _ => none
 | k + 1, s2, s3, s4 =>
  letO (decide (((s3.length : Int)) > 0)) fun x5 =>
  cond x5 (
   letO (imin ((s3.length : Int)) 256) fun x6 =>
   Option.bind (slc3O s3 0 x6 x6) fun s7 =>
   Option.bind (p_bundle_Seal_R1 N s2 a1 a2 a3 s3 s4 s7) fun r8 =>
   Option.bind (slcO s3 x6 ((s3.length : Int))) fun s9 =>
   p_bundle_chunks_1_for_bundle_Seal_R1_L1 N a1 a2 a3 k r8 s9 (I64 (s4 + 1))) (
   some ((s2, s3)))

def p_bundle_chunks_1_for_bundle_Seal_R1 (N : Nat) (b3 : (List Int)) (a1 : (Vector Int 32)) (a2 : (Vector Int 8)) (a3 : (List Int)) (a4 : (List Int)) : Option ((List Int) × (List Int)) :=
 Option.bind (p_bundle_chunks_1_for_bundle_Seal_R1_L1 N a1 a2 a3 N b3 a4 0) fun p1 =>
 some ((p1.1, p1.2))

theorem bundle_chunks_1_for_bundle_Seal_R1_ok {N : Nat} {b3 : (List Int)} {a1 : (Vector Int 32)} {a2 : (Vector Int 8)} {a3 : (List Int)} {a4 : (List Int)} {r : (List Int) × (List Int)} (h : p_bundle_chunks_1_for_bundle_Seal_R1 N b3 a1 a2 a3 a4 = some r) : ItM Try.prog 41 (siteAt 101 Try.f8.body [1, 1, 1, 1, 1, 1, 1, 1, 1, 1, 0, 1, 0]) [en 4 (.im (eA 32 1 k8 a1)), en 5 (.im (eA 8 1 k8 a2)), en 13 (.ref 0 [] 0), en 14 (.ref 1 [] 0)] [.var (eO 3 1 k8 b3), .var (eL 1 k8 a3), .var (eL 1 k8 a4), .tail (b3.length * 1)] [(.yld 4), (.ref 2 [] 0)] (.tup []) [.var (eO 3 1 k8 r.1), .var (eL 1 k8 a3), .var (eL 1 k8 r.2), .tail (r.1.length * 1)] none := by
 unfold p_bundle_chunks_1_for_bundle_Seal_R1 at h
 refine itM_of_aw (m := 24) (lo := 5) (rs := []) hT Try.func41 rfl (by kernel_rfl) rfl (fun fn tmps D hsz => ?_)
 refine aw_sregU hT m_no [] (by kernel_rfl) ?_
 obtain ⟨p1, h, g1⟩ := obind h
 refine aw_joinTK ⟨[], [.var (eO 3 1 k8 p1.1), .var (eL 1 k8 a3), .var (eL 1 k8 p1.2), .tail (p1.1.length * 1), .loop (((siteAt 101 Try.f8.body [1, 1, 1, 1, 1, 1, 1, 1, 1, 1, 0, 1, 0]).rcd fn tmps D none))]⟩ ?_ ?_
 ·refine aw_block (aw_loop (fun k s => ∃ s2 s3 s4, p_bundle_chunks_1_for_bundle_Seal_R1_L1 N a1 a2 a3 k s2 s3 s4 = some p1 ∧ JR (Fr.mk 24 5 none [([en 4 (.im (eA 32 1 k8 a1)), en 5 (.im (eA 8 1 k8 a2)), en 13 (.ref 0 [] 0), en 14 (.ref 1 [] 0)], tmps)] false) ⟨[en 0 (.yld 4), en 1 (.ref 2 [] 0), en 3 (j64 s4)], [.var (eO 3 1 k8 s2), .var (eL 1 k8 a3), .var (eL 1 k8 s3), .tail (s2.length * 1), .loop (((siteAt 101 Try.f8.body [1, 1, 1, 1, 1, 1, 1, 1, 1, 1, 0, 1, 0]).rcd fn tmps D none))]⟩ s) (fun k s hI => ?_) N _ ⟨_, _, _, h, jr⟩)
  obtain ⟨s2, s3, s4, h, hj⟩ := hI
  cases k with
  | zero => cases h
  | succ k =>
   refine aw_jr hj ?_
   refine aw_seq ?_
   obtain ⟨x5, hx5, h⟩ := letE h
   refine aw_sregU hT m_no [] (by kernel_rfl) ?_
   refine aw_nms [(7, (eB x5))] (by subst hx5; kernel_rfl) ?_
   refine aw_condH h (by kernel_rfl) (fun _ h => ?_) (fun _ h => ?_)
   ·refine aw_skip (tn_n ?_)
    refine aw_seq ?_
    refine aw_block ?_
    obtain ⟨x6, hx6, h⟩ := letE h
    refine aw_sregU hT m_no [] (by kernel_rfl) ?_
    refine aw_nms [(4, (j64 x6))] (by subst hx6; kernel_rfl) ?_
    refine aw_seq ?_
    refine aw_sreg ?_
    refine awl_u hT m_no [] 5 (by kernel_rfl) ?_
    obtain ⟨s7, hs7, h⟩ := obind h
    refine awl_big (big_slc3 hT (k := 1) k8 hs7 (by kernel_rfl) (by kernel_rfl)) (by kernel_rfl) ?_
    obtain ⟨r8, hr8, h⟩ := obind h
    refine awl_big (big_yld (bundle_Seal_R1_ok hr8) (fn := fn) (D := D) hsz rfl (List.mem_singleton.2 rfl) (by kernel_rfl) (by kernel_rfl)) (by kernel_rfl) ?_
    refine awl_u hT m_no [] 1 (by kernel_rfl) ?_
    refine awl_nil ?_
    refine aw_condB (b := false) (c := false) rfl (by kernel_rfl) ?_
    refine aw_skip (tn_n ?_)
    refine aw_region ?_
    refine awl_u hT m_no [] 2 (by kernel_rfl) ?_
    obtain ⟨s9, hs9, h⟩ := obind h
    refine awl_big (big_slc hT (k := 1) k8 hs9) (by kernel_rfl) ?_
    refine awl_u hT m_no [] 1 (by kernel_rfl) ?_
    refine awl_nil (inB_n (tn_n ?_))
    refine aw_regU hT m_no [] (by kernel_rfl) (tn_n ?_)
    exact ⟨k, Nat.lt_succ_self k, _, _, _, h, jr⟩
   ·refine aw_exit (tn_x (tn_x (inB_e (tn_n ?_))))
    cases h
    exact jr
 ·have h := g1
  refine ?_
  cases h
  exact fin_n (by kernel_rfl)

theorem bundle_chunks_1_for_bundle_Seal_R1_ok_c : callable Try.prog 41 := ⟨_, Try.func41, by decide, rfl⟩

def m_bundle_Seal : Nat → Bool := imL [4, 5, 7]

def p_bundle_Seal (N : Nat) (a0 : (Vector Int 32)) (a1 : (Vector Int 8)) (a2 : S_api_Manifest) (a3 : S_api_Asset) : Option ((List Int) × Int) :=
 Option.bind (p_asset_Encode N a3) fun r1 =>
 cond (r1.2 != 0) (
  some (([], r1.2))) (
  cond (a2.gKind != a3.gKind) (
   some (([], 12))) (
   Option.bind (p_manifest_Chunks N ((r1.1.length : Int))) fun r2 =>
   Option.bind (p_manifest_Encode N (S_api_Manifest.mk a2.gId a2.gKind a2.gLabel a2.gMasks a2.gFrom a2.gTo ((r1.1.length : Int)) r2)) fun r3 =>
   cond (r3.2 != 0) (
    some (([], r3.2))) (
    Option.bind (slcO a1.toList 0 8) fun s4 =>
    Option.bind (p_slices_Concat_byte_byte N ([([85, 77, 66, 49] : List Int), s4, r3.1])) fun r5 =>
    Option.bind (p_bundle_Nonce N a1 0) fun r6 =>
    Option.bind (p_aead_Seal N a0 r6 r5 []) fun r7 =>
    Option.bind (appO 1 r5 r7.1) fun z8 =>
    Option.bind (p_bundle_chunks N r1.1) fun r9 =>
    Option.bind (p_bundle_chunks_1_for_bundle_Seal_R1 N z8 a0 a1 r7.1 r1.1) fun r10 =>
    some ((r10.1, 0)))))

theorem bundle_Seal_ok {N : Nat} {a0 : (Vector Int 32)} {a1 : (Vector Int 8)} {a2 : S_api_Manifest} {a3 : S_api_Asset} {r : (List Int) × Int} (h : p_bundle_Seal N a0 a1 a2 a3 = some r) : FnM Try.prog 8 [] [(eA 32 1 k8 a0), (eA 8 1 k8 a1), (S_api_Manifest.enc a2), (S_api_Asset.enc a3)] (.tup [(eL 1 k8 r.1), (j64 r.2)]) [] := by
 unfold p_bundle_Seal at h
 refine fnM_of_awR (m := 101) (lo := 0) (rs := [.tmp 8, .tmp 9]) hT Try.func8 rfl (by kernel_rfl) rfl ?_
 refine aw_sregU hT m_bundle_Seal [] (by kernel_rfl) ?_
 refine aw_sreg ?_
 refine awl_u hT m_bundle_Seal [] 1 (by kernel_rfl) ?_
 obtain ⟨r1, hr1, h⟩ := obind h
 refine awl_big (big_call [] (asset_Encode_ok hr1) asset_Encode_ok_c) (by kernel_rfl) ?_
 refine awl_u hT m_bundle_Seal [] 5 (by kernel_rfl) ?_
 refine awl_nil ?_
 refine aw_seq ?_
 refine aw_sregU hT m_bundle_Seal [] (by kernel_rfl) ?_
 refine aw_condH h (by kernel_rfl) (fun _ h => ?_) (fun _ h => ?_)
 ·refine aw_sregU hT m_bundle_Seal [] (by kernel_rfl) ?_
  refine aw_ret (tn_r ?_)
  cases h
  exact fin_r
 ·refine aw_skip (tn_n ?_)
  refine aw_seq ?_
  refine aw_sregU hT m_bundle_Seal [] (by kernel_rfl) ?_
  refine aw_condH h (by kernel_rfl) (fun _ h => ?_) (fun _ h => ?_)
  ·refine aw_sregU hT m_bundle_Seal [] (by kernel_rfl) ?_
   refine aw_ret (tn_r ?_)
   cases h
   exact fin_r
  ·refine aw_skip (tn_n ?_)
   refine aw_sreg ?_
   refine awl_u hT m_bundle_Seal [] 4 (by kernel_rfl) ?_
   obtain ⟨r2, hr2, h⟩ := obind h
   refine awl_big (big_call [] (manifest_Chunks_ok hr2) manifest_Chunks_ok_c) (by kernel_rfl) ?_
   refine awl_u hT m_bundle_Seal [] 4 (by kernel_rfl) ?_
   refine awl_nil ?_
   refine aw_sreg ?_
   refine awl_u hT m_bundle_Seal [] 1 (by kernel_rfl) ?_
   obtain ⟨r3, hr3, h⟩ := obind h
   refine awl_big (big_call [] (manifest_Encode_ok hr3) manifest_Encode_ok_c) (by kernel_rfl) ?_
   refine awl_u hT m_bundle_Seal [] 5 (by kernel_rfl) ?_
   refine awl_nil ?_
   refine aw_seq ?_
   refine aw_sregU hT m_bundle_Seal [] (by kernel_rfl) ?_
   refine aw_condH h (by kernel_rfl) (fun _ h => ?_) (fun _ h => ?_)
   ·refine aw_sregU hT m_bundle_Seal [] (by kernel_rfl) ?_
    refine aw_ret (tn_r ?_)
    cases h
    exact fin_r
   ·refine aw_skip (tn_n ?_)
    refine aw_sreg ?_
    refine awl_lit2 hT k8 (k := 1) (t := 47) (e := 5) ([85, 77, 66, 49] : List Int) rfl rfl rfl rfl rfl (by kernel_rfl) rfl rfl rfl (by kernel_rfl) (by kernel_rfl) ?_
    obtain ⟨s4, hs4, h⟩ := obind h
    refine awl_big (big_slI hT (N := 8) (k := 1) k8 a1 hs4) (by kernel_rfl) ?_
    refine awl_u hT m_bundle_Seal [] 1 (by kernel_rfl) ?_
    refine awl_wk 51 ((eL 1 k8 (([85, 77, 66, 49] : List Int)))) ?_
    refine awl_big (big_row hT (x := (.sl 1 3 [(eL 1 k8 (([85, 77, 66, 49] : List Int))), (eL 1 k8 s4), (eL 1 k8 r3.1)]))) (by kernel_rfl) ?_
    first | refine awl_to ⟨[en 4 (.im (eA 32 1 k8 a0)), en 5 (.im (eA 8 1 k8 a1)), en 10 (eL 1 k8 r1.1), en 54 (.sl 1 3 [(eL 1 k8 (([85, 77, 66, 49] : List Int))), (eL 1 k8 s4), (eL 1 k8 r3.1)])], [.var (.st 15 [(k64 a2.gId), (j64 a2.gKind), (k32 a2.gLabel), (eA 8 1 k8 a2.gMasks), (k32 a2.gFrom), (k32 a2.gTo), (j64 ((r1.1.length : Int))), (j64 r2)]), .tail ((([85, 77, 66, 49] : List Int)).length * 1)]⟩ (by kernel_rfl) ?_ | skip
    obtain ⟨r5, hr5, h⟩ := obind h
    refine awl_big (big_call [] (slices_Concat_byte_byte_ok hr5) slices_Concat_byte_byte_ok_c) (by kernel_rfl) ?_
    refine awl_u hT m_bundle_Seal [] 2 (by kernel_rfl) ?_
    refine awl_nil ?_
    obtain ⟨r6, hr6, h⟩ := obind h
    obtain ⟨r7, hr7, h⟩ := obind h
    refine aw_sdrawV hT hmo m_bundle_Seal [(2, (eA 12 1 k8 r6)), (4, (.tup [(eL 1 k8 r7.1), (j64 r7.2)]))] [] (by kernel_rfl) (by kernel_rfl) (by kernel_rfl) ⟨fun _ => big_call0 (bundle_Nonce_ok hr6) bundle_Nonce_ok_c (by kernel_rfl) (by kernel_rfl) (by kernel_rfl), fun _ => big_call0 (aead_Seal_ok hr7) aead_Seal_ok_c (by kernel_rfl) (by kernel_rfl) (by kernel_rfl), trivial⟩ trivial ?_
    refine aw_sreg ?_
    refine awl_u hT m_bundle_Seal [] 2 (by kernel_rfl) ?_
    obtain ⟨z8, hz8, h⟩ := obind h
    refine awl_big (big_app hT k8 (id := 2) (k := 1) hz8) (by kernel_rfl) ?_
    refine awl_u hT m_bundle_Seal [] 1 (by kernel_rfl) ?_
    refine awl_nil ?_
    refine aw_seq ?_
    refine aw_sreg ?_
    refine awl_u hT m_bundle_Seal [] 1 (by kernel_rfl) ?_
    obtain ⟨r9, hr9, h⟩ := obind h
    refine awl_big (big_call [] (bundle_chunks_ok hr9) bundle_chunks_ok_c) (by kernel_rfl) ?_
    refine awl_nil ?_
    refine aw_block ?_
    obtain ⟨r10, hr10, h⟩ := obind h
    refine aw_range (n := (Fr.f 101 0 true)) (t := ⟨[en 13 (.ref 3 [] 0)], [.var (.st 15 [(k64 a2.gId), (j64 a2.gKind), (k32 a2.gLabel), (eA 8 1 k8 a2.gMasks), (k32 a2.gFrom), (k32 a2.gTo), (j64 ((r1.1.length : Int))), (j64 r2)]), .tail ((([85, 77, 66, 49] : List Int)).length * 1), .tail (r10.1.length * 1), .var (eO 2 1 k8 r10.1), .var (eL 1 k8 r7.1), .var (eL 1 k8 r10.2)]⟩) (caps := [(.ref 5 [] 0)]) (g := .tmp 68) (σ0 := [3, 4, 5, 2]) (bundle_chunks_1_for_bundle_Seal_R1_ok hr10) bundle_chunks_1_for_bundle_Seal_R1_ok_c (by kernel_rfl) rfl rfl rfl (by kernel_rfl) (fun _ => by kernel_rfl) (fun _ => by kernel_rfl) (fun _ => jr) (inB_n (tn_n ?_))
    refine aw_sregU hT m_bundle_Seal [] (by kernel_rfl) ?_
    refine aw_ret ?_
    cases h
    exact fin_r

theorem bundle_Seal_ok_c : callable Try.prog 8 := ⟨_, Try.func8, by decide, rfl⟩

def p_bytes_Equal (N : Nat) (a0 : (List Int)) (a1 : (List Int)) : Option (Bool) :=
 letO (ByteArray.toList (strO a0) == ByteArray.toList (strO a1)) fun x1 =>
 some x1

theorem bytes_Equal_ok {N : Nat} {a0 : (List Int)} {a1 : (List Int)} {r : Bool} (h : p_bytes_Equal N a0 a1 = some r) : FnM Try.prog 15 [] [(eL 1 k8 a0), (eL 1 k8 a1)] (eB r) [] := by
 unfold p_bytes_Equal at h
 refine fnM_of_aw (m := 10) (lo := 0) (rs := [.tmp 4]) hT Try.func15 rfl (by kernel_rfl) rfl ?_
 refine aw_sregU hT m_no [] (by kernel_rfl) ?_
 refine aw_sreg ?_
 refine awl_u hT m_no [] 1 (by kernel_rfl) ?_
 refine awl_big (big_b2s hT a0 (v := (eL 1 k8 a0)) (e := 5) (by kernel_rfl) (by kernel_rfl) (by kernel_rfl)) (by kernel_rfl) ?_
 refine awl_u hT m_no [] 1 (by kernel_rfl) ?_
 refine awl_big (big_b2s hT a1 (v := (eL 1 k8 a1)) (e := 5) (by kernel_rfl) (by kernel_rfl) (by kernel_rfl)) (by kernel_rfl) ?_
 obtain ⟨x1, hx1, h⟩ := letE h
 refine awl_u hT m_no [] 2 (by kernel_rfl) ?_
 refine awl_nms [(4, (eB x1))] (by subst hx1; kernel_rfl) ?_
 refine awl_nil ?_
 refine aw_ret ?_
 cases h
 exact fin_r

theorem bytes_Equal_ok_c : callable Try.prog 15 := ⟨_, Try.func15, by decide, rfl⟩

def p_bytes_HasPrefix (N : Nat) (a0 : (List Int)) (a1 : (List Int)) : Option (Bool) :=
 Option.bind (letO (decide (((a0.length : Int)) ≥ ((a1.length : Int)))) fun x2 =>
 cond x2 (
  Option.bind (slcO a0 0 ((a1.length : Int))) fun s3 =>
  Option.bind (p_bytes_Equal N s3 a1) fun r4 =>
  some r4) (
  some false)) fun p1 =>
 some p1

theorem bytes_HasPrefix_ok {N : Nat} {a0 : (List Int)} {a1 : (List Int)} {r : Bool} (h : p_bytes_HasPrefix N a0 a1 = some r) : FnM Try.prog 29 [] [(eL 1 k8 a0), (eL 1 k8 a1)] (eB r) [] := by
 unfold p_bytes_HasPrefix at h
 refine fnM_of_aw (m := 18) (lo := 0) (rs := [.tmp 4]) hT Try.func29 rfl (by kernel_rfl) rfl ?_
 refine aw_sregU hT m_no [] (by kernel_rfl) ?_
 obtain ⟨p1, h, g1⟩ := obind h
 refine aw_joinT ⟨[en 4 (eB p1)], []⟩ ?_ ?_
 ·refine aw_region ?_
  obtain ⟨x2, hx2, h⟩ := letE h
  refine awl_u hT m_no [] 6 (by kernel_rfl) ?_
  refine awl_nms [(10, (eB x2))] (by subst hx2; kernel_rfl) ?_
  refine awl_split 10 h (by kernel_rfl) (fun h => ?_) (fun h => ?_)
  ·refine awl_u hT m_no [10] 3 (by kernel_rfl) ?_
   obtain ⟨s3, hs3, h⟩ := obind h
   refine awl_big (big_slc hT (k := 1) k8 hs3) (by kernel_rfl) ?_
   refine awl_u hT m_no [10] 1 (by kernel_rfl) ?_
   obtain ⟨r4, hr4, h⟩ := obind h
   refine awl_big (big_call [] (bytes_Equal_ok hr4) bytes_Equal_ok_c) (by kernel_rfl) ?_
   refine awl_u hT m_no [10] 2 (by kernel_rfl) ?_
   refine awl_nil (tn_n ?_)
   cases h
   exact jr
  ·refine awl_u hT m_no [10] 8 (by kernel_rfl) ?_
   refine awl_nil (tn_n ?_)
   cases h
   exact jr
 ·have h := g1
  refine aw_ret ?_
  cases h
  exact fin_r

theorem bytes_HasPrefix_ok_c : callable Try.prog 29 := ⟨_, Try.func29, by decide, rfl⟩

def m_poly_Same : Nat → Bool := imL [2, 3]

def p_poly_Same_L1 (N : Nat) (a0 : (Vector Int 16)) (a1 : (Vector Int 16)) : Nat → Int → Int → Option (Int)
 | 0, _, _ => none
 | k + 1, s2, s3 =>
  cond (decide (s3 < 16)) (
   Option.bind (idx a0.toList s3) fun e4 =>
   Option.bind (idx a1.toList s3) fun e5 =>
   letO (bor .u8 s2 (bxor .u8 e4 e5)) fun x6 =>
   p_poly_Same_L1 N a0 a1 k x6 (I64 (s3 + 1))) (
   some s2)

def p_poly_Same (N : Nat) (a0 : (Vector Int 16)) (a1 : (Vector Int 16)) : Option (Bool) :=
 Option.bind (p_poly_Same_L1 N a0 a1 N 0 0) fun p1 =>
 some (p1 == 0)

theorem poly_Same_ok {N : Nat} {a0 : (Vector Int 16)} {a1 : (Vector Int 16)} {r : Bool} (h : p_poly_Same N a0 a1 = some r) : FnM Try.prog 36 [] [(eA 16 1 k8 a0), (eA 16 1 k8 a1)] (eB r) [] := by
 unfold p_poly_Same at h
 refine fnM_of_aw (m := 22) (lo := 0) (rs := [.tmp 4]) hT Try.func36 rfl (by kernel_rfl) rfl ?_
 refine aw_sregU hT m_poly_Same [] (by kernel_rfl) ?_
 refine aw_sregU hT m_poly_Same [] (by kernel_rfl) ?_
 refine aw_seq ?_
 refine aw_sregU hT m_poly_Same [] (by kernel_rfl) ?_
 obtain ⟨p1, h, g1⟩ := obind h
 refine aw_joinTK ⟨[en 5 (k8 p1)], []⟩ ?_ ?_
 ·refine aw_block (aw_loop (fun k s => ∃ s2 s3, p_poly_Same_L1 N a0 a1 k s2 s3 = some p1 ∧ JR (Fr.f 22 0) ⟨[en 2 (.im (eA 16 1 k8 a0)), en 3 (.im (eA 16 1 k8 a1)), en 5 (k8 s2), en 7 (j64 s3)], []⟩ s) (fun k s hI => ?_) N _ ⟨_, _, h, jr⟩)
  obtain ⟨s2, s3, h, hj⟩ := hI
  cases k with
  | zero => cases h
  | succ k =>
   refine aw_jr hj ?_
   refine aw_sregU hT m_poly_Same [] (by kernel_rfl) ?_
   refine aw_seq ?_
   refine aw_condH h (by kernel_rfl) (fun _ h => ?_) (fun _ h => ?_)
   ·refine aw_skip (tn_n ?_)
    refine aw_seq ?_
    refine aw_block ?_
    refine aw_sregU hT m_poly_Same [] (by kernel_rfl) ?_
    obtain ⟨e4, he4, h⟩ := obind h
    obtain ⟨e5, he5, h⟩ := obind h
    obtain ⟨x6, hx6, h⟩ := letE h
    refine aw_drawN hT hmo m_poly_Same [(2, (.im (k8 e4))), (5, (.im (k8 e5)))] [] (by subst hx6; kernel_rfl) (by subst hx6; kernel_rfl) (by kernel_rfl) ⟨fun _ => big_adI hT (N := 16) (k := 1) k8 a0 he4, fun _ => big_adI hT (N := 16) (k := 1) k8 a1 he5, trivial⟩ trivial [(5, (k8 x6))] (by subst hx6; kernel_rfl) (inB_n (tn_n ?_))
    refine aw_regU hT m_poly_Same [] (by kernel_rfl) (tn_n ?_)
    exact ⟨k, Nat.lt_succ_self k, _, _, h, jr⟩
   ·refine aw_exit (tn_x (tn_x (inB_e (tn_n ?_))))
    cases h
    exact jr
 ·have h := g1
  refine (tn_n ?_)
  refine aw_sregU hT m_poly_Same [] (by kernel_rfl) ?_
  refine aw_ret ?_
  cases h
  exact fin_r

theorem poly_Same_ok_c : callable Try.prog 36 := ⟨_, Try.func36, by decide, rfl⟩

def m_aead_Open : Nat → Bool := imL [4, 5]

def p_aead_Open (N : Nat) (a0 : (Vector Int 32)) (a1 : (Vector Int 12)) (a2 : (List Int)) (a3 : (List Int)) : Option ((List Int) × Int) :=
 letO (I64 (((a3.length : Int)) - 16)) fun x1 =>
 cond (decide (x1 < 0)) (
  some (([], 4))) (
  letO (decide (((a2.length : Int)) > 16384)) fun x2 =>
  letO (cond x2 true (decide (x1 > 16384))) fun x3 =>
  cond x3 (
   some (([], 3))) (
   Option.bind (slcO a3 0 x1) fun s4 =>
   Option.bind (p_aead_Mac N a0 a1 a2 s4) fun r5 =>
   Option.bind (slcO a3 x1 ((a3.length : Int))) fun s6 =>
   Option.bind (vecO 16 s6) fun v7 =>
   Option.bind (p_poly_Same N r5 v7) fun r8 =>
   cond (!r8) (
    some (([], 6))) (
    Option.bind (p_chacha_Xor N a0 1 a1 ([s4])) fun r9 =>
    some ((r9, 0)))))

theorem aead_Open_ok {N : Nat} {a0 : (Vector Int 32)} {a1 : (Vector Int 12)} {a2 : (List Int)} {a3 : (List Int)} {r : (List Int) × Int} (h : p_aead_Open N a0 a1 a2 a3 = some r) : FnM Try.prog 16 [] [(eA 32 1 k8 a0), (eA 12 1 k8 a1), (eL 1 k8 a2), (eL 1 k8 a3)] (.tup [(eL 1 k8 r.1), (j64 r.2)]) [] := by
 unfold p_aead_Open at h
 refine fnM_of_aw (m := 46) (lo := 0) (rs := [.tmp 8, .tmp 9]) hT Try.func16 rfl (by kernel_rfl) rfl ?_
 refine aw_sregU hT m_aead_Open [] (by kernel_rfl) ?_
 obtain ⟨x1, hx1, h⟩ := letE h
 refine aw_sregU hT m_aead_Open [] (by kernel_rfl) ?_
 refine aw_nms [(10, (j64 x1))] (by subst hx1; kernel_rfl) ?_
 refine aw_seq ?_
 refine aw_block ?_
 refine aw_sregU hT m_aead_Open [] (by kernel_rfl) ?_
 refine aw_condH h (by kernel_rfl) (fun _ h => ?_) (fun _ h => ?_)
 ·refine aw_sregU hT m_aead_Open [] (by kernel_rfl) ?_
  refine aw_ret (inB_r (tn_r ?_))
  cases h
  exact fin_r
 ·obtain ⟨x2, hx2, h⟩ := letE h
  obtain ⟨x3, hx3, h⟩ := letE h
  refine aw_sregU hT m_aead_Open [] (by kernel_rfl) ?_
  refine aw_nms [(18, (eB x3))] (by subst hx3 hx2; kernel_rfl) ?_
  refine aw_condH h (by kernel_rfl) (fun _ h => ?_) (fun _ h => ?_)
  ·refine aw_sregU hT m_aead_Open [] (by kernel_rfl) ?_
   refine aw_ret (inB_r (tn_r ?_))
   cases h
   exact fin_r
  ·refine aw_skip (inB_n (tn_n ?_))
   refine aw_sreg ?_
   refine awl_u hT m_aead_Open [] 2 (by kernel_rfl) ?_
   obtain ⟨s4, hs4, h⟩ := obind h
   refine awl_big (big_slc hT (k := 1) k8 hs4) (by kernel_rfl) ?_
   refine awl_u hT m_aead_Open [] 1 (by kernel_rfl) ?_
   refine awl_nil ?_
   refine aw_seq ?_
   obtain ⟨r5, hr5, h⟩ := obind h
   obtain ⟨s6, hs6, h⟩ := obind h
   obtain ⟨v7, hv7, h⟩ := obind h
   obtain ⟨r8, hr8, h⟩ := obind h
   refine aw_sdrawV hT hmo m_aead_Open [(4, (eA 16 1 k8 r5)), (7, (eL 1 k8 s6)), (8, (.im (eA 16 1 k8 v7))), (10, (eB r8))] [] (by kernel_rfl) (by kernel_rfl) (by kernel_rfl) ⟨fun _ => big_call0 (aead_Mac_ok hr5) aead_Mac_ok_c (by kernel_rfl) (by kernel_rfl) (by kernel_rfl), fun _ => big_slc hT (k := 1) k8 hs6, fun _ => big_s2a hT k8 s6 v7 hv7 rfl (by kernel_rfl) (by kernel_rfl), fun _ => big_call0 (poly_Same_ok hr8) poly_Same_ok_c (by kernel_rfl) (by kernel_rfl) (by kernel_rfl), trivial⟩ trivial ?_
   refine aw_condH h (by kernel_rfl) (fun _ h => ?_) (fun _ h => ?_)
   ·refine aw_sregU hT m_aead_Open [] (by kernel_rfl) ?_
    refine aw_ret (tn_r ?_)
    cases h
    exact fin_r
   ·refine aw_skip (tn_n ?_)
    refine aw_sreg ?_
    refine awl_u hT m_aead_Open [] 3 (by kernel_rfl) ?_
    refine awl_big (big_row hT (x := (.sl 1 1 [(eL 1 k8 s4)]))) (by kernel_rfl) ?_
    obtain ⟨r9, hr9, h⟩ := obind h
    refine awl_big (big_call [] (chacha_Xor_ok hr9) chacha_Xor_ok_c) (by kernel_rfl) ?_
    refine awl_u hT m_aead_Open [] 2 (by kernel_rfl) ?_
    refine awl_nil ?_
    refine aw_ret ?_
    cases h
    exact fin_r

theorem aead_Open_ok_c : callable Try.prog 16 := ⟨_, Try.func16, by decide, rfl⟩

end Go.UK

