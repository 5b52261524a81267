/- A part of the proof: what the functions of the program compute. -/
import Derived.Test.YtljnaeghnleipaaB4
namespace Go.UK
open Go Go.Proofs
set_option maxRecDepth 20000
set_option maxHeartbeats 4000000
set_option linter.all false

attribute [local irreducible] owp awl aw FnM NatFn opS Stab TOK Big
def m_bundle_Nonce : Nat → Bool := imL [2]

def p_bundle_Nonce_L1 (N : Nat) (a1 : Int) : Nat → (Vector Int 12) → Int → Option ((Vector Int 12))
 | 0, _, _ => none
 | k + 1, s5, s6 =>
  cond (decide (s6 < 4)) (
   Option.bind (shrO .i64 a1 (I64 (8 * s6))) fun x7 =>
   Option.bind (inRO (I64 (8 + s6)) 12) fun _ =>
   Option.bind (s5.toList[(I64 (8 + s6)).toNat]?) fun e9 =>
   p_bundle_Nonce_L1 N a1 k (s5.setIfInBounds ((I64 (8 + s6)).toNat) (U8 x7)) (I64 (s6 + 1))) (
   some s5)

def p_bundle_Nonce (N : Nat) (a0 : (Vector Int 8)) (a1 : Int) : Option ((Vector Int 12)) :=
 Option.bind (slcB 12 0 12) fun _ =>
 Option.bind (slcO a0.toList 0 8) fun s2 =>
 Option.bind (cpV (Vector.replicate 12 0) s2 0 12) fun v3 =>
 Option.bind (p_bundle_Nonce_L1 N a1 N v3 0) fun p4 =>
 some p4

theorem bundle_Nonce_ok {N : Nat} {a0 : (Vector Int 8)} {a1 : Int} {r : (Vector Int 12)} (h : p_bundle_Nonce N a0 a1 = some r) : FnM Try.prog 17 [] [(eA 8 1 k8 a0), (j64 a1)] (eA 12 1 k8 r) [] := by
 unfold p_bundle_Nonce at h
 refine fnM_of_aw (m := 23) (lo := 0) (rs := [.cell 4 63]) hT Try.func17 rfl (by kernel_rfl) rfl ?_
 refine aw_sregU hT m_bundle_Nonce [] (by kernel_rfl) ?_
 refine aw_sregU hT m_bundle_Nonce [] (by kernel_rfl) ?_
 obtain ⟨s1, hs1, h⟩ := obind h
 obtain ⟨s2, hs2, h⟩ := obind h
 obtain ⟨v3, hv3, h⟩ := obind h
 refine aw_sdrawV hT hmo m_bundle_Nonce [(0, (.bsl 1 [] 0 1 0 12)), (1, (eL 1 k8 s2))] [(2, fun _ => ((j64 (((min s2.length 12 : Nat) : Int))), [.var (eA 12 1 k8 (Vector.replicate 12 0)), .var (eA 12 1 k8 v3)]))] (by kernel_rfl) (by kernel_rfl) (by kernel_rfl) ⟨fun _ => big_slR hT (k := 1) 1 [] 0 hs1 (by kernel_rfl) (by kernel_rfl) (by decide), fun _ => big_slI hT (N := 8) (k := 1) k8 a0 hs2, trivial⟩ ⟨big_at (big_cpyV hT k8 (id := 1) (path := []) (off := 0) (H' := [.var (eA 12 1 k8 (Vector.replicate 12 0)), .var (eA 12 1 k8 v3)]) hv3 (by kernel_rfl) (by kernel_rfl) (by kernel_rfl)), trivial⟩ ?_
 refine aw_seq ?_
 refine aw_sregU hT m_bundle_Nonce [] (by kernel_rfl) ?_
 obtain ⟨p4, h, g4⟩ := obind h
 refine aw_joinTK ⟨[en 4 (.ref 0 [] 0), en 5 (.ref 1 [] 0)], [.var (eA 12 1 k8 (Vector.replicate 12 0)), .var (eA 12 1 k8 p4)]⟩ ?_ ?_
 ·refine aw_block (aw_loop (fun k s => ∃ s5 s6, p_bundle_Nonce_L1 N a1 k s5 s6 = some p4 ∧ JR (Fr.f 23 0) ⟨[en 1 (j64 a1), en 4 (.ref 0 [] 0), en 5 (.ref 1 [] 0), en 10 (j64 s6)], [.var (eA 12 1 k8 (Vector.replicate 12 0)), .var (eA 12 1 k8 s5)]⟩ s) (fun k s hI => ?_) N _ ⟨_, _, h, jr⟩)
  obtain ⟨s5, s6, h, hj⟩ := hI
  cases k with
  | zero => cases h
  | succ k =>
   refine aw_jr hj ?_
   refine aw_sregU hT m_bundle_Nonce [] (by kernel_rfl) ?_
   refine aw_seq ?_
   refine aw_condH h (by kernel_rfl) (fun _ h => ?_) (fun _ h => ?_)
   ·refine aw_skip (tn_n ?_)
    refine aw_seq ?_
    refine aw_block ?_
    refine aw_sregU hT m_bundle_Nonce [] (by kernel_rfl) ?_
    refine aw_region ?_
    refine awl_u hT m_bundle_Nonce [] 5 (by kernel_rfl) ?_
    obtain ⟨x7, hx7, h⟩ := obind h
    refine awl_big (big_shr hT (k' := .i64) hx7 (by kernel_rfl) (by kernel_rfl)) (by kernel_rfl) ?_
    refine awl_u hT m_bundle_Nonce [] 1 (by kernel_rfl) ?_
    obtain ⟨u8, hu8, h⟩ := obind h
    refine awl_big (big_adR hT (k := 1) 1 [] 0 hu8) (by kernel_rfl) ?_
    obtain ⟨e9, he9, h⟩ := obind h
    refine awl_big (big_stV hT k8 0 s5 he9 (U8 x7) (by kernel_rfl) (by kernel_rfl) (H' := [.var (eA 12 1 k8 (Vector.replicate 12 0)), .var (eA 12 1 k8 (s5.setIfInBounds ((I64 (8 + s6)).toNat) (U8 x7)))])) (by kernel_rfl) ?_
    refine awl_nil (inB_n (tn_n ?_))
    refine aw_regU hT m_bundle_Nonce [] (by kernel_rfl) (tn_n ?_)
    exact ⟨k, Nat.lt_succ_self k, _, _, h, jr⟩
   ·refine aw_exit (tn_x (tn_x (inB_e (tn_n ?_))))
    cases h
    exact jr
 ·have h := g4
  refine (tn_n ?_)
  refine aw_sregU hT m_bundle_Nonce [] (by kernel_rfl) ?_
  refine aw_ret ?_
  cases h
  exact fin_r

theorem bundle_Nonce_ok_c : callable Try.prog 17 := ⟨_, Try.func17, by decide, rfl⟩

def p_chacha_number (N : Nat) (a0 : (List Int)) : Option (Int) :=
 Option.bind (idx a0 0) fun e1 =>
 Option.bind (idx a0 1) fun e2 =>
 letO (bor .u32 (U32 e1) (shl .u32 (U32 e2) 8)) fun x3 =>
 Option.bind (idx a0 2) fun e4 =>
 letO (bor .u32 x3 (shl .u32 (U32 e4) 16)) fun x5 =>
 Option.bind (idx a0 3) fun e6 =>
 letO (bor .u32 x5 (shl .u32 (U32 e6) 24)) fun x7 =>
 some x7

theorem chacha_number_ok {N : Nat} {a0 : (List Int)} {r : Int} (h : p_chacha_number N a0 = some r) : FnM Try.prog 100 [] [(eL 1 k8 a0)] (k32 r) [] := by
 unfold p_chacha_number at h
 refine fnM_of_aw (m := 25) (lo := 0) (rs := [.tmp 2]) hT Try.func100 rfl (by kernel_rfl) rfl ?_
 refine aw_sregU hT m_no [] (by kernel_rfl) ?_
 obtain ⟨e1, he1, h⟩ := obind h
 obtain ⟨e2, he2, h⟩ := obind h
 obtain ⟨x3, hx3, h⟩ := letE h
 obtain ⟨e4, he4, h⟩ := obind h
 obtain ⟨x5, hx5, h⟩ := letE h
 obtain ⟨e6, he6, h⟩ := obind h
 obtain ⟨x7, hx7, h⟩ := letE h
 refine aw_sdrawV hT hmo m_no [(1, (.im (k8 e1))), (5, (.im (k8 e2))), (11, (.im (k8 e4))), (17, (.im (k8 e6)))] [] (by subst hx7 hx5 hx3; kernel_rfl) (by subst hx7 hx5 hx3; kernel_rfl) (by kernel_rfl) ⟨fun _ => big_idx hT k8 he1, fun _ => big_idx hT k8 he2, fun _ => big_idx hT k8 he4 (by subst hx3; kernel_rfl) (by subst hx3; kernel_rfl), fun _ => big_idx hT k8 he6 (by subst hx5 hx3; kernel_rfl) (by subst hx5 hx3; kernel_rfl), trivial⟩ trivial ?_
 refine aw_nms [(2, (k32 x7))] (by subst hx7 hx5 hx3; kernel_rfl) ?_
 refine aw_ret ?_
 cases h
 exact fin_r

theorem chacha_number_ok_c : callable Try.prog 100 := ⟨_, Try.func100, by decide, rfl⟩

def m_chacha_State : Nat → Bool := imL [3, 5]

def p_chacha_State_L1 (N : Nat) (a0 : (Vector Int 32)) : Nat → (Vector Int 16) → Int → Option ((Vector Int 16))
 | 0, _, _ => none
 | k + 1, s2, s3 =>
  cond (decide (s3 < 8)) (
   Option.bind (slcO a0.toList (I64 (4 * s3)) 32) fun s4 =>
   Option.bind (p_chacha_number N s4) fun r5 =>
   Option.bind (inRO (I64 (4 + s3)) 16) fun _ =>
   Option.bind (s2.toList[(I64 (4 + s3)).toNat]?) fun e7 =>
   p_chacha_State_L1 N a0 k (s2.setIfInBounds ((I64 (4 + s3)).toNat) r5) (I64 (s3 + 1))) (
   some s2)

def p_chacha_State_L2 (N : Nat) (a2 : (Vector Int 12)) : Nat → (Vector Int 16) → Int → Option ((Vector Int 16))
 | 0, _, _ => none
 | k + 1, s9, s10 =>
  cond (decide (s10 < 3)) (
   Option.bind (slcO a2.toList (I64 (4 * s10)) 12) fun s11 =>
   Option.bind (p_chacha_number N s11) fun r12 =>
   Option.bind (inRO (I64 (13 + s10)) 16) fun _ =>
   Option.bind (s9.toList[(I64 (13 + s10)).toNat]?) fun e14 =>
   p_chacha_State_L2 N a2 k (s9.setIfInBounds ((I64 (13 + s10)).toNat) r12) (I64 (s10 + 1))) (
   some s9)

def p_chacha_State (N : Nat) (a0 : (Vector Int 32)) (a1 : Int) (a2 : (Vector Int 12)) : Option ((Vector Int 16)) :=
 Option.bind (p_chacha_State_L1 N a0 N (#v[1634760805, 857760878, 2036477234, 1797285236, 0, 0, 0, 0, 0, 0, 0, 0, a1, 0, 0, 0]) 0) fun p1 =>
 Option.bind (p_chacha_State_L2 N a2 N p1 0) fun p8 =>
 some p8

theorem chacha_State_ok {N : Nat} {a0 : (Vector Int 32)} {a1 : Int} {a2 : (Vector Int 12)} {r : (Vector Int 16)} (h : p_chacha_State N a0 a1 a2 = some r) : FnM Try.prog 89 [] [(eA 32 1 k8 a0), (k32 a1), (eA 12 1 k8 a2)] (eA 16 1 k32 r) [] := by
 unfold p_chacha_State at h
 refine fnM_of_aw (m := 35) (lo := 0) (rs := [.cell 6 150]) hT Try.func89 rfl (by kernel_rfl) rfl ?_
 refine aw_sregU hT m_chacha_State [] (by kernel_rfl) ?_
 refine aw_sregU hT m_chacha_State [] (by kernel_rfl) ?_
 refine aw_seq ?_
 refine aw_sregU hT m_chacha_State [] (by kernel_rfl) ?_
 obtain ⟨p1, h, g1⟩ := obind h
 refine aw_joinTK ⟨[en 5 (.im (eA 12 1 k8 a2)), en 6 (.ref 0 [] 0), en 7 (.ref 1 [] 0)], [.var (eA 16 1 k32 (Vector.replicate 16 0)), .var (eA 16 1 k32 p1)]⟩ ?_ ?_
 ·refine aw_block (aw_loop (fun k s => ∃ s2 s3, p_chacha_State_L1 N a0 k s2 s3 = some p1 ∧ JR (Fr.f 35 0) ⟨[en 3 (.im (eA 32 1 k8 a0)), en 5 (.im (eA 12 1 k8 a2)), en 6 (.ref 0 [] 0), en 7 (.ref 1 [] 0), en 12 (j64 s3)], [.var (eA 16 1 k32 (Vector.replicate 16 0)), .var (eA 16 1 k32 s2)]⟩ s) (fun k s hI => ?_) N _ ⟨_, _, h, jr⟩)
  obtain ⟨s2, s3, h, hj⟩ := hI
  cases k with
  | zero => cases h
  | succ k =>
   refine aw_jr hj ?_
   refine aw_sregU hT m_chacha_State [] (by kernel_rfl) ?_
   refine aw_seq ?_
   refine aw_condH h (by kernel_rfl) (fun _ h => ?_) (fun _ h => ?_)
   ·refine aw_skip (tn_n ?_)
    refine aw_seq ?_
    refine aw_block ?_
    refine aw_sregU hT m_chacha_State [] (by kernel_rfl) ?_
    refine aw_region ?_
    refine awl_u hT m_chacha_State [] 4 (by kernel_rfl) ?_
    obtain ⟨s4, hs4, h⟩ := obind h
    refine awl_big (big_slI hT (N := 32) (k := 1) k8 a0 hs4) (by kernel_rfl) ?_
    first | refine awl_to ⟨[en 3 (.im (eA 32 1 k8 a0)), en 5 (.im (eA 12 1 k8 a2)), en 6 (.ref 0 [] 0), en 7 (.ref 1 [] 0), en 12 (j64 s3), en 16 (j64 (I64 (4 + s3))), en 19 (eL 1 k8 s4)], [.var (eA 16 1 k32 (Vector.replicate 16 0)), .var (eA 16 1 k32 s2)]⟩ (by kernel_rfl) ?_ | skip
    obtain ⟨r5, hr5, h⟩ := obind h
    refine awl_big (big_call [] (chacha_number_ok hr5) chacha_number_ok_c) (by kernel_rfl) ?_
    obtain ⟨u6, hu6, h⟩ := obind h
    refine awl_big (big_adR hT (k := 1) 1 [] 0 hu6) (by kernel_rfl) ?_
    obtain ⟨e7, he7, h⟩ := obind h
    refine awl_big (big_stV hT k32 0 s2 he7 r5 (by kernel_rfl) (by kernel_rfl) (H' := [.var (eA 16 1 k32 (Vector.replicate 16 0)), .var (eA 16 1 k32 (s2.setIfInBounds ((I64 (4 + s3)).toNat) r5))])) (by kernel_rfl) ?_
    refine awl_nil (inB_n (tn_n ?_))
    refine aw_regU hT m_chacha_State [] (by kernel_rfl) (tn_n ?_)
    exact ⟨k, Nat.lt_succ_self k, _, _, h, jr⟩
   ·refine aw_exit (tn_x (tn_x (inB_e (tn_n ?_))))
    cases h
    exact jr
 ·have h := g1
  refine (tn_n ?_)
  refine aw_seq ?_
  refine aw_sregU hT m_chacha_State [] (by kernel_rfl) ?_
  obtain ⟨p8, h, g8⟩ := obind h
  refine aw_joinTK ⟨[en 6 (.ref 0 [] 0), en 7 (.ref 1 [] 0)], [.var (eA 16 1 k32 (Vector.replicate 16 0)), .var (eA 16 1 k32 p8)]⟩ ?_ ?_
  ·refine aw_block (aw_loop (fun k s => ∃ s9 s10, p_chacha_State_L2 N a2 k s9 s10 = some p8 ∧ JR (Fr.f 35 0) ⟨[en 5 (.im (eA 12 1 k8 a2)), en 6 (.ref 0 [] 0), en 7 (.ref 1 [] 0), en 23 (j64 s10)], [.var (eA 16 1 k32 (Vector.replicate 16 0)), .var (eA 16 1 k32 s9)]⟩ s) (fun k s hI => ?_) N _ ⟨_, _, h, jr⟩)
   obtain ⟨s9, s10, h, hj⟩ := hI
   cases k with
   | zero => cases h
   | succ k =>
    refine aw_jr hj ?_
    refine aw_sregU hT m_chacha_State [] (by kernel_rfl) ?_
    refine aw_seq ?_
    refine aw_condH h (by kernel_rfl) (fun _ h => ?_) (fun _ h => ?_)
    ·refine aw_skip (tn_n ?_)
     refine aw_seq ?_
     refine aw_block ?_
     refine aw_sregU hT m_chacha_State [] (by kernel_rfl) ?_
     refine aw_region ?_
     refine awl_u hT m_chacha_State [] 4 (by kernel_rfl) ?_
     obtain ⟨s11, hs11, h⟩ := obind h
     refine awl_big (big_slI hT (N := 12) (k := 1) k8 a2 hs11) (by kernel_rfl) ?_
     first | refine awl_to ⟨[en 5 (.im (eA 12 1 k8 a2)), en 6 (.ref 0 [] 0), en 7 (.ref 1 [] 0), en 23 (j64 s10), en 27 (j64 (I64 (13 + s10))), en 30 (eL 1 k8 s11)], [.var (eA 16 1 k32 (Vector.replicate 16 0)), .var (eA 16 1 k32 s9)]⟩ (by kernel_rfl) ?_ | skip
     obtain ⟨r12, hr12, h⟩ := obind h
     refine awl_big (big_call [] (chacha_number_ok hr12) chacha_number_ok_c) (by kernel_rfl) ?_
     obtain ⟨u13, hu13, h⟩ := obind h
     refine awl_big (big_adR hT (k := 1) 1 [] 0 hu13) (by kernel_rfl) ?_
     obtain ⟨e14, he14, h⟩ := obind h
     refine awl_big (big_stV hT k32 0 s9 he14 r12 (by kernel_rfl) (by kernel_rfl) (H' := [.var (eA 16 1 k32 (Vector.replicate 16 0)), .var (eA 16 1 k32 (s9.setIfInBounds ((I64 (13 + s10)).toNat) r12))])) (by kernel_rfl) ?_
     refine awl_nil (inB_n (tn_n ?_))
     refine aw_regU hT m_chacha_State [] (by kernel_rfl) (tn_n ?_)
     exact ⟨k, Nat.lt_succ_self k, _, _, h, jr⟩
    ·refine aw_exit (tn_x (tn_x (inB_e (tn_n ?_))))
     cases h
     exact jr
  ·have h := g8
   refine (tn_n ?_)
   refine aw_sregU hT m_chacha_State [] (by kernel_rfl) ?_
   refine aw_ret ?_
   cases h
   exact fin_r

theorem chacha_State_ok_c : callable Try.prog 89 := ⟨_, Try.func89, by decide, rfl⟩

def p_math_bits_RotateLeft32 (N : Nat) (a0 : Int) (a1 : Int) : Option (Int) :=
 Option.bind (shlO .u32 a0 (band .u64 (U64 a1) 31)) fun x1 =>
 letO (U64 (32 - (band .u64 (U64 a1) 31))) fun x2 =>
 Option.bind (shrO .u32 a0 x2) fun x3 =>
 some (bor .u32 x1 x3)

theorem math_bits_RotateLeft32_ok {N : Nat} {a0 : Int} {a1 : Int} {r : Int} (h : p_math_bits_RotateLeft32 N a0 a1 = some r) : FnM Try.prog 101 [] [(k32 a0), (j64 a1)] (k32 r) [] := by
 unfold p_math_bits_RotateLeft32 at h
 refine fnM_of_aw (m := 17) (lo := 0) (rs := [.tmp 4]) hT Try.func101 rfl (by kernel_rfl) rfl ?_
 refine aw_sregU hT m_no [] (by kernel_rfl) ?_
 refine aw_sregU hT m_no [] (by kernel_rfl) ?_
 refine aw_sreg ?_
 refine awl_u hT m_no [] 2 (by kernel_rfl) ?_
 obtain ⟨x1, hx1, h⟩ := obind h
 refine awl_big (big_shl hT (k' := .u64) hx1 (by kernel_rfl) (by kernel_rfl)) (by kernel_rfl) ?_
 obtain ⟨x2, hx2, h⟩ := letE h
 refine awl_u hT m_no [] 3 (by kernel_rfl) ?_
 refine awl_nms [(14, (k64 x2))] (by subst hx2; kernel_rfl) ?_
 obtain ⟨x3, hx3, h⟩ := obind h
 refine awl_big (big_shr hT (k' := .u64) hx3 (by kernel_rfl) (by kernel_rfl)) (by kernel_rfl) ?_
 refine awl_u hT m_no [] 2 (by kernel_rfl) ?_
 refine awl_nil ?_
 refine aw_ret ?_
 cases h
 exact fin_r

theorem math_bits_RotateLeft32_ok_c : callable Try.prog 101 := ⟨_, Try.func101, by decide, rfl⟩

def m_chacha_Quarter : Nat → Bool := imL [1]

def p_chacha_Quarter (N : Nat) (a0 : (Vector Int 4)) : Option ((Vector Int 4)) :=
 Option.bind (idx a0.toList 0) fun e1 =>
 Option.bind (idx a0.toList 1) fun e2 =>
 Option.bind (idx a0.toList 2) fun e3 =>
 Option.bind (idx a0.toList 3) fun e4 =>
 letO (bxor .u32 e4 (U32 (e1 + e2))) fun x6 =>
 Option.bind (p_math_bits_RotateLeft32 N x6 16) fun r7 =>
 letO (bxor .u32 e2 (U32 (e3 + r7))) fun x9 =>
 Option.bind (p_math_bits_RotateLeft32 N x9 12) fun r10 =>
 letO (U32 ((U32 (e1 + e2)) + r10)) fun x11 =>
 Option.bind (p_math_bits_RotateLeft32 N (bxor .u32 r7 x11) 8) fun r12 =>
 letO (U32 ((U32 (e3 + r7)) + r12)) fun x13 =>
 Option.bind (p_math_bits_RotateLeft32 N (bxor .u32 r10 x13) 7) fun r14 =>
 some (#v[x11, r14, x13, r12])

theorem chacha_Quarter_ok {N : Nat} {a0 : (Vector Int 4)} {r : (Vector Int 4)} (h : p_chacha_Quarter N a0 = some r) : FnM Try.prog 90 [] [(eA 4 1 k32 a0)] (eA 4 1 k32 r) [] := by
 unfold p_chacha_Quarter at h
 refine fnM_of_aw (m := 48) (lo := 0) (rs := [.cell 2 154]) hT Try.func90 rfl (by kernel_rfl) rfl ?_
 refine aw_sregU hT m_chacha_Quarter [] (by kernel_rfl) ?_
 obtain ⟨e1, he1, h⟩ := obind h
 obtain ⟨e2, he2, h⟩ := obind h
 obtain ⟨e3, he3, h⟩ := obind h
 obtain ⟨e4, he4, h⟩ := obind h
 refine aw_sdrawV hT hmo m_chacha_Quarter [(0, (.im (k32 e1))), (2, (.im (k32 e2))), (4, (.im (k32 e3))), (6, (.im (k32 e4)))] [] (by kernel_rfl) (by kernel_rfl) (by kernel_rfl) ⟨fun _ => big_adI hT (N := 4) (k := 1) k32 a0 he1, fun _ => big_adI hT (N := 4) (k := 1) k32 a0 he2, fun _ => big_adI hT (N := 4) (k := 1) k32 a0 he3, fun _ => big_adI hT (N := 4) (k := 1) k32 a0 he4, trivial⟩ trivial ?_
 refine aw_sregU hT m_chacha_Quarter [] (by kernel_rfl) ?_
 refine aw_sreg ?_
 obtain ⟨x6, hx6, h⟩ := letE h
 refine awl_u hT m_chacha_Quarter [] 3 (by kernel_rfl) ?_
 refine awl_nms [(20, (k32 x6))] (by subst hx6; kernel_rfl) ?_
 obtain ⟨r7, hr7, h⟩ := obind h
 refine awl_big (big_call [] (math_bits_RotateLeft32_ok hr7) math_bits_RotateLeft32_ok_c) (by kernel_rfl) ?_
 first | refine awl_to ⟨[en 2 (.ref 0 [] 0), en 3 (k32 (U32 (e1 + e2))), en 4 (k32 e2), en 5 (k32 e3), en 21 (k32 r7)], [.var (.arr 4 1 [(k32 0), (k32 0), (k32 0), (k32 0)])]⟩ (by kernel_rfl) ?_ | skip
 refine awl_u hT m_chacha_Quarter [] 1 (by kernel_rfl) ?_
 refine awl_nil ?_
 refine aw_sregU hT m_chacha_Quarter [] (by kernel_rfl) ?_
 refine aw_sreg ?_
 obtain ⟨x9, hx9, h⟩ := letE h
 refine awl_u hT m_chacha_Quarter [] 3 (by kernel_rfl) ?_
 refine awl_nms [(27, (k32 x9))] (by subst hx9; kernel_rfl) ?_
 obtain ⟨r10, hr10, h⟩ := obind h
 refine awl_big (big_call [] (math_bits_RotateLeft32_ok hr10) math_bits_RotateLeft32_ok_c) (by kernel_rfl) ?_
 refine awl_u hT m_chacha_Quarter [] 1 (by kernel_rfl) ?_
 refine awl_nil ?_
 obtain ⟨x11, hx11, h⟩ := letE h
 refine aw_sregU hT m_chacha_Quarter [] (by kernel_rfl) ?_
 refine aw_nms [(3, (k32 x11))] (by subst hx11; kernel_rfl) ?_
 refine aw_sreg ?_
 refine awl_u hT m_chacha_Quarter [] 3 (by kernel_rfl) ?_
 obtain ⟨r12, hr12, h⟩ := obind h
 refine awl_big (big_call [] (math_bits_RotateLeft32_ok hr12) math_bits_RotateLeft32_ok_c) (by kernel_rfl) ?_
 refine awl_u hT m_chacha_Quarter [] 1 (by kernel_rfl) ?_
 refine awl_nil ?_
 obtain ⟨x13, hx13, h⟩ := letE h
 refine aw_sregU hT m_chacha_Quarter [] (by kernel_rfl) ?_
 refine aw_nms [(5, (k32 x13))] (by subst hx13; kernel_rfl) ?_
 refine aw_sreg ?_
 refine awl_u hT m_chacha_Quarter [] 3 (by kernel_rfl) ?_
 obtain ⟨r14, hr14, h⟩ := obind h
 refine awl_big (big_call [] (math_bits_RotateLeft32_ok hr14) math_bits_RotateLeft32_ok_c) (by kernel_rfl) ?_
 refine awl_u hT m_chacha_Quarter [] 1 (by kernel_rfl) ?_
 refine awl_nil ?_
 refine aw_sregU hT m_chacha_Quarter [] (by kernel_rfl) ?_
 refine aw_ret ?_
 cases h
 exact fin_r

theorem chacha_Quarter_ok_c : callable Try.prog 90 := ⟨_, Try.func90, by decide, rfl⟩

def m_chacha_Block : Nat → Bool := imL [3, 5]

def p_chacha_Block_L2 (N : Nat)  : Nat → (Vector Int 16) → Int → Option ((Vector Int 16))
 | 0, _, _ => none
 | k + 1, s6, s7 =>
  cond (decide (s7 < 8)) (
   Option.bind (idx (#v[#v[0, 4, 8, 12], #v[1, 5, 9, 13], #v[2, 6, 10, 14], #v[3, 7, 11, 15], #v[0, 5, 10, 15], #v[1, 6, 11, 12], #v[2, 7, 8, 13], #v[3, 4, 9, 14]]).toList s7) fun e8 =>
   Option.bind (inRO 0 4) fun _ =>
   Option.bind (e8.toList[(Int.toNat 0)]?) fun e10 =>
   Option.bind (inRO e10 16) fun _ =>
   Option.bind (s6.toList[e10.toNat]?) fun e12 =>
   Option.bind (inRO 1 4) fun _ =>
   Option.bind (e8.toList[(Int.toNat 1)]?) fun e14 =>
   Option.bind (inRO e14 16) fun _ =>
   Option.bind (s6.toList[e14.toNat]?) fun e16 =>
   Option.bind (inRO 2 4) fun _ =>
   Option.bind (e8.toList[(Int.toNat 2)]?) fun e18 =>
   Option.bind (inRO e18 16) fun _ =>
   Option.bind (s6.toList[e18.toNat]?) fun e20 =>
   Option.bind (inRO 3 4) fun _ =>
   Option.bind (e8.toList[(Int.toNat 3)]?) fun e22 =>
   Option.bind (inRO e22 16) fun _ =>
   Option.bind (s6.toList[e22.toNat]?) fun e24 =>
   Option.bind (p_chacha_Quarter N (#v[e12, e16, e20, e24])) fun r25 =>
   Option.bind (inRO 0 4) fun _ =>
   Option.bind (e8.toList[(Int.toNat 0)]?) fun e27 =>
   Option.bind (inRO 1 4) fun _ =>
   Option.bind (e8.toList[(Int.toNat 1)]?) fun e29 =>
   Option.bind (inRO 2 4) fun _ =>
   Option.bind (e8.toList[(Int.toNat 2)]?) fun e31 =>
   Option.bind (inRO 3 4) fun _ =>
   Option.bind (e8.toList[(Int.toNat 3)]?) fun e33 =>
   Option.bind (inRO 0 4) fun _ =>
   Option.bind (r25.toList[(Int.toNat 0)]?) fun e35 =>
   Option.bind (inRO 1 4) fun _ =>
   Option.bind (r25.toList[(Int.toNat 1)]?) fun e37 =>
   Option.bind (inRO 2 4) fun _ =>
   Option.bind (r25.toList[(Int.toNat 2)]?) fun e39 =>
   Option.bind (inRO 3 4) fun _ =>
   Option.bind (r25.toList[(Int.toNat 3)]?) fun e41 =>
   Option.bind (inRO e27 16) fun _ =>
   Option.bind (s6.toList[e27.toNat]?) fun e43 =>
   Option.bind (inRO e29 16) fun _ =>
   Option.bind ((s6.setIfInBounds e27.toNat e35).toList[e29.toNat]?) fun e45 =>
   Option.bind (inRO e31 16) fun _ =>
   Option.bind (((s6.setIfInBounds e27.toNat e35).setIfInBounds e29.toNat e37).toList[e31.toNat]?) fun e47 =>
   Option.bind (inRO e33 16) fun _ =>
   Option.bind ((((s6.setIfInBounds e27.toNat e35).setIfInBounds e29.toNat e37).setIfInBounds e31.toNat e39).toList[e33.toNat]?) fun e49 =>
   p_chacha_Block_L2 N k ((((s6.setIfInBounds e27.toNat e35).setIfInBounds e29.toNat e37).setIfInBounds e31.toNat e39).setIfInBounds e33.toNat e41) (I64 (s7 + 1))) (
   some s6)

def p_chacha_Block_L1 (N : Nat)  : Nat → (Vector Int 16) → Int → Option ((Vector Int 16))
 | 0, _, _ => none
 | k + 1, s3, s4 =>
  cond (decide (s4 < 10)) (
   Option.bind (p_chacha_Block_L2 N N s3 0) fun p5 =>
   p_chacha_Block_L1 N k p5 (I64 (s4 + 1))) (
   some s3)

def p_chacha_Block_L3 (N : Nat) (p2 : (Vector Int 16)) (r1 : (Vector Int 16)) : Nat → (Vector Int 64) → Int → Option ((Vector Int 64))
 | 0, _, _ => none
 | k + 1, s51, s52 =>
  cond (decide (s52 < 16)) (
   Option.bind (idx p2.toList s52) fun e53 =>
   Option.bind (inRO s52 16) fun _ =>
   Option.bind (r1.toList[s52.toNat]?) fun e55 =>
   letO (I64 ((I64 (4 * s52)) + 1)) fun x62 =>
   letO (I64 ((I64 (4 * s52)) + 2)) fun x63 =>
   letO (I64 ((I64 (4 * s52)) + 3)) fun x64 =>
   letO (shr .u32 (U32 (e53 + e55)) 8) fun x65 =>
   letO (shr .u32 (U32 (e53 + e55)) 16) fun x66 =>
   letO (shr .u32 (U32 (e53 + e55)) 24) fun x67 =>
   Option.bind (inRO (I64 (4 * s52)) 64) fun _ =>
   Option.bind (s51.toList[(I64 (4 * s52)).toNat]?) fun e69 =>
   Option.bind (inRO x62 64) fun _ =>
   Option.bind ((s51.setIfInBounds ((I64 (4 * s52)).toNat) (U8 (U32 (e53 + e55)))).toList[x62.toNat]?) fun e71 =>
   Option.bind (inRO x63 64) fun _ =>
   Option.bind (((s51.setIfInBounds ((I64 (4 * s52)).toNat) (U8 (U32 (e53 + e55)))).setIfInBounds x62.toNat (U8 x65)).toList[x63.toNat]?) fun e73 =>
   Option.bind (inRO x64 64) fun _ =>
   Option.bind ((((s51.setIfInBounds ((I64 (4 * s52)).toNat) (U8 (U32 (e53 + e55)))).setIfInBounds x62.toNat (U8 x65)).setIfInBounds x63.toNat (U8 x66)).toList[x64.toNat]?) fun e75 =>
   p_chacha_Block_L3 N p2 r1 k ((((s51.setIfInBounds ((I64 (4 * s52)).toNat) (U8 (U32 (e53 + e55)))).setIfInBounds x62.toNat (U8 x65)).setIfInBounds x63.toNat (U8 x66)).setIfInBounds x64.toNat (U8 x67)) (I64 (s52 + 1))) (
   some s51)

def p_chacha_Block (N : Nat) (a0 : (Vector Int 32)) (a1 : Int) (a2 : (Vector Int 12)) : Option ((Vector Int 64)) :=
 Option.bind (p_chacha_State N a0 a1 a2) fun r1 =>
 Option.bind (p_chacha_Block_L1 N N r1 0) fun p2 =>
 Option.bind (p_chacha_Block_L3 N p2 r1 N (Vector.replicate 64 0) 0) fun p50 =>
 some p50

theorem chacha_Block_ok {N : Nat} {a0 : (Vector Int 32)} {a1 : Int} {a2 : (Vector Int 12)} {r : (Vector Int 64)} (h : p_chacha_Block N a0 a1 a2 = some r) : FnM Try.prog 74 [] [(eA 32 1 k8 a0), (k32 a1), (eA 12 1 k8 a2)] (eA 64 1 k8 r) [] := by
 unfold p_chacha_Block at h
 refine fnM_of_aw (m := 114) (lo := 0) (rs := [.cell 6 128]) hT Try.func74 rfl (by kernel_rfl) rfl ?_
 refine aw_sregU hT m_chacha_Block [] (by kernel_rfl) ?_
 refine aw_sreg ?_
 refine awl_u hT m_chacha_Block [] 3 (by kernel_rfl) ?_
 obtain ⟨r1, hr1, h⟩ := obind h
 refine awl_big (big_call [] (chacha_State_ok hr1) chacha_State_ok_c) (by kernel_rfl) ?_
 refine awl_u hT m_chacha_Block [] 2 (by kernel_rfl) ?_
 refine awl_nil ?_
 refine aw_sregU hT m_chacha_Block [] (by kernel_rfl) ?_
 refine aw_sregU hT m_chacha_Block [] (by kernel_rfl) ?_
 refine aw_seq ?_
 refine aw_sregU hT m_chacha_Block [] (by kernel_rfl) ?_
 obtain ⟨p2, h, g2⟩ := obind h
 refine aw_joinTK ⟨[en 6 (.ref 0 [] 0), en 7 (.ref 1 [] 0), en 8 (.ref 2 [] 0)], [.var (eA 64 1 k8 (Vector.replicate 64 0)), .var (eA 16 1 k32 r1), .var (eA 16 1 k32 p2), .var cv_1]⟩ ?_ ?_
 ·refine aw_block (aw_loop (fun k s => ∃ s3 s4, p_chacha_Block_L1 N k s3 s4 = some p2 ∧ JR (Fr.f 114 0) ⟨[en 6 (.ref 0 [] 0), en 7 (.ref 1 [] 0), en 8 (.ref 2 [] 0), en 9 (.ref 3 [] 0), en 30 (j64 s4)], [.var (eA 64 1 k8 (Vector.replicate 64 0)), .var (eA 16 1 k32 r1), .var (eA 16 1 k32 s3), .var cv_1]⟩ s) (fun k s hI => ?_) N _ ⟨_, _, h, jr⟩)
  obtain ⟨s3, s4, h, hj⟩ := hI
  cases k with
  | zero => cases h
  | succ k =>
   refine aw_jr hj ?_
   refine aw_sregU hT m_chacha_Block [] (by kernel_rfl) ?_
   refine aw_seq ?_
   refine aw_condH h (by kernel_rfl) (fun _ h => ?_) (fun _ h => ?_)
   ·refine aw_skip (tn_n ?_)
    refine aw_seq ?_
    refine aw_block ?_
    refine aw_sregU hT m_chacha_Block [] (by kernel_rfl) ?_
    obtain ⟨p5, h, g5⟩ := obind h
    refine aw_joinTK ⟨[en 6 (.ref 0 [] 0), en 7 (.ref 1 [] 0), en 8 (.ref 2 [] 0), en 9 (.ref 3 [] 0), en 30 (j64 s4)], [.var (eA 64 1 k8 (Vector.replicate 64 0)), .var (eA 16 1 k32 r1), .var (eA 16 1 k32 p5), .var cv_1]⟩ ?_ ?_
    ·refine aw_block (aw_loop (fun k s => ∃ s6 s7, p_chacha_Block_L2 N k s6 s7 = some p5 ∧ JR (Fr.f 114 0) ⟨[en 6 (.ref 0 [] 0), en 7 (.ref 1 [] 0), en 8 (.ref 2 [] 0), en 9 (.ref 3 [] 0), en 30 (j64 s4), en 32 cv_1, en 33 (j64 s7)], [.var (eA 64 1 k8 (Vector.replicate 64 0)), .var (eA 16 1 k32 r1), .var (eA 16 1 k32 s6), .var cv_1]⟩ s) (fun k s hI => ?_) N _ ⟨_, _, h, jr⟩)
     obtain ⟨s6, s7, h, hj⟩ := hI
     cases k with
     | zero => cases h
     | succ k =>
      refine aw_jr hj ?_
      refine aw_sregU hT m_chacha_Block [] (by kernel_rfl) ?_
      refine aw_seq ?_
      refine aw_condH h (by kernel_rfl) (fun _ h => ?_) (fun _ h => ?_)
      ·refine aw_skip (tn_n ?_)
       refine aw_seq ?_
       refine aw_block ?_
       refine aw_sreg ?_
       obtain ⟨e8, he8, h⟩ := obind h
       refine awl_big (big_ixA hT (eA 4 1 j64) (#v[#v[0, 4, 8, 12], #v[1, 5, 9, 13], #v[2, 6, 10, 14], #v[3, 7, 11, 15], #v[0, 5, 10, 15], #v[1, 6, 11, 12], #v[2, 7, 8, 13], #v[3, 4, 9, 14]]) he8 (by kernel_rfl) (by kernel_rfl)) (by kernel_rfl) ?_
       refine awl_u hT m_chacha_Block [] 2 (by kernel_rfl) ?_
       refine awl_nil ?_
       obtain ⟨u9, hu9, h⟩ := obind h
       obtain ⟨e10, he10, h⟩ := obind h
       obtain ⟨u11, hu11, h⟩ := obind h
       obtain ⟨e12, he12, h⟩ := obind h
       obtain ⟨u13, hu13, h⟩ := obind h
       obtain ⟨e14, he14, h⟩ := obind h
       obtain ⟨u15, hu15, h⟩ := obind h
       obtain ⟨e16, he16, h⟩ := obind h
       obtain ⟨u17, hu17, h⟩ := obind h
       obtain ⟨e18, he18, h⟩ := obind h
       obtain ⟨u19, hu19, h⟩ := obind h
       obtain ⟨e20, he20, h⟩ := obind h
       obtain ⟨u21, hu21, h⟩ := obind h
       obtain ⟨e22, he22, h⟩ := obind h
       obtain ⟨u23, hu23, h⟩ := obind h
       obtain ⟨e24, he24, h⟩ := obind h
       obtain ⟨r25, hr25, h⟩ := obind h
       refine aw_sdrawVS hT hmo m_chacha_Block [(0, (.ref 4 [(Int.toNat 0)] (0 + (Int.toNat 0) * 1))), (1, (j64 e10)), (2, (.ref 2 [e10.toNat] (0 + e10.toNat * 1))), (3, (k32 e12)), (4, (.ref 4 [(Int.toNat 1)] (0 + (Int.toNat 1) * 1))), (5, (j64 e14)), (6, (.ref 2 [e14.toNat] (0 + e14.toNat * 1))), (7, (k32 e16)), (8, (.ref 4 [(Int.toNat 2)] (0 + (Int.toNat 2) * 1))), (9, (j64 e18)), (10, (.ref 2 [e18.toNat] (0 + e18.toNat * 1))), (11, (k32 e20)), (12, (.ref 4 [(Int.toNat 3)] (0 + (Int.toNat 3) * 1))), (13, (j64 e22)), (14, (.ref 2 [e22.toNat] (0 + e22.toNat * 1))), (15, (k32 e24)), (17, (eA 4 1 k32 r25))] [[[.var (eA 64 1 k8 (Vector.replicate 64 0)), .var (eA 16 1 k32 r1), .var (eA 16 1 k32 s6), .var cv_1, .var (eA 4 1 j64 e8)], [.var (eA 64 1 k8 (Vector.replicate 64 0)), .var (eA 16 1 k32 r1), .var (eA 16 1 k32 s6), .var cv_1, .var (eA 4 1 j64 e8), .var (.arr 4 1 [(k32 0), (k32 0), (k32 0), (k32 0)])]], [[.var (eA 64 1 k8 (Vector.replicate 64 0)), .var (eA 16 1 k32 r1), .var (eA 16 1 k32 s6), .var cv_1, .var (eA 4 1 j64 e8)], [.var (eA 64 1 k8 (Vector.replicate 64 0)), .var (eA 16 1 k32 r1), .var (eA 16 1 k32 s6), .var cv_1, .var (eA 4 1 j64 e8), .var (.arr 4 1 [(k32 0), (k32 0), (k32 0), (k32 0)])]], [[.var (eA 64 1 k8 (Vector.replicate 64 0)), .var (eA 16 1 k32 r1), .var (eA 16 1 k32 s6), .var cv_1, .var (eA 4 1 j64 e8)], [.var (eA 64 1 k8 (Vector.replicate 64 0)), .var (eA 16 1 k32 r1), .var (eA 16 1 k32 s6), .var cv_1, .var (eA 4 1 j64 e8), .var (.arr 4 1 [(k32 0), (k32 0), (k32 0), (k32 0)])]], [[.var (eA 64 1 k8 (Vector.replicate 64 0)), .var (eA 16 1 k32 r1), .var (eA 16 1 k32 s6), .var cv_1, .var (eA 4 1 j64 e8)], [.var (eA 64 1 k8 (Vector.replicate 64 0)), .var (eA 16 1 k32 r1), .var (eA 16 1 k32 s6), .var cv_1, .var (eA 4 1 j64 e8), .var (.arr 4 1 [(k32 0), (k32 0), (k32 0), (k32 0)])]], [[.var (eA 64 1 k8 (Vector.replicate 64 0)), .var (eA 16 1 k32 r1), .var (eA 16 1 k32 s6), .var cv_1, .var (eA 4 1 j64 e8)], [.var (eA 64 1 k8 (Vector.replicate 64 0)), .var (eA 16 1 k32 r1), .var (eA 16 1 k32 s6), .var cv_1, .var (eA 4 1 j64 e8), .var (.arr 4 1 [(k32 0), (k32 0), (k32 0), (k32 0)])]], [[.var (eA 64 1 k8 (Vector.replicate 64 0)), .var (eA 16 1 k32 r1), .var (eA 16 1 k32 s6), .var cv_1, .var (eA 4 1 j64 e8)], [.var (eA 64 1 k8 (Vector.replicate 64 0)), .var (eA 16 1 k32 r1), .var (eA 16 1 k32 s6), .var cv_1, .var (eA 4 1 j64 e8), .var (.arr 4 1 [(k32 0), (k32 0), (k32 0), (k32 0)])]], [[.var (eA 64 1 k8 (Vector.replicate 64 0)), .var (eA 16 1 k32 r1), .var (eA 16 1 k32 s6), .var cv_1, .var (eA 4 1 j64 e8)], [.var (eA 64 1 k8 (Vector.replicate 64 0)), .var (eA 16 1 k32 r1), .var (eA 16 1 k32 s6), .var cv_1, .var (eA 4 1 j64 e8), .var (.arr 4 1 [(k32 0), (k32 0), (k32 0), (k32 0)])]], [[.var (eA 64 1 k8 (Vector.replicate 64 0)), .var (eA 16 1 k32 r1), .var (eA 16 1 k32 s6), .var cv_1, .var (eA 4 1 j64 e8)], [.var (eA 64 1 k8 (Vector.replicate 64 0)), .var (eA 16 1 k32 r1), .var (eA 16 1 k32 s6), .var cv_1, .var (eA 4 1 j64 e8), .var (.arr 4 1 [(k32 0), (k32 0), (k32 0), (k32 0)])]], [[.var (eA 64 1 k8 (Vector.replicate 64 0)), .var (eA 16 1 k32 r1), .var (eA 16 1 k32 s6), .var cv_1, .var (eA 4 1 j64 e8)], [.var (eA 64 1 k8 (Vector.replicate 64 0)), .var (eA 16 1 k32 r1), .var (eA 16 1 k32 s6), .var cv_1, .var (eA 4 1 j64 e8), .var (.arr 4 1 [(k32 0), (k32 0), (k32 0), (k32 0)])]], [[.var (eA 64 1 k8 (Vector.replicate 64 0)), .var (eA 16 1 k32 r1), .var (eA 16 1 k32 s6), .var cv_1, .var (eA 4 1 j64 e8)], [.var (eA 64 1 k8 (Vector.replicate 64 0)), .var (eA 16 1 k32 r1), .var (eA 16 1 k32 s6), .var cv_1, .var (eA 4 1 j64 e8), .var (.arr 4 1 [(k32 0), (k32 0), (k32 0), (k32 0)])]], [[.var (eA 64 1 k8 (Vector.replicate 64 0)), .var (eA 16 1 k32 r1), .var (eA 16 1 k32 s6), .var cv_1, .var (eA 4 1 j64 e8)], [.var (eA 64 1 k8 (Vector.replicate 64 0)), .var (eA 16 1 k32 r1), .var (eA 16 1 k32 s6), .var cv_1, .var (eA 4 1 j64 e8), .var (.arr 4 1 [(k32 0), (k32 0), (k32 0), (k32 0)])]], [[.var (eA 64 1 k8 (Vector.replicate 64 0)), .var (eA 16 1 k32 r1), .var (eA 16 1 k32 s6), .var cv_1, .var (eA 4 1 j64 e8)], [.var (eA 64 1 k8 (Vector.replicate 64 0)), .var (eA 16 1 k32 r1), .var (eA 16 1 k32 s6), .var cv_1, .var (eA 4 1 j64 e8), .var (.arr 4 1 [(k32 0), (k32 0), (k32 0), (k32 0)])]], [[.var (eA 64 1 k8 (Vector.replicate 64 0)), .var (eA 16 1 k32 r1), .var (eA 16 1 k32 s6), .var cv_1, .var (eA 4 1 j64 e8)], [.var (eA 64 1 k8 (Vector.replicate 64 0)), .var (eA 16 1 k32 r1), .var (eA 16 1 k32 s6), .var cv_1, .var (eA 4 1 j64 e8), .var (.arr 4 1 [(k32 0), (k32 0), (k32 0), (k32 0)])]], [[.var (eA 64 1 k8 (Vector.replicate 64 0)), .var (eA 16 1 k32 r1), .var (eA 16 1 k32 s6), .var cv_1, .var (eA 4 1 j64 e8)], [.var (eA 64 1 k8 (Vector.replicate 64 0)), .var (eA 16 1 k32 r1), .var (eA 16 1 k32 s6), .var cv_1, .var (eA 4 1 j64 e8), .var (.arr 4 1 [(k32 0), (k32 0), (k32 0), (k32 0)])]], [[.var (eA 64 1 k8 (Vector.replicate 64 0)), .var (eA 16 1 k32 r1), .var (eA 16 1 k32 s6), .var cv_1, .var (eA 4 1 j64 e8)], [.var (eA 64 1 k8 (Vector.replicate 64 0)), .var (eA 16 1 k32 r1), .var (eA 16 1 k32 s6), .var cv_1, .var (eA 4 1 j64 e8), .var (.arr 4 1 [(k32 0), (k32 0), (k32 0), (k32 0)])]], [[.var (eA 64 1 k8 (Vector.replicate 64 0)), .var (eA 16 1 k32 r1), .var (eA 16 1 k32 s6), .var cv_1, .var (eA 4 1 j64 e8)], [.var (eA 64 1 k8 (Vector.replicate 64 0)), .var (eA 16 1 k32 r1), .var (eA 16 1 k32 s6), .var cv_1, .var (eA 4 1 j64 e8), .var (.arr 4 1 [(k32 0), (k32 0), (k32 0), (k32 0)])]], [[.var (eA 64 1 k8 (Vector.replicate 64 0)), .var (eA 16 1 k32 r1), .var (eA 16 1 k32 s6), .var cv_1, .var (eA 4 1 j64 e8)], [.var (eA 64 1 k8 (Vector.replicate 64 0)), .var (eA 16 1 k32 r1), .var (eA 16 1 k32 s6), .var cv_1, .var (eA 4 1 j64 e8), .var (.arr 4 1 [(k32 0), (k32 0), (k32 0), (k32 0)])]]] [] (by kernel_rfl) (by kernel_rfl) (by kernel_rfl) (by kernel_rfl) ⟨⟨big_adR hT (k := 1) 4 [] 0 hu9, big_adR hT (k := 1) 4 [] 0 hu9, trivial⟩, ⟨big_at (big_ldE hT j64 0 he10), big_at (big_ldE hT j64 0 he10), trivial⟩, ⟨big_adR hT (k := 1) 2 [] 0 hu11, big_adR hT (k := 1) 2 [] 0 hu11, trivial⟩, ⟨big_at (big_ldE hT k32 0 he12), big_at (big_ldE hT k32 0 he12), trivial⟩, ⟨big_adR hT (k := 1) 4 [] 0 hu13, big_adR hT (k := 1) 4 [] 0 hu13, trivial⟩, ⟨big_at (big_ldE hT j64 0 he14), big_at (big_ldE hT j64 0 he14), trivial⟩, ⟨big_adR hT (k := 1) 2 [] 0 hu15, big_adR hT (k := 1) 2 [] 0 hu15, trivial⟩, ⟨big_at (big_ldE hT k32 0 he16), big_at (big_ldE hT k32 0 he16), trivial⟩, ⟨big_adR hT (k := 1) 4 [] 0 hu17, big_adR hT (k := 1) 4 [] 0 hu17, trivial⟩, ⟨big_at (big_ldE hT j64 0 he18), big_at (big_ldE hT j64 0 he18), trivial⟩, ⟨big_adR hT (k := 1) 2 [] 0 hu19, big_adR hT (k := 1) 2 [] 0 hu19, trivial⟩, ⟨big_at (big_ldE hT k32 0 he20), big_at (big_ldE hT k32 0 he20), trivial⟩, ⟨big_adR hT (k := 1) 4 [] 0 hu21, big_adR hT (k := 1) 4 [] 0 hu21, trivial⟩, ⟨big_at (big_ldE hT j64 0 he22), big_at (big_ldE hT j64 0 he22), trivial⟩, ⟨big_adR hT (k := 1) 2 [] 0 hu23, big_adR hT (k := 1) 2 [] 0 hu23, trivial⟩, ⟨big_at (big_ldE hT k32 0 he24), big_at (big_ldE hT k32 0 he24), trivial⟩, ⟨big_call0 (chacha_Quarter_ok hr25) chacha_Quarter_ok_c (by kernel_rfl) (by kernel_rfl) (by kernel_rfl), big_call0 (chacha_Quarter_ok hr25) chacha_Quarter_ok_c (by kernel_rfl) (by kernel_rfl) (by kernel_rfl), trivial⟩, trivial⟩ trivial ?_
       obtain ⟨u26, hu26, h⟩ := obind h
       obtain ⟨e27, he27, h⟩ := obind h
       obtain ⟨u28, hu28, h⟩ := obind h
       obtain ⟨e29, he29, h⟩ := obind h
       obtain ⟨u30, hu30, h⟩ := obind h
       obtain ⟨e31, he31, h⟩ := obind h
       obtain ⟨u32, hu32, h⟩ := obind h
       obtain ⟨e33, he33, h⟩ := obind h
       obtain ⟨u34, hu34, h⟩ := obind h
       obtain ⟨e35, he35, h⟩ := obind h
       obtain ⟨u36, hu36, h⟩ := obind h
       obtain ⟨e37, he37, h⟩ := obind h
       obtain ⟨u38, hu38, h⟩ := obind h
       obtain ⟨e39, he39, h⟩ := obind h
       obtain ⟨u40, hu40, h⟩ := obind h
       obtain ⟨e41, he41, h⟩ := obind h
       obtain ⟨u42, hu42, h⟩ := obind h
       obtain ⟨e43, he43, h⟩ := obind h
       obtain ⟨u44, hu44, h⟩ := obind h
       obtain ⟨e45, he45, h⟩ := obind h
       obtain ⟨u46, hu46, h⟩ := obind h
       obtain ⟨e47, he47, h⟩ := obind h
       obtain ⟨u48, hu48, h⟩ := obind h
       obtain ⟨e49, he49, h⟩ := obind h
       refine aw_drawMS hT hmo m_chacha_Block [(0, (.ref 4 [(Int.toNat 0)] (0 + (Int.toNat 0) * 1))), (1, (j64 e27)), (2, (.ref 4 [(Int.toNat 1)] (0 + (Int.toNat 1) * 1))), (3, (j64 e29)), (4, (.ref 4 [(Int.toNat 2)] (0 + (Int.toNat 2) * 1))), (5, (j64 e31)), (6, (.ref 4 [(Int.toNat 3)] (0 + (Int.toNat 3) * 1))), (7, (j64 e33)), (8, (.ref 5 [(Int.toNat 0)] (0 + (Int.toNat 0) * 1))), (9, (k32 e35)), (10, (.ref 5 [(Int.toNat 1)] (0 + (Int.toNat 1) * 1))), (11, (k32 e37)), (12, (.ref 5 [(Int.toNat 2)] (0 + (Int.toNat 2) * 1))), (13, (k32 e39)), (14, (.ref 5 [(Int.toNat 3)] (0 + (Int.toNat 3) * 1))), (15, (k32 e41)), (16, (.ref 2 [e27.toNat] (0 + e27.toNat * 1))), (18, (.ref 2 [e29.toNat] (0 + e29.toNat * 1))), (20, (.ref 2 [e31.toNat] (0 + e31.toNat * 1))), (22, (.ref 2 [e33.toNat] (0 + e33.toNat * 1)))] [[[.var (eA 64 1 k8 (Vector.replicate 64 0)), .var (eA 16 1 k32 r1), .var (eA 16 1 k32 s6), .var cv_1, .var (eA 4 1 j64 e8), .var (eA 4 1 k32 r25)]], [[.var (eA 64 1 k8 (Vector.replicate 64 0)), .var (eA 16 1 k32 r1), .var (eA 16 1 k32 s6), .var cv_1, .var (eA 4 1 j64 e8), .var (eA 4 1 k32 r25)]], [[.var (eA 64 1 k8 (Vector.replicate 64 0)), .var (eA 16 1 k32 r1), .var (eA 16 1 k32 s6), .var cv_1, .var (eA 4 1 j64 e8), .var (eA 4 1 k32 r25)], [.var (eA 64 1 k8 (Vector.replicate 64 0)), .var (eA 16 1 k32 r1), .var (eA 16 1 k32 (s6.setIfInBounds e27.toNat e35)), .var cv_1, .var (eA 4 1 j64 e8), .var (eA 4 1 k32 r25)]], [[.var (eA 64 1 k8 (Vector.replicate 64 0)), .var (eA 16 1 k32 r1), .var (eA 16 1 k32 s6), .var cv_1, .var (eA 4 1 j64 e8), .var (eA 4 1 k32 r25)], [.var (eA 64 1 k8 (Vector.replicate 64 0)), .var (eA 16 1 k32 r1), .var (eA 16 1 k32 (s6.setIfInBounds e27.toNat e35)), .var cv_1, .var (eA 4 1 j64 e8), .var (eA 4 1 k32 r25)]], [[.var (eA 64 1 k8 (Vector.replicate 64 0)), .var (eA 16 1 k32 r1), .var (eA 16 1 k32 s6), .var cv_1, .var (eA 4 1 j64 e8), .var (eA 4 1 k32 r25)], [.var (eA 64 1 k8 (Vector.replicate 64 0)), .var (eA 16 1 k32 r1), .var (eA 16 1 k32 (s6.setIfInBounds e27.toNat e35)), .var cv_1, .var (eA 4 1 j64 e8), .var (eA 4 1 k32 r25)], [.var (eA 64 1 k8 (Vector.replicate 64 0)), .var (eA 16 1 k32 r1), .var (eA 16 1 k32 ((s6.setIfInBounds e27.toNat e35).setIfInBounds e29.toNat e37)), .var cv_1, .var (eA 4 1 j64 e8), .var (eA 4 1 k32 r25)]], [[.var (eA 64 1 k8 (Vector.replicate 64 0)), .var (eA 16 1 k32 r1), .var (eA 16 1 k32 s6), .var cv_1, .var (eA 4 1 j64 e8), .var (eA 4 1 k32 r25)], [.var (eA 64 1 k8 (Vector.replicate 64 0)), .var (eA 16 1 k32 r1), .var (eA 16 1 k32 (s6.setIfInBounds e27.toNat e35)), .var cv_1, .var (eA 4 1 j64 e8), .var (eA 4 1 k32 r25)], [.var (eA 64 1 k8 (Vector.replicate 64 0)), .var (eA 16 1 k32 r1), .var (eA 16 1 k32 ((s6.setIfInBounds e27.toNat e35).setIfInBounds e29.toNat e37)), .var cv_1, .var (eA 4 1 j64 e8), .var (eA 4 1 k32 r25)]], [[.var (eA 64 1 k8 (Vector.replicate 64 0)), .var (eA 16 1 k32 r1), .var (eA 16 1 k32 s6), .var cv_1, .var (eA 4 1 j64 e8), .var (eA 4 1 k32 r25)], [.var (eA 64 1 k8 (Vector.replicate 64 0)), .var (eA 16 1 k32 r1), .var (eA 16 1 k32 (s6.setIfInBounds e27.toNat e35)), .var cv_1, .var (eA 4 1 j64 e8), .var (eA 4 1 k32 r25)], [.var (eA 64 1 k8 (Vector.replicate 64 0)), .var (eA 16 1 k32 r1), .var (eA 16 1 k32 ((s6.setIfInBounds e27.toNat e35).setIfInBounds e29.toNat e37)), .var cv_1, .var (eA 4 1 j64 e8), .var (eA 4 1 k32 r25)], [.var (eA 64 1 k8 (Vector.replicate 64 0)), .var (eA 16 1 k32 r1), .var (eA 16 1 k32 (((s6.setIfInBounds e27.toNat e35).setIfInBounds e29.toNat e37).setIfInBounds e31.toNat e39)), .var cv_1, .var (eA 4 1 j64 e8), .var (eA 4 1 k32 r25)]], [[.var (eA 64 1 k8 (Vector.replicate 64 0)), .var (eA 16 1 k32 r1), .var (eA 16 1 k32 s6), .var cv_1, .var (eA 4 1 j64 e8), .var (eA 4 1 k32 r25)], [.var (eA 64 1 k8 (Vector.replicate 64 0)), .var (eA 16 1 k32 r1), .var (eA 16 1 k32 (s6.setIfInBounds e27.toNat e35)), .var cv_1, .var (eA 4 1 j64 e8), .var (eA 4 1 k32 r25)], [.var (eA 64 1 k8 (Vector.replicate 64 0)), .var (eA 16 1 k32 r1), .var (eA 16 1 k32 ((s6.setIfInBounds e27.toNat e35).setIfInBounds e29.toNat e37)), .var cv_1, .var (eA 4 1 j64 e8), .var (eA 4 1 k32 r25)], [.var (eA 64 1 k8 (Vector.replicate 64 0)), .var (eA 16 1 k32 r1), .var (eA 16 1 k32 (((s6.setIfInBounds e27.toNat e35).setIfInBounds e29.toNat e37).setIfInBounds e31.toNat e39)), .var cv_1, .var (eA 4 1 j64 e8), .var (eA 4 1 k32 r25)]], [[.var (eA 64 1 k8 (Vector.replicate 64 0)), .var (eA 16 1 k32 r1), .var (eA 16 1 k32 s6), .var cv_1, .var (eA 4 1 j64 e8), .var (eA 4 1 k32 r25)]], [[.var (eA 64 1 k8 (Vector.replicate 64 0)), .var (eA 16 1 k32 r1), .var (eA 16 1 k32 s6), .var cv_1, .var (eA 4 1 j64 e8), .var (eA 4 1 k32 r25)]], [[.var (eA 64 1 k8 (Vector.replicate 64 0)), .var (eA 16 1 k32 r1), .var (eA 16 1 k32 s6), .var cv_1, .var (eA 4 1 j64 e8), .var (eA 4 1 k32 r25)], [.var (eA 64 1 k8 (Vector.replicate 64 0)), .var (eA 16 1 k32 r1), .var (eA 16 1 k32 (s6.setIfInBounds e27.toNat e35)), .var cv_1, .var (eA 4 1 j64 e8), .var (eA 4 1 k32 r25)]], [[.var (eA 64 1 k8 (Vector.replicate 64 0)), .var (eA 16 1 k32 r1), .var (eA 16 1 k32 s6), .var cv_1, .var (eA 4 1 j64 e8), .var (eA 4 1 k32 r25)], [.var (eA 64 1 k8 (Vector.replicate 64 0)), .var (eA 16 1 k32 r1), .var (eA 16 1 k32 (s6.setIfInBounds e27.toNat e35)), .var cv_1, .var (eA 4 1 j64 e8), .var (eA 4 1 k32 r25)]], [[.var (eA 64 1 k8 (Vector.replicate 64 0)), .var (eA 16 1 k32 r1), .var (eA 16 1 k32 s6), .var cv_1, .var (eA 4 1 j64 e8), .var (eA 4 1 k32 r25)], [.var (eA 64 1 k8 (Vector.replicate 64 0)), .var (eA 16 1 k32 r1), .var (eA 16 1 k32 (s6.setIfInBounds e27.toNat e35)), .var cv_1, .var (eA 4 1 j64 e8), .var (eA 4 1 k32 r25)], [.var (eA 64 1 k8 (Vector.replicate 64 0)), .var (eA 16 1 k32 r1), .var (eA 16 1 k32 ((s6.setIfInBounds e27.toNat e35).setIfInBounds e29.toNat e37)), .var cv_1, .var (eA 4 1 j64 e8), .var (eA 4 1 k32 r25)]], [[.var (eA 64 1 k8 (Vector.replicate 64 0)), .var (eA 16 1 k32 r1), .var (eA 16 1 k32 s6), .var cv_1, .var (eA 4 1 j64 e8), .var (eA 4 1 k32 r25)], [.var (eA 64 1 k8 (Vector.replicate 64 0)), .var (eA 16 1 k32 r1), .var (eA 16 1 k32 (s6.setIfInBounds e27.toNat e35)), .var cv_1, .var (eA 4 1 j64 e8), .var (eA 4 1 k32 r25)], [.var (eA 64 1 k8 (Vector.replicate 64 0)), .var (eA 16 1 k32 r1), .var (eA 16 1 k32 ((s6.setIfInBounds e27.toNat e35).setIfInBounds e29.toNat e37)), .var cv_1, .var (eA 4 1 j64 e8), .var (eA 4 1 k32 r25)]], [[.var (eA 64 1 k8 (Vector.replicate 64 0)), .var (eA 16 1 k32 r1), .var (eA 16 1 k32 s6), .var cv_1, .var (eA 4 1 j64 e8), .var (eA 4 1 k32 r25)], [.var (eA 64 1 k8 (Vector.replicate 64 0)), .var (eA 16 1 k32 r1), .var (eA 16 1 k32 (s6.setIfInBounds e27.toNat e35)), .var cv_1, .var (eA 4 1 j64 e8), .var (eA 4 1 k32 r25)], [.var (eA 64 1 k8 (Vector.replicate 64 0)), .var (eA 16 1 k32 r1), .var (eA 16 1 k32 ((s6.setIfInBounds e27.toNat e35).setIfInBounds e29.toNat e37)), .var cv_1, .var (eA 4 1 j64 e8), .var (eA 4 1 k32 r25)], [.var (eA 64 1 k8 (Vector.replicate 64 0)), .var (eA 16 1 k32 r1), .var (eA 16 1 k32 (((s6.setIfInBounds e27.toNat e35).setIfInBounds e29.toNat e37).setIfInBounds e31.toNat e39)), .var cv_1, .var (eA 4 1 j64 e8), .var (eA 4 1 k32 r25)]], [[.var (eA 64 1 k8 (Vector.replicate 64 0)), .var (eA 16 1 k32 r1), .var (eA 16 1 k32 s6), .var cv_1, .var (eA 4 1 j64 e8), .var (eA 4 1 k32 r25)], [.var (eA 64 1 k8 (Vector.replicate 64 0)), .var (eA 16 1 k32 r1), .var (eA 16 1 k32 (s6.setIfInBounds e27.toNat e35)), .var cv_1, .var (eA 4 1 j64 e8), .var (eA 4 1 k32 r25)], [.var (eA 64 1 k8 (Vector.replicate 64 0)), .var (eA 16 1 k32 r1), .var (eA 16 1 k32 ((s6.setIfInBounds e27.toNat e35).setIfInBounds e29.toNat e37)), .var cv_1, .var (eA 4 1 j64 e8), .var (eA 4 1 k32 r25)], [.var (eA 64 1 k8 (Vector.replicate 64 0)), .var (eA 16 1 k32 r1), .var (eA 16 1 k32 (((s6.setIfInBounds e27.toNat e35).setIfInBounds e29.toNat e37).setIfInBounds e31.toNat e39)), .var cv_1, .var (eA 4 1 j64 e8), .var (eA 4 1 k32 r25)]], [[.var (eA 64 1 k8 (Vector.replicate 64 0)), .var (eA 16 1 k32 r1), .var (eA 16 1 k32 s6), .var cv_1, .var (eA 4 1 j64 e8), .var (eA 4 1 k32 r25)]], [[.var (eA 64 1 k8 (Vector.replicate 64 0)), .var (eA 16 1 k32 r1), .var (eA 16 1 k32 (s6.setIfInBounds e27.toNat e35)), .var cv_1, .var (eA 4 1 j64 e8), .var (eA 4 1 k32 r25)]], [[.var (eA 64 1 k8 (Vector.replicate 64 0)), .var (eA 16 1 k32 r1), .var (eA 16 1 k32 ((s6.setIfInBounds e27.toNat e35).setIfInBounds e29.toNat e37)), .var cv_1, .var (eA 4 1 j64 e8), .var (eA 4 1 k32 r25)]], [[.var (eA 64 1 k8 (Vector.replicate 64 0)), .var (eA 16 1 k32 r1), .var (eA 16 1 k32 (((s6.setIfInBounds e27.toNat e35).setIfInBounds e29.toNat e37).setIfInBounds e31.toNat e39)), .var cv_1, .var (eA 4 1 j64 e8), .var (eA 4 1 k32 r25)]]] [(17, fun _ => ((.v (.bool false)), [.var (eA 64 1 k8 (Vector.replicate 64 0)), .var (eA 16 1 k32 r1), .var (eA 16 1 k32 (s6.setIfInBounds e27.toNat e35)), .var cv_1, .var (eA 4 1 j64 e8), .var (eA 4 1 k32 r25)])), (19, fun _ => ((.v (.bool false)), [.var (eA 64 1 k8 (Vector.replicate 64 0)), .var (eA 16 1 k32 r1), .var (eA 16 1 k32 ((s6.setIfInBounds e27.toNat e35).setIfInBounds e29.toNat e37)), .var cv_1, .var (eA 4 1 j64 e8), .var (eA 4 1 k32 r25)])), (21, fun _ => ((.v (.bool false)), [.var (eA 64 1 k8 (Vector.replicate 64 0)), .var (eA 16 1 k32 r1), .var (eA 16 1 k32 (((s6.setIfInBounds e27.toNat e35).setIfInBounds e29.toNat e37).setIfInBounds e31.toNat e39)), .var cv_1, .var (eA 4 1 j64 e8), .var (eA 4 1 k32 r25)])), (23, fun _ => ((.v (.bool false)), [.var (eA 64 1 k8 (Vector.replicate 64 0)), .var (eA 16 1 k32 r1), .var (eA 16 1 k32 ((((s6.setIfInBounds e27.toNat e35).setIfInBounds e29.toNat e37).setIfInBounds e31.toNat e39).setIfInBounds e33.toNat e41)), .var cv_1, .var (eA 4 1 j64 e8), .var (eA 4 1 k32 r25)]))] (by kernel_rfl) (by kernel_rfl) (by kernel_rfl) (by kernel_rfl) ⟨⟨big_adR hT (k := 1) 4 [] 0 hu26, trivial⟩, ⟨big_at (big_ldE hT j64 0 he27), trivial⟩, ⟨big_adR hT (k := 1) 4 [] 0 hu28, big_adR hT (k := 1) 4 [] 0 hu28, trivial⟩, ⟨big_at (big_ldE hT j64 0 he29), big_at (big_ldE hT j64 0 he29), trivial⟩, ⟨big_adR hT (k := 1) 4 [] 0 hu30, big_adR hT (k := 1) 4 [] 0 hu30, big_adR hT (k := 1) 4 [] 0 hu30, trivial⟩, ⟨big_at (big_ldE hT j64 0 he31), big_at (big_ldE hT j64 0 he31), big_at (big_ldE hT j64 0 he31), trivial⟩, ⟨big_adR hT (k := 1) 4 [] 0 hu32, big_adR hT (k := 1) 4 [] 0 hu32, big_adR hT (k := 1) 4 [] 0 hu32, big_adR hT (k := 1) 4 [] 0 hu32, trivial⟩, ⟨big_at (big_ldE hT j64 0 he33), big_at (big_ldE hT j64 0 he33), big_at (big_ldE hT j64 0 he33), big_at (big_ldE hT j64 0 he33), trivial⟩, ⟨big_adR hT (k := 1) 5 [] 0 hu34, trivial⟩, ⟨big_at (big_ldE hT k32 0 he35), trivial⟩, ⟨big_adR hT (k := 1) 5 [] 0 hu36, big_adR hT (k := 1) 5 [] 0 hu36, trivial⟩, ⟨big_at (big_ldE hT k32 0 he37), big_at (big_ldE hT k32 0 he37), trivial⟩, ⟨big_adR hT (k := 1) 5 [] 0 hu38, big_adR hT (k := 1) 5 [] 0 hu38, big_adR hT (k := 1) 5 [] 0 hu38, trivial⟩, ⟨big_at (big_ldE hT k32 0 he39), big_at (big_ldE hT k32 0 he39), big_at (big_ldE hT k32 0 he39), trivial⟩, ⟨big_adR hT (k := 1) 5 [] 0 hu40, big_adR hT (k := 1) 5 [] 0 hu40, big_adR hT (k := 1) 5 [] 0 hu40, big_adR hT (k := 1) 5 [] 0 hu40, trivial⟩, ⟨big_at (big_ldE hT k32 0 he41), big_at (big_ldE hT k32 0 he41), big_at (big_ldE hT k32 0 he41), big_at (big_ldE hT k32 0 he41), trivial⟩, ⟨big_adR hT (k := 1) 2 [] 0 hu42, trivial⟩, ⟨big_adR hT (k := 1) 2 [] 0 hu44, trivial⟩, ⟨big_adR hT (k := 1) 2 [] 0 hu46, trivial⟩, ⟨big_adR hT (k := 1) 2 [] 0 hu48, trivial⟩, trivial⟩ ⟨big_at (big_stV hT k32 0 s6 he43 e35 (by kernel_rfl) (by kernel_rfl) (H' := [.var (eA 64 1 k8 (Vector.replicate 64 0)), .var (eA 16 1 k32 r1), .var (eA 16 1 k32 (s6.setIfInBounds e27.toNat e35)), .var cv_1, .var (eA 4 1 j64 e8), .var (eA 4 1 k32 r25)])), big_at (big_stV hT k32 0 (s6.setIfInBounds e27.toNat e35) he45 e37 (by kernel_rfl) (by kernel_rfl) (H' := [.var (eA 64 1 k8 (Vector.replicate 64 0)), .var (eA 16 1 k32 r1), .var (eA 16 1 k32 ((s6.setIfInBounds e27.toNat e35).setIfInBounds e29.toNat e37)), .var cv_1, .var (eA 4 1 j64 e8), .var (eA 4 1 k32 r25)])), big_at (big_stV hT k32 0 ((s6.setIfInBounds e27.toNat e35).setIfInBounds e29.toNat e37) he47 e39 (by kernel_rfl) (by kernel_rfl) (H' := [.var (eA 64 1 k8 (Vector.replicate 64 0)), .var (eA 16 1 k32 r1), .var (eA 16 1 k32 (((s6.setIfInBounds e27.toNat e35).setIfInBounds e29.toNat e37).setIfInBounds e31.toNat e39)), .var cv_1, .var (eA 4 1 j64 e8), .var (eA 4 1 k32 r25)])), big_at (big_stV hT k32 0 (((s6.setIfInBounds e27.toNat e35).setIfInBounds e29.toNat e37).setIfInBounds e31.toNat e39) he49 e41 (by kernel_rfl) (by kernel_rfl) (H' := [.var (eA 64 1 k8 (Vector.replicate 64 0)), .var (eA 16 1 k32 r1), .var (eA 16 1 k32 ((((s6.setIfInBounds e27.toNat e35).setIfInBounds e29.toNat e37).setIfInBounds e31.toNat e39).setIfInBounds e33.toNat e41)), .var cv_1, .var (eA 4 1 j64 e8), .var (eA 4 1 k32 r25)])), trivial⟩ (inB_n (tn_n ?_))
       refine aw_regU hT m_chacha_Block [] (by kernel_rfl) (tn_n ?_)
       exact ⟨k, Nat.lt_succ_self k, _, _, h, jr⟩
      ·refine aw_exit (tn_x (tn_x (inB_e (tn_n ?_))))
       cases h
       exact jr
    ·have h := g5
     refine (inB_n (tn_n ?_))
     refine aw_regU hT m_chacha_Block [] (by kernel_rfl) (tn_n ?_)
     exact ⟨k, Nat.lt_succ_self k, _, _, h, jr⟩
   ·refine aw_exit (tn_x (tn_x (inB_e (tn_n ?_))))
    cases h
    exact jr
 ·have h := g2
  refine (tn_n ?_)
  refine aw_sregU hT m_chacha_Block [] (by kernel_rfl) ?_
  refine aw_seq ?_
  refine aw_sregU hT m_chacha_Block [] (by kernel_rfl) ?_
  obtain ⟨p50, h, g50⟩ := obind h
  refine aw_joinTK ⟨[en 6 (.ref 0 [] 0), en 13 (.ref 4 [] 0)], [.var (eA 64 1 k8 (Vector.replicate 64 0)), .var (eA 16 1 k32 r1), .var (eA 16 1 k32 p2), .var cv_1, .var (eA 64 1 k8 p50)]⟩ ?_ ?_
  ·refine aw_block (aw_loop (fun k s => ∃ s51 s52, p_chacha_Block_L3 N p2 r1 k s51 s52 = some p50 ∧ JR (Fr.f 114 0) ⟨[en 6 (.ref 0 [] 0), en 7 (.ref 1 [] 0), en 13 (.ref 4 [] 0), en 76 (eA 16 1 k32 p2), en 77 (j64 s52)], [.var (eA 64 1 k8 (Vector.replicate 64 0)), .var (eA 16 1 k32 r1), .var (eA 16 1 k32 p2), .var cv_1, .var (eA 64 1 k8 s51)]⟩ s) (fun k s hI => ?_) N _ ⟨_, _, h, jr⟩)
   obtain ⟨s51, s52, h, hj⟩ := hI
   cases k with
   | zero => cases h
   | succ k =>
    refine aw_jr hj ?_
    refine aw_sregU hT m_chacha_Block [] (by kernel_rfl) ?_
    refine aw_seq ?_
    refine aw_condH h (by kernel_rfl) (fun _ h => ?_) (fun _ h => ?_)
    ·refine aw_skip (tn_n ?_)
     refine aw_seq ?_
     refine aw_block ?_
     refine aw_sreg ?_
     refine awl_u hT m_chacha_Block [] 1 (by kernel_rfl) ?_
     obtain ⟨e53, he53, h⟩ := obind h
     refine awl_big (big_ixA hT k32 p2 he53 (by kernel_rfl) (by kernel_rfl)) (by kernel_rfl) ?_
     refine awl_u hT m_chacha_Block [] 2 (by kernel_rfl) ?_
     refine awl_nil ?_
     refine aw_sreg ?_
     refine awl_u hT m_chacha_Block [] 2 (by kernel_rfl) ?_
     obtain ⟨u54, hu54, h⟩ := obind h
     refine awl_big (big_adR hT (k := 1) 1 [] 0 hu54) (by kernel_rfl) ?_
     obtain ⟨e55, he55, h⟩ := obind h
     refine awl_big (big_ldE hT k32 0 he55) (by kernel_rfl) ?_
     refine awl_u hT m_chacha_Block [] 2 (by kernel_rfl) ?_
     refine awl_nil ?_
     refine aw_region ?_
     obtain ⟨x62, hx62, h⟩ := letE h
     obtain ⟨x63, hx63, h⟩ := letE h
     obtain ⟨x64, hx64, h⟩ := letE h
     obtain ⟨x65, hx65, h⟩ := letE h
     obtain ⟨x66, hx66, h⟩ := letE h
     obtain ⟨x67, hx67, h⟩ := letE h
     refine awl_u hT m_chacha_Block [] 22 (by kernel_rfl) ?_
     refine awl_nms [(90, (j64 x62)), (93, (j64 x63)), (96, (j64 x64)), (101, (k8 (U8 x65))), (104, (k8 (U8 x66))), (107, (k8 (U8 x67)))] (by subst hx67 hx66 hx65 hx64 hx63 hx62; kernel_rfl) ?_
     obtain ⟨u68, hu68, h⟩ := obind h
     refine awl_big (big_adR hT (k := 1) 4 [] 0 hu68) (by kernel_rfl) ?_
     first | refine awl_to ⟨[en 6 (.ref 0 [] 0), en 7 (.ref 1 [] 0), en 13 (.ref 4 [] 0), en 76 (eA 16 1 k32 p2), en 77 (j64 s52), en 90 (j64 x62), en 93 (j64 x63), en 96 (j64 x64), en 98 (k8 (U8 (U32 (e53 + e55)))), en 101 (k8 (U8 x65)), en 104 (k8 (U8 x66)), en 107 (k8 (U8 x67)), en 108 (.ref 4 [(I64 (4 * s52)).toNat] (0 + (I64 (4 * s52)).toNat * 1))], [.var (eA 64 1 k8 (Vector.replicate 64 0)), .var (eA 16 1 k32 r1), .var (eA 16 1 k32 p2), .var cv_1, .var (eA 64 1 k8 s51)]⟩ (by kernel_rfl) ?_ | skip
     obtain ⟨e69, he69, h⟩ := obind h
     refine awl_big (big_stV hT k8 0 s51 he69 (U8 (U32 (e53 + e55))) (by kernel_rfl) (by kernel_rfl) (H' := [.var (eA 64 1 k8 (Vector.replicate 64 0)), .var (eA 16 1 k32 r1), .var (eA 16 1 k32 p2), .var cv_1, .var (eA 64 1 k8 (s51.setIfInBounds ((I64 (4 * s52)).toNat) (U8 (U32 (e53 + e55)))))])) (by kernel_rfl) ?_
     obtain ⟨u70, hu70, h⟩ := obind h
     refine awl_big (big_adR hT (k := 1) 4 [] 0 hu70) (by kernel_rfl) ?_
     obtain ⟨e71, he71, h⟩ := obind h
     refine awl_big (big_stV hT k8 0 (s51.setIfInBounds ((I64 (4 * s52)).toNat) (U8 (U32 (e53 + e55)))) he71 (U8 x65) (by kernel_rfl) (by kernel_rfl) (H' := [.var (eA 64 1 k8 (Vector.replicate 64 0)), .var (eA 16 1 k32 r1), .var (eA 16 1 k32 p2), .var cv_1, .var (eA 64 1 k8 ((s51.setIfInBounds ((I64 (4 * s52)).toNat) (U8 (U32 (e53 + e55)))).setIfInBounds x62.toNat (U8 x65)))])) (by kernel_rfl) ?_
     obtain ⟨u72, hu72, h⟩ := obind h
     refine awl_big (big_adR hT (k := 1) 4 [] 0 hu72) (by kernel_rfl) ?_
     first | refine awl_to ⟨[en 6 (.ref 0 [] 0), en 7 (.ref 1 [] 0), en 13 (.ref 4 [] 0), en 76 (eA 16 1 k32 p2), en 77 (j64 s52), en 96 (j64 x64), en 104 (k8 (U8 x66)), en 107 (k8 (U8 x67)), en 110 (.ref 4 [x63.toNat] (0 + x63.toNat * 1))], [.var (eA 64 1 k8 (Vector.replicate 64 0)), .var (eA 16 1 k32 r1), .var (eA 16 1 k32 p2), .var cv_1, .var (eA 64 1 k8 ((s51.setIfInBounds ((I64 (4 * s52)).toNat) (U8 (U32 (e53 + e55)))).setIfInBounds x62.toNat (U8 x65)))]⟩ (by kernel_rfl) ?_ | skip
     obtain ⟨e73, he73, h⟩ := obind h
     refine awl_big (big_stV hT k8 0 ((s51.setIfInBounds ((I64 (4 * s52)).toNat) (U8 (U32 (e53 + e55)))).setIfInBounds x62.toNat (U8 x65)) he73 (U8 x66) (by kernel_rfl) (by kernel_rfl) (H' := [.var (eA 64 1 k8 (Vector.replicate 64 0)), .var (eA 16 1 k32 r1), .var (eA 16 1 k32 p2), .var cv_1, .var (eA 64 1 k8 (((s51.setIfInBounds ((I64 (4 * s52)).toNat) (U8 (U32 (e53 + e55)))).setIfInBounds x62.toNat (U8 x65)).setIfInBounds x63.toNat (U8 x66)))])) (by kernel_rfl) ?_
     obtain ⟨u74, hu74, h⟩ := obind h
     refine awl_big (big_adR hT (k := 1) 4 [] 0 hu74) (by kernel_rfl) ?_
     obtain ⟨e75, he75, h⟩ := obind h
     refine awl_big (big_stV hT k8 0 (((s51.setIfInBounds ((I64 (4 * s52)).toNat) (U8 (U32 (e53 + e55)))).setIfInBounds x62.toNat (U8 x65)).setIfInBounds x63.toNat (U8 x66)) he75 (U8 x67) (by kernel_rfl) (by kernel_rfl) (H' := [.var (eA 64 1 k8 (Vector.replicate 64 0)), .var (eA 16 1 k32 r1), .var (eA 16 1 k32 p2), .var cv_1, .var (eA 64 1 k8 ((((s51.setIfInBounds ((I64 (4 * s52)).toNat) (U8 (U32 (e53 + e55)))).setIfInBounds x62.toNat (U8 x65)).setIfInBounds x63.toNat (U8 x66)).setIfInBounds x64.toNat (U8 x67)))])) (by kernel_rfl) ?_
     refine awl_nil (inB_n (tn_n ?_))
     refine aw_regU hT m_chacha_Block [] (by kernel_rfl) (tn_n ?_)
     exact ⟨k, Nat.lt_succ_self k, _, _, h, jr⟩
    ·refine aw_exit (tn_x (tn_x (inB_e (tn_n ?_))))
     cases h
     exact jr
  ·have h := g50
   refine (tn_n ?_)
   refine aw_sregU hT m_chacha_Block [] (by kernel_rfl) ?_
   refine aw_ret ?_
   cases h
   exact fin_r

theorem chacha_Block_ok_c : callable Try.prog 74 := ⟨_, Try.func74, by decide, rfl⟩

end Go.UK

