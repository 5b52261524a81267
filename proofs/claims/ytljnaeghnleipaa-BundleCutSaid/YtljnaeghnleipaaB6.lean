/- A part of the proof: what the functions of the program compute. -/
import Derived.Test.YtljnaeghnleipaaB5
namespace Go.UK
open Go Go.Proofs
set_option maxRecDepth 20000
set_option maxHeartbeats 4000000
set_option linter.all false

attribute [local irreducible] owp awl aw FnM NatFn opS Stab TOK Big
def m_chacha_Stream : Nat → Bool := imL [4, 6]

def p_chacha_Stream_L1 (N : Nat) (a3 : Int) (a0 : (Vector Int 32)) (a2 : (Vector Int 12)) : Nat → (List Int) → Int → Option ((List Int))
 | 0, _, _ => none
 | k + 1, s2, s3 =>
  letO (decide (((s2.length : Int)) < (imin a3 65536))) fun x4 =>
  cond x4 (
   Option.bind (p_chacha_Block N a0 s3 a2) fun r5 =>
   letO (I64 ((imin a3 65536) - ((s2.length : Int)))) fun x7 =>
   Option.bind (slcO r5.toList 0 (imin 64 x7)) fun s9 =>
   Option.bind (appO 1 s2 s9) fun z10 =>
   p_chacha_Stream_L1 N a3 a0 a2 k z10 (U32 (s3 + 1))) (
   some s2)

def p_chacha_Stream (N : Nat) (a0 : (Vector Int 32)) (a1 : Int) (a2 : (Vector Int 12)) (a3 : Int) : Option ((List Int)) :=
 Option.bind (p_chacha_Stream_L1 N a3 a0 a2 N [] a1) fun p1 =>
 some p1

theorem chacha_Stream_ok {N : Nat} {a0 : (Vector Int 32)} {a1 : Int} {a2 : (Vector Int 12)} {a3 : Int} {r : (List Int)} (h : p_chacha_Stream N a0 a1 a2 a3 = some r) : FnM Try.prog 63 [] [(eA 32 1 k8 a0), (k32 a1), (eA 12 1 k8 a2), (j64 a3)] (eL 1 k8 r) [] := by
 unfold p_chacha_Stream at h
 refine fnM_of_aw (m := 32) (lo := 0) (rs := [.tmp 8]) hT Try.func63 rfl (by kernel_rfl) rfl ?_
 refine aw_sregU hT m_chacha_Stream [] (by kernel_rfl) ?_
 refine aw_sregU hT m_chacha_Stream [] (by kernel_rfl) ?_
 refine aw_sregU hT m_chacha_Stream [] (by kernel_rfl) ?_
 refine aw_own_nil 9 1 (by kernel_rfl) ?_
 obtain ⟨p1, h, g1⟩ := obind h
 refine aw_joinT ⟨[en 9 (eO 0 1 k8 p1)], [.tail (p1.length * 1)]⟩ ?_ ?_
 ·refine aw_block (aw_loop (fun k s => ∃ s2 s3, p_chacha_Stream_L1 N a3 a0 a2 k s2 s3 = some p1 ∧ JR (Fr.f 32 0) ⟨[en 1 (k32 s3), en 3 (j64 (imin a3 65536)), en 4 (.im (eA 32 1 k8 a0)), en 6 (.im (eA 12 1 k8 a2)), en 9 (eO 0 1 k8 s2)], [.tail (s2.length * 1)]⟩ s) (fun k s hI => ?_) N _ ⟨_, _, h, jr⟩)
  obtain ⟨s2, s3, h, hj⟩ := hI
  cases k with
  | zero => cases h
  | succ k =>
   refine aw_jr hj ?_
   refine aw_seq ?_
   obtain ⟨x4, hx4, h⟩ := letE h
   refine aw_sregU hT m_chacha_Stream [] (by kernel_rfl) ?_
   refine aw_nms [(16, (eB x4))] (by subst hx4; kernel_rfl) ?_
   refine aw_condH h (by kernel_rfl) (fun _ h => ?_) (fun _ h => ?_)
   ·refine aw_skip (tn_n ?_)
    refine aw_block ?_
    refine aw_sreg ?_
    refine awl_u hT m_chacha_Stream [] 3 (by kernel_rfl) ?_
    obtain ⟨r5, hr5, h⟩ := obind h
    refine awl_big (big_call [] (chacha_Block_ok hr5) chacha_Block_ok_c) (by kernel_rfl) ?_
    refine awl_u hT m_chacha_Stream [] 2 (by kernel_rfl) ?_
    refine awl_nil ?_
    refine aw_sreg ?_
    obtain ⟨x7, hx7, h⟩ := letE h
    refine awl_u hT m_chacha_Stream [] 6 (by kernel_rfl) ?_
    refine awl_nms [(26, (j64 (imin 64 x7)))] (by subst hx7; kernel_rfl) ?_
    refine awl_gz 1 ((eA 64 1 k8 r5)) (by kernel_rfl) (by kernel_rfl) ?_
    obtain ⟨s9, hs9, h⟩ := obind h
    refine awl_big (big_slI hT (N := 64) (k := 1) k8 r5 hs9) (by kernel_rfl) ?_
    obtain ⟨z10, hz10, h⟩ := obind h
    refine awl_big (big_app hT k8 (id := 0) (k := 1) hz10) (by kernel_rfl) ?_
    refine awl_u hT m_chacha_Stream [] 1 (by kernel_rfl) ?_
    refine awl_nil ?_
    refine aw_regU hT m_chacha_Stream [] (by kernel_rfl) (inB_n (tn_n ?_))
    exact ⟨k, Nat.lt_succ_self k, _, _, h, jr⟩
   ·refine aw_exit (tn_x (tn_x (inB_e (tn_n ?_))))
    cases h
    exact jr
 ·have h := g1
  refine aw_sregU hT m_chacha_Stream [] (by kernel_rfl) ?_
  refine aw_ret ?_
  cases h
  exact fin_r

theorem chacha_Stream_ok_c : callable Try.prog 63 := ⟨_, Try.func63, by decide, rfl⟩

def m_chacha_Xor : Nat → Bool := imL [4, 6]

def p_chacha_Xor_L1 (N : Nat) (a3 : (List (List Int))) : Nat → (List Int) → Int → Option ((List Int))
 | 0, _, _ => none
 | k + 1, s2, s3 =>
  letO (decide (s3 < ((a3.length : Int)))) fun x4 =>
  cond x4 (
   Option.bind (idx a3 s3) fun e5 =>
   letO (I64 (65536 - ((s2.length : Int)))) fun x8 =>
   letO (imin ((e5.length : Int)) x8) fun x9 =>
   Option.bind (slcO e5 0 x9) fun s10 =>
   Option.bind (appO 1 s2 s10) fun z11 =>
   p_chacha_Xor_L1 N a3 k z11 (I64 (s3 + 1))) (
   some s2)

def p_chacha_Xor_L2 (N : Nat) (r12 : (List Int)) : Nat → (List Int) → Int → Option ((List Int))
 | 0, _, _ => none
 | k + 1, s14, s15 =>
  letO (decide (s15 < ((r12.length : Int)))) fun x16 =>
  cond x16 (
   Option.bind (idx r12 s15) fun e17 =>
   Option.bind (inRO s15 s14.length) fun _ =>
   Option.bind (s14[s15.toNat]?) fun e19 =>
   Option.bind (inRO s15 s14.length) fun _ =>
   Option.bind (setO s14 s15.toNat (bxor .u8 e19 e17)) fun z21 =>
   p_chacha_Xor_L2 N r12 k z21 (I64 (s15 + 1))) (
   some s14)

def p_chacha_Xor (N : Nat) (a0 : (Vector Int 32)) (a1 : Int) (a2 : (Vector Int 12)) (a3 : (List (List Int))) : Option ((List Int)) :=
 Option.bind (p_chacha_Xor_L1 N a3 N [] 0) fun p1 =>
 Option.bind (p_chacha_Stream N a0 a1 a2 ((p1.length : Int))) fun r12 =>
 Option.bind (p_chacha_Xor_L2 N r12 N p1 0) fun p13 =>
 some p13

theorem chacha_Xor_ok {N : Nat} {a0 : (Vector Int 32)} {a1 : Int} {a2 : (Vector Int 12)} {a3 : (List (List Int))} {r : (List Int)} (h : p_chacha_Xor N a0 a1 a2 a3 = some r) : FnM Try.prog 38 [] [(eA 32 1 k8 a0), (k32 a1), (eA 12 1 k8 a2), (eL 1 (eL 1 k8) a3)] (eL 1 k8 r) [] := by
 unfold p_chacha_Xor at h
 refine fnM_of_aw (m := 52) (lo := 0) (rs := [.tmp 8]) hT Try.func38 rfl (by kernel_rfl) rfl ?_
 refine aw_sregU hT m_chacha_Xor [] (by kernel_rfl) ?_
 refine aw_sregU hT m_chacha_Xor [] (by kernel_rfl) ?_
 refine aw_seq ?_
 refine aw_sregU hT m_chacha_Xor [] (by kernel_rfl) ?_
 refine aw_gro_nil 9 1 (by kernel_rfl) ?_
 obtain ⟨p1, h, g1⟩ := obind h
 refine aw_joinTK ⟨[en 1 (k32 a1), en 4 (.im (eA 32 1 k8 a0)), en 6 (.im (eA 12 1 k8 a2)), en 9 (.gro 0 1 p1.length none)], [.gro 1 (List.map k8 p1)]⟩ ?_ ?_
 ·refine aw_block (aw_loop (fun k s => ∃ s2 s3, p_chacha_Xor_L1 N a3 k s2 s3 = some p1 ∧ JR (Fr.f 52 0) ⟨[en 1 (k32 a1), en 4 (.im (eA 32 1 k8 a0)), en 6 (.im (eA 12 1 k8 a2)), en 9 (.gro 0 1 s2.length none), en 14 (eL 1 (eL 1 k8) a3), en 15 (j64 ((a3.length : Int))), en 16 (j64 s3)], [.gro 1 (List.map k8 s2)]⟩ s) (fun k s hI => ?_) N _ ⟨_, _, h, jr⟩)
  obtain ⟨s2, s3, h, hj⟩ := hI
  cases k with
  | zero => cases h
  | succ k =>
   refine aw_jr hj ?_
   obtain ⟨x4, hx4, h⟩ := letE h
   refine aw_sregU hT m_chacha_Xor [] (by kernel_rfl) ?_
   refine aw_nms [(17, (eB x4))] (by subst hx4; kernel_rfl) ?_
   refine aw_seq ?_
   refine aw_condH h (by kernel_rfl) (fun _ h => ?_) (fun _ h => ?_)
   ·refine aw_skip (tn_n ?_)
    refine aw_seq ?_
    refine aw_block ?_
    refine aw_sreg ?_
    obtain ⟨e5, he5, h⟩ := obind h
    refine awl_big (big_idx hT (eL 1 k8) he5) (by kernel_rfl) ?_
    refine awl_u hT m_chacha_Xor [] 2 (by kernel_rfl) ?_
    refine awl_nil ?_
    refine aw_region ?_
    obtain ⟨x8, hx8, h⟩ := letE h
    obtain ⟨x9, hx9, h⟩ := letE h
    refine awl_u hT m_chacha_Xor [] 8 (by kernel_rfl) ?_
    refine awl_nms [(27, (j64 x9))] (by subst hx9 hx8; kernel_rfl) ?_
    obtain ⟨s10, hs10, h⟩ := obind h
    refine awl_big (big_slc hT (k := 1) k8 hs10) (by kernel_rfl) ?_
    obtain ⟨z11, hz11, h⟩ := obind h
    refine awl_big (big_gapp' hT k8 (id := 0) (k := 1) hz11 (by kernel_rfl) (by kernel_rfl) (H' := [.gro 1 (List.map k8 z11)]) (by kernel_rfl)) (by kernel_rfl) ?_
    refine awl_u hT m_chacha_Xor [] 1 (by kernel_rfl) ?_
    refine awl_nil (inB_n (tn_n ?_))
    refine aw_regU hT m_chacha_Xor [] (by kernel_rfl) (tn_n ?_)
    exact ⟨k, Nat.lt_succ_self k, _, _, h, jr⟩
   ·refine aw_exit (tn_x (tn_x (inB_e (tn_n ?_))))
    cases h
    exact jr
 ·have h := g1
  refine (tn_n ?_)
  refine aw_seq ?_
  refine aw_sreg ?_
  refine awl_u hT m_chacha_Xor [] 5 (by kernel_rfl) ?_
  obtain ⟨r12, hr12, h⟩ := obind h
  refine awl_big (big_call [] (chacha_Stream_ok hr12) chacha_Stream_ok_c) (by kernel_rfl) ?_
  refine awl_u hT m_chacha_Xor [] 2 (by kernel_rfl) ?_
  refine awl_nil ?_
  obtain ⟨p13, h, g13⟩ := obind h
  refine aw_joinTK ⟨[en 9 (.gro 0 1 p13.length none)], [.gro 1 (List.map k8 p13)]⟩ ?_ ?_
  ·refine aw_block (aw_loop (fun k s => ∃ s14 s15, p_chacha_Xor_L2 N r12 k s14 s15 = some p13 ∧ JR (Fr.f 52 0) ⟨[en 9 (.gro 0 1 s14.length none), en 36 (eL 1 k8 r12), en 37 (j64 ((r12.length : Int))), en 38 (j64 s15)], [.gro 1 (List.map k8 s14)]⟩ s) (fun k s hI => ?_) N _ ⟨_, _, h, jr⟩)
   obtain ⟨s14, s15, h, hj⟩ := hI
   cases k with
   | zero => cases h
   | succ k =>
    refine aw_jr hj ?_
    obtain ⟨x16, hx16, h⟩ := letE h
    refine aw_sregU hT m_chacha_Xor [] (by kernel_rfl) ?_
    refine aw_nms [(39, (eB x16))] (by subst hx16; kernel_rfl) ?_
    refine aw_seq ?_
    refine aw_condH h (by kernel_rfl) (fun _ h => ?_) (fun _ h => ?_)
    ·refine aw_skip (tn_n ?_)
     refine aw_seq ?_
     refine aw_block ?_
     refine aw_sreg ?_
     refine awl_u hT m_chacha_Xor [] 1 (by kernel_rfl) ?_
     obtain ⟨e17, he17, h⟩ := obind h
     refine awl_big (big_idx hT k8 he17) (by kernel_rfl) ?_
     refine awl_u hT m_chacha_Xor [] 3 (by kernel_rfl) ?_
     refine awl_nil ?_
     refine aw_region ?_
     refine awl_u hT m_chacha_Xor [] 2 (by kernel_rfl) ?_
     obtain ⟨u18, hu18, h⟩ := obind h
     refine awl_big (big_gad hT (id := 0) (k := 1) (es := List.map k8 s14) hu18 (by kernel_rfl) (by kernel_rfl) (by kernel_rfl) (List.length_map _)) (by kernel_rfl) ?_
     first | refine awl_to ⟨[en 9 (.gro 0 1 s14.length none), en 13 (k8 e17), en 36 (eL 1 k8 r12), en 37 (j64 ((r12.length : Int))), en 38 (j64 s15), en 43 (.gro 0 1 s14.length none), en 44 (j64 s15), en 45 (.gro 0 1 s14.length (some s15.toNat))], [.gro 1 (List.map k8 s14)]⟩ (by kernel_rfl) ?_ | skip
     obtain ⟨e19, he19, h⟩ := obind h
     refine awl_big (big_gld hT k8 he19 (by kernel_rfl) (by kernel_rfl)) (by kernel_rfl) ?_
     refine awl_u hT m_chacha_Xor [] 2 (by kernel_rfl) ?_
     obtain ⟨u20, hu20, h⟩ := obind h
     refine awl_big (big_gad hT (id := 0) (k := 1) (es := List.map k8 s14) hu20 (by kernel_rfl) (by kernel_rfl) (by kernel_rfl) (List.length_map _)) (by kernel_rfl) ?_
     obtain ⟨z21, hz21, h⟩ := obind h
     refine awl_big (big_gsto hT k8 (k := 1) (bxor .u8 e19 e17) hz21 (by kernel_rfl) (fun _ => by kernel_rfl) (by kernel_rfl) (H' := [.gro 1 (List.map k8 z21)]) (by kernel_rfl)) (by kernel_rfl) ?_
     refine awl_gl [9, 49] s14.length z21.length (setO_t hz21).2.2 (by kernel_rfl) ?_
     refine awl_nil (inB_n (tn_n ?_))
     refine aw_regU hT m_chacha_Xor [] (by kernel_rfl) (tn_n ?_)
     exact ⟨k, Nat.lt_succ_self k, _, _, h, jr⟩
    ·refine aw_exit (tn_x (tn_x (inB_e (tn_n ?_))))
     cases h
     exact jr
  ·have h := g13
   refine (tn_n ?_)
   refine aw_sregU hT m_chacha_Xor [] (by kernel_rfl) ?_
   refine aw_fz 0 1 p13.length _ (List.map k8 p13) (List.length_map _) (by kernel_rfl) (by kernel_rfl) (List.length_map _) (by kernel_rfl) ?_
   refine aw_ret ?_
   cases h
   exact fin_r

theorem chacha_Xor_ok_c : callable Try.prog 38 := ⟨_, Try.func38, by decide, rfl⟩

def m_aead_Key : Nat → Bool := imL [2, 3]

def p_aead_Key (N : Nat) (a0 : (Vector Int 32)) (a1 : (Vector Int 12)) : Option ((Vector Int 32)) :=
 Option.bind (p_chacha_Block N a0 0 a1) fun r1 =>
 Option.bind (slcO r1.toList 0 32) fun s3 =>
 Option.bind (vecO 32 s3) fun v4 =>
 some v4

theorem aead_Key_ok {N : Nat} {a0 : (Vector Int 32)} {a1 : (Vector Int 12)} {r : (Vector Int 32)} (h : p_aead_Key N a0 a1 = some r) : FnM Try.prog 62 [] [(eA 32 1 k8 a0), (eA 12 1 k8 a1)] (eA 32 1 k8 r) [] := by
 unfold p_aead_Key at h
 refine fnM_of_aw (m := 12) (lo := 0) (rs := [.cell 4 22]) hT Try.func62 rfl (by kernel_rfl) rfl ?_
 refine aw_sregU hT m_aead_Key [] (by kernel_rfl) ?_
 refine aw_sreg ?_
 refine awl_u hT m_aead_Key [] 2 (by kernel_rfl) ?_
 obtain ⟨r1, hr1, h⟩ := obind h
 refine awl_big (big_call [] (chacha_Block_ok hr1) chacha_Block_ok_c) (by kernel_rfl) ?_
 refine awl_u hT m_aead_Key [] 2 (by kernel_rfl) ?_
 refine awl_nil ?_
 refine aw_sreg ?_
 refine awl_gz 1 ((eA 64 1 k8 r1)) (by kernel_rfl) (by kernel_rfl) ?_
 obtain ⟨s3, hs3, h⟩ := obind h
 refine awl_big (big_slI hT (N := 64) (k := 1) k8 r1 hs3) (by kernel_rfl) ?_
 obtain ⟨v4, hv4, h⟩ := obind h
 refine awl_big (big_s2a hT k8 s3 v4 hv4 rfl (by kernel_rfl) (by kernel_rfl)) (by kernel_rfl) ?_
 refine awl_u hT m_aead_Key [] 2 (by kernel_rfl) ?_
 refine awl_nil ?_
 refine aw_ret ?_
 cases h
 exact fin_r

theorem aead_Key_ok_c : callable Try.prog 62 := ⟨_, Try.func62, by decide, rfl⟩

def p_aead_Mac_1 (N : Nat) (a0 : (List Int)) : Option ((List Int)) :=
 letO (Int.tmod ((a0.length : Int)) 16) fun x3 =>
 letO (Int.tmod (I64 (16 - x3)) 16) fun x4 =>
 Option.bind (mkO 1 x4) fun _ =>
 Option.bind (lenO (List.replicate x4.toNat (0 : Int)) x4.toNat) fun _ =>
 some (List.replicate x4.toNat (0 : Int))

theorem aead_Mac_1_ok {N : Nat} {a0 : (List Int)} {r : (List Int)} (h : p_aead_Mac_1 N a0 = some r) : FnM Try.prog 60 [] [(eL 1 k8 a0)] (eL 1 k8 r) [] := by
 unfold p_aead_Mac_1 at h
 refine fnM_of_aw (m := 9) (lo := 0) (rs := [.tmp 2]) hT Try.func60 rfl (by kernel_rfl) rfl ?_
 refine aw_sregU hT m_no [] (by kernel_rfl) ?_
 refine aw_sreg ?_
 obtain ⟨x3, hx3, h⟩ := letE h
 obtain ⟨x4, hx4, h⟩ := letE h
 refine awl_u hT m_no [] 5 (by kernel_rfl) ?_
 refine awl_nms [(7, (j64 x4))] (by subst hx4 hx3; kernel_rfl) ?_
 obtain ⟨u5, hu5, h⟩ := obind h
 refine awl_big (big_mk hT k8 ((0 : Int)) (k := 1) (kd := .int .u8) hu5 (by kernel_rfl) (by kernel_rfl) rfl) (by kernel_rfl) ?_
 refine awl_u hT m_no [] 1 (by kernel_rfl) ?_
 refine awl_nil ?_
 obtain ⟨u6, hu6, h⟩ := obind h
 refine aw_fz 0 1 x4.toNat _ (List.map k8 (List.replicate x4.toNat (0 : Int))) (List.length_map _) (by kernel_rfl) (by kernel_rfl) (lenM k8 hu6) (by kernel_rfl) ?_
 refine aw_ret ?_
 cases h
 exact fin_r

theorem aead_Mac_1_ok_c : callable Try.prog 60 := ⟨_, Try.func60, by decide, rfl⟩

def p_poly_Clamp_L1 (N : Nat)  : Nat → (Vector Int 16) → Int → Option ((Vector Int 16))
 | 0, _, _ => none
 | k + 1, s2, s3 =>
  cond (decide (s3 < 4)) (
   Option.bind (letO (I64 ((I64 (4 * s3)) + 3)) fun x6 =>
   Option.bind (inRO x6 16) fun _ =>
   Option.bind (s2.toList[x6.toNat]?) fun e8 =>
   Option.bind (inRO x6 16) fun _ =>
   Option.bind (s2.toList[x6.toNat]?) fun e10 =>
   cond (decide (s3 > 0)) (
    Option.bind (inRO (I64 (4 * s3)) 16) fun _ =>
    Option.bind ((s2.setIfInBounds x6.toNat (band .u8 e8 15)).toList[(I64 (4 * s3)).toNat]?) fun e12 =>
    Option.bind (inRO (I64 (4 * s3)) 16) fun _ =>
    Option.bind ((s2.setIfInBounds x6.toNat (band .u8 e8 15)).toList[(I64 (4 * s3)).toNat]?) fun e14 =>
    some ((s2.setIfInBounds x6.toNat (band .u8 e8 15)).setIfInBounds ((I64 (4 * s3)).toNat) (band .u8 e12 252))) (
    some (s2.setIfInBounds x6.toNat (band .u8 e8 15)))) fun p4 =>
   p_poly_Clamp_L1 N k p4 (I64 (s3 + 1))) (
   some s2)

def p_poly_Clamp (N : Nat) (a0 : (Vector Int 16)) : Option ((Vector Int 16)) :=
 Option.bind (p_poly_Clamp_L1 N N a0 0) fun p1 =>
 some p1

theorem poly_Clamp_ok {N : Nat} {a0 : (Vector Int 16)} {r : (Vector Int 16)} (h : p_poly_Clamp N a0 = some r) : FnM Try.prog 84 [] [(eA 16 1 k8 a0)] (eA 16 1 k8 r) [] := by
 unfold p_poly_Clamp at h
 refine fnM_of_aw (m := 24) (lo := 0) (rs := [.cell 2 88]) hT Try.func84 rfl (by kernel_rfl) rfl ?_
 refine aw_sregU hT m_no [] (by kernel_rfl) ?_
 refine aw_seq ?_
 refine aw_sregU hT m_no [] (by kernel_rfl) ?_
 obtain ⟨p1, h, g1⟩ := obind h
 refine aw_joinTK ⟨[en 1 (.ref 0 [] 0), en 2 (.ref 1 [] 0)], [.var (eA 16 1 k8 p1), .var (eA 16 1 k8 (Vector.replicate 16 0))]⟩ ?_ ?_
 ·refine aw_block (aw_loop (fun k s => ∃ s2 s3, p_poly_Clamp_L1 N k s2 s3 = some p1 ∧ JR (Fr.f 24 0) ⟨[en 1 (.ref 0 [] 0), en 2 (.ref 1 [] 0), en 4 (j64 s3)], [.var (eA 16 1 k8 s2), .var (eA 16 1 k8 (Vector.replicate 16 0))]⟩ s) (fun k s hI => ?_) N _ ⟨_, _, h, jr⟩)
  obtain ⟨s2, s3, h, hj⟩ := hI
  cases k with
  | zero => cases h
  | succ k =>
   refine aw_jr hj ?_
   refine aw_sregU hT m_no [] (by kernel_rfl) ?_
   refine aw_seq ?_
   refine aw_condH h (by kernel_rfl) (fun _ h => ?_) (fun _ h => ?_)
   ·refine aw_skip (tn_n ?_)
    obtain ⟨p4, h, g4⟩ := obind h
    refine aw_joinT ⟨[en 1 (.ref 0 [] 0), en 2 (.ref 1 [] 0), en 4 (j64 s3)], [.var (eA 16 1 k8 p4), .var (eA 16 1 k8 (Vector.replicate 16 0))]⟩ ?_ ?_
    ·refine aw_block ?_
     refine aw_sregU hT m_no [] (by kernel_rfl) ?_
     refine aw_sreg ?_
     obtain ⟨x6, hx6, h⟩ := letE h
     refine awl_u hT m_no [] 3 (by kernel_rfl) ?_
     refine awl_nms [(9, (j64 x6))] (by subst hx6; kernel_rfl) ?_
     obtain ⟨u7, hu7, h⟩ := obind h
     refine awl_big (big_adR hT (k := 1) 0 [] 0 hu7) (by kernel_rfl) ?_
     first | refine awl_to ⟨[en 1 (.ref 0 [] 0), en 2 (.ref 1 [] 0), en 3 (j64 s3), en 4 (j64 s3), en 9 (j64 x6), en 10 (.ref 0 [x6.toNat] (0 + x6.toNat * 1))], [.var (eA 16 1 k8 s2), .var (eA 16 1 k8 (Vector.replicate 16 0))]⟩ (by kernel_rfl) ?_ | skip
     obtain ⟨e8, he8, h⟩ := obind h
     refine awl_big (big_ldE hT k8 0 he8) (by kernel_rfl) ?_
     refine awl_u hT m_no [] 1 (by kernel_rfl) ?_
     obtain ⟨u9, hu9, h⟩ := obind h
     refine awl_big (big_adR hT (k := 1) 0 [] 0 hu9) (by kernel_rfl) ?_
     obtain ⟨e10, he10, h⟩ := obind h
     refine awl_big (big_stV hT k8 0 s2 he10 (band .u8 e8 15) (by kernel_rfl) (by kernel_rfl) (H' := [.var (eA 16 1 k8 (s2.setIfInBounds x6.toNat (band .u8 e8 15))), .var (eA 16 1 k8 (Vector.replicate 16 0))])) (by kernel_rfl) ?_
     refine awl_nil ?_
     refine aw_sregU hT m_no [] (by kernel_rfl) ?_
     refine aw_condH h (by kernel_rfl) (fun _ h => ?_) (fun _ h => ?_)
     ·refine aw_region ?_
      refine awl_u hT m_no [] 2 (by kernel_rfl) ?_
      obtain ⟨u11, hu11, h⟩ := obind h
      refine awl_big (big_adR hT (k := 1) 0 [] 0 hu11) (by kernel_rfl) ?_
      first | refine awl_to ⟨[en 1 (.ref 0 [] 0), en 2 (.ref 1 [] 0), en 4 (j64 s3), en 17 (j64 (I64 (4 * s3))), en 18 (.ref 0 [(I64 (4 * s3)).toNat] (0 + (I64 (4 * s3)).toNat * 1))], [.var (eA 16 1 k8 (s2.setIfInBounds x6.toNat (band .u8 e8 15))), .var (eA 16 1 k8 (Vector.replicate 16 0))]⟩ (by kernel_rfl) ?_ | skip
      obtain ⟨e12, he12, h⟩ := obind h
      refine awl_big (big_ldE hT k8 0 he12) (by kernel_rfl) ?_
      refine awl_u hT m_no [] 1 (by kernel_rfl) ?_
      obtain ⟨u13, hu13, h⟩ := obind h
      refine awl_big (big_adR hT (k := 1) 0 [] 0 hu13) (by kernel_rfl) ?_
      obtain ⟨e14, he14, h⟩ := obind h
      refine awl_big (big_stV hT k8 0 (s2.setIfInBounds x6.toNat (band .u8 e8 15)) he14 (band .u8 e12 252) (by kernel_rfl) (by kernel_rfl) (H' := [.var (eA 16 1 k8 ((s2.setIfInBounds x6.toNat (band .u8 e8 15)).setIfInBounds ((I64 (4 * s3)).toNat) (band .u8 e12 252))), .var (eA 16 1 k8 (Vector.replicate 16 0))])) (by kernel_rfl) ?_
      refine awl_nil (inB_n (tn_n ?_))
      cases h
      exact jr
     ·refine aw_skip (inB_n (tn_n ?_))
      cases h
      exact jr
    ·have h := g4
     refine aw_regU hT m_no [] (by kernel_rfl) (tn_n ?_)
     exact ⟨k, Nat.lt_succ_self k, _, _, h, jr⟩
   ·refine aw_exit (tn_x (tn_x (inB_e (tn_n ?_))))
    cases h
    exact jr
 ·have h := g1
  refine (tn_n ?_)
  refine aw_sregU hT m_no [] (by kernel_rfl) ?_
  refine aw_ret ?_
  cases h
  exact fin_r

theorem poly_Clamp_ok_c : callable Try.prog 84 := ⟨_, Try.func84, by decide, rfl⟩

def p_poly_number_L1 (N : Nat) (a0 : (List Int)) : Nat → Int → Int → Option (Int)
 | 0, _, _ => none
 | k + 1, s2, s3 =>
  cond (decide (s3 < 8)) (
   Option.bind (idx a0 s3) fun e4 =>
   Option.bind (shlO .u64 (U64 e4) (I64 (8 * s3))) fun x5 =>
   p_poly_number_L1 N a0 k (bor .u64 s2 x5) (I64 (s3 + 1))) (
   some s2)

def p_poly_number (N : Nat) (a0 : (List Int)) : Option (Int) :=
 Option.bind (p_poly_number_L1 N a0 N 0 0) fun p1 =>
 some p1

theorem poly_number_ok {N : Nat} {a0 : (List Int)} {r : Int} (h : p_poly_number N a0 = some r) : FnM Try.prog 85 [] [(eL 1 k8 a0)] (k64 r) [] := by
 unfold p_poly_number at h
 refine fnM_of_aw (m := 20) (lo := 0) (rs := [.tmp 2]) hT Try.func85 rfl (by kernel_rfl) rfl ?_
 refine aw_sregU hT m_no [] (by kernel_rfl) ?_
 refine aw_sregU hT m_no [] (by kernel_rfl) ?_
 refine aw_seq ?_
 refine aw_sregU hT m_no [] (by kernel_rfl) ?_
 obtain ⟨p1, h, g1⟩ := obind h
 refine aw_joinTK ⟨[en 3 (k64 p1)], []⟩ ?_ ?_
 ·refine aw_block (aw_loop (fun k s => ∃ s2 s3, p_poly_number_L1 N a0 k s2 s3 = some p1 ∧ JR (Fr.f 20 0) ⟨[en 0 (eL 1 k8 a0), en 3 (k64 s2), en 5 (j64 s3)], []⟩ s) (fun k s hI => ?_) N _ ⟨_, _, h, jr⟩)
  obtain ⟨s2, s3, h, hj⟩ := hI
  cases k with
  | zero => cases h
  | succ k =>
   refine aw_jr hj ?_
   refine aw_sregU hT m_no [] (by kernel_rfl) ?_
   refine aw_seq ?_
   refine aw_condH h (by kernel_rfl) (fun _ h => ?_) (fun _ h => ?_)
   ·refine aw_skip (tn_n ?_)
    refine aw_seq ?_
    refine aw_block ?_
    refine aw_sregU hT m_no [] (by kernel_rfl) ?_
    refine aw_region ?_
    refine awl_u hT m_no [] 3 (by kernel_rfl) ?_
    obtain ⟨e4, he4, h⟩ := obind h
    refine awl_big (big_idx hT k8 he4) (by kernel_rfl) ?_
    refine awl_u hT m_no [] 4 (by kernel_rfl) ?_
    obtain ⟨x5, hx5, h⟩ := obind h
    refine awl_big (big_shl hT (k' := .i64) hx5 (by kernel_rfl) (by kernel_rfl)) (by kernel_rfl) ?_
    refine awl_u hT m_no [] 2 (by kernel_rfl) ?_
    refine awl_nil (inB_n (tn_n ?_))
    refine aw_regU hT m_no [] (by kernel_rfl) (tn_n ?_)
    exact ⟨k, Nat.lt_succ_self k, _, _, h, jr⟩
   ·refine aw_exit (tn_x (tn_x (inB_e (tn_n ?_))))
    cases h
    exact jr
 ·have h := g1
  refine (tn_n ?_)
  refine aw_sregU hT m_no [] (by kernel_rfl) ?_
  refine aw_ret ?_
  cases h
  exact fin_r

theorem poly_number_ok_c : callable Try.prog 85 := ⟨_, Try.func85, by decide, rfl⟩

def m_poly_New : Nat → Bool := imL [1]

def p_poly_New (N : Nat) (a0 : (Vector Int 32)) : Option (Int × Int × Int × Int) :=
 Option.bind (slcO a0.toList 0 16) fun s1 =>
 Option.bind (vecO 16 s1) fun v2 =>
 Option.bind (p_poly_Clamp N v2) fun r3 =>
 Option.bind (slcO r3.toList 0 16) fun s4 =>
 Option.bind (p_poly_number N s4) fun r5 =>
 Option.bind (slcO r3.toList 8 16) fun s6 =>
 Option.bind (p_poly_number N s6) fun r7 =>
 Option.bind (slcO a0.toList 16 32) fun s8 =>
 Option.bind (p_poly_number N s8) fun r9 =>
 Option.bind (slcO a0.toList 24 32) fun s10 =>
 Option.bind (p_poly_number N s10) fun r11 =>
 some ((r5, r7, r9, r11))

theorem poly_New_ok {N : Nat} {a0 : (Vector Int 32)} {r : Int × Int × Int × Int} (h : p_poly_New N a0 = some r) : FnM Try.prog 71 [] [(eA 32 1 k8 a0)] (.ref 1 [] 0) [.dead, .var (.st 10 [(.st 3 [(.arr 3 1 [(k64 0), (k64 0), (k64 0)])]), (eB true), (k64 r.1), (k64 r.2.1), (k64 r.2.2.1), (k64 r.2.2.2), (.v (.slice none 0 0)), (j64 0)])] := by
 unfold p_poly_New at h
 refine fnM_of_aw (m := 18) (lo := 0) (rs := [.tmp 2]) hT Try.func71 rfl (by kernel_rfl) rfl ?_
 refine aw_sregU hT m_poly_New [] (by kernel_rfl) ?_
 refine aw_sreg ?_
 obtain ⟨s1, hs1, h⟩ := obind h
 refine awl_big (big_slI hT (N := 32) (k := 1) k8 a0 hs1) (by kernel_rfl) ?_
 obtain ⟨v2, hv2, h⟩ := obind h
 refine awl_big (big_s2a hT k8 s1 v2 hv2 rfl (by kernel_rfl) (by kernel_rfl)) (by kernel_rfl) ?_
 refine awl_u hT m_poly_New [] 1 (by kernel_rfl) ?_
 obtain ⟨r3, hr3, h⟩ := obind h
 refine awl_big (big_call [] (poly_Clamp_ok hr3) poly_Clamp_ok_c) (by kernel_rfl) ?_
 refine awl_u hT m_poly_New [] 2 (by kernel_rfl) ?_
 refine awl_nil ?_
 refine aw_gz 0 ((eA 16 1 k8 r3)) (by kernel_rfl) (by kernel_rfl) ?_
 obtain ⟨s4, hs4, h⟩ := obind h
 obtain ⟨r5, hr5, h⟩ := obind h
 obtain ⟨s6, hs6, h⟩ := obind h
 obtain ⟨r7, hr7, h⟩ := obind h
 obtain ⟨s8, hs8, h⟩ := obind h
 obtain ⟨r9, hr9, h⟩ := obind h
 obtain ⟨s10, hs10, h⟩ := obind h
 obtain ⟨r11, hr11, h⟩ := obind h
 refine aw_sdrawV hT hmo m_poly_New [(0, (eL 1 k8 s4)), (1, (k64 r5)), (2, (eL 1 k8 s6)), (3, (k64 r7)), (4, (eL 1 k8 s8)), (5, (k64 r9)), (6, (eL 1 k8 s10)), (7, (k64 r11))] [] (by kernel_rfl) (by kernel_rfl) (by kernel_rfl) ⟨fun _ => big_slI hT (N := 16) (k := 1) k8 r3 hs4, fun _ => big_call0 (poly_number_ok hr5) poly_number_ok_c (by kernel_rfl) (by kernel_rfl) (by kernel_rfl), fun _ => big_slI hT (N := 16) (k := 1) k8 r3 hs6, fun _ => big_call0 (poly_number_ok hr7) poly_number_ok_c (by kernel_rfl) (by kernel_rfl) (by kernel_rfl), fun _ => big_slI hT (N := 32) (k := 1) k8 a0 hs8, fun _ => big_call0 (poly_number_ok hr9) poly_number_ok_c (by kernel_rfl) (by kernel_rfl) (by kernel_rfl), fun _ => big_slI hT (N := 32) (k := 1) k8 a0 hs10, fun _ => big_call0 (poly_number_ok hr11) poly_number_ok_c (by kernel_rfl) (by kernel_rfl) (by kernel_rfl), trivial⟩ trivial ?_
 refine aw_ret ?_
 cases h
 exact fin_r

theorem poly_New_ok_c : callable Try.prog 71 := ⟨_, Try.func71, by decide, rfl⟩

def p_poly_Blocks_L1 (N : Nat)  : Nat → (List (Vector Int 17)) → (List Int) → Option ((List (Vector Int 17)))
 | 0, _, _ => none
 | k + 1, s5, s6 =>
  letO (decide (((s6.length : Int)) > 0)) fun x7 =>
  cond x7 (
   Option.bind (slcB 17 0 16) fun _ =>
   Option.bind (cpV (Vector.replicate 17 0) s6 0 16) fun v9 =>
   letO (((min s6.length 16 : Nat) : Int)) fun x10 =>
   Option.bind (inRO x10 17) fun _ =>
   Option.bind (v9.toList[x10.toNat]?) fun e12 =>
   Option.bind (appO 17 s5 (([v9.setIfInBounds x10.toNat 1] : List (Vector Int 17)))) fun z13 =>
   Option.bind (slcO s6 x10 ((s6.length : Int))) fun s14 =>
   p_poly_Blocks_L1 N k z13 s14) (
   some s5)

def p_poly_Blocks (N : Nat) (a0 : (List Int)) : Option ((List (Vector Int 17))) :=
 letO (imin ((a0.length : Int)) 65536) fun x2 =>
 Option.bind (slcO a0 0 x2) fun s3 =>
 Option.bind (p_poly_Blocks_L1 N N [] s3) fun p4 =>
 some p4

theorem poly_Blocks_ok {N : Nat} {a0 : (List Int)} {r : (List (Vector Int 17))} (h : p_poly_Blocks N a0 = some r) : FnM Try.prog 87 [] [(eL 1 k8 a0)] (eL 17 (eA 17 1 k8) r) [] := by
 unfold p_poly_Blocks at h
 refine fnM_of_aw (m := 27) (lo := 0) (rs := [.tmp 2]) hT Try.func87 rfl (by kernel_rfl) rfl ?_
 refine aw_sregU hT m_no [] (by kernel_rfl) ?_
 refine aw_sreg ?_
 obtain ⟨x2, hx2, h⟩ := letE h
 refine awl_u hT m_no [] 4 (by kernel_rfl) ?_
 refine awl_nms [(9, (j64 x2))] (by subst hx2; kernel_rfl) ?_
 obtain ⟨s3, hs3, h⟩ := obind h
 refine awl_big (big_slc hT (k := 1) k8 hs3) (by kernel_rfl) ?_
 refine awl_u hT m_no [] 1 (by kernel_rfl) ?_
 refine awl_nil ?_
 refine aw_sregU hT m_no [] (by kernel_rfl) ?_
 refine aw_own_nil 3 17 (by kernel_rfl) ?_
 obtain ⟨p4, h, g4⟩ := obind h
 refine aw_joinT ⟨[en 3 (eO 0 17 (eA 17 1 k8) p4)], [.tail (p4.length * 17)]⟩ ?_ ?_
 ·refine aw_block (aw_loop (fun k s => ∃ s5 s6, p_poly_Blocks_L1 N k s5 s6 = some p4 ∧ JR (Fr.f 27 0) ⟨[en 0 (eL 1 k8 s6), en 3 (eO 0 17 (eA 17 1 k8) s5)], [.tail (s5.length * 17)]⟩ s) (fun k s hI => ?_) N _ ⟨_, _, h, jr⟩)
  obtain ⟨s5, s6, h, hj⟩ := hI
  cases k with
  | zero => cases h
  | succ k =>
   refine aw_jr hj ?_
   refine aw_seq ?_
   obtain ⟨x7, hx7, h⟩ := letE h
   refine aw_sregU hT m_no [] (by kernel_rfl) ?_
   refine aw_nms [(13, (eB x7))] (by subst hx7; kernel_rfl) ?_
   refine aw_condH h (by kernel_rfl) (fun _ h => ?_) (fun _ h => ?_)
   ·refine aw_skip (tn_n ?_)
    refine aw_block ?_
    refine aw_sregU hT m_no [] (by kernel_rfl) ?_
    refine aw_sreg ?_
    obtain ⟨s8, hs8, h⟩ := obind h
    refine awl_big (big_slR hT (k := 1) 1 [] 0 hs8 (by kernel_rfl) (by kernel_rfl) (by decide)) (by kernel_rfl) ?_
    refine awl_u hT m_no [] 1 (by kernel_rfl) ?_
    obtain ⟨v9, hv9, h⟩ := obind h
    refine awl_big (big_cpyV hT k8 (id := 1) (path := []) (off := 0) (H' := [.tail (s5.length * 17), .var (eA 17 1 k8 v9)]) hv9 (by kernel_rfl) (by kernel_rfl) (by kernel_rfl)) (by kernel_rfl) ?_
    obtain ⟨x10, hx10, h⟩ := letE h
    refine awl_u hT m_no [] 1 (by kernel_rfl) ?_
    refine awl_nms [(5, (j64 x10))] (by subst hx10; kernel_rfl) ?_
    refine awl_nil ?_
    refine aw_sreg ?_
    refine awl_u hT m_no [] 1 (by kernel_rfl) ?_
    obtain ⟨u11, hu11, h⟩ := obind h
    refine awl_big (big_adR hT (k := 1) 1 [] 0 hu11) (by kernel_rfl) ?_
    obtain ⟨e12, he12, h⟩ := obind h
    refine awl_big (big_stV hT k8 0 v9 he12 1 (by kernel_rfl) (by kernel_rfl) (H' := [.tail (s5.length * 17), .var (eA 17 1 k8 (v9.setIfInBounds x10.toNat 1))])) (by kernel_rfl) ?_
    first | refine awl_to ⟨[en 0 (eL 1 k8 s6), en 3 (eO 0 17 (eA 17 1 k8) s5), en 4 (.ref 1 [] 0), en 5 (j64 x10)], [.tail (s5.length * 17), .var (eA 17 1 k8 (v9.setIfInBounds x10.toNat 1))]⟩ (by kernel_rfl) ?_ | skip
    refine awl_nil ?_
    refine aw_sreg ?_
    refine awl_u hT m_no [] 2 (by kernel_rfl) ?_
    refine awl_big (big_row hT (x := (.sl 17 1 [(eA 17 1 k8 (v9.setIfInBounds x10.toNat 1))]))) (by kernel_rfl) ?_
    obtain ⟨z13, hz13, h⟩ := obind h
    refine awl_big (big_app hT (eA 17 1 k8) (id := 0) (k := 17) hz13) (by kernel_rfl) ?_
    refine awl_u hT m_no [] 1 (by kernel_rfl) ?_
    refine awl_nil ?_
    refine aw_region ?_
    refine awl_u hT m_no [] 2 (by kernel_rfl) ?_
    obtain ⟨s14, hs14, h⟩ := obind h
    refine awl_big (big_slc hT (k := 1) k8 hs14) (by kernel_rfl) ?_
    refine awl_u hT m_no [] 1 (by kernel_rfl) ?_
    refine awl_nil (inB_n (tn_n ?_))
    exact ⟨k, Nat.lt_succ_self k, _, _, h, jr⟩
   ·refine aw_exit (tn_x (tn_x (inB_e (tn_n ?_))))
    cases h
    exact jr
 ·have h := g4
  refine aw_sregU hT m_no [] (by kernel_rfl) ?_
  refine aw_ret ?_
  cases h
  exact fin_r

theorem poly_Blocks_ok_c : callable Try.prog 87 := ⟨_, Try.func87, by decide, rfl⟩

theorem n_Add64 {x y c : Int} {r : Int × Int} (h : p_Add64 x y c = some r) : NatFn Try.prog 97 [.int .u64 x, .int .u64 y, .int .u64 c] (.tuple #[.int .u64 r.1, .int .u64 r.2]) :=
 nat_Add64 Try.func97 (by kernel_rfl) (by kernel_rfl) (by kernel_rfl) (by kernel_rfl) h

def p_math_bits_Mul64 (N : Nat) (a0 : Int) (a1 : Int) : Option (Int × Int) :=
 letO (band .u64 a0 4294967295) fun x1 =>
 letO (band .u64 a1 4294967295) fun x2 =>
 letO (U64 ((shr .u64 a0 32) * x2)) fun x3 =>
 letO (shr .u64 (U64 (x1 * x2)) 32) fun x4 =>
 letO (band .u64 (U64 (x3 + x4)) 4294967295) fun x5 =>
 letO (shr .u64 (U64 (x3 + x4)) 32) fun x6 =>
 letO (U64 (x1 * (shr .u64 a1 32))) fun x7 =>
 letO (U64 ((shr .u64 a0 32) * (shr .u64 a1 32))) fun x8 =>
 letO (shr .u64 (U64 (x5 + x7)) 32) fun x9 =>
 letO (U64 ((U64 (x8 + x6)) + x9)) fun x10 =>
 some ((x10, U64 (a0 * a1)))

theorem math_bits_Mul64_ok {N : Nat} {a0 : Int} {a1 : Int} {r : Int × Int} (h : p_math_bits_Mul64 N a0 a1 = some r) : FnM Try.prog 98 [] [(k64 a0), (k64 a1)] (.tup [(k64 r.1), (k64 r.2)]) [] := by
 unfold p_math_bits_Mul64 at h
 refine fnM_of_aw (m := 51) (lo := 0) (rs := [.tmp 4, .tmp 5]) hT Try.func98 rfl (by kernel_rfl) rfl ?_
 refine aw_sregU hT m_no [] (by kernel_rfl) ?_
 obtain ⟨x1, hx1, h⟩ := letE h
 refine aw_sregU hT m_no [] (by kernel_rfl) ?_
 refine aw_nms [(6, (k64 x1))] (by subst hx1; kernel_rfl) ?_
 refine aw_sregU hT m_no [] (by kernel_rfl) ?_
 obtain ⟨x2, hx2, h⟩ := letE h
 refine aw_sregU hT m_no [] (by kernel_rfl) ?_
 refine aw_nms [(8, (k64 x2))] (by subst hx2; kernel_rfl) ?_
 refine aw_sregU hT m_no [] (by kernel_rfl) ?_
 refine aw_sregU hT m_no [] (by kernel_rfl) ?_
 obtain ⟨x3, hx3, h⟩ := letE h
 obtain ⟨x4, hx4, h⟩ := letE h
 refine aw_sregU hT m_no [] (by kernel_rfl) ?_
 refine aw_nms [(11, (k64 (U64 (x3 + x4))))] (by subst hx4 hx3; kernel_rfl) ?_
 obtain ⟨x5, hx5, h⟩ := letE h
 refine aw_sregU hT m_no [] (by kernel_rfl) ?_
 refine aw_nms [(12, (k64 x5))] (by subst hx5; kernel_rfl) ?_
 obtain ⟨x6, hx6, h⟩ := letE h
 refine aw_sregU hT m_no [] (by kernel_rfl) ?_
 refine aw_nms [(13, (k64 x6))] (by subst hx6; kernel_rfl) ?_
 obtain ⟨x7, hx7, h⟩ := letE h
 refine aw_sregU hT m_no [] (by kernel_rfl) ?_
 refine aw_nms [(12, (k64 (U64 (x5 + x7))))] (by subst hx7; kernel_rfl) ?_
 obtain ⟨x8, hx8, h⟩ := letE h
 obtain ⟨x9, hx9, h⟩ := letE h
 obtain ⟨x10, hx10, h⟩ := letE h
 refine aw_sregU hT m_no [] (by kernel_rfl) ?_
 refine aw_nms [(4, (k64 x10))] (by subst hx10 hx9 hx8; kernel_rfl) ?_
 refine aw_sregU hT m_no [] (by kernel_rfl) ?_
 refine aw_ret ?_
 cases h
 exact fin_r

theorem math_bits_Mul64_ok_c : callable Try.prog 98 := ⟨_, Try.func98, by decide, rfl⟩

end Go.UK

