/- A part of the proof: what the functions of the program compute. -/
import Derived.Test.YtbifjcmhomoppaaGreatH1
namespace Go.UK
open Go Go.Proofs
set_option maxRecDepth 20000
set_option maxHeartbeats 4000000
set_option linter.all false

attribute [local irreducible] adv putPt dropPt setPt brPt litPt cutPt restPt popN unrPt stPt envPt boxPt opPt opP2t ksPt lPt owp awl aw FnM NatFn opS Stab TOK Big
def p_sha_Pad_L1 (N : Nat) (x3 : Int) (a0 : Int) : Nat → (List Int) → Int → Option ((List Int))
 | 0, _, _ => none
 | k + 1, s8, s9 =>
  cond (decide (s9 < 8)) (
   letO (I64 (((x3.toNat : Int)) - 1)) fun x10 =>
   letO (shl .u64 (U64 (imax a0 0)) 3) fun x11 =>
   Option.bind (shrO .u64 x11 (I64 (8 * s9))) fun x12 =>
   Option.bind (inRO (I64 (x10 - s9)) x3.toNat) fun _ =>
   Option.bind (s8[(I64 (x10 - s9)).toNat]?) fun e14 =>
   p_sha_Pad_L1 N x3 a0 k (s8.set ((I64 (x10 - s9)).toNat) (U8 x12)) (I64 (s9 + 1))) (
   some s8)

def p_sha_Pad (N : Nat) (a0 : Int) : Option ((List Int)) :=
 letO (Int.tmod (imax a0 0) 64) fun x1 =>
 letO (Int.tmod (I64 (119 - x1)) 64) fun x2 =>
 letO (I64 ((I64 (1 + x2)) + 8)) fun x3 =>
 Option.bind (mkO 1 x3) fun _ =>
 Option.bind (inRO 0 x3.toNat) fun _ =>
 Option.bind ((List.replicate x3.toNat (0 : Int))[(Int.toNat 0)]?) fun e6 =>
 Option.bind (p_sha_Pad_L1 N x3 a0 N ((List.replicate x3.toNat (0 : Int)).set ((Int.toNat 0)) 128) 0) fun p7 =>
 Option.bind (lenO p7 x3.toNat) fun _ =>
 some p7

theorem sha_Pad_ok {N : Nat} {a0 : Int} {r : (List Int)} (h : p_sha_Pad N a0 = some r) : FnM Tryz.prog 148 [] [(j64 a0)] (eL 1 k8 r) [] := by
 unfold p_sha_Pad at h
 refine At.fn m_no hT hmo (m := 35) (lo := 0) (rs := [.tmp 2]) Tryz.func148 rfl rfl h ?_
 refine lx ?_; intro x1
 refine lx ?_; intro x2
 refine lx ?_; intro x3
 refine At.b 10 (fun _ e => big_mk hT k8 ((0 : Int)) (k := 1) (kd := .int .u8) e (by kernel_rfl) (by kernel_rfl) rfl) fun u4 => ?_
 refine At.b 2 (fun _ e => big_adS hT 0 [] 0 0 x3.toNat (k := 1) e (by kernel_rfl) (by kernel_rfl)) fun u5 => ?_
 refine At.b 0 (fun _ e => big_stE hT k8 0 e 128 (by kernel_rfl) (by kernel_rfl) (by kernel_rfl)) fun e6 => ?_
 refine At.l 1 (fun p7 => ⟨[en 3 (.bsl 0 [] 0 1 0 x3.toNat)], [.var (.arr (x3.toNat * 1) 1 (List.map k8 p7))]⟩) (fun p7 J k s => ∃ s8 s9, p_sha_Pad_L1 N x3 a0 k s8 s9 = some p7 ∧ J ⟨[en 0 (j64 (imax a0 0)), en 3 (.bsl 0 [] 0 1 0 x3.toNat), en 16 (j64 s9)], [.var (.arr (x3.toNat * 1) 1 (List.map k8 s8))]⟩ s) N (fun _ h => ⟨_, _, h, jr⟩) (fun p7 k s hI => ?_) fun p7 => ?_
 ·obtain ⟨s8, s9, h, hj⟩ := hI
  cases k with
  | zero => cases h
  | succ k =>
   refine At.jr hj ?_ h
   refine At.c 1 ?_ ?_
   ·refine lx ?_; intro x10
    refine lx ?_; intro x11
    refine At.b 13 (fun _ e => big_shr hT (k' := .i64) e (by kernel_rfl) (by kernel_rfl)) fun x12 => ?_
    refine At.b 1 (fun _ e => big_adS hT 0 [] 0 0 x3.toNat (k := 1) e (by kernel_rfl) (by kernel_rfl)) fun u13 => ?_
    refine At.b 0 (fun _ e => big_stE hT k8 0 e (U8 x12) (by kernel_rfl) (by kernel_rfl) (by kernel_rfl)) fun e14 => ?_
    exact fun h => At.k 2 ⟨_, _, h, jr⟩
   ·apply rt; exact At.x 0
 ·refine bi fun u15 hu15 => ?_
  refine At.fz 2 0 1 x3.toNat _ (List.map k8 p7) (List.length_map _) (lenM k8 hu15) ?_
  apply rt; exact At.r 0

theorem sha_Pad_ok_c : callable Tryz.prog 148 := ⟨_, Tryz.func148, by decide, rfl⟩

def p_sha_Hash_Sum_r_L1 (N : Nat) (r3 : (Vector Int 8) × (Vector Int 64) × Int) : Nat → (Vector Int 32) → Int → Option ((Vector Int 32))
 | 0, _, _ => none
 | k + 1, s5, s6 =>
  cond (decide (s6 < 8)) (
   Option.bind (idx r3.1.toList s6) fun e7 =>
   letO (I64 ((I64 (4 * s6)) + 1)) fun x8 =>
   letO (I64 ((I64 (4 * s6)) + 2)) fun x9 =>
   letO (I64 ((I64 (4 * s6)) + 3)) fun x10 =>
   Option.bind (inRO (I64 (4 * s6)) 32) fun _ =>
   Option.bind (s5.toList[(I64 (4 * s6)).toNat]?) fun e12 =>
   Option.bind (inRO x8 32) fun _ =>
   Option.bind ((s5.setIfInBounds ((I64 (4 * s6)).toNat) (U8 (shr .u32 e7 24))).toList[x8.toNat]?) fun e14 =>
   Option.bind (inRO x9 32) fun _ =>
   Option.bind (((s5.setIfInBounds ((I64 (4 * s6)).toNat) (U8 (shr .u32 e7 24))).setIfInBounds x8.toNat (U8 (shr .u32 e7 16))).toList[x9.toNat]?) fun e16 =>
   Option.bind (inRO x10 32) fun _ =>
   Option.bind ((((s5.setIfInBounds ((I64 (4 * s6)).toNat) (U8 (shr .u32 e7 24))).setIfInBounds x8.toNat (U8 (shr .u32 e7 16))).setIfInBounds x9.toNat (U8 (shr .u32 e7 8))).toList[x10.toNat]?) fun e18 =>
   p_sha_Hash_Sum_r_L1 N r3 k ((((s5.setIfInBounds ((I64 (4 * s6)).toNat) (U8 (shr .u32 e7 24))).setIfInBounds x8.toNat (U8 (shr .u32 e7 16))).setIfInBounds x9.toNat (U8 (shr .u32 e7 8))).setIfInBounds x10.toNat (U8 e7)) (I64 (s6 + 1))) (
   some s5)

def p_sha_Hash_Sum_r (N : Nat) (a0 : S_sha_Hash) : Option ((Vector Int 32)) :=
 Option.bind (p_sha_Hash_none_r N a0) fun r1 =>
 cond r1 (
  some (Vector.replicate 32 0)) (
  Option.bind (p_sha_Pad N a0.gn) fun r2 =>
  Option.bind (p_sha_Hash_Write_rd N ([r2]) a0) fun r3 =>
  Option.bind (p_sha_Hash_Sum_r_L1 N r3 N (Vector.replicate 32 0) 0) fun p4 =>
  some p4)

theorem sha_Hash_Sum_r_ok {N : Nat} {a0 : S_sha_Hash} {r : (Vector Int 32)} (h : p_sha_Hash_Sum_r N a0 = some r) : FnM Tryz.prog 99 [.var (S_sha_Hash.enc a0)] [(.ref 0 [] 0)] (eA 32 1 k8 r) [.var (S_sha_Hash.enc a0)] := by
 unfold p_sha_Hash_Sum_r at h
 refine At.fn m_no hT hmo (m := 54) (lo := 1) (rs := [.cell 2 22]) Tryz.func99 rfl rfl h ?_
 refine At.b 2 (fun _ e => big_call [0] (sha_Hash_none_r_ok e) sha_Hash_none_r_ok_c) fun r1 => ?_
 refine At.c 0 ?_ ?_
 ·apply rt; exact At.r 2
 ·refine At.b 9 (fun _ e => big_call [] (sha_Pad_ok e) sha_Pad_ok_c) fun r2 => ?_
  refine At.o 0 (big_row hT (x := (.sl 1 1 [(eL 1 k8 r2)]))) ?_
  refine At.b 0 (fun _ e => big_call [2] (sha_Hash_Write_rd_ok e) sha_Hash_Write_rd_ok_c) fun r3 => ?_
  refine At.l 4 (fun p4 => ⟨[en 2 (.ref 1 [] 0), en 4 (.ref 3 [] 0)], [.var (S_sha_Hash.enc a0), .var (eA 32 1 k8 (Vector.replicate 32 0)), .var (.st 73 [(eA 8 1 k32 r3.1), (eA 64 1 k8 r3.2.1), (j64 r3.2.2)]), .var (eA 32 1 k8 p4)]⟩) (fun p4 J k s => ∃ s5 s6, p_sha_Hash_Sum_r_L1 N r3 k s5 s6 = some p4 ∧ J ⟨[en 2 (.ref 1 [] 0), en 4 (.ref 3 [] 0), en 21 (eA 8 1 k32 r3.1), en 22 (j64 s6)], [.var (S_sha_Hash.enc a0), .var (eA 32 1 k8 (Vector.replicate 32 0)), .var (.st 73 [(eA 8 1 k32 r3.1), (eA 64 1 k8 r3.2.1), (j64 r3.2.2)]), .var (eA 32 1 k8 s5)]⟩ s) N (fun _ h => ⟨_, _, h, jr⟩) (fun p4 k s hI => ?_) fun p4 => ?_
  ·obtain ⟨s5, s6, h, hj⟩ := hI
   cases k with
   | zero => cases h
   | succ k =>
    refine At.jr hj ?_ h
    refine At.c 1 ?_ ?_
    ·refine At.b 1 (fun _ e => big_ixA hT k32 r3.1 e (by kernel_rfl) (by kernel_rfl)) fun e7 => ?_
     refine lx ?_; intro x8
     refine lx ?_; intro x9
     refine lx ?_; intro x10
     refine At.b 24 (fun _ e => big_adR hT (k := 1) 3 [] 0 e) fun u11 => ?_
     refine At.b 0 (fun _ e => big_stV hT k8 0 s5 e (U8 (shr .u32 e7 24)) (by kernel_rfl) (by kernel_rfl) (H' := [.var (S_sha_Hash.enc a0), .var (eA 32 1 k8 (Vector.replicate 32 0)), .var (.st 73 [(eA 8 1 k32 r3.1), (eA 64 1 k8 r3.2.1), (j64 r3.2.2)]), .var (eA 32 1 k8 (s5.setIfInBounds ((I64 (4 * s6)).toNat) (U8 (shr .u32 e7 24))))])) fun e12 => ?_
     refine At.b 0 (fun _ e => big_adR hT (k := 1) 3 [] 0 e) fun u13 => ?_
     refine At.b 0 (fun _ e => big_stV hT k8 0 (s5.setIfInBounds ((I64 (4 * s6)).toNat) (U8 (shr .u32 e7 24))) e (U8 (shr .u32 e7 16)) (by kernel_rfl) (by kernel_rfl) (H' := [.var (S_sha_Hash.enc a0), .var (eA 32 1 k8 (Vector.replicate 32 0)), .var (.st 73 [(eA 8 1 k32 r3.1), (eA 64 1 k8 r3.2.1), (j64 r3.2.2)]), .var (eA 32 1 k8 ((s5.setIfInBounds ((I64 (4 * s6)).toNat) (U8 (shr .u32 e7 24))).setIfInBounds x8.toNat (U8 (shr .u32 e7 16))))])) fun e14 => ?_
     refine At.b 0 (fun _ e => big_adR hT (k := 1) 3 [] 0 e) fun u15 => ?_
     refine At.b 0 (fun _ e => big_stV hT k8 0 ((s5.setIfInBounds ((I64 (4 * s6)).toNat) (U8 (shr .u32 e7 24))).setIfInBounds x8.toNat (U8 (shr .u32 e7 16))) e (U8 (shr .u32 e7 8)) (by kernel_rfl) (by kernel_rfl) (H' := [.var (S_sha_Hash.enc a0), .var (eA 32 1 k8 (Vector.replicate 32 0)), .var (.st 73 [(eA 8 1 k32 r3.1), (eA 64 1 k8 r3.2.1), (j64 r3.2.2)]), .var (eA 32 1 k8 (((s5.setIfInBounds ((I64 (4 * s6)).toNat) (U8 (shr .u32 e7 24))).setIfInBounds x8.toNat (U8 (shr .u32 e7 16))).setIfInBounds x9.toNat (U8 (shr .u32 e7 8))))])) fun e16 => ?_
     refine At.b 0 (fun _ e => big_adR hT (k := 1) 3 [] 0 e) fun u17 => ?_
     refine At.b 0 (fun _ e => big_stV hT k8 0 (((s5.setIfInBounds ((I64 (4 * s6)).toNat) (U8 (shr .u32 e7 24))).setIfInBounds x8.toNat (U8 (shr .u32 e7 16))).setIfInBounds x9.toNat (U8 (shr .u32 e7 8))) e (U8 e7) (by kernel_rfl) (by kernel_rfl) (H' := [.var (S_sha_Hash.enc a0), .var (eA 32 1 k8 (Vector.replicate 32 0)), .var (.st 73 [(eA 8 1 k32 r3.1), (eA 64 1 k8 r3.2.1), (j64 r3.2.2)]), .var (eA 32 1 k8 ((((s5.setIfInBounds ((I64 (4 * s6)).toNat) (U8 (shr .u32 e7 24))).setIfInBounds x8.toNat (U8 (shr .u32 e7 16))).setIfInBounds x9.toNat (U8 (shr .u32 e7 8))).setIfInBounds x10.toNat (U8 e7)))])) fun e18 => ?_
     exact fun h => At.k 2 ⟨_, _, h, jr⟩
    ·apply rt; exact At.x 0
  ·apply rt; exact At.r 2

theorem sha_Hash_Sum_r_ok_c : callable Tryz.prog 99 := ⟨_, Tryz.func99, by decide, rfl⟩

def p_sha_Sum (N : Nat) (a0 : (List (List Int))) : Option ((Vector Int 32)) :=
 Option.bind (p_sha_New N ) fun r1 =>
 Option.bind (p_sha_Hash_Write_rd N a0 (S_sha_Hash.mk (#v[1779033703, 3144134277, 1013904242, 2773480762, 1359893119, 2600822924, 528734635, 1541459225]) (Vector.replicate 64 0) 0)) fun r2 =>
 Option.bind (p_sha_Hash_Sum_r N (S_sha_Hash.mk r2.1 r2.2.1 r2.2.2)) fun r3 =>
 some r3

theorem sha_Sum_ok {N : Nat} {a0 : (List (List Int))} {r : (Vector Int 32)} (h : p_sha_Sum N a0 = some r) : FnM Tryz.prog 100 [] [(eL 1 (eL 1 k8) a0)] (eA 32 1 k8 r) [] := by
 unfold p_sha_Sum at h
 refine At.fn m_no hT hmo (m := 10) (lo := 0) (rs := [.cell 2 22]) Tryz.func100 rfl rfl h ?_
 refine At.b 1 (fun _ e => big_call [] (sha_New_ok e) sha_New_ok_c) fun r1 => ?_
 refine At.b 3 (fun _ e => big_call [1] (sha_Hash_Write_rd_ok e) sha_Hash_Write_rd_ok_c) fun r2 => ?_
 refine At.b 1 (fun _ e => big_call [1] (sha_Hash_Sum_r_ok e) sha_Hash_Sum_r_ok_c) fun r3 => ?_
 apply rt; exact At.r 1

theorem sha_Sum_ok_c : callable Tryz.prog 100 := ⟨_, Tryz.func100, by decide, rfl⟩

def p_mac_pads_L1 (N : Nat)  : Nat → (Vector Int 64) → (Vector Int 64) → Int → Option ((Vector Int 64) × (Vector Int 64))
 | 0, _, _, _ => none
 | k + 1, s9, s10, s11 =>
  cond (decide (s11 < 64)) (
   Option.bind (inRO s11 64) fun _ =>
   Option.bind (s9.toList[s11.toNat]?) fun e13 =>
   Option.bind (inRO s11 64) fun _ =>
   Option.bind (s9.toList[s11.toNat]?) fun e15 =>
   Option.bind (inRO s11 64) fun _ =>
   Option.bind (s10.toList[s11.toNat]?) fun e17 =>
   Option.bind (inRO s11 64) fun _ =>
   Option.bind (s10.toList[s11.toNat]?) fun e19 =>
   p_mac_pads_L1 N k (s9.setIfInBounds s11.toNat (bxor .u8 e13 54)) (s10.setIfInBounds s11.toNat (bxor .u8 e17 92)) (I64 (s11 + 1))) (
   some ((s9, s10)))

def p_mac_pads (N : Nat) (a0 : (List Int)) : Option ((Vector Int 64) × (Vector Int 64)) :=
 Option.bind (letO (decide (((a0.length : Int)) > 64)) fun x2 =>
 cond x2 (
  Option.bind (p_sha_Sum N ([a0])) fun r3 =>
  Option.bind (slcO r3.toList 0 32) fun s5 =>
  some s5) (
  some a0)) fun p1 =>
 Option.bind (slcB 64 0 64) fun _ =>
 Option.bind (cpV (Vector.replicate 64 0) p1 0 64) fun v7 =>
 Option.bind (p_mac_pads_L1 N N v7 v7 0) fun p8 =>
 some ((p8.1, p8.2))

theorem mac_pads_ok {N : Nat} {a0 : (List Int)} {r : (Vector Int 64) × (Vector Int 64)} (h : p_mac_pads N a0 = some r) : FnM Tryz.prog 96 [] [(eL 1 k8 a0)] (.tup [(eA 64 1 k8 r.1), (eA 64 1 k8 r.2)]) [] := by
 unfold p_mac_pads at h
 refine At.fn m_no hT hmo (m := 33) (lo := 0) (rs := [.cell 2 182, .cell 3 182]) Tryz.func96 rfl rfl h ?_
 refine At.j 2 1 (fun p1 => ⟨[en 0 (eL 1 k8 p1), en 2 (.ref 0 [] 0), en 3 (.ref 1 [] 0)], [.var (eA 64 1 k8 (Vector.replicate 64 0)), .var (eA 64 1 k8 (Vector.replicate 64 0))]⟩) (fun p1 => ?_) fun p1 => ?_
 ·refine lx ?_; intro x2
  refine At.c 3 ?_ ?_
  ·refine At.o 1 (big_row hT (x := (.sl 1 1 [(eL 1 k8 a0)]))) ?_
   refine At.b 0 (fun _ e => big_call [] (sha_Sum_ok e) sha_Sum_ok_c) fun r3 => ?_
   refine At.gz 2 2 ((eA 32 1 k8 r3)) ?_
   refine At.b 0 (fun _ e => big_slI hT (N := 32) (k := 1) k8 r3 e) fun s5 => ?_
   apply rt; exact At.jn 1
  ·apply rt; exact At.jn 0
 ·refine At.b 0 (fun _ e => big_slR hT (k := 1) 0 [] 0 e (by kernel_rfl) (by kernel_rfl) (by decide)) fun s6 => ?_
  refine At.b 1 (fun v7 e => big_cpyV hT k8 (id := 0) (path := []) (off := 0) (H' := [.var (eA 64 1 k8 v7), .var (eA 64 1 k8 (Vector.replicate 64 0))]) e (by kernel_rfl) (by kernel_rfl) (by kernel_rfl)) fun v7 => ?_
  refine At.l 3 (fun p8 => ⟨[en 2 (.ref 0 [] 0), en 3 (.ref 1 [] 0)], [.var (eA 64 1 k8 p8.1), .var (eA 64 1 k8 p8.2)]⟩) (fun p8 J k s => ∃ s9 s10 s11, p_mac_pads_L1 N k s9 s10 s11 = some p8 ∧ J ⟨[en 2 (.ref 0 [] 0), en 3 (.ref 1 [] 0), en 17 (j64 s11)], [.var (eA 64 1 k8 s9), .var (eA 64 1 k8 s10)]⟩ s) N (fun _ h => ⟨_, _, _, h, jr⟩) (fun p8 k s hI => ?_) fun p8 => ?_
  ·obtain ⟨s9, s10, s11, h, hj⟩ := hI
   cases k with
   | zero => cases h
   | succ k =>
    refine At.jr hj ?_ h
    refine At.c 1 ?_ ?_
    ·refine At.b 3 (fun _ e => big_adR hT (k := 1) 0 [] 0 e) fun u12 => ?_
     refine At.b 0 (fun _ e => big_ldE hT k8 0 e) fun e13 => ?_
     refine At.b 1 (fun _ e => big_adR hT (k := 1) 0 [] 0 e) fun u14 => ?_
     refine At.b 0 (fun _ e => big_stV hT k8 0 s9 e (bxor .u8 e13 54) (by kernel_rfl) (by kernel_rfl) (H' := [.var (eA 64 1 k8 (s9.setIfInBounds s11.toNat (bxor .u8 e13 54))), .var (eA 64 1 k8 s10)])) fun e15 => ?_
     refine At.b 1 (fun _ e => big_adR hT (k := 1) 1 [] 0 e) fun u16 => ?_
     refine At.b 0 (fun _ e => big_ldE hT k8 0 e) fun e17 => ?_
     refine At.b 1 (fun _ e => big_adR hT (k := 1) 1 [] 0 e) fun u18 => ?_
     refine At.b 0 (fun _ e => big_stV hT k8 0 s10 e (bxor .u8 e17 92) (by kernel_rfl) (by kernel_rfl) (H' := [.var (eA 64 1 k8 (s9.setIfInBounds s11.toNat (bxor .u8 e13 54))), .var (eA 64 1 k8 (s10.setIfInBounds s11.toNat (bxor .u8 e17 92)))])) fun e19 => ?_
     exact fun h => At.k 2 ⟨_, _, _, h, jr⟩
    ·apply rt; exact At.x 0
  ·refine At.d 0 dE0 dF0 ?_
   apply rt; exact At.r 0

theorem mac_pads_ok_c : callable Tryz.prog 96 := ⟨_, Tryz.func96, by decide, rfl⟩

def p_mac_Sum (N : Nat) (a0 : (List Int)) (a1 : (List (List Int))) : Option ((Vector Int 32)) :=
 Option.bind (p_mac_pads N a0) fun r1 =>
 Option.bind (p_sha_New N ) fun r2 =>
 Option.bind (slcO r1.1.toList 0 64) fun s4 =>
 Option.bind (p_sha_Hash_Write_rd N ([s4]) (S_sha_Hash.mk (#v[1779033703, 3144134277, 1013904242, 2773480762, 1359893119, 2600822924, 528734635, 1541459225]) (Vector.replicate 64 0) 0)) fun r5 =>
 Option.bind (p_sha_Hash_Write_rd N a1 (S_sha_Hash.mk r5.1 r5.2.1 r5.2.2)) fun r6 =>
 Option.bind (p_sha_Hash_Sum_r N (S_sha_Hash.mk r6.1 r6.2.1 r6.2.2)) fun r7 =>
 Option.bind (slcO r1.2.toList 0 64) fun s8 =>
 Option.bind (slcO r7.toList 0 32) fun s9 =>
 Option.bind (p_sha_Sum N ([s8, s9])) fun r10 =>
 some r10

theorem mac_Sum_ok {N : Nat} {a0 : (List Int)} {a1 : (List (List Int))} {r : (Vector Int 32)} (h : p_mac_Sum N a0 a1 = some r) : FnM Tryz.prog 64 [] [(eL 1 k8 a0), (eL 1 (eL 1 k8) a1)] (eA 32 1 k8 r) [] := by
 unfold p_mac_Sum at h
 refine At.fn m_no hT hmo (m := 28) (lo := 0) (rs := [.cell 4 22]) Tryz.func64 rfl rfl h ?_
 refine At.b 2 (fun _ e => big_call [] (mac_pads_ok e) mac_pads_ok_c) fun r1 => ?_
 refine At.b 7 (fun _ e => big_call [] (sha_New_ok e) sha_New_ok_c) fun r2 => ?_
 refine At.gz 2 1 ((eA 64 1 k8 r1.1)) ?_
 refine At.b 0 (fun _ e => big_slI hT (N := 64) (k := 1) k8 r1.1 e) fun s4 => ?_
 refine At.o 0 (big_row hT (x := (.sl 1 1 [(eL 1 k8 s4)]))) ?_
 refine At.b 0 (fun _ e => big_call [3] (sha_Hash_Write_rd_ok e) sha_Hash_Write_rd_ok_c) fun r5 => ?_
 refine At.b 2 (fun _ e => big_call [3] (sha_Hash_Write_rd_ok e) sha_Hash_Write_rd_ok_c) fun r6 => ?_
 refine At.b 1 (fun _ e => big_call [3] (sha_Hash_Sum_r_ok e) sha_Hash_Sum_r_ok_c) fun r7 => ?_
 refine At.gz 2 2 ((eA 64 1 k8 r1.2)) ?_
 refine At.gz 0 4 ((eA 32 1 k8 r7)) ?_
 refine bi fun s8 hs8 => ?_
 refine bi fun s9 hs9 => ?_
 refine bi fun r10 hr10 => ?_
 refine At.d 0 (dE1 0 (fun _ => big_slI hT (N := 64) (k := 1) k8 r1.2 hs8) (dE1 1 (fun _ => big_slI hT (N := 32) (k := 1) k8 r7 hs9) (dE1 2 (fun _ => big_row hT (x := (.sl 1 2 [(eL 1 k8 s8), (eL 1 k8 s9)]))) (dE2 3 (eA 32 1 k8 r10) (fun _ => big_call0 (sha_Sum_ok hr10) sha_Sum_ok_c (by kernel_rfl) (by kernel_rfl) (by kernel_rfl)) dE0)))) dF0 ?_
 apply rt; exact At.r 0

theorem mac_Sum_ok_c : callable Tryz.prog 64 := ⟨_, Tryz.func64, by decide, rfl⟩

def m_mac_Derive : Nat → Bool := imL [3]

def p_mac_Derive_L1 (N : Nat) (a2 : (List (List Int))) : Nat → (List (List Int)) → Int → Option ((List (List Int)))
 | 0, _, _ => none
 | k + 1, s4, s5 =>
  letO (decide (s5 < ((a2.length : Int)))) fun x6 =>
  cond x6 (
   Option.bind (idx a2 s5) fun e7 =>
   Option.bind (p_mac_eight N ((e7.length : Int))) fun r8 =>
   Option.bind (appO 24 s4 (([r8, e7] : List (List Int)))) fun z9 =>
   p_mac_Derive_L1 N a2 k z9 (I64 (s5 + 1))) (
   some s4)

def p_mac_Derive (N : Nat) (a0 : (Vector Int 32)) (a1 : ByteArray) (a2 : (List (List Int))) : Option ((Vector Int 32)) :=
 letO ((ByteArray.size a1 : Int)) fun x1 =>
 Option.bind (p_mac_eight N x1) fun r2 =>
 Option.bind (p_mac_Derive_L1 N a2 N (([r2, bytesI a1] : List (List Int))) 0) fun p3 =>
 Option.bind (slcO a0.toList 0 32) fun s10 =>
 Option.bind (p_mac_Sum N s10 p3) fun r11 =>
 some r11

theorem mac_Derive_ok {N : Nat} {a0 : (Vector Int 32)} {a1 : ByteArray} {a2 : (List (List Int))} {r : (Vector Int 32)} (h : p_mac_Derive N a0 a1 a2 = some r) : FnM Tryz.prog 33 [] [(eA 32 1 k8 a0), (eS a1), (eL 1 (eL 1 k8) a2)] (eA 32 1 k8 r) [] := by
 unfold p_mac_Derive at h
 refine At.fn m_mac_Derive hT hmo (m := 33) (lo := 0) (rs := [.cell 6 22]) Tryz.func33 rfl rfl h ?_
 refine lx ?_; intro x1
 refine At.b 4 (fun _ e => big_call [] (mac_eight_ok e) mac_eight_ok_c) fun r2 => ?_
 refine At.o 1 (big_s2b hT a1 (e := 5) (by kernel_rfl) (by kernel_rfl)) ?_
 refine At.o 0 (big_rowO hT (eL 1 k8) (k := 1) ([r2, bytesI a1] : List (List Int)) (by kernel_rfl) (by kernel_rfl)) ?_
 refine At.l 4 (fun p3 => ⟨[en 3 (.im (eA 32 1 k8 a0)), en 6 (.ref 0 [] 0), en 7 (eO 1 1 (eL 1 k8) p3)], [.var (eA 32 1 k8 (Vector.replicate 32 0)), .tail (p3.length * 1)]⟩) (fun p3 J k s => ∃ s4 s5, p_mac_Derive_L1 N a2 k s4 s5 = some p3 ∧ J ⟨[en 3 (.im (eA 32 1 k8 a0)), en 6 (.ref 0 [] 0), en 7 (eO 1 1 (eL 1 k8) s4), en 16 (eL 1 (eL 1 k8) a2), en 17 (j64 ((a2.length : Int))), en 18 (j64 s5)], [.var (eA 32 1 k8 (Vector.replicate 32 0)), .tail (s4.length * 1)]⟩ s) N (fun _ h => ⟨_, _, h, jr⟩) (fun p3 k s hI => ?_) fun p3 => ?_
 ·obtain ⟨s4, s5, h, hj⟩ := hI
  cases k with
  | zero => cases h
  | succ k =>
   refine At.jr hj ?_ h
   refine lx ?_; intro x6
   refine At.c 1 ?_ ?_
   ·refine At.b 0 (fun _ e => big_idx hT (eL 1 k8) e) fun e7 => ?_
    refine At.b 5 (fun _ e => big_call [] (mac_eight_ok e) mac_eight_ok_c) fun r8 => ?_
    refine At.o 1 (big_row hT (x := (.sl 1 2 [(eL 1 k8 r8), (eL 1 k8 e7)]))) ?_
    refine At.b 0 (fun _ e => big_app hT (eL 1 k8) (id := 1) (k := 1) e) fun z9 => ?_
    exact fun h => At.k 3 ⟨_, _, h, jr⟩
   ·apply rt; exact At.x 0
 ·refine At.b 0 (fun _ e => big_slI hT (N := 32) (k := 1) k8 a0 e) fun s10 => ?_
  refine At.b 1 (fun _ e => big_call [] (mac_Sum_ok e) mac_Sum_ok_c) fun r11 => ?_
  apply rt; exact At.r 1

theorem mac_Derive_ok_c : callable Tryz.prog 33 := ⟨_, Tryz.func33, by decide, rfl⟩

def m_keys_Key : Nat → Bool := imL [3]

def p_keys_Key (N : Nat) (a0 : (Vector Int 32)) (a1 : Int) (a2 : Int) : Option ((Vector Int 32)) :=
 letO (band .u64 (U64 a1) 65535) fun x1 =>
 Option.bind (p_codec_Put N [] 2 ([x1])) fun r2 =>
 letO (band .u64 (U64 a2) 4294967295) fun x3 =>
 Option.bind (p_codec_Put N [] 4 ([x3])) fun r4 =>
 Option.bind (p_mac_Derive N a0 str_0 ([r2.1, r4.1])) fun r5 =>
 some r5

theorem keys_Key_ok {N : Nat} {a0 : (Vector Int 32)} {a1 : Int} {a2 : Int} {r : (Vector Int 32)} (h : p_keys_Key N a0 a1 a2 = some r) : FnM Tryz.prog 11 [] [(eA 32 1 k8 a0), (j64 a1), (j64 a2)] (eA 32 1 k8 r) [] := by
 unfold p_keys_Key at h
 refine At.fn m_keys_Key hT hmo (m := 32) (lo := 0) (rs := [.cell 6 22]) Tryz.func11 rfl rfl h ?_
 refine lx ?_; intro x1
 refine At.o 5 (big_row hT (x := (.sl 1 1 [(k64 x1)]))) ?_
 refine At.b 0 (fun _ e => big_call [] (codec_Put_ok e) codec_Put_ok_c) fun r2 => ?_
 refine lx ?_; intro x3
 refine At.o 8 (big_row hT (x := (.sl 1 1 [(k64 x3)]))) ?_
 refine At.b 0 (fun _ e => big_call [] (codec_Put_ok e) codec_Put_ok_c) fun r4 => ?_
 refine At.wk 8 28 ((eL 1 k8 r2.1)) ?_
 refine At.wk 0 29 ((eL 1 k8 r4.1)) ?_
 refine At.o 0 (big_row hT (x := (.sl 1 2 [(eL 1 k8 r2.1), (eL 1 k8 r4.1)]))) ?_
 refine At.b 0 (fun _ e => big_call [] (mac_Derive_ok e) mac_Derive_ok_c) fun r5 => ?_
 apply rt; exact At.r 1

theorem keys_Key_ok_c : callable Tryz.prog 11 := ⟨_, Tryz.func11, by decide, rfl⟩

def m_mesh_Check_1 : Nat → Bool := imL [1]

def p_mesh_Check_1 (N : Nat) (a0 : S_api_Point) : Option (Bool) :=
 Option.bind (letO (decide ((imax (imax a0.gX a0.gY) a0.gZ) > 4096)) fun x2 =>
 cond x2 (
  some true) (
  letO (decide ((imin (imin a0.gX a0.gY) a0.gZ) < (-4096))) fun x3 =>
  some x3)) fun p1 =>
 some p1

theorem mesh_Check_1_ok {N : Nat} {a0 : S_api_Point} {r : Bool} (h : p_mesh_Check_1 N a0 = some r) : FnM Tryz.prog 186 [] [(S_api_Point.enc a0)] (eB r) [] := by
 unfold p_mesh_Check_1 at h
 refine At.fn m_mesh_Check_1 hT hmo (m := 21) (lo := 0) (rs := [.tmp 2]) Tryz.func186 rfl rfl h ?_
 refine At.j 2 0 (fun p1 => ⟨[en 2 (eB p1)], []⟩) (fun p1 => ?_) fun p1 => ?_
 ·refine At.o 6 (big_max3 (k := .i64) (i := a0.gX) (j := a0.gY) (l := a0.gZ) (by kernel_rfl) (by kernel_rfl)) ?_
  refine lx ?_; intro x2
  refine At.s 11 2 ?_ ?_
  ·refine At.g [11] 10 ?_
   apply rt; exact At.jn 0
  ·refine At.g [11] 6 ?_
   refine At.o 0 (big_min3 (k := .i64) (i := a0.gX) (j := a0.gY) (l := a0.gZ) (by kernel_rfl) (by kernel_rfl)) ?_
   refine lx ?_; intro x3
   refine At.g [11] 3 ?_
   apply rt; exact At.jn 0
 ·apply rt; exact At.r 0

theorem mesh_Check_1_ok_c : callable Tryz.prog 186 := ⟨_, Tryz.func186, by decide, rfl⟩

def p_slices_IndexFunc_api_Point_api_Point_Check_1_L1 (N : Nat) (a0 : (List S_api_Point)) : Nat → Int → Option (Sum (Unit) (Int))
 | 0, _ => none
 | k + 1, s2 =>
  letO (decide (s2 < ((a0.length : Int)))) fun x3 =>
  cond x3 (
   Option.bind (idx a0 s2) fun e4 =>
   Option.bind (p_mesh_Check_1 N e4) fun r5 =>
   cond r5 (
    some (Sum.inr s2)) (
    p_slices_IndexFunc_api_Point_api_Point_Check_1_L1 N a0 k (I64 (s2 + 1)))) (
   some (Sum.inl (())))

def p_slices_IndexFunc_api_Point_api_Point_Check_1 (N : Nat) (a0 : (List S_api_Point)) : Option (Int) :=
 Option.bind (p_slices_IndexFunc_api_Point_api_Point_Check_1_L1 N a0 N 0) fun o => sumC o (fun p1 =>
  some (-1)) (fun r => some r)

theorem slices_IndexFunc_api_Point_api_Point_Check_1_ok {N : Nat} {a0 : (List S_api_Point)} {r : Int} (h : p_slices_IndexFunc_api_Point_api_Point_Check_1 N a0 = some r) : FnM Tryz.prog 217 [] [(eL 3 S_api_Point.enc a0), (.fn (.func 186) [] [])] (j64 r) [] := by
 unfold p_slices_IndexFunc_api_Point_api_Point_Check_1 at h
 refine At.fn m_no hT hmo (m := 19) (lo := 0) (rs := [.tmp 4]) Tryz.func217 rfl rfl h ?_
 refine At.ls 4 (fun p1 => ⟨[], []⟩) (fun op1 J k s => ∃ s2, p_slices_IndexFunc_api_Point_api_Point_Check_1_L1 N a0 k s2 = some op1 ∧ J ⟨[en 0 (eL 3 S_api_Point.enc a0), en 1 (.fn (.func 186) [] []), en 7 (j64 ((a0.length : Int))), en 8 (j64 s2)], []⟩ s) N (fun _ h => ⟨_, h, jr⟩) (fun op1 g1 k s hI => ?_) fun p1 => ?_
 ·obtain ⟨s2, h, hj⟩ := hI
  cases k with
  | zero => cases h
  | succ k =>
   refine At.jr hj ?_ h
   refine lx ?_; intro x3
   refine At.c 1 ?_ ?_
   ·refine At.b 5 (fun _ e => big_idx hT S_api_Point.enc e) fun e4 => ?_
    refine At.b 1 (fun _ e => big_call [] (mesh_Check_1_ok e) mesh_Check_1_ok_c) fun r5 => ?_
    refine At.c 0 ?_ ?_
    ·rintro ⟨⟩
     obtain rfl := sum_e g1
     exact At.r 2
    ·exact fun h => At.k 2 ⟨_, h, jr⟩
   ·apply rt; exact At.xs 0
 ·apply rt; exact At.r 1

theorem slices_IndexFunc_api_Point_api_Point_Check_1_ok_c : callable Tryz.prog 217 := ⟨_, Tryz.func217, by decide, rfl⟩

def p_slices_ContainsFunc_api_Point_api_Point_Check_1 (N : Nat) (a0 : (List S_api_Point)) : Option (Bool) :=
 Option.bind (p_slices_IndexFunc_api_Point_api_Point_Check_1 N a0) fun r1 =>
 some (decide (r1 ≥ 0))

theorem slices_ContainsFunc_api_Point_api_Point_Check_1_ok {N : Nat} {a0 : (List S_api_Point)} {r : Bool} (h : p_slices_ContainsFunc_api_Point_api_Point_Check_1 N a0 = some r) : FnM Tryz.prog 189 [] [(eL 3 S_api_Point.enc a0), (.fn (.func 186) [] [])] (eB r) [] := by
 unfold p_slices_ContainsFunc_api_Point_api_Point_Check_1 at h
 refine At.fn m_no hT hmo (m := 9) (lo := 0) (rs := [.tmp 4]) Tryz.func189 rfl rfl h ?_
 refine At.b 3 (fun _ e => big_call [] (slices_IndexFunc_api_Point_api_Point_Check_1_ok e) slices_IndexFunc_api_Point_api_Point_Check_1_ok_c) fun r1 => ?_
 apply rt; exact At.r 2

theorem slices_ContainsFunc_api_Point_api_Point_Check_1_ok_c : callable Tryz.prog 189 := ⟨_, Tryz.func189, by decide, rfl⟩

def m_mesh_Check_2 : Nat → Bool := imL [1]

def p_mesh_Check_2 (N : Nat) (a0 : (Vector Int 2)) : Option (Bool) :=
 Option.bind (Option.bind (idx a0.toList 0) fun e2 =>
 Option.bind (idx a0.toList 1) fun e3 =>
 letO (decide ((imin e2 e3) < 0)) fun x4 =>
 cond x4 (
  some true) (
  Option.bind (idx a0.toList 0) fun e5 =>
  Option.bind (idx a0.toList 1) fun e6 =>
  letO (decide ((imax e5 e6) > 65535)) fun x7 =>
  some x7)) fun p1 =>
 some p1

theorem mesh_Check_2_ok {N : Nat} {a0 : (Vector Int 2)} {r : Bool} (h : p_mesh_Check_2 N a0 = some r) : FnM Tryz.prog 187 [] [(eA 2 1 j64 a0)] (eB r) [] := by
 unfold p_mesh_Check_2 at h
 refine At.fn m_mesh_Check_2 hT hmo (m := 17) (lo := 0) (rs := [.tmp 2]) Tryz.func187 rfl rfl h ?_
 refine At.j 2 0 (fun p1 => ⟨[en 2 (eB p1)], []⟩) (fun p1 => ?_) fun p1 => ?_
 ·refine At.b 0 (fun _ e => big_adI hT (N := 2) (k := 1) j64 a0 e) fun e2 => ?_
  refine At.b 1 (fun _ e => big_adI hT (N := 2) (k := 1) j64 a0 e) fun e3 => ?_
  refine lx ?_; intro x4
  refine At.s 9 4 ?_ ?_
  ·refine At.g [9] 8 ?_
   apply rt; exact At.jn 0
  ·refine At.b 0 (fun _ e => big_adI hT (N := 2) (k := 1) j64 a0 e) fun e5 => ?_
   refine At.g [9] 1 ?_
   refine At.b 0 (fun _ e => big_adI hT (N := 2) (k := 1) j64 a0 e) fun e6 => ?_
   refine lx ?_; intro x7
   refine At.g [9] 5 ?_
   apply rt; exact At.jn 0
 ·apply rt; exact At.r 0

theorem mesh_Check_2_ok_c : callable Tryz.prog 187 := ⟨_, Tryz.func187, by decide, rfl⟩

def p_slices_IndexFunc_2_int_2_int_Check_2_L1 (N : Nat) (a0 : (List (Vector Int 2))) : Nat → Int → Option (Sum (Unit) (Int))
 | 0, _ => none
 | k + 1, s2 =>
  letO (decide (s2 < ((a0.length : Int)))) fun x3 =>
  cond x3 (
   Option.bind (idx a0 s2) fun e4 =>
   Option.bind (p_mesh_Check_2 N e4) fun r5 =>
   cond r5 (
    some (Sum.inr s2)) (
    p_slices_IndexFunc_2_int_2_int_Check_2_L1 N a0 k (I64 (s2 + 1)))) (
   some (Sum.inl (())))

def p_slices_IndexFunc_2_int_2_int_Check_2 (N : Nat) (a0 : (List (Vector Int 2))) : Option (Int) :=
 Option.bind (p_slices_IndexFunc_2_int_2_int_Check_2_L1 N a0 N 0) fun o => sumC o (fun p1 =>
  some (-1)) (fun r => some r)

theorem slices_IndexFunc_2_int_2_int_Check_2_ok {N : Nat} {a0 : (List (Vector Int 2))} {r : Int} (h : p_slices_IndexFunc_2_int_2_int_Check_2 N a0 = some r) : FnM Tryz.prog 218 [] [(eL 2 (eA 2 1 j64) a0), (.fn (.func 187) [] [])] (j64 r) [] := by
 unfold p_slices_IndexFunc_2_int_2_int_Check_2 at h
 refine At.fn m_no hT hmo (m := 19) (lo := 0) (rs := [.tmp 4]) Tryz.func218 rfl rfl h ?_
 refine At.ls 4 (fun p1 => ⟨[], []⟩) (fun op1 J k s => ∃ s2, p_slices_IndexFunc_2_int_2_int_Check_2_L1 N a0 k s2 = some op1 ∧ J ⟨[en 0 (eL 2 (eA 2 1 j64) a0), en 1 (.fn (.func 187) [] []), en 7 (j64 ((a0.length : Int))), en 8 (j64 s2)], []⟩ s) N (fun _ h => ⟨_, h, jr⟩) (fun op1 g1 k s hI => ?_) fun p1 => ?_
 ·obtain ⟨s2, h, hj⟩ := hI
  cases k with
  | zero => cases h
  | succ k =>
   refine At.jr hj ?_ h
   refine lx ?_; intro x3
   refine At.c 1 ?_ ?_
   ·refine At.b 5 (fun _ e => big_idx hT (eA 2 1 j64) e) fun e4 => ?_
    refine At.b 1 (fun _ e => big_call [] (mesh_Check_2_ok e) mesh_Check_2_ok_c) fun r5 => ?_
    refine At.c 0 ?_ ?_
    ·rintro ⟨⟩
     obtain rfl := sum_e g1
     exact At.r 2
    ·exact fun h => At.k 2 ⟨_, h, jr⟩
   ·apply rt; exact At.xs 0
 ·apply rt; exact At.r 1

theorem slices_IndexFunc_2_int_2_int_Check_2_ok_c : callable Tryz.prog 218 := ⟨_, Tryz.func218, by decide, rfl⟩

def p_slices_ContainsFunc_2_int_2_int_Check_2 (N : Nat) (a0 : (List (Vector Int 2))) : Option (Bool) :=
 Option.bind (p_slices_IndexFunc_2_int_2_int_Check_2 N a0) fun r1 =>
 some (decide (r1 ≥ 0))

theorem slices_ContainsFunc_2_int_2_int_Check_2_ok {N : Nat} {a0 : (List (Vector Int 2))} {r : Bool} (h : p_slices_ContainsFunc_2_int_2_int_Check_2 N a0 = some r) : FnM Tryz.prog 190 [] [(eL 2 (eA 2 1 j64) a0), (.fn (.func 187) [] [])] (eB r) [] := by
 unfold p_slices_ContainsFunc_2_int_2_int_Check_2 at h
 refine At.fn m_no hT hmo (m := 9) (lo := 0) (rs := [.tmp 4]) Tryz.func190 rfl rfl h ?_
 refine At.b 3 (fun _ e => big_call [] (slices_IndexFunc_2_int_2_int_Check_2_ok e) slices_IndexFunc_2_int_2_int_Check_2_ok_c) fun r1 => ?_
 apply rt; exact At.r 2

theorem slices_ContainsFunc_2_int_2_int_Check_2_ok_c : callable Tryz.prog 190 := ⟨_, Tryz.func190, by decide, rfl⟩

def m_mesh_Check_3_di : Nat → Bool := imL [2]

def p_mesh_Check_3_di (N : Nat) (a0 : (Vector Int 3)) (a1 : S_api_Mesh) : Option (Bool) :=
 Option.bind (Option.bind (idx a0.toList 0) fun e2 =>
 Option.bind (idx a0.toList 1) fun e3 =>
 Option.bind (idx a0.toList 2) fun e4 =>
 letO (decide ((imin (imin e2 e3) e4) < 0)) fun x5 =>
 cond x5 (
  some true) (
  Option.bind (idx a0.toList 0) fun e6 =>
  Option.bind (idx a0.toList 1) fun e7 =>
  Option.bind (idx a0.toList 2) fun e8 =>
  letO ((a1.gVerts.length : Int)) fun x9 =>
  letO (decide ((imax (imax e6 e7) e8) ≥ x9)) fun x10 =>
  cond x10 (
   some true) (
   Option.bind (idx a0.toList 0) fun e11 =>
   Option.bind (idx a0.toList 1) fun e12 =>
   cond (e11 == e12) (
    some true) (
    Option.bind (idx a0.toList 1) fun e13 =>
    Option.bind (idx a0.toList 2) fun e14 =>
    cond (e13 == e14) (
     some true) (
     Option.bind (idx a0.toList 2) fun e15 =>
     Option.bind (idx a0.toList 0) fun e16 =>
     some (e15 == e16)))))) fun p1 =>
 some p1

theorem mesh_Check_3_di_ok {N : Nat} {a0 : (Vector Int 3)} {a1 : S_api_Mesh} {r : Bool} (h : p_mesh_Check_3_di N a0 a1 = some r) : FnM Tryz.prog 188 [] [(eA 3 1 j64 a0), (.im (S_api_Mesh.enc a1))] (eB r) [] := by
 unfold p_mesh_Check_3_di at h
 refine At.fn m_mesh_Check_3_di hT hmo (m := 46) (lo := 0) (rs := [.tmp 3]) Tryz.func188 rfl rfl h ?_
 refine At.j 2 0 (fun p1 => ⟨[en 3 (eB p1)], []⟩) (fun p1 => ?_) fun p1 => ?_
 ·refine At.b 0 (fun _ e => big_adI hT (N := 3) (k := 1) j64 a0 e) fun e2 => ?_
  refine At.b 1 (fun _ e => big_adI hT (N := 3) (k := 1) j64 a0 e) fun e3 => ?_
  refine At.b 1 (fun _ e => big_adI hT (N := 3) (k := 1) j64 a0 e) fun e4 => ?_
  refine At.o 1 (big_min3 (k := .i64) (i := e2) (j := e3) (l := e4) (by kernel_rfl) (by kernel_rfl)) ?_
  refine lx ?_; intro x5
  refine At.s 12 2 ?_ ?_
  ·refine At.g [12, 25, 32, 39] 34 ?_
   apply rt; exact At.jn 0
  ·refine At.b 0 (fun _ e => big_adI hT (N := 3) (k := 1) j64 a0 e) fun e6 => ?_
   refine At.g [12] 1 ?_
   refine At.b 0 (fun _ e => big_adI hT (N := 3) (k := 1) j64 a0 e) fun e7 => ?_
   refine At.g [12] 1 ?_
   refine At.b 0 (fun _ e => big_adI hT (N := 3) (k := 1) j64 a0 e) fun e8 => ?_
   refine At.g [12] 1 ?_
   refine At.o 0 (big_max3 (k := .i64) (i := e6) (j := e7) (l := e8) (by kernel_rfl) (by kernel_rfl)) ?_
   refine lx ?_; intro x9
   refine lx ?_; intro x10
   refine At.g [12] 6 ?_
   refine At.s 25 0 ?_ ?_
   ·refine At.g [25, 32, 39] 21 ?_
    apply rt; exact At.jn 0
   ·refine At.b 0 (fun _ e => big_adI hT (N := 3) (k := 1) j64 a0 e) fun e11 => ?_
    refine At.g [25] 1 ?_
    refine At.b 0 (fun _ e => big_adI hT (N := 3) (k := 1) j64 a0 e) fun e12 => ?_
    refine At.g [25] 4 ?_
    refine At.s 32 0 ?_ ?_
    ·refine At.g [32, 39] 14 ?_
     apply rt; exact At.jn 0
    ·refine At.b 0 (fun _ e => big_adI hT (N := 3) (k := 1) j64 a0 e) fun e13 => ?_
     refine At.g [32] 1 ?_
     refine At.b 0 (fun _ e => big_adI hT (N := 3) (k := 1) j64 a0 e) fun e14 => ?_
     refine At.g [32] 4 ?_
     refine At.s 39 0 ?_ ?_
     ·refine At.g [39] 7 ?_
      apply rt; exact At.jn 0
     ·refine At.b 0 (fun _ e => big_adI hT (N := 3) (k := 1) j64 a0 e) fun e15 => ?_
      refine At.g [39] 1 ?_
      refine At.b 0 (fun _ e => big_adI hT (N := 3) (k := 1) j64 a0 e) fun e16 => ?_
      refine At.g [39] 4 ?_
      apply rt; exact At.jn 0
 ·apply rt; exact At.r 0

theorem mesh_Check_3_di_ok_c : callable Tryz.prog 188 := ⟨_, Tryz.func188, by decide, rfl⟩

def p_slices_IndexFunc_3_int_3_int_Check_3_L1 (N : Nat) (a0 : (List (Vector Int 3))) (a1 : S_api_Mesh) : Nat → Int → Option (Sum (Unit) (Int))
 | 0, _ => none
 | k + 1, s2 =>
  letO (decide (s2 < ((a0.length : Int)))) fun x3 =>
  cond x3 (
   Option.bind (idx a0 s2) fun e4 =>
   Option.bind (p_mesh_Check_3_di N e4 a1) fun r5 =>
   cond r5 (
    some (Sum.inr s2)) (
    p_slices_IndexFunc_3_int_3_int_Check_3_L1 N a0 a1 k (I64 (s2 + 1)))) (
   some (Sum.inl (())))

def p_slices_IndexFunc_3_int_3_int_Check_3 (N : Nat) (a0 : (List (Vector Int 3))) (a1 : S_api_Mesh) : Option (Int) :=
 Option.bind (p_slices_IndexFunc_3_int_3_int_Check_3_L1 N a0 a1 N 0) fun o => sumC o (fun p1 =>
  some (-1)) (fun r => some r)

theorem slices_IndexFunc_3_int_3_int_Check_3_ok {N : Nat} {a0 : (List (Vector Int 3))} {a1 : S_api_Mesh} {r : Int} (h : p_slices_IndexFunc_3_int_3_int_Check_3 N a0 a1 = some r) : FnM Tryz.prog 219 [] [(eL 3 (eA 3 1 j64) a0), (.fn (.func 188) [] [(.im (S_api_Mesh.enc a1))])] (j64 r) [] := by
 unfold p_slices_IndexFunc_3_int_3_int_Check_3 at h
 refine At.fn m_no hT hmo (m := 19) (lo := 0) (rs := [.tmp 4]) Tryz.func219 rfl rfl h ?_
 refine At.ls 4 (fun p1 => ⟨[], []⟩) (fun op1 J k s => ∃ s2, p_slices_IndexFunc_3_int_3_int_Check_3_L1 N a0 a1 k s2 = some op1 ∧ J ⟨[en 0 (eL 3 (eA 3 1 j64) a0), en 1 (.fn (.func 188) [] [(.im (S_api_Mesh.enc a1))]), en 7 (j64 ((a0.length : Int))), en 8 (j64 s2)], []⟩ s) N (fun _ h => ⟨_, h, jr⟩) (fun op1 g1 k s hI => ?_) fun p1 => ?_
 ·obtain ⟨s2, h, hj⟩ := hI
  cases k with
  | zero => cases h
  | succ k =>
   refine At.jr hj ?_ h
   refine lx ?_; intro x3
   refine At.c 1 ?_ ?_
   ·refine At.b 5 (fun _ e => big_idx hT (eA 3 1 j64) e) fun e4 => ?_
    refine At.b 1 (fun _ e => big_call [] (mesh_Check_3_di_ok e) mesh_Check_3_di_ok_c) fun r5 => ?_
    refine At.c 0 ?_ ?_
    ·rintro ⟨⟩
     obtain rfl := sum_e g1
     exact At.r 2
    ·exact fun h => At.k 2 ⟨_, h, jr⟩
   ·apply rt; exact At.xs 0
 ·apply rt; exact At.r 1

theorem slices_IndexFunc_3_int_3_int_Check_3_ok_c : callable Tryz.prog 219 := ⟨_, Tryz.func219, by decide, rfl⟩

def p_slices_ContainsFunc_3_int_3_int_Check_3 (N : Nat) (a0 : (List (Vector Int 3))) (a1 : S_api_Mesh) : Option (Bool) :=
 Option.bind (p_slices_IndexFunc_3_int_3_int_Check_3 N a0 a1) fun r1 =>
 some (decide (r1 ≥ 0))

theorem slices_ContainsFunc_3_int_3_int_Check_3_ok {N : Nat} {a0 : (List (Vector Int 3))} {a1 : S_api_Mesh} {r : Bool} (h : p_slices_ContainsFunc_3_int_3_int_Check_3 N a0 a1 = some r) : FnM Tryz.prog 191 [] [(eL 3 (eA 3 1 j64) a0), (.fn (.func 188) [] [(.im (S_api_Mesh.enc a1))])] (eB r) [] := by
 unfold p_slices_ContainsFunc_3_int_3_int_Check_3 at h
 refine At.fn m_no hT hmo (m := 9) (lo := 0) (rs := [.tmp 4]) Tryz.func191 rfl rfl h ?_
 refine At.b 3 (fun _ e => big_call [] (slices_IndexFunc_3_int_3_int_Check_3_ok e) slices_IndexFunc_3_int_3_int_Check_3_ok_c) fun r1 => ?_
 apply rt; exact At.r 2

theorem slices_ContainsFunc_3_int_3_int_Check_3_ok_c : callable Tryz.prog 191 := ⟨_, Tryz.func191, by decide, rfl⟩

def m_mesh_Check : Nat → Bool := imL [1]

def p_mesh_Check (N : Nat) (a0 : S_api_Mesh) : Option (Int) :=
 letO ((a0.gVerts.length : Int)) fun x1 =>
 letO ((a0.gTris.length : Int)) fun x2 =>
 letO (cond (decide (x1 > 64)) true (decide (x2 > 64))) fun x3 =>
 cond x3 (
  some 3) (
  letO ((a0.gVerts.length : Int)) fun x4 =>
  letO ((a0.gTris.length : Int)) fun x5 =>
  letO (cond (x4 == 0) true (x5 == 0)) fun x6 =>
  letO ((a0.gVerts.length : Int)) fun x7 =>
  letO (((a0.gUvs.length : Int)) != x7) fun x8 =>
  cond (cond x6 true x8) (
   some 5) (
   Option.bind (p_slices_ContainsFunc_api_Point_api_Point_Check_1 N a0.gVerts) fun r9 =>
   cond r9 (
    some 8) (
    Option.bind (Option.bind (p_slices_ContainsFunc_2_int_2_int_Check_2 N a0.gUvs) fun r11 =>
    cond r11 (
     some true) (
     Option.bind (p_slices_ContainsFunc_3_int_3_int_Check_3 N a0.gTris a0) fun r12 =>
     some r12)) fun p10 =>
    cond p10 (some 5) (some 0))))

theorem mesh_Check_ok {N : Nat} {a0 : S_api_Mesh} {r : Int} (h : p_mesh_Check N a0 = some r) : FnM Tryz.prog 155 [] [(S_api_Mesh.enc a0)] (j64 r) [] := by
 unfold p_mesh_Check at h
 refine At.fn m_mesh_Check hT hmo (m := 54) (lo := 0) (rs := [.tmp 2]) Tryz.func155 rfl rfl h ?_
 refine At.o 4 (big_mkf (x := (.fn (.func 188) [] [(.im (S_api_Mesh.enc a0))])) (by kernel_rfl) (by kernel_rfl)) ?_
 refine lx ?_; intro x1
 refine lx ?_; intro x2
 refine lx ?_; intro x3
 refine At.c 12 ?_ ?_
 ·apply rt; exact At.r 1
 ·refine lx ?_; intro x4
  refine lx ?_; intro x5
  refine lx ?_; intro x6
  refine lx ?_; intro x7
  refine lx ?_; intro x8
  refine At.c 20 ?_ ?_
  ·apply rt; exact At.r 1
  ·refine At.b 3 (fun _ e => big_call [] (slices_ContainsFunc_api_Point_api_Point_Check_1_ok e) slices_ContainsFunc_api_Point_api_Point_Check_1_ok_c) fun r9 => ?_
   refine At.c 1 ?_ ?_
   ·apply rt; exact At.r 1
   ·refine At.j 0 0 (fun p10 => ⟨[en 43 (eB p10)], []⟩) (fun p10 => ?_) fun p10 => ?_
    ·refine At.b 3 (fun _ e => big_call [] (slices_ContainsFunc_2_int_2_int_Check_2_ok e) slices_ContainsFunc_2_int_2_int_Check_2_ok_c) fun r11 => ?_
     refine At.s 48 1 ?_ ?_
     ·refine At.g [48] 6 ?_
      apply rt; exact At.jn 0
     ·refine At.g [48] 3 ?_
      refine At.b 0 (fun _ e => big_call [] (slices_ContainsFunc_3_int_3_int_Check_3_ok e) slices_ContainsFunc_3_int_3_int_Check_3_ok_c) fun r12 => ?_
      refine At.g [48] 2 ?_
      apply rt; exact At.jn 0
    ·refine At.c 0 ?_ ?_
     ·apply rt; exact At.r 1
     ·apply rt; exact At.r 1

theorem mesh_Check_ok_c : callable Tryz.prog 155 := ⟨_, Tryz.func155, by decide, rfl⟩

end Go.UK

