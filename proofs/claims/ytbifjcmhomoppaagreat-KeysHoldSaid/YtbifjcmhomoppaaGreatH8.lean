/- A part of the proof: what the functions of the program compute. -/
import Derived.Test.YtbifjcmhomoppaaGreatH7
namespace Go.UK
open Go Go.Proofs
set_option maxRecDepth 20000
set_option maxHeartbeats 4000000
set_option linter.all false

attribute [local irreducible] adv putPt dropPt setPt brPt litPt cutPt restPt popN unrPt stPt envPt boxPt opPt opP2t ksPt lPt owp awl aw FnM NatFn opS Stab TOK Big
def m_poly_sum_end : Nat → Bool := imL [3]

def p_poly_sum_end_L1 (N : Nat)  : Nat → (Vector Int 3) → Int → Option ((Vector Int 3))
 | 0, _, _ => none
 | k + 1, s2, s3 =>
  cond (decide (s3 < 2)) (
   Option.bind (Option.bind (inRO 0 3) fun _ =>
   Option.bind (s2.toList[(Int.toNat 0)]?) fun e6 =>
   Option.bind (p_Add64 e6 5 0) fun r7 =>
   Option.bind (inRO 1 3) fun _ =>
   Option.bind (s2.toList[(Int.toNat 1)]?) fun e9 =>
   Option.bind (p_Add64 e9 0 r7.2) fun r10 =>
   Option.bind (inRO 2 3) fun _ =>
   Option.bind (s2.toList[(Int.toNat 2)]?) fun e12 =>
   letO (decide ((U64 (e12 + r10.2)) ≥ 4)) fun x13 =>
   cond x13 (
    letO (U64 ((U64 (e12 + r10.2)) - 4)) fun x14 =>
    some (#v[r7.1, r10.1, (U64 ((U64 (e12 + r10.2)) - 4))])) (
    some s2)) fun p4 =>
   p_poly_sum_end_L1 N k p4 (I64 (s3 + 1))) (
   some s2)

def p_poly_sum_end_L2 (N : Nat) (r17 : Int × Int) (r20 : Int × Int) : Nat → (Vector Int 16) → Int → Option ((Vector Int 16))
 | 0, _, _ => none
 | k + 1, s22, s23 =>
  cond (decide (s23 < 8)) (
   Option.bind (shrO .u64 r17.1 (I64 (8 * s23))) fun x24 =>
   Option.bind (shrO .u64 r20.1 (I64 (8 * s23))) fun x25 =>
   Option.bind (inRO s23 16) fun _ =>
   Option.bind (s22.toList[s23.toNat]?) fun e27 =>
   Option.bind (inRO (I64 (8 + s23)) 16) fun _ =>
   Option.bind ((s22.setIfInBounds s23.toNat (U8 x24)).toList[(I64 (8 + s23)).toNat]?) fun e29 =>
   p_poly_sum_end_L2 N r17 r20 k ((s22.setIfInBounds s23.toNat (U8 x24)).setIfInBounds ((I64 (8 + s23)).toNat) (U8 x25)) (I64 (s23 + 1))) (
   some s22)

def p_poly_sum_end (N : Nat) (a0 : S_poly_sum) (a1 : Int) (a2 : Int) : Option ((Vector Int 16)) :=
 Option.bind (p_poly_sum_end_L1 N N a0.gh 0) fun p1 =>
 Option.bind (inRO 0 3) fun _ =>
 Option.bind (p1.toList[(Int.toNat 0)]?) fun e16 =>
 Option.bind (p_Add64 e16 a1 0) fun r17 =>
 Option.bind (inRO 1 3) fun _ =>
 Option.bind (p1.toList[(Int.toNat 1)]?) fun e19 =>
 Option.bind (p_Add64 e19 a2 r17.2) fun r20 =>
 Option.bind (p_poly_sum_end_L2 N r17 r20 N (Vector.replicate 16 0) 0) fun p21 =>
 some p21

theorem poly_sum_end_ok {N : Nat} {a0 : S_poly_sum} {a1 : Int} {a2 : Int} {r : (Vector Int 16)} (h : p_poly_sum_end N a0 a1 a2 = some r) : FnM Tryz.prog 214 [] [(S_poly_sum.enc a0), (k64 a1), (k64 a2)] (eA 16 1 k8 r) [] := by
 unfold p_poly_sum_end at h
 refine At.fn m_poly_sum_end hT hmo (m := 82) (lo := 0) (rs := [.cell 6 176]) Tryz.func214 rfl rfl h ?_
 refine At.l 7 (fun p1 => ⟨[en 1 (k64 a1), en 2 (k64 a2), en 6 (.ref 0 [] 0), en 7 (.ref 1 [] 0)], [.var (eA 16 1 k8 (Vector.replicate 16 0)), .var (eA 3 1 k64 p1)]⟩) (fun p1 J k s => ∃ s2 s3, p_poly_sum_end_L1 N k s2 s3 = some p1 ∧ J ⟨[en 1 (k64 a1), en 2 (k64 a2), en 6 (.ref 0 [] 0), en 7 (.ref 1 [] 0), en 20 (j64 s3)], [.var (eA 16 1 k8 (Vector.replicate 16 0)), .var (eA 3 1 k64 s2)]⟩ s) N (fun _ h => ⟨_, _, h, jr⟩) (fun p1 k s hI => ?_) fun p1 => ?_
 ·obtain ⟨s2, s3, h, hj⟩ := hI
  cases k with
  | zero => cases h
  | succ k =>
   refine At.jr hj ?_ h
   refine At.c 1 ?_ ?_
   ·refine At.j 0 2 (fun p4 => ⟨[en 1 (k64 a1), en 2 (k64 a2), en 6 (.ref 0 [] 0), en 7 (.ref 1 [] 0), en 20 (j64 s3)], [.var (eA 16 1 k8 (Vector.replicate 16 0)), .var (eA 3 1 k64 p4)]⟩) (fun p4 => ?_) fun p4 => ?_
    ·refine At.b 0 (fun _ e => big_adR hT (k := 1) 1 [] 0 e) fun u5 => ?_
     refine At.b 0 (fun _ e => big_ldE hT k64 0 e) fun e6 => ?_
     refine At.b 0 (fun _ e => big_nat (n_Add64 e) (fun _ => rv_tup2)) fun r7 => ?_
     refine At.b 5 (fun _ e => big_adR hT (k := 1) 1 [] 0 e) fun u8 => ?_
     refine At.b 0 (fun _ e => big_ldE hT k64 0 e) fun e9 => ?_
     refine At.b 1 (fun _ e => big_nat (n_Add64 e) (fun _ => rv_tup2)) fun r10 => ?_
     refine At.b 5 (fun _ e => big_adR hT (k := 1) 1 [] 0 e) fun u11 => ?_
     refine At.b 0 (fun _ e => big_ldE hT k64 0 e) fun e12 => ?_
     refine lx ?_; intro x13
     refine At.c 5 ?_ ?_
     ·refine lx ?_; intro x14
      apply rt; exact At.jn 6
     ·apply rt; exact At.jn 0
    ·exact fun h => At.k 2 ⟨_, _, h, jr⟩
   ·apply rt; exact At.x 0
 ·refine At.b 0 (fun _ e => big_adR hT (k := 1) 1 [] 0 e) fun u15 => ?_
  refine At.b 0 (fun _ e => big_ldE hT k64 0 e) fun e16 => ?_
  refine At.b 1 (fun _ e => big_nat (n_Add64 e) (fun _ => rv_tup2)) fun r17 => ?_
  refine At.b 5 (fun _ e => big_adR hT (k := 1) 1 [] 0 e) fun u18 => ?_
  refine At.b 0 (fun _ e => big_ldE hT k64 0 e) fun e19 => ?_
  refine At.b 2 (fun _ e => big_nat (n_Add64 e) (fun _ => rv_tup2)) fun r20 => ?_
  refine At.l 7 (fun p21 => ⟨[en 6 (.ref 0 [] 0), en 16 (.ref 2 [] 0)], [.var (eA 16 1 k8 (Vector.replicate 16 0)), .var (eA 3 1 k64 p1), .var (eA 16 1 k8 p21)]⟩) (fun p21 J k s => ∃ s22 s23, p_poly_sum_end_L2 N r17 r20 k s22 s23 = some p21 ∧ J ⟨[en 6 (.ref 0 [] 0), en 12 (k64 r17.1), en 14 (k64 r20.1), en 16 (.ref 2 [] 0), en 62 (j64 s23)], [.var (eA 16 1 k8 (Vector.replicate 16 0)), .var (eA 3 1 k64 p1), .var (eA 16 1 k8 s22)]⟩ s) N (fun _ h => ⟨_, _, h, jr⟩) (fun p21 k s hI => ?_) fun p21 => ?_
  ·obtain ⟨s22, s23, h, hj⟩ := hI
   cases k with
   | zero => cases h
   | succ k =>
    refine At.jr hj ?_ h
    refine At.c 1 ?_ ?_
    ·refine bi fun x24 hx24 => ?_
     refine bi fun x25 hx25 => ?_
     refine bi fun u26 hu26 => ?_
     refine bi fun e27 he27 => ?_
     refine bi fun u28 hu28 => ?_
     refine bi fun e29 he29 => ?_
     refine At.d 2 (dE1 6 (fun _ => big_shr hT (k' := .i64) hx24 (by kernel_rfl) (by kernel_rfl)) (dE1 11 (fun _ => big_shr hT (k' := .i64) hx25 (by kernel_rfl) (by kernel_rfl)) (dE1 13 (fun _ => big_adR hT (k := 1) 2 [] 0 hu26) (dE1 15 (fun _ => big_adR hT (k := 1) 2 [] 0 hu28) dE0)))) (dF1 14 (.v (.bool false)) [.var (eA 16 1 k8 (Vector.replicate 16 0)), .var (eA 3 1 k64 p1), .var (eA 16 1 k8 (s22.setIfInBounds s23.toNat (U8 x24)))] (big_at (big_stV hT k8 0 s22 he27 (U8 x24) (by kernel_rfl) (by kernel_rfl) (H' := [.var (eA 16 1 k8 (Vector.replicate 16 0)), .var (eA 3 1 k64 p1), .var (eA 16 1 k8 (s22.setIfInBounds s23.toNat (U8 x24)))]))) (dF1 16 (.v (.bool false)) [.var (eA 16 1 k8 (Vector.replicate 16 0)), .var (eA 3 1 k64 p1), .var (eA 16 1 k8 ((s22.setIfInBounds s23.toNat (U8 x24)).setIfInBounds ((I64 (8 + s23)).toNat) (U8 x25)))] (big_at (big_stV hT k8 0 (s22.setIfInBounds s23.toNat (U8 x24)) he29 (U8 x25) (by kernel_rfl) (by kernel_rfl) (H' := [.var (eA 16 1 k8 (Vector.replicate 16 0)), .var (eA 3 1 k64 p1), .var (eA 16 1 k8 ((s22.setIfInBounds s23.toNat (U8 x24)).setIfInBounds ((I64 (8 + s23)).toNat) (U8 x25)))]))) dF0)) ?_
     exact fun h => At.k 2 ⟨_, _, h, jr⟩
    ·apply rt; exact At.x 0
  ·apply rt; exact At.r 2

theorem poly_sum_end_ok_c : callable Tryz.prog 214 := ⟨_, Tryz.func214, by decide, rfl⟩

def p_poly_Mac_Sum_r_L1 (N : Nat) (r1 : (List (Vector Int 17))) (a0 : S_poly_Mac) : Nat → (Vector Int 3) → Int → Option ((Vector Int 3))
 | 0, _, _ => none
 | k + 1, s3, s4 =>
  letO (decide (s4 < ((r1.length : Int)))) fun x5 =>
  cond x5 (
   Option.bind (idx r1 s4) fun e6 =>
   Option.bind (p_poly_sum_step_rddd_q_q N e6 a0.gr0 a0.gr1 (S_poly_sum.mk s3)) fun r7 =>
   p_poly_Mac_Sum_r_L1 N r1 a0 k r7 (I64 (s4 + 1))) (
   some s3)

def p_poly_Mac_Sum_r (N : Nat) (a0 : S_poly_Mac) : Option ((Vector Int 16)) :=
 cond (!a0.gmade) (
  some (Vector.replicate 16 0)) (
  Option.bind (p_poly_Blocks N a0.grest) fun r1 =>
  Option.bind (p_poly_Mac_Sum_r_L1 N r1 a0 N a0.gsum.gh 0) fun p2 =>
  Option.bind (p_poly_sum_end N (S_poly_sum.mk p2) a0.gs0 a0.gs1) fun r8 =>
  some r8)

theorem poly_Mac_Sum_r_ok {N : Nat} {a0 : S_poly_Mac} {r : (Vector Int 16)} (h : p_poly_Mac_Sum_r N a0 = some r) : FnM Tryz.prog 181 [.var (S_poly_Mac.enc a0)] [(.ref 0 [] 0)] (eA 16 1 k8 r) [.var (S_poly_Mac.enc a0)] := by
 unfold p_poly_Mac_Sum_r at h
 refine At.fn m_no hT hmo (m := 51) (lo := 1) (rs := [.cell 2 176]) Tryz.func181 rfl rfl h ?_
 refine At.o 2 (big_eqp hT (t := 256) (x := (.ref 0 [] 0)) (b := true) (by kernel_rfl) rfl rfl (by kernel_rfl)) ?_
 refine At.g [8] 7 ?_
 refine At.c 0 ?_ ?_
 ·apply rt; exact At.r 2
 ·refine At.b 10 (fun _ e => big_call [] (poly_Blocks_ok e) poly_Blocks_ok_c) fun r1 => ?_
  refine At.l 2 (fun p2 => ⟨[en 0 (.ref 0 [] 0), en 2 (.ref 1 [] 0), en 3 (.ref 2 [] 0)], [.var (S_poly_Mac.enc a0), .var (eA 16 1 k8 (Vector.replicate 16 0)), .var (.st 3 [(eA 3 1 k64 p2)])]⟩) (fun p2 J k s => ∃ s3 s4, p_poly_Mac_Sum_r_L1 N r1 a0 k s3 s4 = some p2 ∧ J ⟨[en 0 (.ref 0 [] 0), en 2 (.ref 1 [] 0), en 3 (.ref 2 [] 0), en 24 (eL 17 (eA 17 1 k8) r1), en 25 (j64 ((r1.length : Int))), en 26 (j64 s4)], [.var (S_poly_Mac.enc a0), .var (eA 16 1 k8 (Vector.replicate 16 0)), .var (.st 3 [(eA 3 1 k64 s3)])]⟩ s) N (fun _ h => ⟨_, _, h, jr⟩) (fun p2 k s hI => ?_) fun p2 => ?_
  ·obtain ⟨s3, s4, h, hj⟩ := hI
   cases k with
   | zero => cases h
   | succ k =>
    refine At.jr hj ?_ h
    refine lx ?_; intro x5
    refine At.c 1 ?_ ?_
    ·refine At.b 0 (fun _ e => big_idx hT (eA 17 1 k8) e) fun e6 => ?_
     refine bi fun r7 hr7 => ?_
     refine At.d 3 dE0 (dF1 9 (.tup []) [.var (S_poly_Mac.enc a0), .var (eA 16 1 k8 (Vector.replicate 16 0)), .var (.st 3 [(eA 3 1 k64 r7)]), .var (eA 17 1 k8 e6)] (big_at (big_call [2] (poly_sum_step_rddd_q_q_ok hr7) poly_sum_step_rddd_q_q_ok_c)) dF0) ?_
     exact fun h => At.k 2 ⟨_, _, h, jr⟩
    ·apply rt; exact At.x 0
  ·refine bi fun r8 hr8 => ?_
   refine At.d 0 (dE2 9 (eA 16 1 k8 r8) (fun _ => big_call0 (poly_sum_end_ok hr8) poly_sum_end_ok_c (by kernel_rfl) (by kernel_rfl) (by kernel_rfl)) dE0) dF0 ?_
   apply rt; exact At.r 0

theorem poly_Mac_Sum_r_ok_c : callable Tryz.prog 181 := ⟨_, Tryz.func181, by decide, rfl⟩

def m_poly_Tag : Nat → Bool := imL [2]

def p_poly_Tag (N : Nat) (a0 : (Vector Int 32)) (a1 : (List (List Int))) : Option ((Vector Int 16)) :=
 Option.bind (p_poly_New N a0) fun r1 =>
 Option.bind (p_poly_Mac_Add_rd N [] a1 (S_poly_sum.mk (#v[0, 0, 0])) true r1.1 r1.2.1 r1.2.2.1 r1.2.2.2 0) fun r2 =>
 Option.bind (p_poly_Mac_Sum_r N (S_poly_Mac.mk (S_poly_sum.mk r2.2.1) r2.2.2.1 r2.2.2.2.1 r2.2.2.2.2.1 r2.2.2.2.2.2.1 r2.2.2.2.2.2.2.1 r2.2.2.2.2.2.2.2.1 r2.2.2.2.2.2.2.2.2)) fun r3 =>
 some r3

theorem poly_Tag_ok {N : Nat} {a0 : (Vector Int 32)} {a1 : (List (List Int))} {r : (Vector Int 16)} (h : p_poly_Tag N a0 a1 = some r) : FnM Tryz.prog 133 [] [(eA 32 1 k8 a0), (eL 1 (eL 1 k8) a1)] (eA 16 1 k8 r) [] := by
 unfold p_poly_Tag at h
 refine At.fn m_poly_Tag hT hmo (m := 13) (lo := 0) (rs := [.cell 4 176]) Tryz.func133 rfl rfl h ?_
 refine At.b 3 (fun _ e => big_call [] (poly_New_ok e) poly_New_ok_c) fun r1 => ?_
 refine At.ownb 3 2 1 [6] ?_
 refine At.b 0 (fun _ e => big_call [2, 3] (poly_Mac_Add_rd_ok e) poly_Mac_Add_rd_ok_c) fun r2 => ?_
 refine At.b 1 (fun _ e => big_call [2] (poly_Mac_Sum_r_ok e) poly_Mac_Sum_r_ok_c) fun r3 => ?_
 apply rt; exact At.r 1

theorem poly_Tag_ok_c : callable Tryz.prog 133 := ⟨_, Tryz.func133, by decide, rfl⟩

def m_aead_Mac : Nat → Bool := imL [4, 5]

def p_aead_Mac_L1 (N : Nat) (a2 : (List Int)) (a3 : (List Int)) : Nat → (Vector Int 16) → Int → Option ((Vector Int 16))
 | 0, _, _ => none
 | k + 1, s2, s3 =>
  cond (decide (s3 < 8)) (
   Option.bind (shrO .i64 ((a2.length : Int)) (I64 (8 * s3))) fun x4 =>
   Option.bind (shrO .i64 ((a3.length : Int)) (I64 (8 * s3))) fun x5 =>
   Option.bind (inRO s3 16) fun _ =>
   Option.bind (s2.toList[s3.toNat]?) fun e7 =>
   Option.bind (inRO (I64 (8 + s3)) 16) fun _ =>
   Option.bind ((s2.setIfInBounds s3.toNat (U8 x4)).toList[(I64 (8 + s3)).toNat]?) fun e9 =>
   p_aead_Mac_L1 N a2 a3 k ((s2.setIfInBounds s3.toNat (U8 x4)).setIfInBounds ((I64 (8 + s3)).toNat) (U8 x5)) (I64 (s3 + 1))) (
   some s2)

def p_aead_Mac (N : Nat) (a0 : (Vector Int 32)) (a1 : (Vector Int 12)) (a2 : (List Int)) (a3 : (List Int)) : Option ((Vector Int 16)) :=
 Option.bind (p_aead_Mac_L1 N a2 a3 N (Vector.replicate 16 0) 0) fun p1 =>
 Option.bind (p_aead_Key N a0 a1) fun r10 =>
 Option.bind (p_aead_Mac_1 N a2) fun r11 =>
 Option.bind (p_aead_Mac_1 N a3) fun r12 =>
 Option.bind (slcO p1.toList 0 16) fun s13 =>
 Option.bind (p_poly_Tag N r10 ([a2, r11, a3, r12, s13])) fun r14 =>
 some r14

theorem aead_Mac_ok {N : Nat} {a0 : (Vector Int 32)} {a1 : (Vector Int 12)} {a2 : (List Int)} {a3 : (List Int)} {r : (Vector Int 16)} (h : p_aead_Mac N a0 a1 a2 a3 = some r) : FnM Tryz.prog 89 [] [(eA 32 1 k8 a0), (eA 12 1 k8 a1), (eL 1 k8 a2), (eL 1 k8 a3)] (eA 16 1 k8 r) [] := by
 unfold p_aead_Mac at h
 refine At.fn m_aead_Mac hT hmo (m := 47) (lo := 0) (rs := [.cell 8 176]) Tryz.func89 rfl rfl h ?_
 refine At.l 6 (fun p1 => ⟨[en 2 (eL 1 k8 a2), en 3 (eL 1 k8 a3), en 4 (.im (eA 32 1 k8 a0)), en 5 (.im (eA 12 1 k8 a1)), en 8 (.ref 0 [] 0), en 9 (.fn (.func 132) [] []), en 10 (.ref 1 [] 0)], [.var (eA 16 1 k8 (Vector.replicate 16 0)), .var (eA 16 1 k8 p1)]⟩) (fun p1 J k s => ∃ s2 s3, p_aead_Mac_L1 N a2 a3 k s2 s3 = some p1 ∧ J ⟨[en 2 (eL 1 k8 a2), en 3 (eL 1 k8 a3), en 4 (.im (eA 32 1 k8 a0)), en 5 (.im (eA 12 1 k8 a1)), en 8 (.ref 0 [] 0), en 9 (.fn (.func 132) [] []), en 10 (.ref 1 [] 0), en 12 (j64 s3)], [.var (eA 16 1 k8 (Vector.replicate 16 0)), .var (eA 16 1 k8 s2)]⟩ s) N (fun _ h => ⟨_, _, h, jr⟩) (fun p1 k s hI => ?_) fun p1 => ?_
 ·obtain ⟨s2, s3, h, hj⟩ := hI
  cases k with
  | zero => cases h
  | succ k =>
   refine At.jr hj ?_ h
   refine At.c 1 ?_ ?_
   ·refine bi fun x4 hx4 => ?_
    refine bi fun x5 hx5 => ?_
    refine bi fun u6 hu6 => ?_
    refine bi fun e7 he7 => ?_
    refine bi fun u8 hu8 => ?_
    refine bi fun e9 he9 => ?_
    refine At.d 2 (dE1 7 (fun _ => big_shr hT (k' := .i64) hx4 (by kernel_rfl) (by kernel_rfl)) (dE1 13 (fun _ => big_shr hT (k' := .i64) hx5 (by kernel_rfl) (by kernel_rfl)) (dE1 15 (fun _ => big_adR hT (k := 1) 1 [] 0 hu6) (dE1 17 (fun _ => big_adR hT (k := 1) 1 [] 0 hu8) dE0)))) (dF1 16 (.v (.bool false)) [.var (eA 16 1 k8 (Vector.replicate 16 0)), .var (eA 16 1 k8 (s2.setIfInBounds s3.toNat (U8 x4)))] (big_at (big_stV hT k8 0 s2 he7 (U8 x4) (by kernel_rfl) (by kernel_rfl) (H' := [.var (eA 16 1 k8 (Vector.replicate 16 0)), .var (eA 16 1 k8 (s2.setIfInBounds s3.toNat (U8 x4)))]))) (dF1 18 (.v (.bool false)) [.var (eA 16 1 k8 (Vector.replicate 16 0)), .var (eA 16 1 k8 ((s2.setIfInBounds s3.toNat (U8 x4)).setIfInBounds ((I64 (8 + s3)).toNat) (U8 x5)))] (big_at (big_stV hT k8 0 (s2.setIfInBounds s3.toNat (U8 x4)) he9 (U8 x5) (by kernel_rfl) (by kernel_rfl) (H' := [.var (eA 16 1 k8 (Vector.replicate 16 0)), .var (eA 16 1 k8 ((s2.setIfInBounds s3.toNat (U8 x4)).setIfInBounds ((I64 (8 + s3)).toNat) (U8 x5)))]))) dF0)) ?_
    exact fun h => At.k 2 ⟨_, _, h, jr⟩
   ·apply rt; exact At.x 0
 ·refine At.gz 0 1 ((eA 16 1 k8 p1)) ?_
  refine bi fun r10 hr10 => ?_
  refine bi fun r11 hr11 => ?_
  refine bi fun r12 hr12 => ?_
  refine bi fun s13 hs13 => ?_
  refine bi fun r14 hr14 => ?_
  refine At.d 0 (dE2 2 (eA 32 1 k8 r10) (fun _ => big_call0 (aead_Key_ok hr10) aead_Key_ok_c (by kernel_rfl) (by kernel_rfl) (by kernel_rfl)) (dE2 6 (eL 1 k8 r11) (fun _ => big_call0 (aead_Mac_1_ok hr11) aead_Mac_1_ok_c (by kernel_rfl) (by kernel_rfl) (by kernel_rfl)) (dE2 10 (eL 1 k8 r12) (fun _ => big_call0 (aead_Mac_1_ok hr12) aead_Mac_1_ok_c (by kernel_rfl) (by kernel_rfl) (by kernel_rfl)) (dE1 11 (fun _ => big_slI hT (N := 16) (k := 1) k8 p1 hs13) (dE1 12 (fun _ => big_row hT (x := (.sl 1 5 [(eL 1 k8 a2), (eL 1 k8 r11), (eL 1 k8 a3), (eL 1 k8 r12), (eL 1 k8 s13)]))) (dE2 13 (eA 16 1 k8 r14) (fun _ => big_call0 (poly_Tag_ok hr14) poly_Tag_ok_c (by kernel_rfl) (by kernel_rfl) (by kernel_rfl)) dE0)))))) dF0 ?_
  apply rt; exact At.r 0

theorem aead_Mac_ok_c : callable Tryz.prog 89 := ⟨_, Tryz.func89, by decide, rfl⟩

def m_aead_Seal : Nat → Bool := imL [4, 5]

def p_aead_Seal (N : Nat) (a0 : (Vector Int 32)) (a1 : (Vector Int 12)) (a2 : (List Int)) (a3 : (List Int)) : Option ((List Int) × Int) :=
 letO (decide (((a2.length : Int)) > 16384)) fun x1 =>
 letO (decide (((a3.length : Int)) > 16384)) fun x2 =>
 cond (cond x1 true x2) (
  some (([], 3))) (
  Option.bind (p_chacha_Xor N a0 1 a1 ([a3])) fun r3 =>
  Option.bind (p_aead_Mac N a0 a1 a2 r3) fun r4 =>
  Option.bind (slcO r4.toList 0 16) fun s6 =>
  Option.bind (p_slices_Concat_byte_byte N ([r3, s6])) fun r7 =>
  some ((r7, 0)))

theorem aead_Seal_ok {N : Nat} {a0 : (Vector Int 32)} {a1 : (Vector Int 12)} {a2 : (List Int)} {a3 : (List Int)} {r : (List Int) × Int} (h : p_aead_Seal N a0 a1 a2 a3 = some r) : FnM Tryz.prog 55 [] [(eA 32 1 k8 a0), (eA 12 1 k8 a1), (eL 1 k8 a2), (eL 1 k8 a3)] (.tup [(eL 1 k8 r.1), (j64 r.2)]) [] := by
 unfold p_aead_Seal at h
 refine At.fn m_aead_Seal hT hmo (m := 34) (lo := 0) (rs := [.tmp 8, .tmp 9]) Tryz.func55 rfl rfl h ?_
 refine lx ?_; intro x1
 refine lx ?_; intro x2
 refine At.c 12 ?_ ?_
 ·apply rt; exact At.r 2
 ·refine At.o 3 (big_row hT (x := (.sl 1 1 [(eL 1 k8 a3)]))) ?_
  refine At.b 0 (fun _ e => big_call [] (chacha_Xor_ok e) chacha_Xor_ok_c) fun r3 => ?_
  refine At.b 5 (fun _ e => big_call [] (aead_Mac_ok e) aead_Mac_ok_c) fun r4 => ?_
  refine At.gz 3 0 ((eA 16 1 k8 r4)) ?_
  refine At.b 0 (fun _ e => big_slI hT (N := 16) (k := 1) k8 r4 e) fun s6 => ?_
  refine At.o 0 (big_row hT (x := (.sl 1 2 [(eL 1 k8 r3), (eL 1 k8 s6)]))) ?_
  refine At.b 0 (fun _ e => big_call [] (slices_Concat_byte_byte_ok e) slices_Concat_byte_byte_ok_c) fun r7 => ?_
  apply rt; exact At.r 2

theorem aead_Seal_ok_c : callable Tryz.prog 55 := ⟨_, Tryz.func55, by decide, rfl⟩

def p_bundle_chunks (N : Nat) (a0 : (List Int)) : Option (Unit) :=
 some (())

theorem bundle_chunks_ok {N : Nat} {a0 : (List Int)} {r : Unit} (h : p_bundle_chunks N a0 = some r) : FnM Tryz.prog 57 [] [(eL 1 k8 a0)] (.fn (.func 90) [] [(.ref 0 [] 0)]) [.var (eL 1 k8 a0)] := by
 unfold p_bundle_chunks at h
 refine At.fn m_no hT hmo (m := 4) (lo := 0) (rs := [.tmp 2]) Tryz.func57 rfl rfl h ?_
 refine At.o 2 (big_mkf (x := (.fn (.func 90) [] [(.ref 0 [] 0)])) (by kernel_rfl) (by kernel_rfl)) ?_
 apply rt; exact At.r 1

theorem bundle_chunks_ok_c : callable Tryz.prog 57 := ⟨_, Tryz.func57, by decide, rfl⟩

def m_bundle_Seal_R1 : Nat → Bool := imL [4, 5, 7]

def p_bundle_Seal_R1 (N : Nat) (b3 : (List Int)) (a1 : (Vector Int 32)) (a2 : (Vector Int 8)) (a3 : (List Int)) (a4 : (List Int)) (a5 : Int) (a6 : (List Int)) : Option ((List Int)) :=
 letO (U64 ((a6.length : Int))) fun x1 =>
 Option.bind (p_codec_Put N [] 2 ([U64 a5, x1])) fun r2 =>
 Option.bind (p_bundle_Nonce N a2 (I64 (a5 + 1))) fun r3 =>
 Option.bind (p_slices_Concat_byte_byte N ([r2.1, a3])) fun r4 =>
 Option.bind (p_aead_Seal N a1 r3 r4 a6) fun r5 =>
 Option.bind (appO 1 b3 r2.1) fun z6 =>
 Option.bind (appO 1 z6 r5.1) fun z7 =>
 some z7

theorem bundle_Seal_R1_ok {N : Nat} {b3 : (List Int)} {a1 : (Vector Int 32)} {a2 : (Vector Int 8)} {a3 : (List Int)} {a4 : (List Int)} {a5 : Int} {a6 : (List Int)} {r : (List Int)} (h : p_bundle_Seal_R1 N b3 a1 a2 a3 a4 a5 a6 = some r) : YldM Tryz.prog (siteAt 101 Tryz.f30.body [1, 1, 1, 1, 1, 1, 1, 1, 1, 1, 0, 1, 0]) [en 4 (.im (eA 32 1 k8 a1)), en 5 (.im (eA 8 1 k8 a2)), en 13 (.ref 0 [] 0), en 14 (.ref 1 [] 0)] [.var (eO 3 1 k8 b3), .var (eL 1 k8 a3), .var (eL 1 k8 a4), .tail (b3.length * 1)] [(j64 a5), (eL 1 k8 a6)] [.var (eO 3 1 k8 r), .var (eL 1 k8 a3), .var (eL 1 k8 a4), .tail (r.length * 1)] none := by
 unfold p_bundle_Seal_R1 at h
 refine yldM_of_aw (lo := 5) (by kernel_rfl) (fun bk rl => At.of m_bundle_Seal_R1 hT hmo h ?_)
 refine At.to 0 ⟨[en 4 (.im (eA 32 1 k8 a1)), en 5 (.im (eA 8 1 k8 a2)), en 13 (.ref 0 [] 0), en 14 (.ref 1 [] 0), en 69 (j64 a5), en 70 (eL 1 k8 a6)], [.var (eO 3 1 k8 b3), .var (eL 1 k8 a3), .var (eL 1 k8 a4), .tail (b3.length * 1), .loop rl]⟩ ?_
 refine At.mid 2 (fun rl2 => ?_)
 refine lx ?_; intro x1
 refine At.o 5 (big_row hT (x := (.sl 1 2 [(k64 (U64 a5)), (k64 x1)]))) ?_
 refine At.b 0 (fun _ e => big_call [] (codec_Put_ok e) codec_Put_ok_c) fun r2 => ?_
 refine At.wk 5 18 ((eL 1 k8 r2.1)) ?_
 refine bi fun r3 hr3 => ?_
 refine bi fun r4 hr4 => ?_
 refine bi fun r5 hr5 => ?_
 refine At.d 0 (dE2 4 (eA 12 1 k8 r3) (fun _ => big_call0 (bundle_Nonce_ok hr3) bundle_Nonce_ok_c (by kernel_rfl) (by kernel_rfl) (by kernel_rfl)) (dE1 7 (fun _ => big_row hT (x := (.sl 1 2 [(eL 1 k8 r2.1), (eL 1 k8 a3)]))) (dE2 10 (.tup [(eL 1 k8 r5.1), (j64 r5.2)]) (fun _ => big_call0 (aead_Seal_ok hr5) aead_Seal_ok_c (by kernel_rfl) (by kernel_rfl) (by kernel_rfl)) dE0))) (dF1 8 (eO 6 1 k8 r4) [.var (eO 3 1 k8 b3), .var (eL 1 k8 a3), .var (eL 1 k8 a4), .tail (b3.length * 1), .loop rl2, .tail (r2.1.length * 1), .tail (r4.length * 1)] (big_at (big_call [] (slices_Concat_byte_byte_ok hr4) slices_Concat_byte_byte_ok_c)) dF0) ?_
 refine At.b 2 (fun _ e => big_app hT k8 (id := 3) (k := 1) e) fun z6 => ?_
 refine At.b 1 (fun _ e => big_app hT k8 (id := 3) (k := 1) e) fun z7 => ?_
 apply rt; exact At.rnd 1

def p_bundle_chunks_1_for_bundle_Seal_R1_L1 (N : Nat) (a1 : (Vector Int 32)) (a2 : (Vector Int 8)) (a3 : (List Int)) : Nat → (List Int) → (List Int) → Int → Option ((List Int) × (List Int))
 | 0, _, _, _ => none
 | k + 1, s2, s3, s4 =>
  letO (decide (((s3.length : Int)) > 0)) fun x5 =>
  cond x5 (
   letO (imin ((s3.length : Int)) 256) fun x6 =>
   Option.bind (slc3O s3 0 x6 x6) fun s7 =>
   Option.bind (p_bundle_Seal_R1 N s2 a1 a2 a3 s3 s4 s7) fun r8 =>
   Option.bind (slcO s3 x6 ((s3.length : Int))) fun s9 =>
   p_bundle_chunks_1_for_bundle_Seal_R1_L1 N a1 a2 a3 k r8 s9 (I64 (s4 + 1))) (
   some ((s2, s3)))

def p_bundle_chunks_1_for_bundle_Seal_R1 (N : Nat) (b3 : (List Int)) (a1 : (Vector Int 32)) (a2 : (Vector Int 8)) (a3 : (List Int)) (a4 : (List Int)) : Option ((List Int) × (List Int)) :=
 Option.bind (p_bundle_chunks_1_for_bundle_Seal_R1_L1 N a1 a2 a3 N b3 a4 0) fun p1 =>
 some ((p1.1, p1.2))

theorem bundle_chunks_1_for_bundle_Seal_R1_ok {N : Nat} {b3 : (List Int)} {a1 : (Vector Int 32)} {a2 : (Vector Int 8)} {a3 : (List Int)} {a4 : (List Int)} {r : (List Int) × (List Int)} (h : p_bundle_chunks_1_for_bundle_Seal_R1 N b3 a1 a2 a3 a4 = some r) : ItM Tryz.prog 90 (siteAt 101 Tryz.f30.body [1, 1, 1, 1, 1, 1, 1, 1, 1, 1, 0, 1, 0]) [en 4 (.im (eA 32 1 k8 a1)), en 5 (.im (eA 8 1 k8 a2)), en 13 (.ref 0 [] 0), en 14 (.ref 1 [] 0)] [.var (eO 3 1 k8 b3), .var (eL 1 k8 a3), .var (eL 1 k8 a4), .tail (b3.length * 1)] [(.yld 4), (.ref 2 [] 0)] (.tup []) [.var (eO 3 1 k8 r.1), .var (eL 1 k8 a3), .var (eL 1 k8 r.2), .tail (r.1.length * 1)] none := by
 unfold p_bundle_chunks_1_for_bundle_Seal_R1 at h
 refine itM_of_aw (m := 24) (lo := 5) (rs := []) hT Tryz.func90 rfl (by kernel_rfl) rfl (fun fn tmps D hsz => At.of m_no hT hmo h ?_)
 refine At.l 1 (fun p1 => ⟨[], [.var (eO 3 1 k8 p1.1), .var (eL 1 k8 a3), .var (eL 1 k8 p1.2), .tail (p1.1.length * 1), .loop (((siteAt 101 Tryz.f30.body [1, 1, 1, 1, 1, 1, 1, 1, 1, 1, 0, 1, 0]).rcd fn tmps D none))]⟩) (fun p1 J k s => ∃ s2 s3 s4, p_bundle_chunks_1_for_bundle_Seal_R1_L1 N a1 a2 a3 k s2 s3 s4 = some p1 ∧ J ⟨[en 0 (.yld 4), en 1 (.ref 2 [] 0), en 3 (j64 s4)], [.var (eO 3 1 k8 s2), .var (eL 1 k8 a3), .var (eL 1 k8 s3), .tail (s2.length * 1), .loop (((siteAt 101 Tryz.f30.body [1, 1, 1, 1, 1, 1, 1, 1, 1, 1, 0, 1, 0]).rcd fn tmps D none))]⟩ s) N (fun _ h => ⟨_, _, _, h, jr⟩) (fun p1 k s hI => ?_) fun p1 => ?_
 ·obtain ⟨s2, s3, s4, h, hj⟩ := hI
  cases k with
  | zero => cases h
  | succ k =>
   refine At.jr hj ?_ h
   refine lx ?_; intro x5
   refine At.c 3 ?_ ?_
   ·refine lx ?_; intro x6
    refine At.b 9 (fun _ e => big_slc3 hT (k := 1) k8 e (by kernel_rfl) (by kernel_rfl)) fun s7 => ?_
    refine At.b 0 (fun _ e => big_yld (bundle_Seal_R1_ok e) (fn := fn) (D := D) hsz rfl (List.mem_singleton.2 rfl) (by kernel_rfl) (by kernel_rfl)) fun r8 => ?_
    refine At.b 4 (fun _ e => big_slc hT (k := 1) k8 e) fun s9 => ?_
    exact fun h => At.k 4 ⟨_, _, _, h, jr⟩
   ·apply rt; exact At.x 0
 ·apply rt; exact At.z 0

theorem bundle_chunks_1_for_bundle_Seal_R1_ok_c : callable Tryz.prog 90 := ⟨_, Tryz.func90, by decide, rfl⟩

def m_bundle_Seal : Nat → Bool := imL [4, 5, 7]

def p_bundle_Seal (N : Nat) (a0 : (Vector Int 32)) (a1 : (Vector Int 8)) (a2 : S_api_Manifest) (a3 : S_api_Asset) : Option ((List Int) × Int) :=
 Option.bind (p_asset_Encode N a3) fun r1 =>
 cond (r1.2 != 0) (
  some (([], r1.2))) (
  cond (a2.gKind != a3.gKind) (
   some (([], 12))) (
   Option.bind (p_manifest_Chunks N ((r1.1.length : Int))) fun r2 =>
   Option.bind (p_manifest_Encode N (S_api_Manifest.mk a2.gId a2.gKind a2.gLabel a2.gMasks a2.gFrom a2.gTo ((r1.1.length : Int)) r2)) fun r3 =>
   cond (r3.2 != 0) (
    some (([], r3.2))) (
    Option.bind (slcO a1.toList 0 8) fun s4 =>
    Option.bind (p_slices_Concat_byte_byte N ([([85, 77, 66, 49] : List Int), s4, r3.1])) fun r5 =>
    Option.bind (p_bundle_Nonce N a1 0) fun r6 =>
    Option.bind (p_aead_Seal N a0 r6 r5 []) fun r7 =>
    Option.bind (appO 1 r5 r7.1) fun z8 =>
    Option.bind (p_bundle_chunks N r1.1) fun r9 =>
    Option.bind (p_bundle_chunks_1_for_bundle_Seal_R1 N z8 a0 a1 r7.1 r1.1) fun r10 =>
    some ((r10.1, 0)))))

theorem bundle_Seal_ok {N : Nat} {a0 : (Vector Int 32)} {a1 : (Vector Int 8)} {a2 : S_api_Manifest} {a3 : S_api_Asset} {r : (List Int) × Int} (h : p_bundle_Seal N a0 a1 a2 a3 = some r) : FnM Tryz.prog 30 [] [(eA 32 1 k8 a0), (eA 8 1 k8 a1), (S_api_Manifest.enc a2), (S_api_Asset.enc a3)] (.tup [(eL 1 k8 r.1), (j64 r.2)]) [] := by
 unfold p_bundle_Seal at h
 refine At.fnR m_bundle_Seal hT hmo (m := 101) (lo := 0) (rs := [.tmp 8, .tmp 9]) Tryz.func30 rfl rfl h ?_
 refine At.b 7 (fun _ e => big_call [] (asset_Encode_ok e) asset_Encode_ok_c) fun r1 => ?_
 refine At.c 7 ?_ ?_
 ·apply rt; exact At.r 3
 ·refine At.c 5 ?_ ?_
  ·apply rt; exact At.r 2
  ·refine At.b 4 (fun _ e => big_call [] (manifest_Chunks_ok e) manifest_Chunks_ok_c) fun r2 => ?_
   refine At.b 5 (fun _ e => big_call [] (manifest_Encode_ok e) manifest_Encode_ok_c) fun r3 => ?_
   refine At.c 7 ?_ ?_
   ·apply rt; exact At.r 3
   ·refine At.l2 hT 0 (d1 := 50) (d2 := 51) (t := 57) (e := 5) k8 (z := 1) ([85, 77, 66, 49] : List Int) rfl rfl rfl ?_
    refine At.b 0 (fun _ e => big_slI hT (N := 8) (k := 1) k8 a1 e) fun s4 => ?_
    refine At.wk 1 51 ((eL 1 k8 (([85, 77, 66, 49] : List Int)))) ?_
    refine At.o 0 (big_row hT (x := (.sl 1 3 [(eL 1 k8 (([85, 77, 66, 49] : List Int))), (eL 1 k8 s4), (eL 1 k8 r3.1)]))) ?_
    refine At.b 0 (fun _ e => big_call [] (slices_Concat_byte_byte_ok e) slices_Concat_byte_byte_ok_c) fun r5 => ?_
    refine bi fun r6 hr6 => ?_
    refine bi fun r7 hr7 => ?_
    refine At.d 2 (dE2 2 (eA 12 1 k8 r6) (fun _ => big_call0 (bundle_Nonce_ok hr6) bundle_Nonce_ok_c (by kernel_rfl) (by kernel_rfl) (by kernel_rfl)) (dE2 4 (.tup [(eL 1 k8 r7.1), (j64 r7.2)]) (fun _ => big_call0 (aead_Seal_ok hr7) aead_Seal_ok_c (by kernel_rfl) (by kernel_rfl) (by kernel_rfl)) dE0)) dF0 ?_
    refine At.b 2 (fun _ e => big_app hT k8 (id := 2) (k := 1) e) fun z8 => ?_
    refine At.b 2 (fun _ e => big_call [] (bundle_chunks_ok e) bundle_chunks_ok_c) fun r9 => ?_
    refine bi fun r10 hr10 => ?_
    refine At.rg 0 (bundle_chunks_1_for_bundle_Seal_R1_ok hr10) bundle_chunks_1_for_bundle_Seal_R1_ok_c (.tmp 68) [3, 4, 5, 2] ⟨[en 13 (.ref 3 [] 0)], [.var (.st 15 [(k64 a2.gId), (j64 a2.gKind), (k32 a2.gLabel), (eA 8 1 k8 a2.gMasks), (k32 a2.gFrom), (k32 a2.gTo), (j64 ((r1.1.length : Int))), (j64 r2)]), .tail ((([85, 77, 66, 49] : List Int)).length * 1), .tail (r10.1.length * 1), .var (eO 2 1 k8 r10.1), .var (eL 1 k8 r7.1), .var (eL 1 k8 r10.2)]⟩ [(.ref 5 [] 0)] ?_
    apply rt; exact At.r 3

theorem bundle_Seal_ok_c : callable Tryz.prog 30 := ⟨_, Tryz.func30, by decide, rfl⟩

def m_keys_Wrap : Nat → Bool := imL [6, 9, 10, 11]

def p_keys_Wrap (N : Nat) (a0 : (Vector Int 32)) (a1 : Int) (a2 : Int) (a3 : (Vector Int 8)) (a4 : S_api_Manifest) (a5 : S_api_Asset) : Option ((List Int) × Int) :=
 Option.bind (Option.bind (p_keys_between N a1) fun r2 =>
 cond (!r2) (
  some true) (
  Option.bind (p_keys_between N a2) fun r3 =>
  some (!r3))) fun p1 =>
 cond p1 (
  some (([], 2))) (
  Option.bind (p_keys_Key N a0 a1 a2) fun r4 =>
  Option.bind (p_bundle_Seal N r4 a3 a4 a5) fun r5 =>
  cond (r5.2 != 0) (
   some (([], r5.2))) (
   Option.bind (p_codec_Put N (([85, 77, 75, 49] : List Int)) 2 ([U64 a1])) fun r6 =>
   Option.bind (p_codec_Put N r6.1 4 ([U64 a2])) fun r7 =>
   Option.bind (appO 1 r7.1 r5.1) fun z8 =>
   some ((z8, 0))))

theorem keys_Wrap_ok {N : Nat} {a0 : (Vector Int 32)} {a1 : Int} {a2 : Int} {a3 : (Vector Int 8)} {a4 : S_api_Manifest} {a5 : S_api_Asset} {r : (List Int) × Int} (h : p_keys_Wrap N a0 a1 a2 a3 a4 a5 = some r) : FnM Tryz.prog 8 [] [(eA 32 1 k8 a0), (j64 a1), (j64 a2), (eA 8 1 k8 a3), (S_api_Manifest.enc a4), (S_api_Asset.enc a5)] (.tup [(eL 1 k8 r.1), (j64 r.2)]) [] := by
 unfold p_keys_Wrap at h
 refine At.fn m_keys_Wrap hT hmo (m := 60) (lo := 0) (rs := [.tmp 12, .tmp 13]) Tryz.func8 rfl rfl h ?_
 refine At.j 6 0 (fun p1 => ⟨[en 1 (j64 a1), en 2 (j64 a2), en 6 (.im (eA 32 1 k8 a0)), en 9 (.im (eA 8 1 k8 a3)), en 10 (.im (S_api_Manifest.enc a4)), en 11 (.im (S_api_Asset.enc a5)), en 25 (eB p1)], []⟩) (fun p1 => ?_) fun p1 => ?_
 ·refine At.b 1 (fun _ e => big_call [] (keys_between_ok e) keys_between_ok_c) fun r2 => ?_
  refine At.s 21 2 ?_ ?_
  ·refine At.g [21] 4 ?_
   apply rt; exact At.jn 0
  ·refine At.g [21] 1 ?_
   refine At.b 0 (fun _ e => big_call [] (keys_between_ok e) keys_between_ok_c) fun r3 => ?_
   refine At.g [21] 2 ?_
   apply rt; exact At.jn 0
 ·refine At.c 0 ?_ ?_
  ·apply rt; exact At.r 2
  ·refine bi fun r4 hr4 => ?_
   refine bi fun r5 hr5 => ?_
   refine At.d 0 (dE2 3 (eA 32 1 k8 r4) (fun _ => big_call0 (keys_Key_ok hr4) keys_Key_ok_c (by kernel_rfl) (by kernel_rfl) (by kernel_rfl)) (dE2 7 (.tup [(eL 1 k8 r5.1), (j64 r5.2)]) (fun _ => big_call0 (bundle_Seal_ok hr5) bundle_Seal_ok_c (by kernel_rfl) (by kernel_rfl) (by kernel_rfl)) dE0)) dF0 ?_
   refine At.c 2 ?_ ?_
   ·apply rt; exact At.r 3
   ·refine At.l2 hT 0 (d1 := 41) (d2 := 42) (t := 57) (e := 5) k8 (z := 1) ([85, 77, 75, 49] : List Int) rfl rfl rfl ?_
    refine At.o 2 (big_row hT (x := (.sl 1 1 [(k64 (U64 a1))]))) ?_
    refine At.b 0 (fun _ e => big_call [] (codec_Put_ok e) codec_Put_ok_c) fun r6 => ?_
    refine At.o 8 (big_row hT (x := (.sl 1 1 [(k64 (U64 a2))]))) ?_
    refine At.b 0 (fun _ e => big_call [] (codec_Put_ok e) codec_Put_ok_c) fun r7 => ?_
    refine At.b 6 (fun _ e => big_app hT k8 (id := 2) (k := 1) e) fun z8 => ?_
    apply rt; exact At.r 2

theorem keys_Wrap_ok_c : callable Tryz.prog 8 := ⟨_, Tryz.func8, by decide, rfl⟩

theorem mpt_93 : MpT Tryz.prog tbl 93 .i64 ⟨2, 16, (S_keys_span.enc (S_keys_span.mk 0 0)), .st [(0, 3), (1, 3)]⟩ := ⟨⟨3, 113, rfl, rfl, rfl⟩⟩

def m_keys_New : Nat → Bool := imL [1]

def p_keys_New (N : Nat) (a0 : (Vector Int 32)) : Option (Unit) :=
 some (())

theorem keys_New_ok {N : Nat} {a0 : (Vector Int 32)} {r : Unit} (h : p_keys_New N a0 = some r) : FnM Tryz.prog 14 [] [(eA 32 1 k8 a0)] (.ref 1 [] 0) [.mp (eM .i64 S_keys_span.enc []), .var (.st 33 [(eA 32 1 k8 a0), (.mp 0)])] := by
 unfold p_keys_New at h
 refine At.fn m_keys_New hT hmo (m := 7) (lo := 0) (rs := [.tmp 2]) Tryz.func14 rfl rfl h ?_
 refine At.o 3 (big_mkm .i64 S_keys_span.enc (by kernel_rfl) (by kernel_rfl)) ?_
 apply rt; exact At.r 3

theorem keys_New_ok_c : callable Tryz.prog 14 := ⟨_, Tryz.func14, by decide, rfl⟩

def p_keys_Ring_none_r (N : Nat) (b1 : (List (Int × S_keys_span))) (a1 : (Vector Int 32)) : Option (Unit) :=
 some (())

theorem keys_Ring_none_r_ok {N : Nat} {b1 : (List (Int × S_keys_span))} {a1 : (Vector Int 32)} {r : Unit} (h : p_keys_Ring_none_r N b1 a1 = some r) : FnM Tryz.prog 36 [.var (.st 33 [(eA 32 1 k8 a1), (.mp 1)]), .mp (eM .i64 S_keys_span.enc b1)] [(.ref 0 [] 0)] (eB false) [.var (.st 33 [(eA 32 1 k8 a1), (.mp 1)]), .mp (eM .i64 S_keys_span.enc b1)] := by
 unfold p_keys_Ring_none_r at h
 refine At.fn m_no hT hmo (m := 12) (lo := 2) (rs := [.tmp 2]) Tryz.func36 rfl rfl h ?_
 refine At.o 2 (big_eqp hT (t := 68) (x := (.ref 0 [] 0)) (b := true) (by kernel_rfl) rfl rfl (by kernel_rfl)) ?_
 refine At.g [5] 5 ?_
 refine At.o 0 (big_eqm (t := 93) (kt := 3) (et := 113) (x := (.mp 1)) (b := true) (by kernel_rfl) rfl rfl (by kernel_rfl)) ?_
 refine At.g [5] 2 ?_
 apply rt; exact At.r 0

theorem keys_Ring_none_r_ok_c : callable Tryz.prog 36 := ⟨_, Tryz.func36, by decide, rfl⟩

def p_keys_Ring_Add_rd (N : Nat) (b1 : (List (Int × S_keys_span))) (a1 : Int) (a2 : (Vector Int 32)) : Option ((List (Int × S_keys_span)) × Int) :=
 Option.bind (p_keys_Ring_none_r N b1 a2) fun r1 =>
 Option.bind (p_keys_between N a1) fun r2 =>
 cond (!r2) (
  some ((b1, 2))) (
  cond (mhas b1 a1) (some ((b1, 10))) (some ((mput b1 a1 (S_keys_span.mk 1 1), 0))))

theorem keys_Ring_Add_rd_ok {N : Nat} {b1 : (List (Int × S_keys_span))} {a1 : Int} {a2 : (Vector Int 32)} {r : (List (Int × S_keys_span)) × Int} (h : p_keys_Ring_Add_rd N b1 a1 a2 = some r) : FnM Tryz.prog 15 [.var (.st 33 [(eA 32 1 k8 a2), (.mp 1)]), .mp (eM .i64 S_keys_span.enc b1)] [(.ref 0 [] 0), (j64 a1)] (j64 r.2) [.var (.st 33 [(eA 32 1 k8 a2), (.mp 1)]), .mp (eM .i64 S_keys_span.enc r.1)] := by
 unfold p_keys_Ring_Add_rd at h
 refine At.fn m_no hT hmo (m := 30) (lo := 2) (rs := [.tmp 4]) Tryz.func15 rfl rfl h ?_
 refine At.b 2 (fun _ e => big_call [0, 1] (keys_Ring_none_r_ok e) keys_Ring_none_r_ok_c) fun r1 => ?_
 refine At.b 3 (fun _ e => big_call [] (keys_between_ok e) keys_between_ok_c) fun r2 => ?_
 refine At.c 2 ?_ ?_
 ·apply rt; exact At.r 1
 ·refine At.o 5 (big_lo2 hT (f := S_keys_span.enc) (z := S_keys_span.mk 0 0) (id := 1) (k := a1) mpt_93 (fun _ _ h => by cases h) (b1 : List (Int × S_keys_span)) (by kernel_rfl) (by kernel_rfl) (by kernel_rfl)) ?_
  refine At.c 7 ?_ ?_
  ·apply rt; exact At.r 1
  ·refine At.o 6 (big_mpu (f := S_keys_span.enc) (id := 1) (k := a1) (v := (S_keys_span.mk 1 1)) mpt_93 (fun _ => rfl) (b1 : List (Int × S_keys_span)) (by kernel_rfl) (by kernel_rfl) (by kernel_rfl)) ?_
   apply rt; exact At.r 1

theorem keys_Ring_Add_rd_ok_c : callable Tryz.prog 15 := ⟨_, Tryz.func15, by decide, rfl⟩

def p_umbralaw36_mat (N : Nat) : Option (S_api_Asset) :=
 some (S_api_Asset.mk 3 (S_api_Mesh.mk [] [] []) (S_api_Texture.mk 0 []) (S_api_Material.mk 0 (#v[0, 0, 0]) 0) (S_api_Light.mk 0 (#v[0, 0, 0]) (S_api_Point.mk 0 0 0) (S_api_Point.mk 0 0 0) (S_api_Point.mk 0 0 0)))

theorem umbralaw36_mat_ok {N : Nat} {r : S_api_Asset} (h : p_umbralaw36_mat N = some r) : FnM Tryz.prog 35 [] [] (S_api_Asset.enc r) [] := by
 unfold p_umbralaw36_mat at h
 refine At.fn m_no hT hmo (m := 2) (lo := 0) (rs := [.cell 0 45]) Tryz.func35 rfl rfl h ?_
 apply rt; exact At.r 3

theorem umbralaw36_mat_ok_c : callable Tryz.prog 35 := ⟨_, Tryz.func35, by decide, rfl⟩

def p_codec_New (N : Nat) (a0 : (List Int)) : Option ((List Int)) :=
 Option.bind (p_slices_Clone_byte_byte N a0) fun r1 =>
 some r1

theorem codec_New_ok {N : Nat} {a0 : (List Int)} {r : (List Int)} (h : p_codec_New N a0 = some r) : FnM Tryz.prog 39 [] [(eL 1 k8 a0)] (.ref 1 [] 0) [.tail (r.length * 1), .var (.st 3 [(eO 0 1 k8 r), (j64 0), (eB true)])] := by
 unfold p_codec_New at h
 refine At.fn m_no hT hmo (m := 7) (lo := 0) (rs := [.tmp 2]) Tryz.func39 rfl rfl h ?_
 refine At.b 2 (fun _ e => big_call [] (slices_Clone_byte_byte_ok e) slices_Clone_byte_byte_ok_c) fun r1 => ?_
 apply rt; exact At.r 3

theorem codec_New_ok_c : callable Tryz.prog 39 := ⟨_, Tryz.func39, by decide, rfl⟩

def p_codec_Reader_none_r (N : Nat) (a0 : S_codec_Reader) : Option (Bool) :=
 some (!a0.gmade)

theorem codec_Reader_none_r_ok {N : Nat} {a0 : S_codec_Reader} {r : Bool} (h : p_codec_Reader_none_r N a0 = some r) : FnM Tryz.prog 102 [.var (S_codec_Reader.enc a0)] [(.ref 0 [] 0)] (eB r) [.var (S_codec_Reader.enc a0)] := by
 unfold p_codec_Reader_none_r at h
 refine At.fn m_no hT hmo (m := 12) (lo := 1) (rs := [.tmp 2]) Tryz.func102 rfl rfl h ?_
 refine At.o 2 (big_eqp hT (t := 117) (x := (.ref 0 [] 0)) (b := true) (by kernel_rfl) rfl rfl (by kernel_rfl)) ?_
 refine At.g [5] 8 ?_
 apply rt; exact At.r 0

theorem codec_Reader_none_r_ok_c : callable Tryz.prog 102 := ⟨_, Tryz.func102, by decide, rfl⟩

def p_codec_Reader_Take_rd (N : Nat) (a0 : Int) (a1 : S_codec_Reader) : Option ((List Int) × Int × (List Int)) :=
 Option.bind (p_codec_Reader_none_r N a1) fun r1 =>
 letO (cond r1 true (a1.ge != 0)) fun x2 =>
 cond x2 (
  some ((a1.gb, a1.ge, []))) (
  cond (decide (a0 < 0)) (
   some ((a1.gb, 2, []))) (
   letO (decide (a0 > ((a1.gb.length : Int)))) fun x3 =>
   cond x3 (
    some ((a1.gb, 4, []))) (
    Option.bind (slc3O a1.gb 0 a0 a0) fun s4 =>
    Option.bind (slcO a1.gb a0 ((a1.gb.length : Int))) fun s5 =>
    some ((s5, a1.ge, s4)))))

theorem codec_Reader_Take_rd_ok {N : Nat} {a0 : Int} {a1 : S_codec_Reader} {r : (List Int) × Int × (List Int)} (h : p_codec_Reader_Take_rd N a0 a1 = some r) : FnM Tryz.prog 68 [.var (S_codec_Reader.enc a1)] [(.ref 0 [] 0), (j64 a0)] (eL 1 k8 r.2.2) [.var (.st 3 [(eL 1 k8 r.1), (j64 r.2.1), (eB a1.gmade)])] := by
 unfold p_codec_Reader_Take_rd at h
 refine At.fn m_no hT hmo (m := 50) (lo := 1) (rs := [.tmp 4]) Tryz.func68 rfl rfl h ?_
 refine At.b 2 (fun _ e => big_call [0] (codec_Reader_none_r_ok e) codec_Reader_none_r_ok_c) fun r1 => ?_
 refine lx ?_; intro x2
 refine At.c 8 ?_ ?_
 ·apply rt; exact At.r 1
 ·refine At.c 3 ?_ ?_
  ·apply rt; exact At.r 5
  ·refine lx ?_; intro x3
   refine At.c 8 ?_ ?_
   ·apply rt; exact At.r 5
   ·refine At.b 6 (fun _ e => big_slc3 hT (k := 1) k8 e (by kernel_rfl) (by kernel_rfl)) fun s4 => ?_
    refine At.b 7 (fun _ e => big_slc hT (k := 1) k8 e) fun s5 => ?_
    apply rt; exact At.r 5

theorem codec_Reader_Take_rd_ok_c : callable Tryz.prog 68 := ⟨_, Tryz.func68, by decide, rfl⟩

end Go.UK

