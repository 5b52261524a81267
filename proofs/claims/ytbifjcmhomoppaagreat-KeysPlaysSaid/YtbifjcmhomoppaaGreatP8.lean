/- A part of the proof: what the functions of the program compute. -/
import Derived.Test.YtbifjcmhomoppaaGreatP7
namespace Go.UK
open Go Go.Proofs
set_option maxRecDepth 20000
set_option maxHeartbeats 40000000
set_option linter.all false

attribute [local irreducible] adv putPt dropPt setPt brPt litPt cutPt restPt popN stPt envPt boxPt opPt opP2t ksPt lPt owp awl aw FnM NatFn opS Stab TOK Big
def p_poly_Mac_Sum_r_L1 (N : Nat) (r1 : (List (Vector Int 17))) (a0 : S_poly_Mac) : Nat → (Vector Int 3) → Int → Option ((Vector Int 3))
 | 0, _, _ => none
 | k + 1, s3, s4 =>
  letO (decide (s4 < ((r1.length : Int)))) fun x5 =>
  cond x5 (
   Option.bind (idx r1 s4) fun e6 =>
   Option.bind (p_poly_sum_step_rddd_q_q N e6 a0.gr0 a0.gr1 (S_poly_sum.mk s3)) fun r7 =>
   p_poly_Mac_Sum_r_L1 N r1 a0 k r7 (I64 (s4 + 1))) (
   some s3)

def p_poly_Mac_Sum_r (N : Nat) (a0 : S_poly_Mac) : Option ((Vector Int 16)) :=
 cond (!a0.gmade) (
  some (Vector.replicate 16 0)) (
  Option.bind (p_poly_Blocks N a0.grest) fun r1 =>
  Option.bind (p_poly_Mac_Sum_r_L1 N r1 a0 N a0.gsum.gh 0) fun p2 =>
  Option.bind (p_poly_sum_end N (S_poly_sum.mk p2) a0.gs0 a0.gs1) fun r8 =>
  some r8)

theorem poly_Mac_Sum_r_ok {N a0 r} (h : p_poly_Mac_Sum_r N a0 = some r) : FnM Tryz.prog 181 [.var (S_poly_Mac.enc a0)] [(.ref 0 [] 0)] (eA 16 1 k8 r) [.var (S_poly_Mac.enc a0)] := by
 unfold p_poly_Mac_Sum_r at h
 refine At.f m_no hT hmo Tryz.func181 rfl h ?_
 refine At.o 2 (big_eqp hT (t := 256) (x := (.ref 0 [] 0)) (b := true) (by kernel_rfl) rfl rfl (by kernel_rfl)) ?_
 refine At.g [8] 7 ?_
 refine At.c 0 ?_ ?_
 ·apply rt; exact At.r 2
 ·refine At.b 10 (fun _ e => big_C [] (poly_Blocks_ok e)) fun r1 => ?_
  refine At.L 2 [0, 2, 3] 3 (fun p2 => ([], [(2, .var (.st 3 [(eA 3 1 k64 p2)]))], [])) (fun p2 J k => ∃ s3 s4, p_poly_Mac_Sum_r_L1 N r1 a0 k s3 s4 = some p2 ∧ J [0, 2, 3, 24, 25] 3 [(26, (j64 s4))] [(2, .var (.st 3 [(eA 3 1 k64 s3)]))] []) N (fun _ h => ⟨_, _, h, jr⟩) (fun p2 k s hI => ?_) fun p2 => ?_
  ·obtain ⟨s3, s4, h, hj⟩ := hI
   cases k with
   | zero => cases h
   | succ k =>
    refine At.jr hj ?_ h
    refine lx ?_; intro x5
    refine At.c 1 ?_ ?_
    ·refine At.b 0 (fun _ e => big_idx hT (eA 17 1 k8) e) fun e6 => ?_
     refine bi fun r7 hr7 => ?_
     refine At.d 3 dE0 (dF 9 (.tup []) [(2, .var (.st 3 [(eA 3 1 k64 r7)]))] [] (big_at (big_C [2] (poly_sum_step_rddd_q_q_ok hr7))) dF0) ?_
     exact fun h => At.k 2 ⟨_, _, h, jr⟩
    ·apply rt; exact At.x 0
  ·refine bi fun r8 hr8 => ?_
   refine At.d 0 (dE2 9 (eA 16 1 k8 r8) (fun _ => big_C0 (poly_sum_end_ok hr8)) dE0) dF0 ?_
   apply rt; exact At.r 0

def m_poly_Tag : Nat → Bool := imL [2]

def p_poly_Tag (N : Nat) (a0 : (Vector Int 32)) (a1 : (List (List Int))) : Option ((Vector Int 16)) :=
 Option.bind (p_poly_New N a0) fun r1 =>
 Option.bind (p_poly_Mac_Add_rd N [] a1 (S_poly_sum.mk (#v[0, 0, 0])) true r1.1 r1.2.1 r1.2.2.1 r1.2.2.2 0) fun r2 =>
 Option.bind (p_poly_Mac_Sum_r N (S_poly_Mac.mk (S_poly_sum.mk r2.2.1) r2.2.2.1 r2.2.2.2.1 r2.2.2.2.2.1 r2.2.2.2.2.2.1 r2.2.2.2.2.2.2.1 r2.2.2.2.2.2.2.2.1 r2.2.2.2.2.2.2.2.2)) fun r3 =>
 some r3

theorem poly_Tag_ok {N a0 a1 r} (h : p_poly_Tag N a0 a1 = some r) : FnM Tryz.prog 133 [] [(eA 32 1 k8 a0), (eL 1 (eL 1 k8) a1)] (eA 16 1 k8 r) [] := by
 unfold p_poly_Tag at h
 refine At.f m_poly_Tag hT hmo Tryz.func133 rfl h ?_
 refine At.b 3 (fun _ e => big_C [] (poly_New_ok e)) fun r1 => ?_
 refine At.ownb 3 2 1 [6] ?_
 refine At.b 0 (fun _ e => big_C [2, 3] (poly_Mac_Add_rd_ok e)) fun r2 => ?_
 refine At.b 1 (fun _ e => big_C [2] (poly_Mac_Sum_r_ok e)) fun r3 => ?_
 apply rt; exact At.r 1

def m_aead_Mac : Nat → Bool := imL [4, 5]

def p_aead_Mac_L1 (N : Nat) (a2 : (List Int)) (a3 : (List Int)) : Nat → (Vector Int 16) → Int → Option ((Vector Int 16))
 | 0, _, _ => none
 | k + 1, s2, s3 =>
  cond (decide (s3 < 8)) (
   Option.bind (shrO .i64 ((a2.length : Int)) (I64 (8 * s3))) fun x4 =>
   Option.bind (shrO .i64 ((a3.length : Int)) (I64 (8 * s3))) fun x5 =>
   Option.bind (inRO s3 16) fun _ =>
   Option.bind (s2.toList[s3.toNat]?) fun e7 =>
   Option.bind (inRO (I64 (8 + s3)) 16) fun _ =>
   Option.bind ((s2.setIfInBounds s3.toNat (U8 x4)).toList[(I64 (8 + s3)).toNat]?) fun e9 =>
   p_aead_Mac_L1 N a2 a3 k ((s2.setIfInBounds s3.toNat (U8 x4)).setIfInBounds ((I64 (8 + s3)).toNat) (U8 x5)) (I64 (s3 + 1))) (
   some s2)

def p_aead_Mac (N : Nat) (a0 : (Vector Int 32)) (a1 : (Vector Int 12)) (a2 : (List Int)) (a3 : (List Int)) : Option ((Vector Int 16)) :=
 Option.bind (p_aead_Mac_L1 N a2 a3 N (Vector.replicate 16 0) 0) fun p1 =>
 Option.bind (p_aead_Key N a0 a1) fun r10 =>
 Option.bind (p_aead_Mac_1 N a2) fun r11 =>
 Option.bind (p_aead_Mac_1 N a3) fun r12 =>
 Option.bind (slcO p1.toList 0 16) fun s13 =>
 Option.bind (p_poly_Tag N r10 ([a2, r11, a3, r12, s13])) fun r14 =>
 some r14

theorem aead_Mac_ok {N a0 a1 a2 a3 r} (h : p_aead_Mac N a0 a1 a2 a3 = some r) : FnM Tryz.prog 89 [] [(eA 32 1 k8 a0), (eA 12 1 k8 a1), (eL 1 k8 a2), (eL 1 k8 a3)] (eA 16 1 k8 r) [] := by
 unfold p_aead_Mac at h
 refine At.f m_aead_Mac hT hmo Tryz.func89 rfl h ?_
 refine At.L 6 [2, 3, 4, 5, 8, 9, 10] 2 (fun p1 => ([], [(1, .var (eA 16 1 k8 p1))], [])) (fun p1 J k => ∃ s2 s3, p_aead_Mac_L1 N a2 a3 k s2 s3 = some p1 ∧ J [2, 3, 4, 5, 8, 9, 10] 2 [(12, (j64 s3))] [(1, .var (eA 16 1 k8 s2))] []) N (fun _ h => ⟨_, _, h, jr⟩) (fun p1 k s hI => ?_) fun p1 => ?_
 ·obtain ⟨s2, s3, h, hj⟩ := hI
  cases k with
  | zero => cases h
  | succ k =>
   refine At.jr hj ?_ h
   refine At.c 1 ?_ ?_
   ·refine bi fun x4 hx4 => ?_
    refine bi fun x5 hx5 => ?_
    refine bi fun u6 hu6 => ?_
    refine bi fun e7 he7 => ?_
    refine bi fun u8 hu8 => ?_
    refine bi fun e9 he9 => ?_
    refine At.d 2 (dE1 7 (fun _ => big_shr hT (k' := .i64) hx4 (by kernel_rfl) (by kernel_rfl)) (dE1 13 (fun _ => big_shr hT (k' := .i64) hx5 (by kernel_rfl) (by kernel_rfl)) (dE1 15 (fun _ => big_adR hT (k := 1) 1 [] 0 hu6) (dE1 17 (fun _ => big_adR hT (k := 1) 1 [] 0 hu8) dE0)))) (dF 16 (.v (.bool false)) [(1, .var (eA 16 1 k8 (s2.setIfInBounds s3.toNat (U8 x4))))] [] (big_at (big_stV hT k8 0 s2 he7 (U8 x4) (by kernel_rfl) (by kernel_rfl) (H' := [.var (eA 16 1 k8 (Vector.replicate 16 0)), .var (eA 16 1 k8 (s2.setIfInBounds s3.toNat (U8 x4)))]))) (dF 18 (.v (.bool false)) [(1, .var (eA 16 1 k8 ((s2.setIfInBounds s3.toNat (U8 x4)).setIfInBounds ((I64 (8 + s3)).toNat) (U8 x5))))] [] (big_at (big_stV hT k8 0 (s2.setIfInBounds s3.toNat (U8 x4)) he9 (U8 x5) (by kernel_rfl) (by kernel_rfl) (H' := [.var (eA 16 1 k8 (Vector.replicate 16 0)), .var (eA 16 1 k8 ((s2.setIfInBounds s3.toNat (U8 x4)).setIfInBounds ((I64 (8 + s3)).toNat) (U8 x5)))]))) dF0)) ?_
    exact fun h => At.k 2 ⟨_, _, h, jr⟩
   ·apply rt; exact At.x 0
 ·refine At.gz 0 1 ((eA 16 1 k8 p1)) ?_
  refine bi fun r10 hr10 => ?_
  refine bi fun r11 hr11 => ?_
  refine bi fun r12 hr12 => ?_
  refine bi fun s13 hs13 => ?_
  refine bi fun r14 hr14 => ?_
  refine At.d 0 (dE2 2 (eA 32 1 k8 r10) (fun _ => big_C0 (aead_Key_ok hr10)) (dE2 6 (eL 1 k8 r11) (fun _ => big_C0 (aead_Mac_1_ok hr11)) (dE2 10 (eL 1 k8 r12) (fun _ => big_C0 (aead_Mac_1_ok hr12)) (dE1 11 (fun _ => big_slI hT (N := 16) (k := 1) k8 p1 hs13) (dE1 12 (fun _ => big_row hT (x := (.sl 1 5 [(eL 1 k8 a2), (eL 1 k8 r11), (eL 1 k8 a3), (eL 1 k8 r12), (eL 1 k8 s13)]))) (dE2 13 (eA 16 1 k8 r14) (fun _ => big_C0 (poly_Tag_ok hr14)) dE0)))))) dF0 ?_
  apply rt; exact At.r 0

def m_aead_Seal : Nat → Bool := imL [4, 5]

def p_aead_Seal (N : Nat) (a0 : (Vector Int 32)) (a1 : (Vector Int 12)) (a2 : (List Int)) (a3 : (List Int)) : Option ((List Int) × Int) :=
 letO (decide (((a2.length : Int)) > 16384)) fun x1 =>
 letO (decide (((a3.length : Int)) > 16384)) fun x2 =>
 cond (cond x1 true x2) (
  some (([], 3))) (
  Option.bind (p_chacha_Xor N a0 1 a1 ([a3])) fun r3 =>
  Option.bind (p_aead_Mac N a0 a1 a2 r3) fun r4 =>
  Option.bind (slcO r4.toList 0 16) fun s6 =>
  Option.bind (p_slices_Concat_byte_byte N ([r3, s6])) fun r7 =>
  some ((r7, 0)))

theorem aead_Seal_ok {N a0 a1 a2 a3 r} (h : p_aead_Seal N a0 a1 a2 a3 = some r) : FnM Tryz.prog 55 [] [(eA 32 1 k8 a0), (eA 12 1 k8 a1), (eL 1 k8 a2), (eL 1 k8 a3)] (.tup [(eL 1 k8 r.1), (j64 r.2)]) [] := by
 unfold p_aead_Seal at h
 refine At.f m_aead_Seal hT hmo Tryz.func55 rfl h ?_
 refine lx ?_; intro x1
 refine lx ?_; intro x2
 refine At.c 12 ?_ ?_
 ·apply rt; exact At.r 2
 ·refine At.o 3 (big_row hT (x := (.sl 1 1 [(eL 1 k8 a3)]))) ?_
  refine At.b 0 (fun _ e => big_C [] (chacha_Xor_ok e)) fun r3 => ?_
  refine At.b 5 (fun _ e => big_C [] (aead_Mac_ok e)) fun r4 => ?_
  refine At.gz 3 0 ((eA 16 1 k8 r4)) ?_
  refine At.b 0 (fun _ e => big_slI hT (N := 16) (k := 1) k8 r4 e) fun s6 => ?_
  refine At.o 0 (big_row hT (x := (.sl 1 2 [(eL 1 k8 r3), (eL 1 k8 s6)]))) ?_
  refine At.b 0 (fun _ e => big_C [] (slices_Concat_byte_byte_ok e)) fun r7 => ?_
  apply rt; exact At.r 2

def p_bundle_chunks (N : Nat) (a0 : (List Int)) : Option (Unit) :=
 some (())

theorem bundle_chunks_ok {N a0 r} (h : p_bundle_chunks N a0 = some r) : FnM Tryz.prog 57 [] [(eL 1 k8 a0)] (.fn (.func 90) [] [(.ref 0 [] 0)]) [.var (eL 1 k8 a0)] := by
 unfold p_bundle_chunks at h
 refine At.f m_no hT hmo Tryz.func57 rfl h ?_
 refine At.o 2 (big_mkf (x := (.fn (.func 90) [] [(.ref 0 [] 0)])) (by kernel_rfl) (by kernel_rfl)) ?_
 apply rt; exact At.r 1

def m_bundle_Seal_R1 : Nat → Bool := imL [4, 5, 7]

def p_bundle_Seal_R1 (N : Nat) (b3 : (List Int)) (a1 : (Vector Int 32)) (a2 : (Vector Int 8)) (a3 : (List Int)) (a4 : (List Int)) (a5 : Int) (a6 : (List Int)) : Option ((List Int)) :=
 letO (U64 ((a6.length : Int))) fun x1 =>
 Option.bind (p_codec_Put N [] 2 ([U64 a5, x1])) fun r2 =>
 Option.bind (p_bundle_Nonce N a2 (I64 (a5 + 1))) fun r3 =>
 Option.bind (p_slices_Concat_byte_byte N ([r2.1, a3])) fun r4 =>
 Option.bind (p_aead_Seal N a1 r3 r4 a6) fun r5 =>
 Option.bind (appO 1 b3 r2.1) fun z6 =>
 Option.bind (appO 1 z6 r5.1) fun z7 =>
 some z7

theorem bundle_Seal_R1_ok {N : Nat} {b3 : (List Int)} {a1 : (Vector Int 32)} {a2 : (Vector Int 8)} {a3 : (List Int)} {a4 : (List Int)} {a5 : Int} {a6 : (List Int)} {r : (List Int)} (h : p_bundle_Seal_R1 N b3 a1 a2 a3 a4 a5 a6 = some r) : YldM Tryz.prog (siteAt 101 Tryz.f30.body [1, 1, 1, 1, 1, 1, 1, 1, 1, 1, 0, 1, 0]) [en 4 (.im (eA 32 1 k8 a1)), en 5 (.im (eA 8 1 k8 a2)), en 13 (.ref 0 [] 0), en 14 (.ref 1 [] 0)] [.var (eO 3 1 k8 b3), .var (eL 1 k8 a3), .var (eL 1 k8 a4), .tail (b3.length * 1)] [(j64 a5), (eL 1 k8 a6)] [.var (eO 3 1 k8 r), .var (eL 1 k8 a3), .var (eL 1 k8 a4), .tail (r.length * 1)] none := by
 unfold p_bundle_Seal_R1 at h
 refine yldM_of_aw (lo := 5) (by kernel_rfl) (fun bk rl => At.of m_bundle_Seal_R1 hT hmo h ?_)
 refine At.to 0 ⟨[en 4 (.im (eA 32 1 k8 a1)), en 5 (.im (eA 8 1 k8 a2)), en 13 (.ref 0 [] 0), en 14 (.ref 1 [] 0), en 69 (j64 a5), en 70 (eL 1 k8 a6)], [.var (eO 3 1 k8 b3), .var (eL 1 k8 a3), .var (eL 1 k8 a4), .tail (b3.length * 1), .loop rl]⟩ ?_
 refine At.mid 2 (fun rl2 => ?_)
 refine lx ?_; intro x1
 refine At.o 5 (big_row hT (x := (.sl 1 2 [(k64 (U64 a5)), (k64 x1)]))) ?_
 refine At.b 0 (fun _ e => big_C [] (codec_Put_ok e)) fun r2 => ?_
 refine At.wk 5 18 ((eL 1 k8 r2.1)) ?_
 refine bi fun r3 hr3 => ?_
 refine bi fun r4 hr4 => ?_
 refine bi fun r5 hr5 => ?_
 refine At.d 0 (dE2 4 (eA 12 1 k8 r3) (fun _ => big_C0 (bundle_Nonce_ok hr3)) (dE1 7 (fun _ => big_row hT (x := (.sl 1 2 [(eL 1 k8 r2.1), (eL 1 k8 a3)]))) (dE2 10 (.tup [(eL 1 k8 r5.1), (j64 r5.2)]) (fun _ => big_C0 (aead_Seal_ok hr5)) dE0))) (dF 8 (eO 6 1 k8 r4) [] [.tail (r4.length * 1)] (big_at (big_C [] (slices_Concat_byte_byte_ok hr4))) dF0) ?_
 refine At.b 2 (fun _ e => big_app hT k8 (id := 3) (k := 1) e) fun z6 => ?_
 refine At.b 1 (fun _ e => big_app hT k8 (id := 3) (k := 1) e) fun z7 => ?_
 apply rt; exact At.rnd 1

def p_bundle_chunks_1_for_bundle_Seal_R1_L1 (N : Nat) (a1 : (Vector Int 32)) (a2 : (Vector Int 8)) (a3 : (List Int)) : Nat → (List Int) → (List Int) → Int → Option ((List Int) × (List Int))
 | 0, _, _, _ => none
 | k + 1, s2, s3, s4 =>
  letO (decide (((s3.length : Int)) > 0)) fun x5 =>
  cond x5 (
   letO (imin ((s3.length : Int)) 256) fun x6 =>
   Option.bind (slc3O s3 0 x6 x6) fun s7 =>
   Option.bind (p_bundle_Seal_R1 N s2 a1 a2 a3 s3 s4 s7) fun r8 =>
   Option.bind (slcO s3 x6 ((s3.length : Int))) fun s9 =>
   p_bundle_chunks_1_for_bundle_Seal_R1_L1 N a1 a2 a3 k r8 s9 (I64 (s4 + 1))) (
   some ((s2, s3)))

def p_bundle_chunks_1_for_bundle_Seal_R1 (N : Nat) (b3 : (List Int)) (a1 : (Vector Int 32)) (a2 : (Vector Int 8)) (a3 : (List Int)) (a4 : (List Int)) : Option ((List Int) × (List Int)) :=
 Option.bind (p_bundle_chunks_1_for_bundle_Seal_R1_L1 N a1 a2 a3 N b3 a4 0) fun p1 =>
 some ((p1.1, p1.2))

theorem bundle_chunks_1_for_bundle_Seal_R1_ok {N : Nat} {b3 : (List Int)} {a1 : (Vector Int 32)} {a2 : (Vector Int 8)} {a3 : (List Int)} {a4 : (List Int)} {r : (List Int) × (List Int)} (h : p_bundle_chunks_1_for_bundle_Seal_R1 N b3 a1 a2 a3 a4 = some r) : ItM Tryz.prog 90 (siteAt 101 Tryz.f30.body [1, 1, 1, 1, 1, 1, 1, 1, 1, 1, 0, 1, 0]) [en 4 (.im (eA 32 1 k8 a1)), en 5 (.im (eA 8 1 k8 a2)), en 13 (.ref 0 [] 0), en 14 (.ref 1 [] 0)] [.var (eO 3 1 k8 b3), .var (eL 1 k8 a3), .var (eL 1 k8 a4), .tail (b3.length * 1)] [(.yld 4), (.ref 2 [] 0)] (.tup []) [.var (eO 3 1 k8 r.1), .var (eL 1 k8 a3), .var (eL 1 k8 r.2), .tail (r.1.length * 1)] none := by
 unfold p_bundle_chunks_1_for_bundle_Seal_R1 at h
 refine itM_of_aw (m := 24) (lo := 5) (rs := []) hT Tryz.func90 rfl (by kernel_rfl) rfl (fun fn tmps D hsz => At.of m_no hT hmo h ?_)
 refine At.L 1 [] 5 (fun p1 => ([], [(0, .var (eO 3 1 k8 p1.1)), (2, .var (eL 1 k8 p1.2)), (3, .tail (p1.1.length * 1))], [])) (fun p1 J k => ∃ s2 s3 s4, p_bundle_chunks_1_for_bundle_Seal_R1_L1 N a1 a2 a3 k s2 s3 s4 = some p1 ∧ J [0, 1] 5 [(3, (j64 s4))] [(0, .var (eO 3 1 k8 s2)), (2, .var (eL 1 k8 s3)), (3, .tail (s2.length * 1))] []) N (fun _ h => ⟨_, _, _, h, jr⟩) (fun p1 k s hI => ?_) fun p1 => ?_
 ·obtain ⟨s2, s3, s4, h, hj⟩ := hI
  cases k with
  | zero => cases h
  | succ k =>
   refine At.jr hj ?_ h
   refine lx ?_; intro x5
   refine At.c 3 ?_ ?_
   ·refine lx ?_; intro x6
    refine At.b 9 (fun _ e => big_slc3 hT (k := 1) k8 e (by kernel_rfl) (by kernel_rfl)) fun s7 => ?_
    refine At.b 0 (fun _ e => big_yld (bundle_Seal_R1_ok e) (fn := fn) (D := D) hsz rfl (List.mem_singleton.2 rfl) (by kernel_rfl) (by kernel_rfl)) fun r8 => ?_
    refine At.b 4 (fun _ e => big_slc hT (k := 1) k8 e) fun s9 => ?_
    exact fun h => At.k 4 ⟨_, _, _, h, jr⟩
   ·apply rt; exact At.x 0
 ·apply rt; exact At.z 0

theorem bundle_chunks_1_for_bundle_Seal_R1_ok_c : callable Tryz.prog 90 := ⟨_, Tryz.func90, by decide, rfl⟩

def m_bundle_Seal : Nat → Bool := imL [4, 5, 7]

def p_bundle_Seal (N : Nat) (a0 : (Vector Int 32)) (a1 : (Vector Int 8)) (a2 : S_api_Manifest) (a3 : S_api_Asset) : Option ((List Int) × Int) :=
 Option.bind (p_asset_Encode N a3) fun r1 =>
 cond (r1.2 != 0) (
  some (([], r1.2))) (
  cond (a2.gKind != a3.gKind) (
   some (([], 12))) (
   Option.bind (p_manifest_Chunks N ((r1.1.length : Int))) fun r2 =>
   Option.bind (p_manifest_Encode N (S_api_Manifest.mk a2.gId a2.gKind a2.gLabel a2.gMasks a2.gFrom a2.gTo ((r1.1.length : Int)) r2)) fun r3 =>
   cond (r3.2 != 0) (
    some (([], r3.2))) (
    Option.bind (slcO a1.toList 0 8) fun s4 =>
    Option.bind (p_slices_Concat_byte_byte N ([([85, 77, 66, 49] : List Int), s4, r3.1])) fun r5 =>
    Option.bind (p_bundle_Nonce N a1 0) fun r6 =>
    Option.bind (p_aead_Seal N a0 r6 r5 []) fun r7 =>
    Option.bind (appO 1 r5 r7.1) fun z8 =>
    Option.bind (p_bundle_chunks N r1.1) fun r9 =>
    Option.bind (p_bundle_chunks_1_for_bundle_Seal_R1 N z8 a0 a1 r7.1 r1.1) fun r10 =>
    some ((r10.1, 0)))))

theorem bundle_Seal_ok {N a0 a1 a2 a3 r} (h : p_bundle_Seal N a0 a1 a2 a3 = some r) : FnM Tryz.prog 30 [] [(eA 32 1 k8 a0), (eA 8 1 k8 a1), (S_api_Manifest.enc a2), (S_api_Asset.enc a3)] (.tup [(eL 1 k8 r.1), (j64 r.2)]) [] := by
 unfold p_bundle_Seal at h
 refine At.fR m_bundle_Seal hT hmo Tryz.func30 rfl h ?_
 refine At.b 7 (fun _ e => big_C [] (asset_Encode_ok e)) fun r1 => ?_
 refine At.c 7 ?_ ?_
 ·apply rt; exact At.r 3
 ·refine At.c 5 ?_ ?_
  ·apply rt; exact At.r 2
  ·refine At.b 4 (fun _ e => big_C [] (manifest_Chunks_ok e)) fun r2 => ?_
   refine At.b 5 (fun _ e => big_C [] (manifest_Encode_ok e)) fun r3 => ?_
   refine At.c 7 ?_ ?_
   ·apply rt; exact At.r 3
   ·refine At.l2 hT 0 (d1 := 50) (d2 := 51) (t := 57) (e := 5) k8 (z := 1) ([85, 77, 66, 49] : List Int) rfl rfl rfl ?_
    refine At.b 0 (fun _ e => big_slI hT (N := 8) (k := 1) k8 a1 e) fun s4 => ?_
    refine At.wk 1 51 ((eL 1 k8 (([85, 77, 66, 49] : List Int)))) ?_
    refine At.o 0 (big_row hT (x := (.sl 1 3 [(eL 1 k8 (([85, 77, 66, 49] : List Int))), (eL 1 k8 s4), (eL 1 k8 r3.1)]))) ?_
    refine At.b 0 (fun _ e => big_C [] (slices_Concat_byte_byte_ok e)) fun r5 => ?_
    refine bi fun r6 hr6 => ?_
    refine bi fun r7 hr7 => ?_
    refine At.d 2 (dE2 2 (eA 12 1 k8 r6) (fun _ => big_C0 (bundle_Nonce_ok hr6)) (dE2 4 (.tup [(eL 1 k8 r7.1), (j64 r7.2)]) (fun _ => big_C0 (aead_Seal_ok hr7)) dE0)) dF0 ?_
    refine At.b 2 (fun _ e => big_app hT k8 (id := 2) (k := 1) e) fun z8 => ?_
    refine At.b 2 (fun _ e => big_C [] (bundle_chunks_ok e)) fun r9 => ?_
    refine bi fun r10 hr10 => ?_
    refine At.rg 0 (bundle_chunks_1_for_bundle_Seal_R1_ok hr10) bundle_chunks_1_for_bundle_Seal_R1_ok_c (.tmp 68) [3, 4, 5, 2] ⟨[en 13 (.ref 3 [] 0)], [.var (.st 15 [(k64 a2.gId), (j64 a2.gKind), (k32 a2.gLabel), (eA 8 1 k8 a2.gMasks), (k32 a2.gFrom), (k32 a2.gTo), (j64 ((r1.1.length : Int))), (j64 r2)]), .tail ((([85, 77, 66, 49] : List Int)).length * 1), .tail (r10.1.length * 1), .var (eO 2 1 k8 r10.1), .var (eL 1 k8 r7.1), .var (eL 1 k8 r10.2)]⟩ [(.ref 5 [] 0)] ?_
    apply rt; exact At.r 3

def m_keys_Wrap : Nat → Bool := imL [6, 9, 10, 11]

def p_keys_Wrap (N : Nat) (a0 : (Vector Int 32)) (a1 : Int) (a2 : Int) (a3 : (Vector Int 8)) (a4 : S_api_Manifest) (a5 : S_api_Asset) : Option ((List Int) × Int) :=
 Option.bind (Option.bind (p_keys_between N a1) fun r2 =>
 cond (!r2) (
  some true) (
  Option.bind (p_keys_between N a2) fun r3 =>
  some (!r3))) fun p1 =>
 cond p1 (
  some (([], 2))) (
  Option.bind (p_keys_Key N a0 a1 a2) fun r4 =>
  Option.bind (p_bundle_Seal N r4 a3 a4 a5) fun r5 =>
  cond (r5.2 != 0) (
   some (([], r5.2))) (
   Option.bind (p_codec_Put N (([85, 77, 75, 49] : List Int)) 2 ([U64 a1])) fun r6 =>
   Option.bind (p_codec_Put N r6.1 4 ([U64 a2])) fun r7 =>
   Option.bind (appO 1 r7.1 r5.1) fun z8 =>
   some ((z8, 0))))

theorem keys_Wrap_ok {N a0 a1 a2 a3 a4 a5 r} (h : p_keys_Wrap N a0 a1 a2 a3 a4 a5 = some r) : FnM Tryz.prog 8 [] [(eA 32 1 k8 a0), (j64 a1), (j64 a2), (eA 8 1 k8 a3), (S_api_Manifest.enc a4), (S_api_Asset.enc a5)] (.tup [(eL 1 k8 r.1), (j64 r.2)]) [] := by
 unfold p_keys_Wrap at h
 refine At.f m_keys_Wrap hT hmo Tryz.func8 rfl h ?_
 refine At.J 6 0 [1, 2, 6, 9, 10, 11] 0 (fun p1 => ([(25, (eB p1))], [], [])) (fun p1 => ?_) fun p1 => ?_
 ·refine At.b 1 (fun _ e => big_C [] (keys_between_ok e)) fun r2 => ?_
  refine At.s 21 2 ?_ ?_
  ·refine At.g [21] 4 ?_
   apply rt; exact At.jn 0
  ·refine At.g [21] 1 ?_
   refine At.b 0 (fun _ e => big_C [] (keys_between_ok e)) fun r3 => ?_
   refine At.g [21] 2 ?_
   apply rt; exact At.jn 0
 ·refine At.c 0 ?_ ?_
  ·apply rt; exact At.r 2
  ·refine bi fun r4 hr4 => ?_
   refine bi fun r5 hr5 => ?_
   refine At.d 0 (dE2 3 (eA 32 1 k8 r4) (fun _ => big_C0 (keys_Key_ok hr4)) (dE2 7 (.tup [(eL 1 k8 r5.1), (j64 r5.2)]) (fun _ => big_C0 (bundle_Seal_ok hr5)) dE0)) dF0 ?_
   refine At.c 2 ?_ ?_
   ·apply rt; exact At.r 3
   ·refine At.l2 hT 0 (d1 := 41) (d2 := 42) (t := 57) (e := 5) k8 (z := 1) ([85, 77, 75, 49] : List Int) rfl rfl rfl ?_
    refine At.o 2 (big_row hT (x := (.sl 1 1 [(k64 (U64 a1))]))) ?_
    refine At.b 0 (fun _ e => big_C [] (codec_Put_ok e)) fun r6 => ?_
    refine At.o 8 (big_row hT (x := (.sl 1 1 [(k64 (U64 a2))]))) ?_
    refine At.b 0 (fun _ e => big_C [] (codec_Put_ok e)) fun r7 => ?_
    refine At.b 6 (fun _ e => big_app hT k8 (id := 2) (k := 1) e) fun z8 => ?_
    apply rt; exact At.r 2

def p_codec_New (N : Nat) (a0 : (List Int)) : Option ((List Int)) :=
 Option.bind (p_slices_Clone_byte_byte N a0) fun r1 =>
 some r1

theorem codec_New_ok {N a0 r} (h : p_codec_New N a0 = some r) : FnM Tryz.prog 39 [] [(eL 1 k8 a0)] (.ref 1 [] 0) [.tail (r.length * 1), .var (.st 3 [(eO 0 1 k8 r), (j64 0), (eB true)])] := by
 unfold p_codec_New at h
 refine At.f m_no hT hmo Tryz.func39 rfl h ?_
 refine At.b 2 (fun _ e => big_C [] (slices_Clone_byte_byte_ok e)) fun r1 => ?_
 apply rt; exact At.r 3

def p_codec_Reader_none_r (N : Nat) (a0 : S_codec_Reader) : Option (Bool) :=
 some (!a0.gmade)

theorem codec_Reader_none_r_ok {N a0 r} (h : p_codec_Reader_none_r N a0 = some r) : FnM Tryz.prog 102 [.var (S_codec_Reader.enc a0)] [(.ref 0 [] 0)] (eB r) [.var (S_codec_Reader.enc a0)] := by
 unfold p_codec_Reader_none_r at h
 refine At.f m_no hT hmo Tryz.func102 rfl h ?_
 refine At.o 2 (big_eqp hT (t := 117) (x := (.ref 0 [] 0)) (b := true) (by kernel_rfl) rfl rfl (by kernel_rfl)) ?_
 refine At.g [5] 8 ?_
 apply rt; exact At.r 0

def p_codec_Reader_Take_rd (N : Nat) (a0 : Int) (a1 : S_codec_Reader) : Option ((List Int) × Int × (List Int)) :=
 Option.bind (p_codec_Reader_none_r N a1) fun r1 =>
 letO (cond r1 true (a1.ge != 0)) fun x2 =>
 cond x2 (
  some ((a1.gb, a1.ge, []))) (
  cond (decide (a0 < 0)) (
   some ((a1.gb, 2, []))) (
   letO (decide (a0 > ((a1.gb.length : Int)))) fun x3 =>
   cond x3 (
    some ((a1.gb, 4, []))) (
    Option.bind (slc3O a1.gb 0 a0 a0) fun s4 =>
    Option.bind (slcO a1.gb a0 ((a1.gb.length : Int))) fun s5 =>
    some ((s5, a1.ge, s4)))))

theorem codec_Reader_Take_rd_ok {N a0 a1 r} (h : p_codec_Reader_Take_rd N a0 a1 = some r) : FnM Tryz.prog 68 [.var (S_codec_Reader.enc a1)] [(.ref 0 [] 0), (j64 a0)] (eL 1 k8 r.2.2) [.var (.st 3 [(eL 1 k8 r.1), (j64 r.2.1), (eB a1.gmade)])] := by
 unfold p_codec_Reader_Take_rd at h
 refine At.f m_no hT hmo Tryz.func68 rfl h ?_
 refine At.b 2 (fun _ e => big_C [0] (codec_Reader_none_r_ok e)) fun r1 => ?_
 refine lx ?_; intro x2
 refine At.c 8 ?_ ?_
 ·apply rt; exact At.r 1
 ·refine At.c 3 ?_ ?_
  ·apply rt; exact At.r 5
  ·refine lx ?_; intro x3
   refine At.c 8 ?_ ?_
   ·apply rt; exact At.r 5
   ·refine At.b 6 (fun _ e => big_slc3 hT (k := 1) k8 e (by kernel_rfl) (by kernel_rfl)) fun s4 => ?_
    refine At.b 7 (fun _ e => big_slc hT (k := 1) k8 e) fun s5 => ?_
    apply rt; exact At.r 5

def p_codec_Reader_Num_rd_L1 (N : Nat) (r3 : (List Int) × Int × (List Int)) : Nat → Int → Int → Option (Int)
 | 0, _, _ => none
 | k + 1, s5, s6 =>
  letO (decide (s6 < ((r3.2.2.length : Int)))) fun x7 =>
  cond x7 (
   Option.bind (idx r3.2.2 s6) fun e8 =>
   Option.bind (shlO .u64 (U64 e8) (I64 (8 * s6))) fun x9 =>
   p_codec_Reader_Num_rd_L1 N r3 k (bor .u64 s5 x9) (I64 (s6 + 1))) (
   some s5)

def p_codec_Reader_Num_rd (N : Nat) (a0 : Int) (a1 : S_codec_Reader) : Option ((List Int) × Int × Int) :=
 Option.bind (letO (cond (decide (a0 < 1)) true (decide (a0 > 8))) fun x2 =>
 cond x2 (some (-1)) (some a0)) fun p1 =>
 Option.bind (p_codec_Reader_Take_rd N p1 a1) fun r3 =>
 Option.bind (p_codec_Reader_Num_rd_L1 N r3 N 0 0) fun p4 =>
 some ((r3.1, r3.2.1, p4))

theorem codec_Reader_Num_rd_ok {N a0 a1 r} (h : p_codec_Reader_Num_rd N a0 a1 = some r) : FnM Tryz.prog 40 [.var (S_codec_Reader.enc a1)] [(.ref 0 [] 0), (j64 a0)] (k64 r.2.2) [.var (.st 3 [(eL 1 k8 r.1), (j64 r.2.1), (eB a1.gmade)])] := by
 unfold p_codec_Reader_Num_rd at h
 refine At.f m_no hT hmo Tryz.func40 rfl h ?_
 refine At.J 1 1 [0] 1 (fun p1 => ([(1, (j64 p1))], [], [])) (fun p1 => ?_) fun p1 => ?_
 ·refine lx ?_; intro x2
  refine At.c 6 ?_ ?_
  ·apply rt; exact At.jn 1
  ·apply rt; exact At.jn 0
 ·refine At.b 3 (fun _ e => big_C [0] (codec_Reader_Take_rd_ok e)) fun r3 => ?_
  refine At.L 2 [] 1 (fun p4 => ([(5, (k64 p4))], [], [])) (fun p4 J k => ∃ s5 s6, p_codec_Reader_Num_rd_L1 N r3 k s5 s6 = some p4 ∧ J [16, 17] 1 [(5, (k64 s5)), (18, (j64 s6))] [] []) N (fun _ h => ⟨_, _, h, jr⟩) (fun p4 k s hI => ?_) fun p4 => ?_
  ·obtain ⟨s5, s6, h, hj⟩ := hI
   cases k with
   | zero => cases h
   | succ k =>
    refine At.jr hj ?_ h
    refine lx ?_; intro x7
    refine At.c 1 ?_ ?_
    ·refine At.b 1 (fun _ e => big_idx hT k8 e) fun e8 => ?_
     refine At.b 8 (fun _ e => big_shl hT (k' := .i64) e (by kernel_rfl) (by kernel_rfl)) fun x9 => ?_
     exact fun h => At.k 4 ⟨_, _, h, jr⟩
    ·apply rt; exact At.x 0
  ·apply rt; exact At.r 2

def p_bytes_Equal (N : Nat) (a0 : (List Int)) (a1 : (List Int)) : Option (Bool) :=
 letO (ByteArray.toList (strO a0) == ByteArray.toList (strO a1)) fun x1 =>
 some x1

theorem bytes_Equal_ok {N a0 a1 r} (h : p_bytes_Equal N a0 a1 = some r) : FnM Tryz.prog 10 [] [(eL 1 k8 a0), (eL 1 k8 a1)] (eB r) [] := by
 unfold p_bytes_Equal at h
 refine At.f m_no hT hmo Tryz.func10 rfl h ?_
 refine At.o 2 (big_b2s hT a0 (v := (eL 1 k8 a0)) (e := 5) (by kernel_rfl) (by kernel_rfl) (by kernel_rfl)) ?_
 refine At.o 1 (big_b2s hT a1 (v := (eL 1 k8 a1)) (e := 5) (by kernel_rfl) (by kernel_rfl) (by kernel_rfl)) ?_
 refine lx ?_; intro x1
 apply rt; exact At.r 2

def p_bytes_HasPrefix (N : Nat) (a0 : (List Int)) (a1 : (List Int)) : Option (Bool) :=
 Option.bind (letO (decide (((a0.length : Int)) ≥ ((a1.length : Int)))) fun x2 =>
 cond x2 (
  Option.bind (slcO a0 0 ((a1.length : Int))) fun s3 =>
  Option.bind (p_bytes_Equal N s3 a1) fun r4 =>
  some r4) (
  some false)) fun p1 =>
 some p1

theorem bytes_HasPrefix_ok {N a0 a1 r} (h : p_bytes_HasPrefix N a0 a1 = some r) : FnM Tryz.prog 103 [] [(eL 1 k8 a0), (eL 1 k8 a1)] (eB r) [] := by
 unfold p_bytes_HasPrefix at h
 refine At.f m_no hT hmo Tryz.func103 rfl h ?_
 refine At.J 1 0 [] 0 (fun p1 => ([(4, (eB p1))], [], [])) (fun p1 => ?_) fun p1 => ?_
 ·refine lx ?_; intro x2
  refine At.s 10 6 ?_ ?_
  ·refine At.g [10] 3 ?_
   refine At.b 0 (fun _ e => big_slc hT (k := 1) k8 e) fun s3 => ?_
   refine At.g [10] 1 ?_
   refine At.b 0 (fun _ e => big_C [] (bytes_Equal_ok e)) fun r4 => ?_
   refine At.g [10] 2 ?_
   apply rt; exact At.jn 0
  ·refine At.g [10] 8 ?_
   apply rt; exact At.jn 0
 ·apply rt; exact At.r 0

def m_poly_Same : Nat → Bool := imL [2, 3]

def p_poly_Same_L1 (N : Nat) (a0 : (Vector Int 16)) (a1 : (Vector Int 16)) : Nat → Int → Int → Option (Int)
 | 0, _, _ => none
 | k + 1, s2, s3 =>
  cond (decide (s3 < 16)) (
   Option.bind (idx a0.toList s3) fun e4 =>
   Option.bind (idx a1.toList s3) fun e5 =>
   letO (bor .u8 s2 (bxor .u8 e4 e5)) fun x6 =>
   p_poly_Same_L1 N a0 a1 k x6 (I64 (s3 + 1))) (
   some s2)

def p_poly_Same (N : Nat) (a0 : (Vector Int 16)) (a1 : (Vector Int 16)) : Option (Bool) :=
 Option.bind (p_poly_Same_L1 N a0 a1 N 0 0) fun p1 =>
 some (p1 == 0)

theorem poly_Same_ok {N a0 a1 r} (h : p_poly_Same N a0 a1 = some r) : FnM Tryz.prog 151 [] [(eA 16 1 k8 a0), (eA 16 1 k8 a1)] (eB r) [] := by
 unfold p_poly_Same at h
 refine At.f m_poly_Same hT hmo Tryz.func151 rfl h ?_
 refine At.L 5 [] 0 (fun p1 => ([(5, (k8 p1))], [], [])) (fun p1 J k => ∃ s2 s3, p_poly_Same_L1 N a0 a1 k s2 s3 = some p1 ∧ J [2, 3] 0 [(5, (k8 s2)), (7, (j64 s3))] [] []) N (fun _ h => ⟨_, _, h, jr⟩) (fun p1 k s hI => ?_) fun p1 => ?_
 ·obtain ⟨s2, s3, h, hj⟩ := hI
  cases k with
  | zero => cases h
  | succ k =>
   refine At.jr hj ?_ h
   refine At.c 1 ?_ ?_
   ·refine bi fun e4 he4 => ?_
    refine bi fun e5 he5 => ?_
    refine lx ?_; intro x6
    refine At.d 2 (dE1 2 (fun _ => big_adI hT (N := 16) (k := 1) k8 a0 he4) (dE1 5 (fun _ => big_adI hT (N := 16) (k := 1) k8 a1 he5) dE0)) dF0 ?_
    exact fun h => At.k 2 ⟨_, _, h, jr⟩
   ·apply rt; exact At.x 0
 ·apply rt; exact At.r 3

def m_aead_Open : Nat → Bool := imL [4, 5]

def p_aead_Open (N : Nat) (a0 : (Vector Int 32)) (a1 : (Vector Int 12)) (a2 : (List Int)) (a3 : (List Int)) : Option ((List Int) × Int) :=
 letO (I64 (((a3.length : Int)) - 16)) fun x1 =>
 cond (decide (x1 < 0)) (
  some (([], 4))) (
  letO (decide (((a2.length : Int)) > 16384)) fun x2 =>
  letO (cond x2 true (decide (x1 > 16384))) fun x3 =>
  cond x3 (
   some (([], 3))) (
   Option.bind (slcO a3 0 x1) fun s4 =>
   Option.bind (p_aead_Mac N a0 a1 a2 s4) fun r5 =>
   Option.bind (slcO a3 x1 ((a3.length : Int))) fun s6 =>
   Option.bind (vecO 16 s6) fun v7 =>
   Option.bind (p_poly_Same N r5 v7) fun r8 =>
   cond (!r8) (
    some (([], 6))) (
    Option.bind (p_chacha_Xor N a0 1 a1 ([s4])) fun r9 =>
    some ((r9, 0)))))

theorem aead_Open_ok {N a0 a1 a2 a3 r} (h : p_aead_Open N a0 a1 a2 a3 = some r) : FnM Tryz.prog 104 [] [(eA 32 1 k8 a0), (eA 12 1 k8 a1), (eL 1 k8 a2), (eL 1 k8 a3)] (.tup [(eL 1 k8 r.1), (j64 r.2)]) [] := by
 unfold p_aead_Open at h
 refine At.f m_aead_Open hT hmo Tryz.func104 rfl h ?_
 refine lx ?_; intro x1
 refine At.c 11 ?_ ?_
 ·apply rt; exact At.r 2
 ·refine lx ?_; intro x2
  refine lx ?_; intro x3
  refine At.c 8 ?_ ?_
  ·apply rt; exact At.r 2
  ·refine At.b 2 (fun _ e => big_slc hT (k := 1) k8 e) fun s4 => ?_
   refine bi fun r5 hr5 => ?_
   refine bi fun s6 hs6 => ?_
   refine bi fun v7 hv7 => ?_
   refine bi fun r8 hr8 => ?_
   refine At.d 1 (dE2 4 (eA 16 1 k8 r5) (fun _ => big_C0 (aead_Mac_ok hr5)) (dE1 7 (fun _ => big_slc hT (k := 1) k8 hs6) (dE1 8 (fun _ => big_s2a hT k8 s6 v7 hv7 rfl (by kernel_rfl) (by kernel_rfl)) (dE2 10 (eB r8) (fun _ => big_C0 (poly_Same_ok hr8)) dE0)))) dF0 ?_
   refine At.c 0 ?_ ?_
   ·apply rt; exact At.r 2
   ·refine At.o 3 (big_row hT (x := (.sl 1 1 [(eL 1 k8 s4)]))) ?_
    refine At.b 0 (fun _ e => big_C [] (chacha_Xor_ok e)) fun r9 => ?_
    apply rt; exact At.r 2

def p_manifest_decoder_int_srzd (N : Nat) (a0 : Int) (a1 : S_codec_Reader) : Option ((List Int) × Int × Int) :=
 Option.bind (p_codec_Reader_Num_rd N a0 a1) fun r1 =>
 some ((r1.1, r1.2.1, I64 r1.2.2))

theorem manifest_decoder_int_srzd_ok {N a0 a1 r} (h : p_manifest_decoder_int_srzd N a0 a1 = some r) : FnM Tryz.prog 152 [.var (S_codec_Reader.enc a1)] [(.st 1 [(.ref 0 [] 0)]), (j64 a0)] (j64 r.2.2) [.var (.st 3 [(eL 1 k8 r.1), (j64 r.2.1), (eB a1.gmade)])] := by
 unfold p_manifest_decoder_int_srzd at h
 refine At.f m_no hT hmo Tryz.func152 rfl h ?_
 refine At.b 5 (fun _ e => big_C [0] (codec_Reader_Num_rd_ok e)) fun r1 => ?_
 apply rt; exact At.r 2

def p_codec_Reader_Err_r (N : Nat) (a0 : S_codec_Reader) : Option (Int) :=
 Option.bind (p_codec_Reader_none_r N a0) fun r1 =>
 cond r1 (some 1) (some a0.ge)

theorem codec_Reader_Err_r_ok {N a0 r} (h : p_codec_Reader_Err_r N a0 = some r) : FnM Tryz.prog 106 [.var (S_codec_Reader.enc a0)] [(.ref 0 [] 0)] (j64 r) [.var (S_codec_Reader.enc a0)] := by
 unfold p_codec_Reader_Err_r at h
 refine At.f m_no hT hmo Tryz.func106 rfl h ?_
 refine At.b 2 (fun _ e => big_C [0] (codec_Reader_none_r_ok e)) fun r1 => ?_
 refine At.c 0 ?_ ?_
 ·apply rt; exact At.r 1
 ·apply rt; exact At.r 5

def p_codec_Reader_End_r (N : Nat) (a0 : S_codec_Reader) : Option (Int) :=
 Option.bind (p_codec_Reader_Err_r N a0) fun r1 =>
 cond (r1 != 0) (
  some r1) (
  letO (decide (((a0.gb.length : Int)) > 0)) fun x2 =>
  cond x2 (some 5) (some 0))

theorem codec_Reader_End_r_ok {N a0 r} (h : p_codec_Reader_End_r N a0 = some r) : FnM Tryz.prog 111 [.var (S_codec_Reader.enc a0)] [(.ref 0 [] 0)] (j64 r) [.var (S_codec_Reader.enc a0)] := by
 unfold p_codec_Reader_End_r at h
 refine At.f m_no hT hmo Tryz.func111 rfl h ?_
 refine At.b 2 (fun _ e => big_C [0] (codec_Reader_Err_r_ok e)) fun r1 => ?_
 refine At.c 3 ?_ ?_
 ·apply rt; exact At.r 2
 ·refine lx ?_; intro x2
  refine At.c 6 ?_ ?_
  ·apply rt; exact At.r 1
  ·apply rt; exact At.r 1

def p_manifest_Decode (N : Nat) (a0 : (List Int)) : Option (S_api_Manifest × Int) :=
 Option.bind (p_codec_New N a0) fun r1 =>
 Option.bind (p_codec_Reader_Num_rd N 8 (S_codec_Reader.mk r1 0 true)) fun r2 =>
 Option.bind (p_manifest_decoder_int_srzd N 1 (S_codec_Reader.mk r2.1 r2.2.1 ((S_codec_Reader.mk r1 0 true).gmade))) fun r3 =>
 Option.bind (p_codec_Reader_Num_rd N 4 (S_codec_Reader.mk r3.1 r3.2.1 ((S_codec_Reader.mk r2.1 r2.2.1 ((S_codec_Reader.mk r1 0 true).gmade)).gmade))) fun r4 =>
 Option.bind (slcB 8 0 8) fun _ =>
 Option.bind (p_codec_Reader_Take_rd N 8 (S_codec_Reader.mk r4.1 r4.2.1 ((S_codec_Reader.mk r3.1 r3.2.1 ((S_codec_Reader.mk r2.1 r2.2.1 ((S_codec_Reader.mk r1 0 true).gmade)).gmade)).gmade))) fun r6 =>
 Option.bind (cpV (Vector.replicate 8 0) r6.2.2 0 8) fun v7 =>
 Option.bind (p_codec_Reader_Num_rd N 4 (S_codec_Reader.mk r6.1 r6.2.1 ((S_codec_Reader.mk r4.1 r4.2.1 ((S_codec_Reader.mk r3.1 r3.2.1 ((S_codec_Reader.mk r2.1 r2.2.1 ((S_codec_Reader.mk r1 0 true).gmade)).gmade)).gmade)).gmade))) fun r8 =>
 Option.bind (p_codec_Reader_Num_rd N 4 (S_codec_Reader.mk r8.1 r8.2.1 ((S_codec_Reader.mk r6.1 r6.2.1 ((S_codec_Reader.mk r4.1 r4.2.1 ((S_codec_Reader.mk r3.1 r3.2.1 ((S_codec_Reader.mk r2.1 r2.2.1 ((S_codec_Reader.mk r1 0 true).gmade)).gmade)).gmade)).gmade)).gmade))) fun r9 =>
 Option.bind (p_manifest_decoder_int_srzd N 4 (S_codec_Reader.mk r9.1 r9.2.1 ((S_codec_Reader.mk r8.1 r8.2.1 ((S_codec_Reader.mk r6.1 r6.2.1 ((S_codec_Reader.mk r4.1 r4.2.1 ((S_codec_Reader.mk r3.1 r3.2.1 ((S_codec_Reader.mk r2.1 r2.2.1 ((S_codec_Reader.mk r1 0 true).gmade)).gmade)).gmade)).gmade)).gmade)).gmade))) fun r10 =>
 Option.bind (p_manifest_decoder_int_srzd N 2 (S_codec_Reader.mk r10.1 r10.2.1 ((S_codec_Reader.mk r9.1 r9.2.1 ((S_codec_Reader.mk r8.1 r8.2.1 ((S_codec_Reader.mk r6.1 r6.2.1 ((S_codec_Reader.mk r4.1 r4.2.1 ((S_codec_Reader.mk r3.1 r3.2.1 ((S_codec_Reader.mk r2.1 r2.2.1 ((S_codec_Reader.mk r1 0 true).gmade)).gmade)).gmade)).gmade)).gmade)).gmade)).gmade))) fun r11 =>
 Option.bind (p_codec_Reader_End_r N (S_codec_Reader.mk r11.1 r11.2.1 ((S_codec_Reader.mk r10.1 r10.2.1 ((S_codec_Reader.mk r9.1 r9.2.1 ((S_codec_Reader.mk r8.1 r8.2.1 ((S_codec_Reader.mk r6.1 r6.2.1 ((S_codec_Reader.mk r4.1 r4.2.1 ((S_codec_Reader.mk r3.1 r3.2.1 ((S_codec_Reader.mk r2.1 r2.2.1 ((S_codec_Reader.mk r1 0 true).gmade)).gmade)).gmade)).gmade)).gmade)).gmade)).gmade)).gmade))) fun r12 =>
 cond (r12 != 0) (
  some ((S_api_Manifest.mk 0 0 0 (Vector.replicate 8 0) 0 0 0 0, r12))) (
  Option.bind (p_manifest_Check N (S_api_Manifest.mk r2.2.2 r3.2.2 (U32 r4.2.2) v7 (U32 r8.2.2) (U32 r9.2.2) r10.2.2 r11.2.2)) fun r13 =>
  cond (r13 != 0) (
   some ((S_api_Manifest.mk 0 0 0 (Vector.replicate 8 0) 0 0 0 0, r13))) (
   some ((S_api_Manifest.mk r2.2.2 r3.2.2 (U32 r4.2.2) v7 (U32 r8.2.2) (U32 r9.2.2) r10.2.2 r11.2.2, 0))))

theorem manifest_Decode_ok {N a0 r} (h : p_manifest_Decode N a0 = some r) : FnM Tryz.prog 105 [] [(eL 1 k8 a0)] (.tup [(S_api_Manifest.enc r.1), (j64 r.2)]) [] := by
 unfold p_manifest_Decode at h
 refine At.f m_no hT hmo Tryz.func105 rfl h ?_
 refine At.b 3 (fun _ e => big_C [] (codec_New_ok e)) fun r1 => ?_
 refine bi fun r2 hr2 => ?_
 refine bi fun r3 hr3 => ?_
 refine bi fun r4 hr4 => ?_
 refine At.d2 3 [false] dC0 (dS1 2 ⟨(k64 r2.2.2), 2, .var (.st 3 [(eL 1 k8 r2.1), (j64 r2.2.1), (eB ((S_codec_Reader.mk r1 0 true).gmade))]), .var (.st 3 [(eO 1 1 k8 r1), (j64 0), (eB true)])⟩ [[.var cv_1, .tail (r1.length * 1), .var (.st 3 [(eO 1 1 k8 r1), (j64 0), (eB true)]), .var (.st 1 [(.ref 2 [] 0)]), .dead], [.var cv_1, .tail (r1.length * 1), .var (.st 3 [(eO 1 1 k8 r1), (j64 0), (eB true)]), .var (.st 1 [(.ref 2 [] 0)]), .var cv_1]] ⟨big_at (big_C [2] (codec_Reader_Num_rd_ok hr2)), big_at (big_C [2] (codec_Reader_Num_rd_ok hr2)), trivial⟩ (dS1 4 ⟨(j64 r3.2.2), 2, .var (.st 3 [(eL 1 k8 r3.1), (j64 r3.2.1), (eB ((S_codec_Reader.mk r2.1 r2.2.1 ((S_codec_Reader.mk r1 0 true).gmade)).gmade))]), .var (.st 3 [(eL 1 k8 r2.1), (j64 r2.2.1), (eB ((S_codec_Reader.mk r1 0 true).gmade))])⟩ [[.var cv_1, .tail (r1.length * 1), .var (.st 3 [(eL 1 k8 r2.1), (j64 r2.2.1), (eB ((S_codec_Reader.mk r1 0 true).gmade))]), .var (.st 1 [(.ref 2 [] 0)]), .dead], [.var cv_1, .tail (r1.length * 1), .var (.st 3 [(eL 1 k8 r2.1), (j64 r2.2.1), (eB ((S_codec_Reader.mk r1 0 true).gmade))]), .var (.st 1 [(.ref 2 [] 0)]), .var cv_1]] ⟨big_at (big_C [2] (manifest_decoder_int_srzd_ok hr3)), big_at (big_C [2] (manifest_decoder_int_srzd_ok hr3)), trivial⟩ (dS1 7 ⟨(k64 r4.2.2), 2, .var (.st 3 [(eL 1 k8 r4.1), (j64 r4.2.1), (eB ((S_codec_Reader.mk r3.1 r3.2.1 ((S_codec_Reader.mk r2.1 r2.2.1 ((S_codec_Reader.mk r1 0 true).gmade)).gmade)).gmade))]), .var (.st 3 [(eL 1 k8 r3.1), (j64 r3.2.1), (eB ((S_codec_Reader.mk r2.1 r2.2.1 ((S_codec_Reader.mk r1 0 true).gmade)).gmade))])⟩ [[.var cv_1, .tail (r1.length * 1), .var (.st 3 [(eL 1 k8 r3.1), (j64 r3.2.1), (eB ((S_codec_Reader.mk r2.1 r2.2.1 ((S_codec_Reader.mk r1 0 true).gmade)).gmade))]), .var (.st 1 [(.ref 2 [] 0)]), .dead], [.var cv_1, .tail (r1.length * 1), .var (.st 3 [(eL 1 k8 r3.1), (j64 r3.2.1), (eB ((S_codec_Reader.mk r2.1 r2.2.1 ((S_codec_Reader.mk r1 0 true).gmade)).gmade))]), .var (.st 1 [(.ref 2 [] 0)]), .var cv_1]] ⟨big_at (big_C [2] (codec_Reader_Num_rd_ok hr4)), big_at (big_C [2] (codec_Reader_Num_rd_ok hr4)), trivial⟩ (dS1 10 ⟨(.ref 4 [] 0), 4, .var cv_1, .dead⟩ [[.var cv_1, .tail (r1.length * 1), .var (.st 3 [(eO 1 1 k8 r1), (j64 0), (eB true)]), .var (.st 1 [(.ref 2 [] 0)]), .dead], [.var cv_1, .tail (r1.length * 1), .var (.st 3 [(eL 1 k8 r4.1), (j64 r4.2.1), (eB ((S_codec_Reader.mk r3.1 r3.2.1 ((S_codec_Reader.mk r2.1 r2.2.1 ((S_codec_Reader.mk r1 0 true).gmade)).gmade)).gmade))]), .var (.st 1 [(.ref 2 [] 0)]), .dead], [.var cv_1, .tail (r1.length * 1), .var (.st 3 [(eL 1 k8 r3.1), (j64 r3.2.1), (eB ((S_codec_Reader.mk r2.1 r2.2.1 ((S_codec_Reader.mk r1 0 true).gmade)).gmade))]), .var (.st 1 [(.ref 2 [] 0)]), .dead], [.var cv_1, .tail (r1.length * 1), .var (.st 3 [(eL 1 k8 r4.1), (j64 r4.2.1), (eB ((S_codec_Reader.mk r3.1 r3.2.1 ((S_codec_Reader.mk r2.1 r2.2.1 ((S_codec_Reader.mk r1 0 true).gmade)).gmade)).gmade))]), .var (.st 1 [(.ref 2 [] 0)]), .dead], [.var cv_1, .tail (r1.length * 1), .var (.st 3 [(eL 1 k8 r2.1), (j64 r2.2.1), (eB ((S_codec_Reader.mk r1 0 true).gmade))]), .var (.st 1 [(.ref 2 [] 0)]), .dead], [.var cv_1, .tail (r1.length * 1), .var (.st 3 [(eL 1 k8 r4.1), (j64 r4.2.1), (eB ((S_codec_Reader.mk r3.1 r3.2.1 ((S_codec_Reader.mk r2.1 r2.2.1 ((S_codec_Reader.mk r1 0 true).gmade)).gmade)).gmade))]), .var (.st 1 [(.ref 2 [] 0)]), .dead], [.var cv_1, .tail (r1.length * 1), .var (.st 3 [(eL 1 k8 r3.1), (j64 r3.2.1), (eB ((S_codec_Reader.mk r2.1 r2.2.1 ((S_codec_Reader.mk r1 0 true).gmade)).gmade))]), .var (.st 1 [(.ref 2 [] 0)]), .dead], [.var cv_1, .tail (r1.length * 1), .var (.st 3 [(eL 1 k8 r4.1), (j64 r4.2.1), (eB ((S_codec_Reader.mk r3.1 r3.2.1 ((S_codec_Reader.mk r2.1 r2.2.1 ((S_codec_Reader.mk r1 0 true).gmade)).gmade)).gmade))]), .var (.st 1 [(.ref 2 [] 0)]), .dead]] ⟨big_allocS hT 4 (by kernel_rfl) (by kernel_rfl) (by kernel_rfl), big_allocS hT 4 (by kernel_rfl) (by kernel_rfl) (by kernel_rfl), big_allocS hT 4 (by kernel_rfl) (by kernel_rfl) (by kernel_rfl), big_allocS hT 4 (by kernel_rfl) (by kernel_rfl) (by kernel_rfl), big_allocS hT 4 (by kernel_rfl) (by kernel_rfl) (by kernel_rfl), big_allocS hT 4 (by kernel_rfl) (by kernel_rfl) (by kernel_rfl), big_allocS hT 4 (by kernel_rfl) (by kernel_rfl) (by kernel_rfl), big_allocS hT 4 (by kernel_rfl) (by kernel_rfl) (by kernel_rfl), trivial⟩ dS0)))) ?_
 refine bi fun s5 hs5 => ?_
 refine bi fun r6 hr6 => ?_
 refine bi fun v7 hv7 => ?_
 refine At.d 0 (dE1 1 (fun _ => big_slR hT (k := 1) 4 [3] 3 hs5 (by kernel_rfl) (by kernel_rfl) (by decide)) dE0) (dF 4 (eL 1 k8 r6.2.2) [(2, .var (.st 3 [(eL 1 k8 r6.1), (j64 r6.2.1), (eB ((S_codec_Reader.mk r4.1 r4.2.1 ((S_codec_Reader.mk r3.1 r3.2.1 ((S_codec_Reader.mk r2.1 r2.2.1 ((S_codec_Reader.mk r1 0 true).gmade)).gmade)).gmade)).gmade))]))] [] (big_at (big_C [2] (codec_Reader_Take_rd_ok hr6))) (dF 5 (j64 (((min r6.2.2.length 8 : Nat) : Int))) [(4, .var (.st 15 [(k64 r2.2.2), (j64 r3.2.2), (k32 (U32 r4.2.2)), (eA 8 1 k8 v7), (k32 0), (k32 0), (j64 0), (j64 0)]))] [] (big_at (big_cpyV hT k8 (id := 4) (path := [3]) (off := 3) (H' := [.var cv_1, .tail (r1.length * 1), .var (.st 3 [(eL 1 k8 r6.1), (j64 r6.2.1), (eB ((S_codec_Reader.mk r4.1 r4.2.1 ((S_codec_Reader.mk r3.1 r3.2.1 ((S_codec_Reader.mk r2.1 r2.2.1 ((S_codec_Reader.mk r1 0 true).gmade)).gmade)).gmade)).gmade))]), .var (.st 1 [(.ref 2 [] 0)]), .var (.st 15 [(k64 r2.2.2), (j64 r3.2.2), (k32 (U32 r4.2.2)), (eA 8 1 k8 v7), (k32 0), (k32 0), (j64 0), (j64 0)])]) hv7 (by kernel_rfl) (by kernel_rfl) (by kernel_rfl))) dF0)) ?_
 refine bi fun r8 hr8 => ?_
 refine bi fun r9 hr9 => ?_
 refine bi fun r10 hr10 => ?_
 refine bi fun r11 hr11 => ?_
 refine At.d 0 dE0 (dF 2 (k64 r8.2.2) [(2, .var (.st 3 [(eL 1 k8 r8.1), (j64 r8.2.1), (eB ((S_codec_Reader.mk r6.1 r6.2.1 ((S_codec_Reader.mk r4.1 r4.2.1 ((S_codec_Reader.mk r3.1 r3.2.1 ((S_codec_Reader.mk r2.1 r2.2.1 ((S_codec_Reader.mk r1 0 true).gmade)).gmade)).gmade)).gmade)).gmade))]))] [] (big_at (big_C [2] (codec_Reader_Num_rd_ok hr8))) (dF 6 (k64 r9.2.2) [(2, .var (.st 3 [(eL 1 k8 r9.1), (j64 r9.2.1), (eB ((S_codec_Reader.mk r8.1 r8.2.1 ((S_codec_Reader.mk r6.1 r6.2.1 ((S_codec_Reader.mk r4.1 r4.2.1 ((S_codec_Reader.mk r3.1 r3.2.1 ((S_codec_Reader.mk r2.1 r2.2.1 ((S_codec_Reader.mk r1 0 true).gmade)).gmade)).gmade)).gmade)).gmade)).gmade))]))] [] (big_at (big_C [2] (codec_Reader_Num_rd_ok hr9))) (dF 9 (j64 r10.2.2) [(2, .var (.st 3 [(eL 1 k8 r10.1), (j64 r10.2.1), (eB ((S_codec_Reader.mk r9.1 r9.2.1 ((S_codec_Reader.mk r8.1 r8.2.1 ((S_codec_Reader.mk r6.1 r6.2.1 ((S_codec_Reader.mk r4.1 r4.2.1 ((S_codec_Reader.mk r3.1 r3.2.1 ((S_codec_Reader.mk r2.1 r2.2.1 ((S_codec_Reader.mk r1 0 true).gmade)).gmade)).gmade)).gmade)).gmade)).gmade)).gmade))]))] [] (big_at (big_C [2] (manifest_decoder_int_srzd_ok hr10))) (dF 11 (j64 r11.2.2) [(2, .var (.st 3 [(eL 1 k8 r11.1), (j64 r11.2.1), (eB ((S_codec_Reader.mk r10.1 r10.2.1 ((S_codec_Reader.mk r9.1 r9.2.1 ((S_codec_Reader.mk r8.1 r8.2.1 ((S_codec_Reader.mk r6.1 r6.2.1 ((S_codec_Reader.mk r4.1 r4.2.1 ((S_codec_Reader.mk r3.1 r3.2.1 ((S_codec_Reader.mk r2.1 r2.2.1 ((S_codec_Reader.mk r1 0 true).gmade)).gmade)).gmade)).gmade)).gmade)).gmade)).gmade)).gmade))]))] [] (big_at (big_C [2] (manifest_decoder_int_srzd_ok hr11))) dF0)))) ?_
 refine At.b 2 (fun _ e => big_C [2] (codec_Reader_End_r_ok e)) fun r12 => ?_
 refine At.c 3 ?_ ?_
 ·apply rt; exact At.r 4
 ·refine At.b 1 (fun _ e => big_C [] (manifest_Check_ok e)) fun r13 => ?_
  refine At.c 3 ?_ ?_
  ·apply rt; exact At.r 4
  ·apply rt; exact At.r 3

end Go.UK

