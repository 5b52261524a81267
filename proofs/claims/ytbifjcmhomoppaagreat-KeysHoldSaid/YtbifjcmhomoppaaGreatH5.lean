/- A part of the proof: what the functions of the program compute. -/
import Derived.Test.YtbifjcmhomoppaaGreatH4
namespace Go.UK
open Go Go.Proofs
set_option maxRecDepth 20000
set_option maxHeartbeats 4000000
set_option linter.all false

attribute [local irreducible] adv putPt dropPt setPt brPt litPt cutPt restPt popN unrPt stPt envPt boxPt opPt opP2t ksPt lPt owp awl aw FnM NatFn opS Stab TOK Big
def m_chacha_Quarter : Nat → Bool := imL [1]

def p_chacha_Quarter (N : Nat) (a0 : (Vector Int 4)) : Option ((Vector Int 4)) :=
 Option.bind (idx a0.toList 0) fun e1 =>
 Option.bind (idx a0.toList 1) fun e2 =>
 Option.bind (idx a0.toList 2) fun e3 =>
 Option.bind (idx a0.toList 3) fun e4 =>
 letO (bxor .u32 e4 (U32 (e1 + e2))) fun x5 =>
 Option.bind (p_math_bits_RotateLeft32 N x5 16) fun r6 =>
 letO (bxor .u32 e2 (U32 (e3 + r6))) fun x7 =>
 Option.bind (p_math_bits_RotateLeft32 N x7 12) fun r8 =>
 letO (U32 ((U32 (e1 + e2)) + r8)) fun x9 =>
 Option.bind (p_math_bits_RotateLeft32 N (bxor .u32 r6 x9) 8) fun r10 =>
 letO (U32 ((U32 (e3 + r6)) + r10)) fun x11 =>
 Option.bind (p_math_bits_RotateLeft32 N (bxor .u32 r8 x11) 7) fun r12 =>
 some (#v[x9, r12, x11, r10])

theorem chacha_Quarter_ok {N : Nat} {a0 : (Vector Int 4)} {r : (Vector Int 4)} (h : p_chacha_Quarter N a0 = some r) : FnM Tryz.prog 209 [] [(eA 4 1 k32 a0)] (eA 4 1 k32 r) [] := by
 unfold p_chacha_Quarter at h
 refine At.fn m_chacha_Quarter hT hmo (m := 48) (lo := 0) (rs := [.cell 2 289]) Tryz.func209 rfl rfl h ?_
 refine bi fun e1 he1 => ?_
 refine bi fun e2 he2 => ?_
 refine bi fun e3 he3 => ?_
 refine bi fun e4 he4 => ?_
 refine At.d 2 (dE1 0 (fun _ => big_adI hT (N := 4) (k := 1) k32 a0 he1) (dE1 2 (fun _ => big_adI hT (N := 4) (k := 1) k32 a0 he2) (dE1 4 (fun _ => big_adI hT (N := 4) (k := 1) k32 a0 he3) (dE1 6 (fun _ => big_adI hT (N := 4) (k := 1) k32 a0 he4) dE0)))) dF0 ?_
 refine lx ?_; intro x5
 refine At.b 7 (fun _ e => big_call [] (math_bits_RotateLeft32_ok e) math_bits_RotateLeft32_ok_c) fun r6 => ?_
 refine lx ?_; intro x7
 refine At.b 8 (fun _ e => big_call [] (math_bits_RotateLeft32_ok e) math_bits_RotateLeft32_ok_c) fun r8 => ?_
 refine lx ?_; intro x9
 refine At.b 8 (fun _ e => big_call [] (math_bits_RotateLeft32_ok e) math_bits_RotateLeft32_ok_c) fun r10 => ?_
 refine lx ?_; intro x11
 refine At.b 8 (fun _ e => big_call [] (math_bits_RotateLeft32_ok e) math_bits_RotateLeft32_ok_c) fun r12 => ?_
 apply rt; exact At.r 7

theorem chacha_Quarter_ok_c : callable Tryz.prog 209 := ⟨_, Tryz.func209, by decide, rfl⟩

def m_chacha_Block : Nat → Bool := imL [3, 5]

def p_chacha_Block_L2 (N : Nat)  : Nat → (Vector Int 16) → Int → Option ((Vector Int 16))
 | 0, _, _ => none
 | k + 1, s6, s7 =>
  cond (decide (s7 < 8)) (
   Option.bind (idx (#v[#v[0, 4, 8, 12], #v[1, 5, 9, 13], #v[2, 6, 10, 14], #v[3, 7, 11, 15], #v[0, 5, 10, 15], #v[1, 6, 11, 12], #v[2, 7, 8, 13], #v[3, 4, 9, 14]]).toList s7) fun e8 =>
   Option.bind (inRO 0 4) fun _ =>
   Option.bind (e8.toList[(Int.toNat 0)]?) fun e10 =>
   Option.bind (inRO e10 16) fun _ =>
   Option.bind (s6.toList[e10.toNat]?) fun e12 =>
   Option.bind (inRO 1 4) fun _ =>
   Option.bind (e8.toList[(Int.toNat 1)]?) fun e14 =>
   Option.bind (inRO e14 16) fun _ =>
   Option.bind (s6.toList[e14.toNat]?) fun e16 =>
   Option.bind (inRO 2 4) fun _ =>
   Option.bind (e8.toList[(Int.toNat 2)]?) fun e18 =>
   Option.bind (inRO e18 16) fun _ =>
   Option.bind (s6.toList[e18.toNat]?) fun e20 =>
   Option.bind (inRO 3 4) fun _ =>
   Option.bind (e8.toList[(Int.toNat 3)]?) fun e22 =>
   Option.bind (inRO e22 16) fun _ =>
   Option.bind (s6.toList[e22.toNat]?) fun e24 =>
   Option.bind (p_chacha_Quarter N (#v[e12, e16, e20, e24])) fun r25 =>
   Option.bind (inRO 0 4) fun _ =>
   Option.bind (e8.toList[(Int.toNat 0)]?) fun e27 =>
   Option.bind (inRO 1 4) fun _ =>
   Option.bind (e8.toList[(Int.toNat 1)]?) fun e29 =>
   Option.bind (inRO 2 4) fun _ =>
   Option.bind (e8.toList[(Int.toNat 2)]?) fun e31 =>
   Option.bind (inRO 3 4) fun _ =>
   Option.bind (e8.toList[(Int.toNat 3)]?) fun e33 =>
   Option.bind (inRO 0 4) fun _ =>
   Option.bind (r25.toList[(Int.toNat 0)]?) fun e35 =>
   Option.bind (inRO 1 4) fun _ =>
   Option.bind (r25.toList[(Int.toNat 1)]?) fun e37 =>
   Option.bind (inRO 2 4) fun _ =>
   Option.bind (r25.toList[(Int.toNat 2)]?) fun e39 =>
   Option.bind (inRO 3 4) fun _ =>
   Option.bind (r25.toList[(Int.toNat 3)]?) fun e41 =>
   Option.bind (inRO e27 16) fun _ =>
   Option.bind (s6.toList[e27.toNat]?) fun e43 =>
   Option.bind (inRO e29 16) fun _ =>
   Option.bind ((s6.setIfInBounds e27.toNat e35).toList[e29.toNat]?) fun e45 =>
   Option.bind (inRO e31 16) fun _ =>
   Option.bind (((s6.setIfInBounds e27.toNat e35).setIfInBounds e29.toNat e37).toList[e31.toNat]?) fun e47 =>
   Option.bind (inRO e33 16) fun _ =>
   Option.bind ((((s6.setIfInBounds e27.toNat e35).setIfInBounds e29.toNat e37).setIfInBounds e31.toNat e39).toList[e33.toNat]?) fun e49 =>
   p_chacha_Block_L2 N k ((((s6.setIfInBounds e27.toNat e35).setIfInBounds e29.toNat e37).setIfInBounds e31.toNat e39).setIfInBounds e33.toNat e41) (I64 (s7 + 1))) (
   some s6)

def p_chacha_Block_L1 (N : Nat)  : Nat → (Vector Int 16) → Int → Option ((Vector Int 16))
 | 0, _, _ => none
 | k + 1, s3, s4 =>
  cond (decide (s4 < 10)) (
   Option.bind (p_chacha_Block_L2 N N s3 0) fun p5 =>
   p_chacha_Block_L1 N k p5 (I64 (s4 + 1))) (
   some s3)

def p_chacha_Block_L3 (N : Nat) (p2 : (Vector Int 16)) (r1 : (Vector Int 16)) : Nat → (Vector Int 64) → Int → Option ((Vector Int 64))
 | 0, _, _ => none
 | k + 1, s51, s52 =>
  cond (decide (s52 < 16)) (
   Option.bind (idx p2.toList s52) fun e53 =>
   Option.bind (inRO s52 16) fun _ =>
   Option.bind (r1.toList[s52.toNat]?) fun e55 =>
   letO (I64 ((I64 (4 * s52)) + 1)) fun x56 =>
   letO (I64 ((I64 (4 * s52)) + 2)) fun x57 =>
   letO (I64 ((I64 (4 * s52)) + 3)) fun x58 =>
   letO (shr .u32 (U32 (e53 + e55)) 8) fun x59 =>
   letO (shr .u32 (U32 (e53 + e55)) 16) fun x60 =>
   letO (shr .u32 (U32 (e53 + e55)) 24) fun x61 =>
   Option.bind (inRO (I64 (4 * s52)) 64) fun _ =>
   Option.bind (s51.toList[(I64 (4 * s52)).toNat]?) fun e63 =>
   Option.bind (inRO x56 64) fun _ =>
   Option.bind ((s51.setIfInBounds ((I64 (4 * s52)).toNat) (U8 (U32 (e53 + e55)))).toList[x56.toNat]?) fun e65 =>
   Option.bind (inRO x57 64) fun _ =>
   Option.bind (((s51.setIfInBounds ((I64 (4 * s52)).toNat) (U8 (U32 (e53 + e55)))).setIfInBounds x56.toNat (U8 x59)).toList[x57.toNat]?) fun e67 =>
   Option.bind (inRO x58 64) fun _ =>
   Option.bind ((((s51.setIfInBounds ((I64 (4 * s52)).toNat) (U8 (U32 (e53 + e55)))).setIfInBounds x56.toNat (U8 x59)).setIfInBounds x57.toNat (U8 x60)).toList[x58.toNat]?) fun e69 =>
   p_chacha_Block_L3 N p2 r1 k ((((s51.setIfInBounds ((I64 (4 * s52)).toNat) (U8 (U32 (e53 + e55)))).setIfInBounds x56.toNat (U8 x59)).setIfInBounds x57.toNat (U8 x60)).setIfInBounds x58.toNat (U8 x61)) (I64 (s52 + 1))) (
   some s51)

def p_chacha_Block (N : Nat) (a0 : (Vector Int 32)) (a1 : Int) (a2 : (Vector Int 12)) : Option ((Vector Int 64)) :=
 Option.bind (p_chacha_State N a0 a1 a2) fun r1 =>
 Option.bind (p_chacha_Block_L1 N N r1 0) fun p2 =>
 Option.bind (p_chacha_Block_L3 N p2 r1 N (Vector.replicate 64 0) 0) fun p50 =>
 some p50

theorem chacha_Block_ok {N : Nat} {a0 : (Vector Int 32)} {a1 : Int} {a2 : (Vector Int 12)} {r : (Vector Int 64)} (h : p_chacha_Block N a0 a1 a2 = some r) : FnM Tryz.prog 178 [] [(eA 32 1 k8 a0), (k32 a1), (eA 12 1 k8 a2)] (eA 64 1 k8 r) [] := by
 unfold p_chacha_Block at h
 refine At.fn m_chacha_Block hT hmo (m := 114) (lo := 0) (rs := [.cell 6 182]) Tryz.func178 rfl rfl h ?_
 refine At.b 6 (fun _ e => big_call [] (chacha_State_ok e) chacha_State_ok_c) fun r1 => ?_
 refine At.l 17 (fun p2 => ⟨[en 6 (.ref 0 [] 0), en 7 (.ref 1 [] 0), en 8 (.ref 2 [] 0)], [.var (eA 64 1 k8 (Vector.replicate 64 0)), .var (eA 16 1 k32 r1), .var (eA 16 1 k32 p2), .var cv_1]⟩) (fun p2 J k s => ∃ s3 s4, p_chacha_Block_L1 N k s3 s4 = some p2 ∧ J ⟨[en 6 (.ref 0 [] 0), en 7 (.ref 1 [] 0), en 8 (.ref 2 [] 0), en 9 (.ref 3 [] 0), en 30 (j64 s4)], [.var (eA 64 1 k8 (Vector.replicate 64 0)), .var (eA 16 1 k32 r1), .var (eA 16 1 k32 s3), .var cv_1]⟩ s) N (fun _ h => ⟨_, _, h, jr⟩) (fun p2 k s hI => ?_) fun p2 => ?_
 ·obtain ⟨s3, s4, h, hj⟩ := hI
  cases k with
  | zero => cases h
  | succ k =>
   refine At.jr hj ?_ h
   refine At.c 1 ?_ ?_
   ·refine At.l 2 (fun p5 => ⟨[en 6 (.ref 0 [] 0), en 7 (.ref 1 [] 0), en 8 (.ref 2 [] 0), en 9 (.ref 3 [] 0), en 30 (j64 s4)], [.var (eA 64 1 k8 (Vector.replicate 64 0)), .var (eA 16 1 k32 r1), .var (eA 16 1 k32 p5), .var cv_1]⟩) (fun p5 J k s => ∃ s6 s7, p_chacha_Block_L2 N k s6 s7 = some p5 ∧ J ⟨[en 6 (.ref 0 [] 0), en 7 (.ref 1 [] 0), en 8 (.ref 2 [] 0), en 9 (.ref 3 [] 0), en 30 (j64 s4), en 32 cv_1, en 33 (j64 s7)], [.var (eA 64 1 k8 (Vector.replicate 64 0)), .var (eA 16 1 k32 r1), .var (eA 16 1 k32 s6), .var cv_1]⟩ s) N (fun _ h => ⟨_, _, h, jr⟩) (fun p5 k s hI => ?_) fun p5 => ?_
    ·obtain ⟨s6, s7, h, hj⟩ := hI
     cases k with
     | zero => cases h
     | succ k =>
      refine At.jr hj ?_ h
      refine At.c 1 ?_ ?_
      ·refine At.b 0 (fun _ e => big_ixA hT (eA 4 1 j64) (#v[#v[0, 4, 8, 12], #v[1, 5, 9, 13], #v[2, 6, 10, 14], #v[3, 7, 11, 15], #v[0, 5, 10, 15], #v[1, 6, 11, 12], #v[2, 7, 8, 13], #v[3, 4, 9, 14]]) e (by kernel_rfl) (by kernel_rfl)) fun e8 => ?_
       refine bi fun u9 hu9 => ?_
       refine bi fun e10 he10 => ?_
       refine bi fun u11 hu11 => ?_
       refine bi fun e12 he12 => ?_
       refine bi fun u13 hu13 => ?_
       refine bi fun e14 he14 => ?_
       refine bi fun u15 hu15 => ?_
       refine bi fun e16 he16 => ?_
       refine bi fun u17 hu17 => ?_
       refine bi fun e18 he18 => ?_
       refine bi fun u19 hu19 => ?_
       refine bi fun e20 he20 => ?_
       refine bi fun u21 hu21 => ?_
       refine bi fun e22 he22 => ?_
       refine bi fun u23 hu23 => ?_
       refine bi fun e24 he24 => ?_
       refine bi fun r25 hr25 => ?_
       refine At.d 2 (dE1 0 (fun _ => big_adR hT (k := 1) 4 [] 0 hu9) (dET 1 (j64 e10) [[.var (eA 64 1 k8 (Vector.replicate 64 0)), .var (eA 16 1 k32 r1), .var (eA 16 1 k32 s6), .var cv_1, .var (eA 4 1 j64 e8)], [.var (eA 64 1 k8 (Vector.replicate 64 0)), .var (eA 16 1 k32 r1), .var (eA 16 1 k32 s6), .var cv_1, .var (eA 4 1 j64 e8), .var (.arr 4 1 [(k32 0), (k32 0), (k32 0), (k32 0)])]] ⟨big_at (big_ldE hT j64 0 he10), big_at (big_ldE hT j64 0 he10), trivial⟩ (dE1 2 (fun _ => big_adR hT (k := 1) 2 [] 0 hu11) (dET 3 (k32 e12) [[.var (eA 64 1 k8 (Vector.replicate 64 0)), .var (eA 16 1 k32 r1), .var (eA 16 1 k32 s6), .var cv_1, .var (eA 4 1 j64 e8)], [.var (eA 64 1 k8 (Vector.replicate 64 0)), .var (eA 16 1 k32 r1), .var (eA 16 1 k32 s6), .var cv_1, .var (eA 4 1 j64 e8), .var (.arr 4 1 [(k32 0), (k32 0), (k32 0), (k32 0)])]] ⟨big_at (big_ldE hT k32 0 he12), big_at (big_ldE hT k32 0 he12), trivial⟩ (dE1 4 (fun _ => big_adR hT (k := 1) 4 [] 0 hu13) (dET 5 (j64 e14) [[.var (eA 64 1 k8 (Vector.replicate 64 0)), .var (eA 16 1 k32 r1), .var (eA 16 1 k32 s6), .var cv_1, .var (eA 4 1 j64 e8)], [.var (eA 64 1 k8 (Vector.replicate 64 0)), .var (eA 16 1 k32 r1), .var (eA 16 1 k32 s6), .var cv_1, .var (eA 4 1 j64 e8), .var (.arr 4 1 [(k32 0), (k32 0), (k32 0), (k32 0)])]] ⟨big_at (big_ldE hT j64 0 he14), big_at (big_ldE hT j64 0 he14), trivial⟩ (dE1 6 (fun _ => big_adR hT (k := 1) 2 [] 0 hu15) (dET 7 (k32 e16) [[.var (eA 64 1 k8 (Vector.replicate 64 0)), .var (eA 16 1 k32 r1), .var (eA 16 1 k32 s6), .var cv_1, .var (eA 4 1 j64 e8)], [.var (eA 64 1 k8 (Vector.replicate 64 0)), .var (eA 16 1 k32 r1), .var (eA 16 1 k32 s6), .var cv_1, .var (eA 4 1 j64 e8), .var (.arr 4 1 [(k32 0), (k32 0), (k32 0), (k32 0)])]] ⟨big_at (big_ldE hT k32 0 he16), big_at (big_ldE hT k32 0 he16), trivial⟩ (dE1 8 (fun _ => big_adR hT (k := 1) 4 [] 0 hu17) (dET 9 (j64 e18) [[.var (eA 64 1 k8 (Vector.replicate 64 0)), .var (eA 16 1 k32 r1), .var (eA 16 1 k32 s6), .var cv_1, .var (eA 4 1 j64 e8)], [.var (eA 64 1 k8 (Vector.replicate 64 0)), .var (eA 16 1 k32 r1), .var (eA 16 1 k32 s6), .var cv_1, .var (eA 4 1 j64 e8), .var (.arr 4 1 [(k32 0), (k32 0), (k32 0), (k32 0)])]] ⟨big_at (big_ldE hT j64 0 he18), big_at (big_ldE hT j64 0 he18), trivial⟩ (dE1 10 (fun _ => big_adR hT (k := 1) 2 [] 0 hu19) (dET 11 (k32 e20) [[.var (eA 64 1 k8 (Vector.replicate 64 0)), .var (eA 16 1 k32 r1), .var (eA 16 1 k32 s6), .var cv_1, .var (eA 4 1 j64 e8)], [.var (eA 64 1 k8 (Vector.replicate 64 0)), .var (eA 16 1 k32 r1), .var (eA 16 1 k32 s6), .var cv_1, .var (eA 4 1 j64 e8), .var (.arr 4 1 [(k32 0), (k32 0), (k32 0), (k32 0)])]] ⟨big_at (big_ldE hT k32 0 he20), big_at (big_ldE hT k32 0 he20), trivial⟩ (dE1 12 (fun _ => big_adR hT (k := 1) 4 [] 0 hu21) (dET 13 (j64 e22) [[.var (eA 64 1 k8 (Vector.replicate 64 0)), .var (eA 16 1 k32 r1), .var (eA 16 1 k32 s6), .var cv_1, .var (eA 4 1 j64 e8)], [.var (eA 64 1 k8 (Vector.replicate 64 0)), .var (eA 16 1 k32 r1), .var (eA 16 1 k32 s6), .var cv_1, .var (eA 4 1 j64 e8), .var (.arr 4 1 [(k32 0), (k32 0), (k32 0), (k32 0)])]] ⟨big_at (big_ldE hT j64 0 he22), big_at (big_ldE hT j64 0 he22), trivial⟩ (dE1 14 (fun _ => big_adR hT (k := 1) 2 [] 0 hu23) (dET 15 (k32 e24) [[.var (eA 64 1 k8 (Vector.replicate 64 0)), .var (eA 16 1 k32 r1), .var (eA 16 1 k32 s6), .var cv_1, .var (eA 4 1 j64 e8)], [.var (eA 64 1 k8 (Vector.replicate 64 0)), .var (eA 16 1 k32 r1), .var (eA 16 1 k32 s6), .var cv_1, .var (eA 4 1 j64 e8), .var (.arr 4 1 [(k32 0), (k32 0), (k32 0), (k32 0)])]] ⟨big_at (big_ldE hT k32 0 he24), big_at (big_ldE hT k32 0 he24), trivial⟩ (dE2 17 (eA 4 1 k32 r25) (fun _ => big_call0 (chacha_Quarter_ok hr25) chacha_Quarter_ok_c (by kernel_rfl) (by kernel_rfl) (by kernel_rfl)) dE0))))))))))))))))) dF0 ?_
       refine bi fun u26 hu26 => ?_
       refine bi fun e27 he27 => ?_
       refine bi fun u28 hu28 => ?_
       refine bi fun e29 he29 => ?_
       refine bi fun u30 hu30 => ?_
       refine bi fun e31 he31 => ?_
       refine bi fun u32 hu32 => ?_
       refine bi fun e33 he33 => ?_
       refine bi fun u34 hu34 => ?_
       refine bi fun e35 he35 => ?_
       refine bi fun u36 hu36 => ?_
       refine bi fun e37 he37 => ?_
       refine bi fun u38 hu38 => ?_
       refine bi fun e39 he39 => ?_
       refine bi fun u40 hu40 => ?_
       refine bi fun e41 he41 => ?_
       refine bi fun u42 hu42 => ?_
       refine bi fun e43 he43 => ?_
       refine bi fun u44 hu44 => ?_
       refine bi fun e45 he45 => ?_
       refine bi fun u46 hu46 => ?_
       refine bi fun e47 he47 => ?_
       refine bi fun u48 hu48 => ?_
       refine bi fun e49 he49 => ?_
       refine At.d 0 (dE1 0 (fun _ => big_adR hT (k := 1) 4 [] 0 hu26) (dET 1 (j64 e27) [[.var (eA 64 1 k8 (Vector.replicate 64 0)), .var (eA 16 1 k32 r1), .var (eA 16 1 k32 s6), .var cv_1, .var (eA 4 1 j64 e8), .var (eA 4 1 k32 r25)]] ⟨big_at (big_ldE hT j64 0 he27), trivial⟩ (dE1 2 (fun _ => big_adR hT (k := 1) 4 [] 0 hu28) (dET 3 (j64 e29) [[.var (eA 64 1 k8 (Vector.replicate 64 0)), .var (eA 16 1 k32 r1), .var (eA 16 1 k32 s6), .var cv_1, .var (eA 4 1 j64 e8), .var (eA 4 1 k32 r25)], [.var (eA 64 1 k8 (Vector.replicate 64 0)), .var (eA 16 1 k32 r1), .var (eA 16 1 k32 (s6.setIfInBounds e27.toNat e35)), .var cv_1, .var (eA 4 1 j64 e8), .var (eA 4 1 k32 r25)]] ⟨big_at (big_ldE hT j64 0 he29), big_at (big_ldE hT j64 0 he29), trivial⟩ (dE1 4 (fun _ => big_adR hT (k := 1) 4 [] 0 hu30) (dET 5 (j64 e31) [[.var (eA 64 1 k8 (Vector.replicate 64 0)), .var (eA 16 1 k32 r1), .var (eA 16 1 k32 s6), .var cv_1, .var (eA 4 1 j64 e8), .var (eA 4 1 k32 r25)], [.var (eA 64 1 k8 (Vector.replicate 64 0)), .var (eA 16 1 k32 r1), .var (eA 16 1 k32 (s6.setIfInBounds e27.toNat e35)), .var cv_1, .var (eA 4 1 j64 e8), .var (eA 4 1 k32 r25)], [.var (eA 64 1 k8 (Vector.replicate 64 0)), .var (eA 16 1 k32 r1), .var (eA 16 1 k32 ((s6.setIfInBounds e27.toNat e35).setIfInBounds e29.toNat e37)), .var cv_1, .var (eA 4 1 j64 e8), .var (eA 4 1 k32 r25)]] ⟨big_at (big_ldE hT j64 0 he31), big_at (big_ldE hT j64 0 he31), big_at (big_ldE hT j64 0 he31), trivial⟩ (dE1 6 (fun _ => big_adR hT (k := 1) 4 [] 0 hu32) (dET 7 (j64 e33) [[.var (eA 64 1 k8 (Vector.replicate 64 0)), .var (eA 16 1 k32 r1), .var (eA 16 1 k32 s6), .var cv_1, .var (eA 4 1 j64 e8), .var (eA 4 1 k32 r25)], [.var (eA 64 1 k8 (Vector.replicate 64 0)), .var (eA 16 1 k32 r1), .var (eA 16 1 k32 (s6.setIfInBounds e27.toNat e35)), .var cv_1, .var (eA 4 1 j64 e8), .var (eA 4 1 k32 r25)], [.var (eA 64 1 k8 (Vector.replicate 64 0)), .var (eA 16 1 k32 r1), .var (eA 16 1 k32 ((s6.setIfInBounds e27.toNat e35).setIfInBounds e29.toNat e37)), .var cv_1, .var (eA 4 1 j64 e8), .var (eA 4 1 k32 r25)], [.var (eA 64 1 k8 (Vector.replicate 64 0)), .var (eA 16 1 k32 r1), .var (eA 16 1 k32 (((s6.setIfInBounds e27.toNat e35).setIfInBounds e29.toNat e37).setIfInBounds e31.toNat e39)), .var cv_1, .var (eA 4 1 j64 e8), .var (eA 4 1 k32 r25)]] ⟨big_at (big_ldE hT j64 0 he33), big_at (big_ldE hT j64 0 he33), big_at (big_ldE hT j64 0 he33), big_at (big_ldE hT j64 0 he33), trivial⟩ (dE1 8 (fun _ => big_adR hT (k := 1) 5 [] 0 hu34) (dET 9 (k32 e35) [[.var (eA 64 1 k8 (Vector.replicate 64 0)), .var (eA 16 1 k32 r1), .var (eA 16 1 k32 s6), .var cv_1, .var (eA 4 1 j64 e8), .var (eA 4 1 k32 r25)]] ⟨big_at (big_ldE hT k32 0 he35), trivial⟩ (dE1 10 (fun _ => big_adR hT (k := 1) 5 [] 0 hu36) (dET 11 (k32 e37) [[.var (eA 64 1 k8 (Vector.replicate 64 0)), .var (eA 16 1 k32 r1), .var (eA 16 1 k32 s6), .var cv_1, .var (eA 4 1 j64 e8), .var (eA 4 1 k32 r25)], [.var (eA 64 1 k8 (Vector.replicate 64 0)), .var (eA 16 1 k32 r1), .var (eA 16 1 k32 (s6.setIfInBounds e27.toNat e35)), .var cv_1, .var (eA 4 1 j64 e8), .var (eA 4 1 k32 r25)]] ⟨big_at (big_ldE hT k32 0 he37), big_at (big_ldE hT k32 0 he37), trivial⟩ (dE1 12 (fun _ => big_adR hT (k := 1) 5 [] 0 hu38) (dET 13 (k32 e39) [[.var (eA 64 1 k8 (Vector.replicate 64 0)), .var (eA 16 1 k32 r1), .var (eA 16 1 k32 s6), .var cv_1, .var (eA 4 1 j64 e8), .var (eA 4 1 k32 r25)], [.var (eA 64 1 k8 (Vector.replicate 64 0)), .var (eA 16 1 k32 r1), .var (eA 16 1 k32 (s6.setIfInBounds e27.toNat e35)), .var cv_1, .var (eA 4 1 j64 e8), .var (eA 4 1 k32 r25)], [.var (eA 64 1 k8 (Vector.replicate 64 0)), .var (eA 16 1 k32 r1), .var (eA 16 1 k32 ((s6.setIfInBounds e27.toNat e35).setIfInBounds e29.toNat e37)), .var cv_1, .var (eA 4 1 j64 e8), .var (eA 4 1 k32 r25)]] ⟨big_at (big_ldE hT k32 0 he39), big_at (big_ldE hT k32 0 he39), big_at (big_ldE hT k32 0 he39), trivial⟩ (dE1 14 (fun _ => big_adR hT (k := 1) 5 [] 0 hu40) (dET 15 (k32 e41) [[.var (eA 64 1 k8 (Vector.replicate 64 0)), .var (eA 16 1 k32 r1), .var (eA 16 1 k32 s6), .var cv_1, .var (eA 4 1 j64 e8), .var (eA 4 1 k32 r25)], [.var (eA 64 1 k8 (Vector.replicate 64 0)), .var (eA 16 1 k32 r1), .var (eA 16 1 k32 (s6.setIfInBounds e27.toNat e35)), .var cv_1, .var (eA 4 1 j64 e8), .var (eA 4 1 k32 r25)], [.var (eA 64 1 k8 (Vector.replicate 64 0)), .var (eA 16 1 k32 r1), .var (eA 16 1 k32 ((s6.setIfInBounds e27.toNat e35).setIfInBounds e29.toNat e37)), .var cv_1, .var (eA 4 1 j64 e8), .var (eA 4 1 k32 r25)], [.var (eA 64 1 k8 (Vector.replicate 64 0)), .var (eA 16 1 k32 r1), .var (eA 16 1 k32 (((s6.setIfInBounds e27.toNat e35).setIfInBounds e29.toNat e37).setIfInBounds e31.toNat e39)), .var cv_1, .var (eA 4 1 j64 e8), .var (eA 4 1 k32 r25)]] ⟨big_at (big_ldE hT k32 0 he41), big_at (big_ldE hT k32 0 he41), big_at (big_ldE hT k32 0 he41), big_at (big_ldE hT k32 0 he41), trivial⟩ (dE1 16 (fun _ => big_adR hT (k := 1) 2 [] 0 hu42) (dE1 18 (fun _ => big_adR hT (k := 1) 2 [] 0 hu44) (dE1 20 (fun _ => big_adR hT (k := 1) 2 [] 0 hu46) (dE1 22 (fun _ => big_adR hT (k := 1) 2 [] 0 hu48) dE0)))))))))))))))))))) (dF1 17 (.v (.bool false)) [.var (eA 64 1 k8 (Vector.replicate 64 0)), .var (eA 16 1 k32 r1), .var (eA 16 1 k32 (s6.setIfInBounds e27.toNat e35)), .var cv_1, .var (eA 4 1 j64 e8), .var (eA 4 1 k32 r25)] (big_at (big_stV hT k32 0 s6 he43 e35 (by kernel_rfl) (by kernel_rfl) (H' := [.var (eA 64 1 k8 (Vector.replicate 64 0)), .var (eA 16 1 k32 r1), .var (eA 16 1 k32 (s6.setIfInBounds e27.toNat e35)), .var cv_1, .var (eA 4 1 j64 e8), .var (eA 4 1 k32 r25)]))) (dF1 19 (.v (.bool false)) [.var (eA 64 1 k8 (Vector.replicate 64 0)), .var (eA 16 1 k32 r1), .var (eA 16 1 k32 ((s6.setIfInBounds e27.toNat e35).setIfInBounds e29.toNat e37)), .var cv_1, .var (eA 4 1 j64 e8), .var (eA 4 1 k32 r25)] (big_at (big_stV hT k32 0 (s6.setIfInBounds e27.toNat e35) he45 e37 (by kernel_rfl) (by kernel_rfl) (H' := [.var (eA 64 1 k8 (Vector.replicate 64 0)), .var (eA 16 1 k32 r1), .var (eA 16 1 k32 ((s6.setIfInBounds e27.toNat e35).setIfInBounds e29.toNat e37)), .var cv_1, .var (eA 4 1 j64 e8), .var (eA 4 1 k32 r25)]))) (dF1 21 (.v (.bool false)) [.var (eA 64 1 k8 (Vector.replicate 64 0)), .var (eA 16 1 k32 r1), .var (eA 16 1 k32 (((s6.setIfInBounds e27.toNat e35).setIfInBounds e29.toNat e37).setIfInBounds e31.toNat e39)), .var cv_1, .var (eA 4 1 j64 e8), .var (eA 4 1 k32 r25)] (big_at (big_stV hT k32 0 ((s6.setIfInBounds e27.toNat e35).setIfInBounds e29.toNat e37) he47 e39 (by kernel_rfl) (by kernel_rfl) (H' := [.var (eA 64 1 k8 (Vector.replicate 64 0)), .var (eA 16 1 k32 r1), .var (eA 16 1 k32 (((s6.setIfInBounds e27.toNat e35).setIfInBounds e29.toNat e37).setIfInBounds e31.toNat e39)), .var cv_1, .var (eA 4 1 j64 e8), .var (eA 4 1 k32 r25)]))) (dF1 23 (.v (.bool false)) [.var (eA 64 1 k8 (Vector.replicate 64 0)), .var (eA 16 1 k32 r1), .var (eA 16 1 k32 ((((s6.setIfInBounds e27.toNat e35).setIfInBounds e29.toNat e37).setIfInBounds e31.toNat e39).setIfInBounds e33.toNat e41)), .var cv_1, .var (eA 4 1 j64 e8), .var (eA 4 1 k32 r25)] (big_at (big_stV hT k32 0 (((s6.setIfInBounds e27.toNat e35).setIfInBounds e29.toNat e37).setIfInBounds e31.toNat e39) he49 e41 (by kernel_rfl) (by kernel_rfl) (H' := [.var (eA 64 1 k8 (Vector.replicate 64 0)), .var (eA 16 1 k32 r1), .var (eA 16 1 k32 ((((s6.setIfInBounds e27.toNat e35).setIfInBounds e29.toNat e37).setIfInBounds e31.toNat e39).setIfInBounds e33.toNat e41)), .var cv_1, .var (eA 4 1 j64 e8), .var (eA 4 1 k32 r25)]))) dF0)))) ?_
       exact fun h => At.k 2 ⟨_, _, h, jr⟩
      ·apply rt; exact At.x 0
    ·exact fun h => At.k 2 ⟨_, _, h, jr⟩
   ·apply rt; exact At.x 0
 ·refine At.l 3 (fun p50 => ⟨[en 6 (.ref 0 [] 0), en 13 (.ref 4 [] 0)], [.var (eA 64 1 k8 (Vector.replicate 64 0)), .var (eA 16 1 k32 r1), .var (eA 16 1 k32 p2), .var cv_1, .var (eA 64 1 k8 p50)]⟩) (fun p50 J k s => ∃ s51 s52, p_chacha_Block_L3 N p2 r1 k s51 s52 = some p50 ∧ J ⟨[en 6 (.ref 0 [] 0), en 7 (.ref 1 [] 0), en 13 (.ref 4 [] 0), en 76 (eA 16 1 k32 p2), en 77 (j64 s52)], [.var (eA 64 1 k8 (Vector.replicate 64 0)), .var (eA 16 1 k32 r1), .var (eA 16 1 k32 p2), .var cv_1, .var (eA 64 1 k8 s51)]⟩ s) N (fun _ h => ⟨_, _, h, jr⟩) (fun p50 k s hI => ?_) fun p50 => ?_
  ·obtain ⟨s51, s52, h, hj⟩ := hI
   cases k with
   | zero => cases h
   | succ k =>
    refine At.jr hj ?_ h
    refine At.c 1 ?_ ?_
    ·refine At.b 1 (fun _ e => big_ixA hT k32 p2 e (by kernel_rfl) (by kernel_rfl)) fun e53 => ?_
     refine At.b 4 (fun _ e => big_adR hT (k := 1) 1 [] 0 e) fun u54 => ?_
     refine At.b 0 (fun _ e => big_ldE hT k32 0 e) fun e55 => ?_
     refine lx ?_; intro x56
     refine lx ?_; intro x57
     refine lx ?_; intro x58
     refine lx ?_; intro x59
     refine lx ?_; intro x60
     refine lx ?_; intro x61
     refine At.b 24 (fun _ e => big_adR hT (k := 1) 4 [] 0 e) fun u62 => ?_
     refine At.b 0 (fun _ e => big_stV hT k8 0 s51 e (U8 (U32 (e53 + e55))) (by kernel_rfl) (by kernel_rfl) (H' := [.var (eA 64 1 k8 (Vector.replicate 64 0)), .var (eA 16 1 k32 r1), .var (eA 16 1 k32 p2), .var cv_1, .var (eA 64 1 k8 (s51.setIfInBounds ((I64 (4 * s52)).toNat) (U8 (U32 (e53 + e55)))))])) fun e63 => ?_
     refine At.b 0 (fun _ e => big_adR hT (k := 1) 4 [] 0 e) fun u64 => ?_
     refine At.b 0 (fun _ e => big_stV hT k8 0 (s51.setIfInBounds ((I64 (4 * s52)).toNat) (U8 (U32 (e53 + e55)))) e (U8 x59) (by kernel_rfl) (by kernel_rfl) (H' := [.var (eA 64 1 k8 (Vector.replicate 64 0)), .var (eA 16 1 k32 r1), .var (eA 16 1 k32 p2), .var cv_1, .var (eA 64 1 k8 ((s51.setIfInBounds ((I64 (4 * s52)).toNat) (U8 (U32 (e53 + e55)))).setIfInBounds x56.toNat (U8 x59)))])) fun e65 => ?_
     refine At.b 0 (fun _ e => big_adR hT (k := 1) 4 [] 0 e) fun u66 => ?_
     refine At.b 0 (fun _ e => big_stV hT k8 0 ((s51.setIfInBounds ((I64 (4 * s52)).toNat) (U8 (U32 (e53 + e55)))).setIfInBounds x56.toNat (U8 x59)) e (U8 x60) (by kernel_rfl) (by kernel_rfl) (H' := [.var (eA 64 1 k8 (Vector.replicate 64 0)), .var (eA 16 1 k32 r1), .var (eA 16 1 k32 p2), .var cv_1, .var (eA 64 1 k8 (((s51.setIfInBounds ((I64 (4 * s52)).toNat) (U8 (U32 (e53 + e55)))).setIfInBounds x56.toNat (U8 x59)).setIfInBounds x57.toNat (U8 x60)))])) fun e67 => ?_
     refine At.b 0 (fun _ e => big_adR hT (k := 1) 4 [] 0 e) fun u68 => ?_
     refine At.b 0 (fun _ e => big_stV hT k8 0 (((s51.setIfInBounds ((I64 (4 * s52)).toNat) (U8 (U32 (e53 + e55)))).setIfInBounds x56.toNat (U8 x59)).setIfInBounds x57.toNat (U8 x60)) e (U8 x61) (by kernel_rfl) (by kernel_rfl) (H' := [.var (eA 64 1 k8 (Vector.replicate 64 0)), .var (eA 16 1 k32 r1), .var (eA 16 1 k32 p2), .var cv_1, .var (eA 64 1 k8 ((((s51.setIfInBounds ((I64 (4 * s52)).toNat) (U8 (U32 (e53 + e55)))).setIfInBounds x56.toNat (U8 x59)).setIfInBounds x57.toNat (U8 x60)).setIfInBounds x58.toNat (U8 x61)))])) fun e69 => ?_
     exact fun h => At.k 2 ⟨_, _, h, jr⟩
    ·apply rt; exact At.x 0
  ·apply rt; exact At.r 2

theorem chacha_Block_ok_c : callable Tryz.prog 178 := ⟨_, Tryz.func178, by decide, rfl⟩

end Go.UK

