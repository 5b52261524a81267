/- A part of the proof: what the functions of the program compute. -/
import Derived.Test.YtbifjcmhomoppaaGreatP1
namespace Go.UK
open Go Go.Proofs
set_option maxRecDepth 20000
set_option maxHeartbeats 40000000
set_option linter.all false

attribute [local irreducible] adv putPt dropPt setPt brPt litPt cutPt restPt popN stPt envPt boxPt opPt opP2t ksPt lPt owp awl aw FnM NatFn opS Stab TOK Big
def p_slices_Clone_byte_byte (N : Nat) (a0 : (List Int)) : Option ((List Int)) :=
 Option.bind (appO 1 (([] : List Int)) a0) fun z1 =>
 some z1

theorem slices_Clone_byte_byte_ok {N a0 r} (h : p_slices_Clone_byte_byte N a0 = some r) : FnM Tryz.prog 58 [] [(eL 1 k8 a0)] (eO 0 1 k8 r) [.tail (r.length * 1)] := by
 unfold p_slices_Clone_byte_byte at h
 refine At.f m_no hT hmo Tryz.func58 rfl h ?_
 refine At.q hT 2 (d := 4) (t := 57) (e := 5) (z := 1) (x := (eL 1 k8 a0)) (es := List.map k8 a0) rfl ?_ (fun he => ?_)
 ·refine At.o 1 (big_rowO hT k8 (k := 1) ([] : List Int) (by kernel_rfl) (by kernel_rfl)) ?_
  refine At.b 1 (fun _ e => big_app hT k8 (id := 0) (k := 1) e) fun z1 => ?_
  apply rt; exact At.r 1
 ·have h0 : a0 = [] := List.map_eq_nil_iff.1 he
  subst h0
  change some [] = _ → _
  refine At.ownn 2 2 1 ?_
  apply rt; exact At.r 0

def p_codec_Put_L2 (N : Nat) (a1 : Int) (e7 : Int) : Nat → (List Int) → Int → Option ((List Int))
 | 0, _, _ => none
 | k + 1, s11, s12 =>
  cond (decide (s12 < a1)) (
   Option.bind (shrO .u64 e7 (I64 (8 * s12))) fun x13 =>
   Option.bind (appO 1 s11 (([U8 x13] : List Int))) fun z14 =>
   p_codec_Put_L2 N a1 e7 k z14 (I64 (s12 + 1))) (
   some s11)

def p_codec_Put_L1 (N : Nat) (a2 : (List Int)) (a1 : Int) : Nat → (List Int) → Int → Option (Sum ((List Int)) ((List Int) × Int))
 | 0, _, _ => none
 | k + 1, s4, s5 =>
  letO (decide (s5 < ((a2.length : Int)))) fun x6 =>
  cond x6 (
   Option.bind (idx a2 s5) fun e7 =>
   Option.bind (cond (decide (a1 < 8)) (
    Option.bind (shrO .u64 e7 (I64 (8 * a1))) fun x9 =>
    some (decide (x9 > 0))) (
    some false)) fun p8 =>
   cond p8 (
    some (Sum.inr (([], 3)))) (
    Option.bind (p_codec_Put_L2 N a1 e7 N s4 0) fun p10 =>
    p_codec_Put_L1 N a2 a1 k p10 (I64 (s5 + 1)))) (
   some (Sum.inl s4))

def p_codec_Put (N : Nat) (a0 : (List Int)) (a1 : Int) (a2 : (List Int)) : Option ((List Int) × Int) :=
 letO (cond (decide (a1 < 1)) true (decide (a1 > 8))) fun x1 =>
 cond x1 (
  some (([], 2))) (
  Option.bind (p_slices_Clone_byte_byte N a0) fun r2 =>
  Option.bind (p_codec_Put_L1 N a2 a1 N r2 0) fun o => sumC o (fun p3 =>
   some ((p3, 0))) (fun r => some r))

theorem codec_Put_ok {N a0 a1 a2 r} (h : p_codec_Put N a0 a1 a2 = some r) : FnM Tryz.prog 31 [] [(eL 1 k8 a0), (j64 a1), (eL 1 k64 a2)] (.tup [(eO 0 1 k8 r.1), (j64 r.2)]) [.tail (r.1.length * 1)] := by
 unfold p_codec_Put at h
 refine At.f m_no hT hmo Tryz.func31 rfl h ?_
 refine lx ?_; intro x1
 refine At.c 8 ?_ ?_
 ·refine At.ownn 2 6 1 ?_
  apply rt; exact At.r 0
 ·refine At.b 1 (fun _ e => big_C [] (slices_Clone_byte_byte_ok e)) fun r2 => ?_
  refine At.LS 4 [] 1 (fun p3 => ([(8, (eO 0 1 k8 p3))], [(0, .tail (p3.length * 1))], [])) (fun op3 J k => ∃ s4 s5, p_codec_Put_L1 N a2 a1 k s4 s5 = some op3 ∧ J [1, 20, 21] 1 [(8, (eO 0 1 k8 s4)), (22, (j64 s5))] [(0, .tail (s4.length * 1))] []) N (fun _ h => ⟨_, _, h, jr⟩) (fun op3 g3 k s hI => ?_) fun p3 => ?_
  ·obtain ⟨s4, s5, h, hj⟩ := hI
   cases k with
   | zero => cases h
   | succ k =>
    refine At.jr hj ?_ h
    refine lx ?_; intro x6
    refine At.c 1 ?_ ?_
    ·refine At.b 0 (fun _ e => big_idx hT k64 e) fun e7 => ?_
     refine At.J 2 0 [1, 8, 10, 20, 21, 22] 1 (fun p8 => ([(34, (eB p8))], [], [])) (fun p8 => ?_) fun p8 => ?_
     ·refine At.s 28 3 ?_ ?_
      ·refine At.g [28] 3 ?_
       refine At.b 0 (fun _ e => big_shr hT (k' := .i64) e (by kernel_rfl) (by kernel_rfl)) fun x9 => ?_
       refine At.g [28] 2 ?_
       apply rt; exact At.jn 0
      ·refine At.g [28] 6 ?_
       apply rt; exact At.jn 0
     ·refine At.c 0 ?_ ?_
      ·refine At.ownn 2 6 1 ?_
       refine At.sw 0 1 0 ?_
       intro e; apply rtS1 g3 e; exact At.r 0
      ·refine At.L 2 [1, 20, 21, 22] 1 (fun p10 => ([(8, (eO 0 1 k8 p10))], [(0, .tail (p10.length * 1))], [])) (fun p10 J k => ∃ s11 s12, p_codec_Put_L2 N a1 e7 k s11 s12 = some p10 ∧ J [1, 10, 20, 21, 22, 35] 1 [(8, (eO 0 1 k8 s11)), (36, (j64 s12))] [(0, .tail (s11.length * 1))] []) N (fun _ h => ⟨_, _, h, jr⟩) (fun p10 k s hI => ?_) fun p10 => ?_
       ·obtain ⟨s11, s12, h, hj⟩ := hI
        cases k with
        | zero => cases h
        | succ k =>
         refine At.jr hj ?_ h
         refine At.c 1 ?_ ?_
         ·refine At.b 6 (fun _ e => big_shr hT (k' := .i64) e (by kernel_rfl) (by kernel_rfl)) fun x13 => ?_
          refine At.o 1 (big_row hT (x := (.sl 1 1 [(k8 (U8 x13))]))) ?_
          refine At.b 0 (fun _ e => big_app hT k8 (id := 0) (k := 1) e) fun z14 => ?_
          exact fun h => At.k 3 ⟨_, _, h, jr⟩
         ·apply rt; exact At.x 0
       ·exact fun h => At.k 2 ⟨_, _, h, jr⟩
    ·apply rt; exact At.xs 0
  ·apply rt; exact At.r 3

def p_mac_eight_L1 (N : Nat) (x2 : Int) (a0 : Int) : Nat → (List Int) → Int → Option ((List Int))
 | 0, _, _ => none
 | k + 1, s4, s5 =>
  cond (decide (s5 < x2)) (
   Option.bind (shrO .i64 a0 (I64 (8 * s5))) fun x6 =>
   Option.bind (inRO s5 (Int.toNat 8)) fun _ =>
   Option.bind (s4[s5.toNat]?) fun e8 =>
   p_mac_eight_L1 N x2 a0 k (s4.set s5.toNat (U8 x6)) (I64 (s5 + 1))) (
   some s4)

def p_mac_eight (N : Nat) (a0 : Int) : Option ((List Int)) :=
 Option.bind (mkO 1 8) fun _ =>
 letO (((8 : Int).toNat : Int)) fun x2 =>
 Option.bind (p_mac_eight_L1 N x2 a0 N (List.replicate (Int.toNat 8) (0 : Int)) 0) fun p3 =>
 Option.bind (lenO p3 (Int.toNat 8)) fun _ =>
 some p3

theorem mac_eight_ok {N a0 r} (h : p_mac_eight N a0 = some r) : FnM Tryz.prog 63 [] [(j64 a0)] (eL 1 k8 r) [] := by
 unfold p_mac_eight at h
 refine At.f m_no hT hmo Tryz.func63 rfl h ?_
 refine At.b 1 (fun _ e => big_mk hT k8 ((0 : Int)) (k := 1) (kd := .int .u8) e (by kernel_rfl) (by kernel_rfl) rfl) fun u1 => ?_
 refine lx ?_; intro x2
 refine At.L 4 [3] 1 (fun p3 => ([], [(0, .var (.arr ((Int.toNat 8) * 1) 1 (List.map k8 p3)))], [])) (fun p3 J k => ∃ s4 s5, p_mac_eight_L1 N x2 a0 k s4 s5 = some p3 ∧ J [0, 3, 7] 1 [(8, (j64 s5))] [(0, .var (.arr ((Int.toNat 8) * 1) 1 (List.map k8 s4)))] []) N (fun _ h => ⟨_, _, h, jr⟩) (fun p3 k s hI => ?_) fun p3 => ?_
 ·obtain ⟨s4, s5, h, hj⟩ := hI
  cases k with
  | zero => cases h
  | succ k =>
   refine At.jr hj ?_ h
   refine At.c 1 ?_ ?_
   ·refine At.b 7 (fun _ e => big_shr hT (k' := .i64) e (by kernel_rfl) (by kernel_rfl)) fun x6 => ?_
    refine At.b 1 (fun _ e => big_adS hT 0 [] 0 0 (Int.toNat 8) (k := 1) e (by kernel_rfl) (by kernel_rfl)) fun u7 => ?_
    refine At.b 0 (fun _ e => big_stE hT k8 0 e (U8 x6) (by kernel_rfl) (by kernel_rfl) (by kernel_rfl)) fun e8 => ?_
    exact fun h => At.k 2 ⟨_, _, h, jr⟩
   ·apply rt; exact At.x 0
 ·refine bi fun u9 hu9 => ?_
  refine At.fz 2 0 1 (Int.toNat 8) _ (List.map k8 p3) (List.length_map _) (lenM k8 hu9) ?_
  apply rt; exact At.r 0

def p_sha_New (N : Nat) : Option (Unit) :=
 some (())

theorem sha_New_ok {N r} (h : p_sha_New N = some r) : FnM Tryz.prog 97 [] [] (.ref 0 [] 0) [.var (.st 73 [(.arr 8 1 [(k32 1779033703), (k32 3144134277), (k32 1013904242), (k32 2773480762), (k32 1359893119), (k32 2600822924), (k32 528734635), (k32 1541459225)]), (eA 64 1 k8 (Vector.replicate 64 0)), (j64 0)])] := by
 unfold p_sha_New at h
 refine At.f m_no hT hmo Tryz.func97 rfl h ?_
 apply rt; exact At.r 5

def p_sha_Hash_none_r (N : Nat) (a0 : S_sha_Hash) : Option (Bool) :=
 letO ((eqV (fun a b => a == b)) a0.gh (Vector.replicate 8 0)) fun x1 =>
 letO (cond x1 (a0.gn == 0) false) fun x2 =>
 some x2

theorem sha_Hash_none_r_ok {N a0 r} (h : p_sha_Hash_none_r N a0 = some r) : FnM Tryz.prog 146 [.var (S_sha_Hash.enc a0)] [(.ref 0 [] 0)] (eB r) [.var (S_sha_Hash.enc a0)] := by
 unfold p_sha_Hash_none_r at h
 refine At.f m_no hT hmo Tryz.func146 rfl h ?_
 refine At.o 2 (big_eqp hT (t := 185) (x := (.ref 0 [] 0)) (b := true) (by kernel_rfl) rfl rfl (by kernel_rfl)) ?_
 refine At.g [5] 6 ?_
 refine At.o 0 (big_eql eqT_231 (a0.gh : (Vector Int 8)) (Vector.replicate 8 0 : (Vector Int 8)) (by kernel_rfl) (by kernel_rfl) (fun _ => rfl) (fun _ => rfl) (by kernel_rfl) (by kernel_rfl)) ?_
 refine lx ?_; intro x1
 refine lx ?_; intro x2
 refine At.g [5] 9 ?_
 apply rt; exact At.r 0

def p_math_bits_RotateLeft32 (N : Nat) (a0 : Int) (a1 : Int) : Option (Int) :=
 Option.bind (shlO .u32 a0 (band .u64 (U64 a1) 31)) fun x1 =>
 letO (U64 (32 - (band .u64 (U64 a1) 31))) fun x2 =>
 Option.bind (shrO .u32 a0 x2) fun x3 =>
 some (bor .u32 x1 x3)

theorem math_bits_RotateLeft32_ok {N a0 a1 r} (h : p_math_bits_RotateLeft32 N a0 a1 = some r) : FnM Tryz.prog 215 [] [(k32 a0), (j64 a1)] (k32 r) [] := by
 unfold p_math_bits_RotateLeft32 at h
 refine At.f m_no hT hmo Tryz.func215 rfl h ?_
 refine At.b 7 (fun _ e => big_shl hT (k' := .u64) e (by kernel_rfl) (by kernel_rfl)) fun x1 => ?_
 refine lx ?_; intro x2
 refine At.b 3 (fun _ e => big_shr hT (k' := .u64) e (by kernel_rfl) (by kernel_rfl)) fun x3 => ?_
 apply rt; exact At.r 2

def p_sha_rot (N : Nat) (a0 : Int) (a1 : Int) : Option (Int) :=
 Option.bind (p_math_bits_RotateLeft32 N a0 (I64 (0 - a1))) fun r1 =>
 some r1

theorem sha_rot_ok {N a0 a1 r} (h : p_sha_rot N a0 a1 = some r) : FnM Tryz.prog 184 [] [(k32 a0), (j64 a1)] (k32 r) [] := by
 unfold p_sha_rot at h
 refine At.f m_no hT hmo Tryz.func184 rfl h ?_
 refine At.b 4 (fun _ e => big_C [] (math_bits_RotateLeft32_ok e)) fun r1 => ?_
 apply rt; exact At.r 1

def m_sha_Compress : Nat → Bool := imL [2, 3]

def cst_p_sha_Compress_058597 : (Vector Int 64) := #v[1116352408, 1899447441, 3049323471, 3921009573, 961987163, 1508970993, 2453635748, 2870763221, 3624381080, 310598401, 607225278, 1426881987, 1925078388, 2162078206, 2614888103, 3248222580, 3835390401, 4022224774, 264347078, 604807628, 770255983, 1249150122, 1555081692, 1996064986, 2554220882, 2821834349, 2952996808, 3210313671, 3336571891, 3584528711, 113926993, 338241895, 666307205, 773529912, 1294757372, 1396182291, 1695183700, 1986661051, 2177026350, 2456956037, 2730485921, 2820302411, 3259730800, 3345764771, 3516065817, 3600352804, 4094571909, 275423344, 430227734, 506948616, 659060556, 883997877, 958139571, 1322822218, 1537002063, 1747873779, 1955562222, 2024104815, 2227730452, 2361852424, 2428436474, 2756734187, 3204031479, 3329325298]

def p_sha_Compress_L1 (N : Nat) (a1 : (Vector Int 64)) : Nat → (Vector Int 64) → Int → Option ((Vector Int 64))
 | 0, _, _ => none
 | k + 1, s2, s3 =>
  cond (decide (s3 < 64)) (
   Option.bind (cond (decide (s3 < 16)) (
    Option.bind (idx a1.toList (I64 (4 * s3))) fun e5 =>
    letO (I64 ((I64 (4 * s3)) + 1)) fun x6 =>
    Option.bind (idx a1.toList x6) fun e7 =>
    letO (bor .u32 (shl .u32 (U32 e5) 24) (shl .u32 (U32 e7) 16)) fun x8 =>
    letO (I64 ((I64 (4 * s3)) + 2)) fun x9 =>
    Option.bind (idx a1.toList x9) fun e10 =>
    letO (bor .u32 x8 (shl .u32 (U32 e10) 8)) fun x11 =>
    letO (I64 ((I64 (4 * s3)) + 3)) fun x12 =>
    Option.bind (idx a1.toList x12) fun e13 =>
    Option.bind (inRO s3 64) fun _ =>
    Option.bind (s2.toList[s3.toNat]?) fun e15 =>
    some (s2.setIfInBounds s3.toNat (bor .u32 x11 (U32 e13)))) (
    Option.bind (inRO (I64 (s3 - 15)) 64) fun _ =>
    Option.bind (s2.toList[(I64 (s3 - 15)).toNat]?) fun e17 =>
    Option.bind (inRO (I64 (s3 - 2)) 64) fun _ =>
    Option.bind (s2.toList[(I64 (s3 - 2)).toNat]?) fun e19 =>
    Option.bind (inRO (I64 (s3 - 16)) 64) fun _ =>
    Option.bind (s2.toList[(I64 (s3 - 16)).toNat]?) fun e21 =>
    Option.bind (p_sha_rot N e17 7) fun r22 =>
    Option.bind (p_sha_rot N e17 18) fun r23 =>
    letO (bxor .u32 (bxor .u32 r22 r23) (shr .u32 e17 3)) fun x24 =>
    Option.bind (inRO (I64 (s3 - 7)) 64) fun _ =>
    Option.bind (s2.toList[(I64 (s3 - 7)).toNat]?) fun e26 =>
    letO (U32 ((U32 (e21 + x24)) + e26)) fun x27 =>
    Option.bind (p_sha_rot N e19 17) fun r28 =>
    Option.bind (p_sha_rot N e19 19) fun r29 =>
    letO (bxor .u32 (bxor .u32 r28 r29) (shr .u32 e19 10)) fun x30 =>
    Option.bind (inRO s3 64) fun _ =>
    Option.bind (s2.toList[s3.toNat]?) fun e32 =>
    some (s2.setIfInBounds s3.toNat (U32 (x27 + x30))))) fun p4 =>
   p_sha_Compress_L1 N a1 k p4 (I64 (s3 + 1))) (
   some s2)

def p_sha_Compress_L2 (N : Nat) (p1 : (Vector Int 64)) : Nat → (Vector Int 8) → Int → Option ((Vector Int 8))
 | 0, _, _ => none
 | k + 1, s34, s35 =>
  cond (decide (s35 < 64)) (
   Option.bind (inRO 0 8) fun _ =>
   Option.bind (s34.toList[(Int.toNat 0)]?) fun e37 =>
   Option.bind (inRO 4 8) fun _ =>
   Option.bind (s34.toList[(Int.toNat 4)]?) fun e39 =>
   Option.bind (inRO 7 8) fun _ =>
   Option.bind (s34.toList[(Int.toNat 7)]?) fun e41 =>
   Option.bind (p_sha_rot N e39 6) fun r42 =>
   Option.bind (p_sha_rot N e39 11) fun r43 =>
   Option.bind (p_sha_rot N e39 25) fun r44 =>
   letO (bxor .u32 (bxor .u32 r42 r43) r44) fun x45 =>
   Option.bind (inRO 5 8) fun _ =>
   Option.bind (s34.toList[(Int.toNat 5)]?) fun e47 =>
   Option.bind (inRO 6 8) fun _ =>
   Option.bind (s34.toList[(Int.toNat 6)]?) fun e49 =>
   letO (band .u32 (bnot .u32 e39) e49) fun x50 =>
   letO (bxor .u32 (band .u32 e39 e47) x50) fun x51 =>
   letO (U32 ((U32 (e41 + x45)) + x51)) fun x52 =>
   Option.bind (inRO s35 64) fun _ =>
   Option.bind (cst_p_sha_Compress_058597.toList[s35.toNat]?) fun e54 =>
   Option.bind (inRO s35 64) fun _ =>
   Option.bind (p1.toList[s35.toNat]?) fun e56 =>
   letO (U32 ((U32 (x52 + e54)) + e56)) fun x57 =>
   Option.bind (p_sha_rot N e37 2) fun r58 =>
   Option.bind (p_sha_rot N e37 13) fun r59 =>
   Option.bind (p_sha_rot N e37 22) fun r60 =>
   letO (bxor .u32 (bxor .u32 r58 r59) r60) fun x61 =>
   Option.bind (inRO 1 8) fun _ =>
   Option.bind (s34.toList[(Int.toNat 1)]?) fun e63 =>
   Option.bind (inRO 2 8) fun _ =>
   Option.bind (s34.toList[(Int.toNat 2)]?) fun e65 =>
   letO (bxor .u32 (band .u32 e37 e63) (band .u32 e37 e65)) fun x66 =>
   Option.bind (inRO 1 8) fun _ =>
   Option.bind (s34.toList[(Int.toNat 1)]?) fun e68 =>
   Option.bind (inRO 2 8) fun _ =>
   Option.bind (s34.toList[(Int.toNat 2)]?) fun e70 =>
   letO (bxor .u32 x66 (band .u32 e68 e70)) fun x71 =>
   letO (U32 (x57 + (U32 (x61 + x71)))) fun x72 =>
   Option.bind (inRO 0 8) fun _ =>
   Option.bind (s34.toList[(Int.toNat 0)]?) fun e74 =>
   Option.bind (inRO 1 8) fun _ =>
   Option.bind (s34.toList[(Int.toNat 1)]?) fun e76 =>
   Option.bind (inRO 2 8) fun _ =>
   Option.bind (s34.toList[(Int.toNat 2)]?) fun e78 =>
   Option.bind (inRO 3 8) fun _ =>
   Option.bind (s34.toList[(Int.toNat 3)]?) fun e80 =>
   Option.bind (inRO 4 8) fun _ =>
   Option.bind (s34.toList[(Int.toNat 4)]?) fun e82 =>
   Option.bind (inRO 5 8) fun _ =>
   Option.bind (s34.toList[(Int.toNat 5)]?) fun e84 =>
   Option.bind (inRO 6 8) fun _ =>
   Option.bind (s34.toList[(Int.toNat 6)]?) fun e86 =>
   p_sha_Compress_L2 N p1 k (#v[x72, e74, e76, e78, U32 (e80 + x57), e82, e84, e86]) (I64 (s35 + 1))) (
   some s34)

def p_sha_Compress_L3 (N : Nat) (a0 : (Vector Int 8)) : Nat → (Vector Int 8) → Int → Option ((Vector Int 8))
 | 0, _, _ => none
 | k + 1, s88, s89 =>
  cond (decide (s89 < 8)) (
   Option.bind (inRO s89 8) fun _ =>
   Option.bind (s88.toList[s89.toNat]?) fun e91 =>
   Option.bind (idx a0.toList s89) fun e92 =>
   Option.bind (inRO s89 8) fun _ =>
   Option.bind (s88.toList[s89.toNat]?) fun e94 =>
   p_sha_Compress_L3 N a0 k (s88.setIfInBounds s89.toNat (U32 (e91 + e92))) (I64 (s89 + 1))) (
   some s88)

def p_sha_Compress (N : Nat) (a0 : (Vector Int 8)) (a1 : (Vector Int 64)) : Option ((Vector Int 8)) :=
 Option.bind (p_sha_Compress_L1 N a1 N (Vector.replicate 64 0) 0) fun p1 =>
 Option.bind (p_sha_Compress_L2 N p1 N a0 0) fun p33 =>
 Option.bind (p_sha_Compress_L3 N a0 N p33 0) fun p87 =>
 some p87

theorem sha_Compress_ok {N a0 a1 r} (h : p_sha_Compress N a0 a1 = some r) : FnM Tryz.prog 147 [] [(eA 8 1 k32 a0), (eA 64 1 k8 a1)] (eA 8 1 k32 r) [] := by
 unfold p_sha_Compress at h
 refine At.f m_sha_Compress hT hmo Tryz.func147 rfl h ?_
 refine At.L 8 [2, 4, 5, 6] 3 (fun p1 => ([], [(2, .var (eA 64 1 k32 p1))], [])) (fun p1 J k => ∃ s2 s3, p_sha_Compress_L1 N a1 k s2 s3 = some p1 ∧ J [2, 3, 4, 5, 6] 3 [(18, (j64 s3))] [(2, .var (eA 64 1 k32 s2))] []) N (fun _ h => ⟨_, _, h, jr⟩) (fun p1 k s hI => ?_) fun p1 => ?_
 ·obtain ⟨s2, s3, h, hj⟩ := hI
  cases k with
  | zero => cases h
  | succ k =>
   refine At.jr hj ?_ h
   refine At.c 1 ?_ ?_
   ·refine At.J 0 2 [2, 3, 4, 5, 6, 18] 3 (fun p4 => ([], [(2, .var (eA 64 1 k32 p4))], [])) (fun p4 => ?_) fun p4 => ?_
    ·refine At.c 4 ?_ ?_
     ·refine bi fun e5 he5 => ?_
      refine lx ?_; intro x6
      refine bi fun e7 he7 => ?_
      refine lx ?_; intro x8
      refine lx ?_; intro x9
      refine bi fun e10 he10 => ?_
      refine lx ?_; intro x11
      refine lx ?_; intro x12
      refine bi fun e13 he13 => ?_
      refine bi fun u14 hu14 => ?_
      refine bi fun e15 he15 => ?_
      refine At.d 0 (dE1 3 (fun _ => big_adI hT (N := 64) (k := 1) k8 a1 he5) (dE1 10 (fun _ => big_adI hT (N := 64) (k := 1) k8 a1 he7) (dE1 18 (fun _ => big_adI hT (N := 64) (k := 1) k8 a1 he10) (dE1 26 (fun _ => big_adI hT (N := 64) (k := 1) k8 a1 he13) (dE1 30 (fun _ => big_adR hT (k := 1) 2 [] 0 hu14) dE0))))) (dF 31 (.v (.bool false)) [(2, .var (eA 64 1 k32 (s2.setIfInBounds s3.toNat (bor .u32 x11 (U32 e13)))))] [] (big_at (big_stV hT k32 0 s2 he15 (bor .u32 x11 (U32 e13)) (by kernel_rfl) (by kernel_rfl) (H' := [.var (eA 8 1 k32 (Vector.replicate 8 0)), .var (eA 64 1 k32 cst_p_sha_Compress_058597), .var (eA 64 1 k32 (s2.setIfInBounds s3.toNat (bor .u32 x11 (U32 e13))))]))) dF0) ?_
      apply rt; exact At.jn 0
     ·refine bi fun u16 hu16 => ?_
      refine bi fun e17 he17 => ?_
      refine bi fun u18 hu18 => ?_
      refine bi fun e19 he19 => ?_
      refine At.d 0 (dE1 2 (fun _ => big_adR hT (k := 1) 2 [] 0 hu16) (dEL hT 3 (k32 e17) k32 0 he17 (dE1 6 (fun _ => big_adR hT (k := 1) 2 [] 0 hu18) (dEL hT 7 (k32 e19) k32 0 he19 dE0)))) dF0 ?_
      refine bi fun u20 hu20 => ?_
      refine bi fun e21 he21 => ?_
      refine bi fun r22 hr22 => ?_
      refine bi fun r23 hr23 => ?_
      refine lx ?_; intro x24
      refine bi fun u25 hu25 => ?_
      refine bi fun e26 he26 => ?_
      refine lx ?_; intro x27
      refine bi fun r28 hr28 => ?_
      refine bi fun r29 hr29 => ?_
      refine lx ?_; intro x30
      refine bi fun u31 hu31 => ?_
      refine bi fun e32 he32 => ?_
      refine At.d 0 (dE1 3 (fun _ => big_adR hT (k := 1) 2 [] 0 hu20) (dEL hT 4 (k32 e21) k32 0 he21 (dE2 6 (k32 r22) (fun _ => big_C0 (sha_rot_ok hr22)) (dE2 8 (k32 r23) (fun _ => big_C0 (sha_rot_ok hr23)) (dE1 16 (fun _ => big_adR hT (k := 1) 2 [] 0 hu25) (dEL hT 17 (k32 e26) k32 0 he26 (dE2 20 (k32 r28) (fun _ => big_C0 (sha_rot_ok hr28)) (dE2 22 (k32 r29) (fun _ => big_C0 (sha_rot_ok hr29)) (dE1 28 (fun _ => big_adR hT (k := 1) 2 [] 0 hu31) dE0))))))))) (dF 29 (.v (.bool false)) [(2, .var (eA 64 1 k32 (s2.setIfInBounds s3.toNat (U32 (x27 + x30)))))] [] (big_at (big_stV hT k32 0 s2 he32 (U32 (x27 + x30)) (by kernel_rfl) (by kernel_rfl) (H' := [.var (eA 8 1 k32 (Vector.replicate 8 0)), .var (eA 64 1 k32 cst_p_sha_Compress_058597), .var (eA 64 1 k32 (s2.setIfInBounds s3.toNat (U32 (x27 + x30))))]))) dF0) ?_
      apply rt; exact At.jn 0
    ·exact fun h => At.k 2 ⟨_, _, h, jr⟩
   ·apply rt; exact At.x 0
 ·refine At.L 4 [2, 4, 10] 4 (fun p33 => ([], [(3, .var (eA 8 1 k32 p33))], [])) (fun p33 J k => ∃ s34 s35, p_sha_Compress_L2 N p1 k s34 s35 = some p33 ∧ J [2, 4, 5, 6, 10] 4 [(93, (j64 s35))] [(3, .var (eA 8 1 k32 s34))] []) N (fun _ h => ⟨_, _, h, jr⟩) (fun p33 k s hI => ?_) fun p33 => ?_
  ·obtain ⟨s34, s35, h, hj⟩ := hI
   cases k with
   | zero => cases h
   | succ k =>
    refine At.jr hj ?_ h
    refine At.c 1 ?_ ?_
    ·refine bi fun u36 hu36 => ?_
     refine bi fun e37 he37 => ?_
     refine bi fun u38 hu38 => ?_
     refine bi fun e39 he39 => ?_
     refine At.d 2 (dE1 0 (fun _ => big_adR hT (k := 1) 3 [] 0 hu36) (dEL hT 1 (k32 e37) k32 0 he37 (dE1 2 (fun _ => big_adR hT (k := 1) 3 [] 0 hu38) (dEL hT 3 (k32 e39) k32 0 he39 dE0)))) dF0 ?_
     refine bi fun u40 hu40 => ?_
     refine bi fun e41 he41 => ?_
     refine bi fun r42 hr42 => ?_
     refine bi fun r43 hr43 => ?_
     refine bi fun r44 hr44 => ?_
     refine lx ?_; intro x45
     refine bi fun u46 hu46 => ?_
     refine bi fun e47 he47 => ?_
     refine bi fun u48 hu48 => ?_
     refine bi fun e49 he49 => ?_
     refine lx ?_; intro x50
     refine lx ?_; intro x51
     refine lx ?_; intro x52
     refine bi fun u53 hu53 => ?_
     refine bi fun e54 he54 => ?_
     refine bi fun u55 hu55 => ?_
     refine bi fun e56 he56 => ?_
     refine lx ?_; intro x57
     refine At.d 0 (dE1 0 (fun _ => big_adR hT (k := 1) 3 [] 0 hu40) (dEL hT 1 (k32 e41) k32 0 he41 (dE2 3 (k32 r42) (fun _ => big_C0 (sha_rot_ok hr42)) (dE2 5 (k32 r43) (fun _ => big_C0 (sha_rot_ok hr43)) (dE2 8 (k32 r44) (fun _ => big_C0 (sha_rot_ok hr44)) (dE1 12 (fun _ => big_adR hT (k := 1) 3 [] 0 hu46) (dEL hT 13 (k32 e47) k32 0 he47 (dE1 17 (fun _ => big_adR hT (k := 1) 3 [] 0 hu48) (dEL hT 18 (k32 e49) k32 0 he49 (dE1 23 (fun _ => big_adR hT (k := 1) 1 [] 0 hu53) (dEL hT 24 (k32 e54) k32 0 he54 (dE1 27 (fun _ => big_adR hT (k := 1) 2 [] 0 hu55) (dEL hT 28 (k32 e56) k32 0 he56 dE0))))))))))))) dF0 ?_
     refine bi fun r58 hr58 => ?_
     refine bi fun r59 hr59 => ?_
     refine bi fun r60 hr60 => ?_
     refine lx ?_; intro x61
     refine bi fun u62 hu62 => ?_
     refine bi fun e63 he63 => ?_
     refine bi fun u64 hu64 => ?_
     refine bi fun e65 he65 => ?_
     refine lx ?_; intro x66
     refine bi fun u67 hu67 => ?_
     refine bi fun e68 he68 => ?_
     refine bi fun u69 hu69 => ?_
     refine bi fun e70 he70 => ?_
     refine lx ?_; intro x71
     refine At.d 0 (dE2 1 (k32 r58) (fun _ => big_C0 (sha_rot_ok hr58)) (dE2 3 (k32 r59) (fun _ => big_C0 (sha_rot_ok hr59)) (dE2 6 (k32 r60) (fun _ => big_C0 (sha_rot_ok hr60)) (dE1 9 (fun _ => big_adR hT (k := 1) 3 [] 0 hu62) (dEL hT 10 (k32 e63) k32 0 he63 (dE1 13 (fun _ => big_adR hT (k := 1) 3 [] 0 hu64) (dEL hT 14 (k32 e65) k32 0 he65 (dE1 17 (fun _ => big_adR hT (k := 1) 3 [] 0 hu67) (dEL hT 18 (k32 e68) k32 0 he68 (dE1 19 (fun _ => big_adR hT (k := 1) 3 [] 0 hu69) (dEL hT 20 (k32 e70) k32 0 he70 dE0))))))))))) dF0 ?_
     refine lx ?_; intro x72
     refine At.b 3 (fun _ e => big_adR hT (k := 1) 3 [] 0 e) fun u73 => ?_
     refine At.b 0 (fun _ e => big_ldE hT k32 0 e) fun e74 => ?_
     refine At.b 0 (fun _ e => big_adR hT (k := 1) 3 [] 0 e) fun u75 => ?_
     refine At.b 0 (fun _ e => big_ldE hT k32 0 e) fun e76 => ?_
     refine At.b 0 (fun _ e => big_adR hT (k := 1) 3 [] 0 e) fun u77 => ?_
     refine At.b 0 (fun _ e => big_ldE hT k32 0 e) fun e78 => ?_
     refine At.b 0 (fun _ e => big_adR hT (k := 1) 3 [] 0 e) fun u79 => ?_
     refine At.b 0 (fun _ e => big_ldE hT k32 0 e) fun e80 => ?_
     refine At.b 2 (fun _ e => big_adR hT (k := 1) 3 [] 0 e) fun u81 => ?_
     refine At.b 0 (fun _ e => big_ldE hT k32 0 e) fun e82 => ?_
     refine At.b 0 (fun _ e => big_adR hT (k := 1) 3 [] 0 e) fun u83 => ?_
     refine At.b 0 (fun _ e => big_ldE hT k32 0 e) fun e84 => ?_
     refine At.b 0 (fun _ e => big_adR hT (k := 1) 3 [] 0 e) fun u85 => ?_
     refine At.b 0 (fun _ e => big_ldE hT k32 0 e) fun e86 => ?_
     exact fun h => At.k 4 ⟨_, _, h, jr⟩
    ·apply rt; exact At.x 0
  ·refine At.L 1 [4, 10] 4 (fun p87 => ([], [(3, .var (eA 8 1 k32 p87))], [])) (fun p87 J k => ∃ s88 s89, p_sha_Compress_L3 N a0 k s88 s89 = some p87 ∧ J [2, 4, 10] 4 [(175, (j64 s89))] [(3, .var (eA 8 1 k32 s88))] []) N (fun _ h => ⟨_, _, h, jr⟩) (fun p87 k s hI => ?_) fun p87 => ?_
   ·obtain ⟨s88, s89, h, hj⟩ := hI
    cases k with
    | zero => cases h
    | succ k =>
     refine At.jr hj ?_ h
     refine At.c 1 ?_ ?_
     ·refine bi fun u90 hu90 => ?_
      refine bi fun e91 he91 => ?_
      refine bi fun e92 he92 => ?_
      refine bi fun u93 hu93 => ?_
      refine bi fun e94 he94 => ?_
      refine At.d 2 (dE1 1 (fun _ => big_adR hT (k := 1) 3 [] 0 hu90) (dEL hT 2 (k32 e91) k32 0 he91 (dE1 4 (fun _ => big_adI hT (N := 8) (k := 1) k32 a0 he92) (dE1 7 (fun _ => big_adR hT (k := 1) 3 [] 0 hu93) dE0)))) (dF 8 (.v (.bool false)) [(3, .var (eA 8 1 k32 (s88.setIfInBounds s89.toNat (U32 (e91 + e92)))))] [] (big_at (big_stV hT k32 0 s88 he94 (U32 (e91 + e92)) (by kernel_rfl) (by kernel_rfl) (H' := [.var (eA 8 1 k32 (Vector.replicate 8 0)), .var (eA 64 1 k32 cst_p_sha_Compress_058597), .var (eA 64 1 k32 p1), .var (eA 8 1 k32 (s88.setIfInBounds s89.toNat (U32 (e91 + e92))))]))) dF0) ?_
      exact fun h => At.k 2 ⟨_, _, h, jr⟩
     ·apply rt; exact At.x 0
   ·apply rt; exact At.r 2

def p_sha_Hash_Write_rd_L2 (N : Nat)  : Nat → (Vector Int 8) → (Vector Int 64) → Int → (List Int) → Option ((Vector Int 8) × (Vector Int 64) × Int)
 | 0, _, _, _, _ => none
 | k + 1, s10, s11, s12, s13 =>
  letO (decide (((s13.length : Int)) > 0)) fun x14 =>
  cond x14 (
   Option.bind (slcL 64 (Int.tmod s12 64) 64) fun _ =>
   Option.bind (cpV s11 s13 ((Int.tmod s12 64).toNat) ((64 : Int).toNat - (Int.tmod s12 64).toNat)) fun v16 =>
   letO (((min s13.length ((64 : Int).toNat - (Int.tmod s12 64).toNat) : Nat) : Int)) fun x17 =>
   Option.bind (slcO s13 x17 ((s13.length : Int))) fun s18 =>
   letO (Int.tmod (I64 (s12 + x17)) 64) fun x19 =>
   cond (x19 == 0) (
    Option.bind (p_sha_Compress N s10 v16) fun r20 =>
    p_sha_Hash_Write_rd_L2 N k r20 v16 (I64 (s12 + x17)) s18) (
    p_sha_Hash_Write_rd_L2 N k s10 v16 (I64 (s12 + x17)) s18)) (
   some ((s10, s11, s12)))

def p_sha_Hash_Write_rd_L1 (N : Nat) (a0 : (List (List Int))) : Nat → (Vector Int 8) → (Vector Int 64) → Int → Int → Option ((Vector Int 8) × (Vector Int 64) × Int)
 | 0, _, _, _, _ => none
 | k + 1, s3, s4, s5, s6 =>
  letO (decide (s6 < ((a0.length : Int)))) fun x7 =>
  cond x7 (
   Option.bind (idx a0 s6) fun e8 =>
   Option.bind (p_sha_Hash_Write_rd_L2 N N s3 s4 s5 e8) fun p9 =>
   p_sha_Hash_Write_rd_L1 N a0 k p9.1 p9.2.1 p9.2.2 (I64 (s6 + 1))) (
   some ((s3, s4, s5)))

def p_sha_Hash_Write_rd (N : Nat) (a0 : (List (List Int))) (a1 : S_sha_Hash) : Option ((Vector Int 8) × (Vector Int 64) × Int) :=
 Option.bind (p_sha_Hash_none_r N a1) fun r1 =>
 cond r1 (
  some ((a1.gh, a1.gblock, a1.gn))) (
  Option.bind (p_sha_Hash_Write_rd_L1 N a0 N a1.gh a1.gblock a1.gn 0) fun p2 =>
  some ((p2.1, p2.2.1, p2.2.2)))

theorem sha_Hash_Write_rd_ok {N a0 a1 r} (h : p_sha_Hash_Write_rd N a0 a1 = some r) : FnM Tryz.prog 98 [.var (S_sha_Hash.enc a1)] [(.ref 0 [] 0), (eL 1 (eL 1 k8) a0)] (.tup []) [.var (.st 73 [(eA 8 1 k32 r.1), (eA 64 1 k8 r.2.1), (j64 r.2.2)])] := by
 unfold p_sha_Hash_Write_rd at h
 refine At.f m_no hT hmo Tryz.func98 rfl h ?_
 refine At.b 1 (fun _ e => big_C [0] (sha_Hash_none_r_ok e)) fun r1 => ?_
 refine At.c 0 ?_ ?_
 ·apply rt; exact At.r 0
 ·refine At.L 3 [] 1 (fun p2 => ([], [(0, .var (.st 73 [(eA 8 1 k32 p2.1), (eA 64 1 k8 p2.2.1), (j64 p2.2.2)]))], [])) (fun p2 J k => ∃ s3 s4 s5 s6, p_sha_Hash_Write_rd_L1 N a0 k s3 s4 s5 s6 = some p2 ∧ J [0, 9, 10] 1 [(11, (j64 s6))] [(0, .var (.st 73 [(eA 8 1 k32 s3), (eA 64 1 k8 s4), (j64 s5)]))] []) N (fun _ h => ⟨_, _, _, _, h, jr⟩) (fun p2 k s hI => ?_) fun p2 => ?_
  ·obtain ⟨s3, s4, s5, s6, h, hj⟩ := hI
   cases k with
   | zero => cases h
   | succ k =>
    refine At.jr hj ?_ h
    refine lx ?_; intro x7
    refine At.c 1 ?_ ?_
    ·refine At.b 0 (fun _ e => big_idx hT (eL 1 k8) e) fun e8 => ?_
     refine At.L 2 [0, 9, 10, 11] 1 (fun p9 => ([], [(0, .var (.st 73 [(eA 8 1 k32 p9.1), (eA 64 1 k8 p9.2.1), (j64 p9.2.2)]))], [])) (fun p9 J k => ∃ s10 s11 s12 s13, p_sha_Hash_Write_rd_L2 N k s10 s11 s12 s13 = some p9 ∧ J [0, 9, 10, 11] 1 [(5, (eL 1 k8 s13))] [(0, .var (.st 73 [(eA 8 1 k32 s10), (eA 64 1 k8 s11), (j64 s12)]))] []) N (fun _ h => ⟨_, _, _, _, h, jr⟩) (fun p9 k s hI => ?_) fun p9 => ?_
     ·obtain ⟨s10, s11, s12, s13, h, hj⟩ := hI
      cases k with
      | zero => cases h
      | succ k =>
       refine At.jr hj ?_ h
       refine lx ?_; intro x14
       refine At.c 3 ?_ ?_
       ·refine bi fun s15 hs15 => ?_
        refine bi fun v16 hv16 => ?_
        refine lx ?_; intro x17
        refine At.d 0 (dE1 8 (fun _ => big_slR2 hT (k := 1) 0 [1] 8 hs15 (by kernel_rfl) (by kernel_rfl)) dE0) (dF 10 (j64 (((min s13.length ((64 : Int).toNat - (Int.tmod s12 64).toNat) : Nat) : Int))) [(0, .var (.st 73 [(eA 8 1 k32 s10), (eA 64 1 k8 v16), (j64 s12)]))] [] (big_at (big_cpyV hT k8 (id := 0) (path := [1]) (off := 8) (H' := [.var (.st 73 [(eA 8 1 k32 s10), (eA 64 1 k8 v16), (j64 s12)])]) hv16 (by kernel_rfl) (by kernel_rfl) (by kernel_rfl))) dF0) ?_
        refine At.b 11 (fun _ e => big_slc hT (k := 1) k8 e) fun s18 => ?_
        refine lx ?_; intro x19
        refine At.c 7 ?_ ?_
        ·refine bi fun r20 hr20 => ?_
         refine At.d 0 (dE2 9 (eA 8 1 k32 r20) (fun _ => big_C0 (sha_Compress_ok hr20)) dE0) dF0 ?_
         exact fun h => At.k 0 ⟨_, _, _, _, h, jr⟩
        ·exact fun h => At.k 0 ⟨_, _, _, _, h, jr⟩
       ·apply rt; exact At.x 0
     ·exact fun h => At.k 2 ⟨_, _, _, _, h, jr⟩
    ·apply rt; exact At.x 0
  ·apply rt; exact At.z 0

def p_sha_Pad_L1 (N : Nat) (x3 : Int) (a0 : Int) : Nat → (List Int) → Int → Option ((List Int))
 | 0, _, _ => none
 | k + 1, s8, s9 =>
  cond (decide (s9 < 8)) (
   letO (I64 (((x3.toNat : Int)) - 1)) fun x10 =>
   letO (shl .u64 (U64 (imax a0 0)) 3) fun x11 =>
   Option.bind (shrO .u64 x11 (I64 (8 * s9))) fun x12 =>
   Option.bind (inRO (I64 (x10 - s9)) x3.toNat) fun _ =>
   Option.bind (s8[(I64 (x10 - s9)).toNat]?) fun e14 =>
   p_sha_Pad_L1 N x3 a0 k (s8.set ((I64 (x10 - s9)).toNat) (U8 x12)) (I64 (s9 + 1))) (
   some s8)

def p_sha_Pad (N : Nat) (a0 : Int) : Option ((List Int)) :=
 letO (Int.tmod (imax a0 0) 64) fun x1 =>
 letO (Int.tmod (I64 (119 - x1)) 64) fun x2 =>
 letO (I64 ((I64 (1 + x2)) + 8)) fun x3 =>
 Option.bind (mkO 1 x3) fun _ =>
 Option.bind (inRO 0 x3.toNat) fun _ =>
 Option.bind ((List.replicate x3.toNat (0 : Int))[(Int.toNat 0)]?) fun e6 =>
 Option.bind (p_sha_Pad_L1 N x3 a0 N ((List.replicate x3.toNat (0 : Int)).set ((Int.toNat 0)) 128) 0) fun p7 =>
 Option.bind (lenO p7 x3.toNat) fun _ =>
 some p7

theorem sha_Pad_ok {N a0 r} (h : p_sha_Pad N a0 = some r) : FnM Tryz.prog 148 [] [(j64 a0)] (eL 1 k8 r) [] := by
 unfold p_sha_Pad at h
 refine At.f m_no hT hmo Tryz.func148 rfl h ?_
 refine lx ?_; intro x1
 refine lx ?_; intro x2
 refine lx ?_; intro x3
 refine At.b 10 (fun _ e => big_mk hT k8 ((0 : Int)) (k := 1) (kd := .int .u8) e (by kernel_rfl) (by kernel_rfl) rfl) fun u4 => ?_
 refine At.b 2 (fun _ e => big_adS hT 0 [] 0 0 x3.toNat (k := 1) e (by kernel_rfl) (by kernel_rfl)) fun u5 => ?_
 refine At.b 0 (fun _ e => big_stE hT k8 0 e 128 (by kernel_rfl) (by kernel_rfl) (by kernel_rfl)) fun e6 => ?_
 refine At.L 1 [3] 1 (fun p7 => ([], [(0, .var (.arr (x3.toNat * 1) 1 (List.map k8 p7)))], [])) (fun p7 J k => ∃ s8 s9, p_sha_Pad_L1 N x3 a0 k s8 s9 = some p7 ∧ J [0, 3] 1 [(16, (j64 s9))] [(0, .var (.arr (x3.toNat * 1) 1 (List.map k8 s8)))] []) N (fun _ h => ⟨_, _, h, jr⟩) (fun p7 k s hI => ?_) fun p7 => ?_
 ·obtain ⟨s8, s9, h, hj⟩ := hI
  cases k with
  | zero => cases h
  | succ k =>
   refine At.jr hj ?_ h
   refine At.c 1 ?_ ?_
   ·refine lx ?_; intro x10
    refine lx ?_; intro x11
    refine At.b 13 (fun _ e => big_shr hT (k' := .i64) e (by kernel_rfl) (by kernel_rfl)) fun x12 => ?_
    refine At.b 1 (fun _ e => big_adS hT 0 [] 0 0 x3.toNat (k := 1) e (by kernel_rfl) (by kernel_rfl)) fun u13 => ?_
    refine At.b 0 (fun _ e => big_stE hT k8 0 e (U8 x12) (by kernel_rfl) (by kernel_rfl) (by kernel_rfl)) fun e14 => ?_
    exact fun h => At.k 2 ⟨_, _, h, jr⟩
   ·apply rt; exact At.x 0
 ·refine bi fun u15 hu15 => ?_
  refine At.fz 2 0 1 x3.toNat _ (List.map k8 p7) (List.length_map _) (lenM k8 hu15) ?_
  apply rt; exact At.r 0

def p_sha_Hash_Sum_r_L1 (N : Nat) (r3 : (Vector Int 8) × (Vector Int 64) × Int) : Nat → (Vector Int 32) → Int → Option ((Vector Int 32))
 | 0, _, _ => none
 | k + 1, s5, s6 =>
  cond (decide (s6 < 8)) (
   Option.bind (idx r3.1.toList s6) fun e7 =>
   letO (I64 ((I64 (4 * s6)) + 1)) fun x8 =>
   letO (I64 ((I64 (4 * s6)) + 2)) fun x9 =>
   letO (I64 ((I64 (4 * s6)) + 3)) fun x10 =>
   Option.bind (inRO (I64 (4 * s6)) 32) fun _ =>
   Option.bind (s5.toList[(I64 (4 * s6)).toNat]?) fun e12 =>
   Option.bind (inRO x8 32) fun _ =>
   Option.bind ((s5.setIfInBounds ((I64 (4 * s6)).toNat) (U8 (shr .u32 e7 24))).toList[x8.toNat]?) fun e14 =>
   Option.bind (inRO x9 32) fun _ =>
   Option.bind (((s5.setIfInBounds ((I64 (4 * s6)).toNat) (U8 (shr .u32 e7 24))).setIfInBounds x8.toNat (U8 (shr .u32 e7 16))).toList[x9.toNat]?) fun e16 =>
   Option.bind (inRO x10 32) fun _ =>
   Option.bind ((((s5.setIfInBounds ((I64 (4 * s6)).toNat) (U8 (shr .u32 e7 24))).setIfInBounds x8.toNat (U8 (shr .u32 e7 16))).setIfInBounds x9.toNat (U8 (shr .u32 e7 8))).toList[x10.toNat]?) fun e18 =>
   p_sha_Hash_Sum_r_L1 N r3 k ((((s5.setIfInBounds ((I64 (4 * s6)).toNat) (U8 (shr .u32 e7 24))).setIfInBounds x8.toNat (U8 (shr .u32 e7 16))).setIfInBounds x9.toNat (U8 (shr .u32 e7 8))).setIfInBounds x10.toNat (U8 e7)) (I64 (s6 + 1))) (
   some s5)

def p_sha_Hash_Sum_r (N : Nat) (a0 : S_sha_Hash) : Option ((Vector Int 32)) :=
 Option.bind (p_sha_Hash_none_r N a0) fun r1 =>
 cond r1 (
  some (Vector.replicate 32 0)) (
  Option.bind (p_sha_Pad N a0.gn) fun r2 =>
  Option.bind (p_sha_Hash_Write_rd N ([r2]) a0) fun r3 =>
  Option.bind (p_sha_Hash_Sum_r_L1 N r3 N (Vector.replicate 32 0) 0) fun p4 =>
  some p4)

theorem sha_Hash_Sum_r_ok {N a0 r} (h : p_sha_Hash_Sum_r N a0 = some r) : FnM Tryz.prog 99 [.var (S_sha_Hash.enc a0)] [(.ref 0 [] 0)] (eA 32 1 k8 r) [.var (S_sha_Hash.enc a0)] := by
 unfold p_sha_Hash_Sum_r at h
 refine At.f m_no hT hmo Tryz.func99 rfl h ?_
 refine At.b 2 (fun _ e => big_C [0] (sha_Hash_none_r_ok e)) fun r1 => ?_
 refine At.c 0 ?_ ?_
 ·apply rt; exact At.r 2
 ·refine At.b 9 (fun _ e => big_C [] (sha_Pad_ok e)) fun r2 => ?_
  refine At.o 0 (big_row hT (x := (.sl 1 1 [(eL 1 k8 r2)]))) ?_
  refine At.b 0 (fun _ e => big_C [2] (sha_Hash_Write_rd_ok e)) fun r3 => ?_
  refine At.L 4 [2, 4] 4 (fun p4 => ([], [(3, .var (eA 32 1 k8 p4))], [])) (fun p4 J k => ∃ s5 s6, p_sha_Hash_Sum_r_L1 N r3 k s5 s6 = some p4 ∧ J [2, 4, 21] 4 [(22, (j64 s6))] [(3, .var (eA 32 1 k8 s5))] []) N (fun _ h => ⟨_, _, h, jr⟩) (fun p4 k s hI => ?_) fun p4 => ?_
  ·obtain ⟨s5, s6, h, hj⟩ := hI
   cases k with
   | zero => cases h
   | succ k =>
    refine At.jr hj ?_ h
    refine At.c 1 ?_ ?_
    ·refine At.b 1 (fun _ e => big_ixA hT k32 r3.1 e (by kernel_rfl) (by kernel_rfl)) fun e7 => ?_
     refine lx ?_; intro x8
     refine lx ?_; intro x9
     refine lx ?_; intro x10
     refine At.b 24 (fun _ e => big_adR hT (k := 1) 3 [] 0 e) fun u11 => ?_
     refine At.b 0 (fun _ e => big_stV hT k8 0 s5 e (U8 (shr .u32 e7 24)) (by kernel_rfl) (by kernel_rfl) (H' := [.var (S_sha_Hash.enc a0), .var (eA 32 1 k8 (Vector.replicate 32 0)), .var (.st 73 [(eA 8 1 k32 r3.1), (eA 64 1 k8 r3.2.1), (j64 r3.2.2)]), .var (eA 32 1 k8 (s5.setIfInBounds ((I64 (4 * s6)).toNat) (U8 (shr .u32 e7 24))))])) fun e12 => ?_
     refine At.b 0 (fun _ e => big_adR hT (k := 1) 3 [] 0 e) fun u13 => ?_
     refine At.b 0 (fun _ e => big_stV hT k8 0 (s5.setIfInBounds ((I64 (4 * s6)).toNat) (U8 (shr .u32 e7 24))) e (U8 (shr .u32 e7 16)) (by kernel_rfl) (by kernel_rfl) (H' := [.var (S_sha_Hash.enc a0), .var (eA 32 1 k8 (Vector.replicate 32 0)), .var (.st 73 [(eA 8 1 k32 r3.1), (eA 64 1 k8 r3.2.1), (j64 r3.2.2)]), .var (eA 32 1 k8 ((s5.setIfInBounds ((I64 (4 * s6)).toNat) (U8 (shr .u32 e7 24))).setIfInBounds x8.toNat (U8 (shr .u32 e7 16))))])) fun e14 => ?_
     refine At.b 0 (fun _ e => big_adR hT (k := 1) 3 [] 0 e) fun u15 => ?_
     refine At.b 0 (fun _ e => big_stV hT k8 0 ((s5.setIfInBounds ((I64 (4 * s6)).toNat) (U8 (shr .u32 e7 24))).setIfInBounds x8.toNat (U8 (shr .u32 e7 16))) e (U8 (shr .u32 e7 8)) (by kernel_rfl) (by kernel_rfl) (H' := [.var (S_sha_Hash.enc a0), .var (eA 32 1 k8 (Vector.replicate 32 0)), .var (.st 73 [(eA 8 1 k32 r3.1), (eA 64 1 k8 r3.2.1), (j64 r3.2.2)]), .var (eA 32 1 k8 (((s5.setIfInBounds ((I64 (4 * s6)).toNat) (U8 (shr .u32 e7 24))).setIfInBounds x8.toNat (U8 (shr .u32 e7 16))).setIfInBounds x9.toNat (U8 (shr .u32 e7 8))))])) fun e16 => ?_
     refine At.b 0 (fun _ e => big_adR hT (k := 1) 3 [] 0 e) fun u17 => ?_
     refine At.b 0 (fun _ e => big_stV hT k8 0 (((s5.setIfInBounds ((I64 (4 * s6)).toNat) (U8 (shr .u32 e7 24))).setIfInBounds x8.toNat (U8 (shr .u32 e7 16))).setIfInBounds x9.toNat (U8 (shr .u32 e7 8))) e (U8 e7) (by kernel_rfl) (by kernel_rfl) (H' := [.var (S_sha_Hash.enc a0), .var (eA 32 1 k8 (Vector.replicate 32 0)), .var (.st 73 [(eA 8 1 k32 r3.1), (eA 64 1 k8 r3.2.1), (j64 r3.2.2)]), .var (eA 32 1 k8 ((((s5.setIfInBounds ((I64 (4 * s6)).toNat) (U8 (shr .u32 e7 24))).setIfInBounds x8.toNat (U8 (shr .u32 e7 16))).setIfInBounds x9.toNat (U8 (shr .u32 e7 8))).setIfInBounds x10.toNat (U8 e7)))])) fun e18 => ?_
     exact fun h => At.k 2 ⟨_, _, h, jr⟩
    ·apply rt; exact At.x 0
  ·apply rt; exact At.r 2

end Go.UK

