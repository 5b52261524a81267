/- A part of the proof: what the functions of the program compute. -/
import Derived.Test.YtbifjcmhomoppaaGreatP5
namespace Go.UK
open Go Go.Proofs
set_option maxRecDepth 20000
set_option maxHeartbeats 40000000
set_option linter.all false

attribute [local irreducible] adv putPt dropPt setPt brPt litPt cutPt restPt popN stPt envPt boxPt opPt opP2t ksPt lPt owp awl aw FnM NatFn opS Stab TOK Big
def m_chacha_Stream : Nat → Bool := imL [4, 6]

def p_chacha_Stream_L1 (N : Nat) (a3 : Int) (a0 : (Vector Int 32)) (a2 : (Vector Int 12)) : Nat → (List Int) → Int → Option ((List Int))
 | 0, _, _ => none
 | k + 1, s2, s3 =>
  letO (decide (((s2.length : Int)) < (imin a3 65536))) fun x4 =>
  cond x4 (
   Option.bind (p_chacha_Block N a0 s3 a2) fun r5 =>
   letO (I64 ((imin a3 65536) - ((s2.length : Int)))) fun x6 =>
   Option.bind (slcO r5.toList 0 (imin 64 x6)) fun s8 =>
   Option.bind (appO 1 s2 s8) fun z9 =>
   p_chacha_Stream_L1 N a3 a0 a2 k z9 (U32 (s3 + 1))) (
   some s2)

def p_chacha_Stream (N : Nat) (a0 : (Vector Int 32)) (a1 : Int) (a2 : (Vector Int 12)) (a3 : Int) : Option ((List Int)) :=
 Option.bind (p_chacha_Stream_L1 N a3 a0 a2 N [] a1) fun p1 =>
 some p1

theorem chacha_Stream_ok {N a0 a1 a2 a3 r} (h : p_chacha_Stream N a0 a1 a2 a3 = some r) : FnM Tryz.prog 131 [] [(eA 32 1 k8 a0), (k32 a1), (eA 12 1 k8 a2), (j64 a3)] (eL 1 k8 r) [] := by
 unfold p_chacha_Stream at h
 refine At.f m_chacha_Stream hT hmo Tryz.func131 rfl h ?_
 refine At.ownn 7 9 1 ?_
 refine At.L 0 [] 1 (fun p1 => ([(9, (eO 0 1 k8 p1))], [(0, .tail (p1.length * 1))], [])) (fun p1 J k => ∃ s2 s3, p_chacha_Stream_L1 N a3 a0 a2 k s2 s3 = some p1 ∧ J [3, 4, 6] 1 [(1, (k32 s3)), (9, (eO 0 1 k8 s2))] [(0, .tail (s2.length * 1))] []) N (fun _ h => ⟨_, _, h, jr⟩) (fun p1 k s hI => ?_) fun p1 => ?_
 ·obtain ⟨s2, s3, h, hj⟩ := hI
  cases k with
  | zero => cases h
  | succ k =>
   refine At.jr hj ?_ h
   refine lx ?_; intro x4
   refine At.c 4 ?_ ?_
   ·refine At.b 3 (fun _ e => big_C [] (chacha_Block_ok e)) fun r5 => ?_
    refine lx ?_; intro x6
    refine At.gz 8 1 ((eA 64 1 k8 r5)) ?_
    refine At.b 0 (fun _ e => big_slI hT (N := 64) (k := 1) k8 r5 e) fun s8 => ?_
    refine At.b 0 (fun _ e => big_app hT k8 (id := 0) (k := 1) e) fun z9 => ?_
    exact fun h => At.k 4 ⟨_, _, h, jr⟩
   ·apply rt; exact At.x 0
 ·apply rt; exact At.r 2

def m_chacha_Xor : Nat → Bool := imL [4, 6]

def p_chacha_Xor_L1 (N : Nat) (a3 : (List (List Int))) : Nat → (List Int) → Int → Option ((List Int))
 | 0, _, _ => none
 | k + 1, s2, s3 =>
  letO (decide (s3 < ((a3.length : Int)))) fun x4 =>
  cond x4 (
   Option.bind (idx a3 s3) fun e5 =>
   letO (I64 (65536 - ((s2.length : Int)))) fun x6 =>
   letO (imin ((e5.length : Int)) x6) fun x7 =>
   Option.bind (slcO e5 0 x7) fun s8 =>
   Option.bind (appO 1 s2 s8) fun z9 =>
   p_chacha_Xor_L1 N a3 k z9 (I64 (s3 + 1))) (
   some s2)

def p_chacha_Xor_L2 (N : Nat) (r10 : (List Int)) : Nat → (List Int) → Int → Option ((List Int))
 | 0, _, _ => none
 | k + 1, s12, s13 =>
  letO (decide (s13 < ((r10.length : Int)))) fun x14 =>
  cond x14 (
   Option.bind (idx r10 s13) fun e15 =>
   Option.bind (inRO s13 s12.length) fun _ =>
   Option.bind (s12[s13.toNat]?) fun e17 =>
   Option.bind (inRO s13 s12.length) fun _ =>
   Option.bind (setO s12 s13.toNat (bxor .u8 e17 e15)) fun z19 =>
   p_chacha_Xor_L2 N r10 k z19 (I64 (s13 + 1))) (
   some s12)

def p_chacha_Xor (N : Nat) (a0 : (Vector Int 32)) (a1 : Int) (a2 : (Vector Int 12)) (a3 : (List (List Int))) : Option ((List Int)) :=
 Option.bind (p_chacha_Xor_L1 N a3 N [] 0) fun p1 =>
 Option.bind (p_chacha_Stream N a0 a1 a2 ((p1.length : Int))) fun r10 =>
 Option.bind (p_chacha_Xor_L2 N r10 N p1 0) fun p11 =>
 some p11

theorem chacha_Xor_ok {N a0 a1 a2 a3 r} (h : p_chacha_Xor N a0 a1 a2 a3 = some r) : FnM Tryz.prog 88 [] [(eA 32 1 k8 a0), (k32 a1), (eA 12 1 k8 a2), (eL 1 (eL 1 k8) a3)] (eL 1 k8 r) [] := by
 unfold p_chacha_Xor at h
 refine At.f m_chacha_Xor hT hmo Tryz.func88 rfl h ?_
 refine At.gron 7 9 1 ?_
 refine At.L 0 [1, 4, 6] 1 (fun p1 => ([(9, (.gro 0 1 p1.length .all))], [(0, .gro 1 (List.map k8 p1))], [])) (fun p1 J k => ∃ s2 s3, p_chacha_Xor_L1 N a3 k s2 s3 = some p1 ∧ J [1, 4, 6, 14, 15] 1 [(9, (.gro 0 1 s2.length .all)), (16, (j64 s3))] [(0, .gro 1 (List.map k8 s2))] []) N (fun _ h => ⟨_, _, h, jr⟩) (fun p1 k s hI => ?_) fun p1 => ?_
 ·obtain ⟨s2, s3, h, hj⟩ := hI
  cases k with
  | zero => cases h
  | succ k =>
   refine At.jr hj ?_ h
   refine lx ?_; intro x4
   refine At.c 1 ?_ ?_
   ·refine At.b 0 (fun _ e => big_idx hT (eL 1 k8) e) fun e5 => ?_
    refine lx ?_; intro x6
    refine lx ?_; intro x7
    refine At.b 10 (fun _ e => big_slc hT (k := 1) k8 e) fun s8 => ?_
    refine At.b 0 (fun z9 e => big_gapp' hT k8 (id := 0) (k := 1) e (by kernel_rfl) (by kernel_rfl) (H' := [.gro 1 (List.map k8 z9)]) (by kernel_rfl)) fun z9 => ?_
    exact fun h => At.k 3 ⟨_, _, h, jr⟩
   ·apply rt; exact At.x 0
 ·refine At.b 5 (fun _ e => big_C [] (chacha_Stream_ok e)) fun r10 => ?_
  refine At.L 2 [] 1 (fun p11 => ([(9, (.gro 0 1 p11.length .all))], [(0, .gro 1 (List.map k8 p11))], [])) (fun p11 J k => ∃ s12 s13, p_chacha_Xor_L2 N r10 k s12 s13 = some p11 ∧ J [36, 37] 1 [(9, (.gro 0 1 s12.length .all)), (38, (j64 s13))] [(0, .gro 1 (List.map k8 s12))] []) N (fun _ h => ⟨_, _, h, jr⟩) (fun p11 k s hI => ?_) fun p11 => ?_
  ·obtain ⟨s12, s13, h, hj⟩ := hI
   cases k with
   | zero => cases h
   | succ k =>
    refine At.jr hj ?_ h
    refine lx ?_; intro x14
    refine At.c 1 ?_ ?_
    ·refine At.b 1 (fun _ e => big_idx hT k8 e) fun e15 => ?_
     refine At.b 5 (fun _ e => big_gad hT (id := 0) (k := 1) (es := List.map k8 s12) e (by kernel_rfl) (by kernel_rfl) (by kernel_rfl) (List.length_map _)) fun u16 => ?_
     refine At.b 0 (fun _ e => big_gld hT k8 [] e (by kernel_rfl) (by kernel_rfl)) fun e17 => ?_
     refine At.b 2 (fun _ e => big_gad hT (id := 0) (k := 1) (es := List.map k8 s12) e (by kernel_rfl) (by kernel_rfl) (by kernel_rfl) (List.length_map _)) fun u18 => ?_
     refine bi fun z19 hz19 => ?_
     refine At.o 0 (big_gsto hT k8 (k := 1) (bxor .u8 e17 e15) hz19 (by kernel_rfl) (fun _ => by kernel_rfl) (by kernel_rfl) (H' := [.gro 1 (List.map k8 z19)]) (by kernel_rfl)) ?_
     refine At.gl 0 [9, 49] [] 0 s12.length z19.length (setO_t hz19).2.2 ?_
     exact fun h => At.k 2 ⟨_, _, h, jr⟩
    ·apply rt; exact At.x 0
  ·refine At.fz 2 0 1 p11.length _ (List.map k8 p11) (List.length_map _) (List.length_map _) ?_
   apply rt; exact At.r 0

def m_aead_Key : Nat → Bool := imL [2, 3]

def p_aead_Key (N : Nat) (a0 : (Vector Int 32)) (a1 : (Vector Int 12)) : Option ((Vector Int 32)) :=
 Option.bind (p_chacha_Block N a0 0 a1) fun r1 =>
 Option.bind (slcO r1.toList 0 32) fun s3 =>
 Option.bind (vecO 32 s3) fun v4 =>
 some v4

theorem aead_Key_ok {N a0 a1 r} (h : p_aead_Key N a0 a1 = some r) : FnM Tryz.prog 134 [] [(eA 32 1 k8 a0), (eA 12 1 k8 a1)] (eA 32 1 k8 r) [] := by
 unfold p_aead_Key at h
 refine At.f m_aead_Key hT hmo Tryz.func134 rfl h ?_
 refine At.b 5 (fun _ e => big_C [] (chacha_Block_ok e)) fun r1 => ?_
 refine At.gz 2 1 ((eA 64 1 k8 r1)) ?_
 refine At.b 0 (fun _ e => big_slI hT (N := 64) (k := 1) k8 r1 e) fun s3 => ?_
 refine At.b 0 (fun v4 e => big_s2a hT k8 s3 v4 e rfl (by kernel_rfl) (by kernel_rfl)) fun v4 => ?_
 apply rt; exact At.r 2

def p_aead_Mac_1 (N : Nat) (a0 : (List Int)) : Option ((List Int)) :=
 letO (Int.tmod ((a0.length : Int)) 16) fun x1 =>
 letO (Int.tmod (I64 (16 - x1)) 16) fun x2 =>
 Option.bind (mkO 1 x2) fun _ =>
 Option.bind (lenO (List.replicate x2.toNat (0 : Int)) x2.toNat) fun _ =>
 some (List.replicate x2.toNat (0 : Int))

theorem aead_Mac_1_ok {N a0 r} (h : p_aead_Mac_1 N a0 = some r) : FnM Tryz.prog 132 [] [(eL 1 k8 a0)] (eL 1 k8 r) [] := by
 unfold p_aead_Mac_1 at h
 refine At.f m_no hT hmo Tryz.func132 rfl h ?_
 refine lx ?_; intro x1
 refine lx ?_; intro x2
 refine At.b 6 (fun _ e => big_mk hT k8 ((0 : Int)) (k := 1) (kd := .int .u8) e (by kernel_rfl) (by kernel_rfl) rfl) fun u3 => ?_
 refine bi fun u4 hu4 => ?_
 refine At.fz 1 0 1 x2.toNat _ (List.map k8 (List.replicate x2.toNat (0 : Int))) (List.length_map _) (lenM k8 hu4) ?_
 apply rt; exact At.r 0

def p_poly_Clamp_L1 (N : Nat)  : Nat → (Vector Int 16) → Int → Option ((Vector Int 16))
 | 0, _, _ => none
 | k + 1, s2, s3 =>
  cond (decide (s3 < 4)) (
   Option.bind (letO (I64 ((I64 (4 * s3)) + 3)) fun x5 =>
   Option.bind (inRO x5 16) fun _ =>
   Option.bind (s2.toList[x5.toNat]?) fun e7 =>
   Option.bind (inRO x5 16) fun _ =>
   Option.bind (s2.toList[x5.toNat]?) fun e9 =>
   cond (decide (s3 > 0)) (
    Option.bind (inRO (I64 (4 * s3)) 16) fun _ =>
    Option.bind ((s2.setIfInBounds x5.toNat (band .u8 e7 15)).toList[(I64 (4 * s3)).toNat]?) fun e11 =>
    Option.bind (inRO (I64 (4 * s3)) 16) fun _ =>
    Option.bind ((s2.setIfInBounds x5.toNat (band .u8 e7 15)).toList[(I64 (4 * s3)).toNat]?) fun e13 =>
    some ((s2.setIfInBounds x5.toNat (band .u8 e7 15)).setIfInBounds ((I64 (4 * s3)).toNat) (band .u8 e11 252))) (
    some (s2.setIfInBounds x5.toNat (band .u8 e7 15)))) fun p4 =>
   p_poly_Clamp_L1 N k p4 (I64 (s3 + 1))) (
   some s2)

def p_poly_Clamp (N : Nat) (a0 : (Vector Int 16)) : Option ((Vector Int 16)) :=
 Option.bind (p_poly_Clamp_L1 N N a0 0) fun p1 =>
 some p1

theorem poly_Clamp_ok {N a0 r} (h : p_poly_Clamp N a0 = some r) : FnM Tryz.prog 210 [] [(eA 16 1 k8 a0)] (eA 16 1 k8 r) [] := by
 unfold p_poly_Clamp at h
 refine At.f m_no hT hmo Tryz.func210 rfl h ?_
 refine At.L 3 [1, 2] 2 (fun p1 => ([], [(0, .var (eA 16 1 k8 p1))], [])) (fun p1 J k => ∃ s2 s3, p_poly_Clamp_L1 N k s2 s3 = some p1 ∧ J [1, 2] 2 [(4, (j64 s3))] [(0, .var (eA 16 1 k8 s2))] []) N (fun _ h => ⟨_, _, h, jr⟩) (fun p1 k s hI => ?_) fun p1 => ?_
 ·obtain ⟨s2, s3, h, hj⟩ := hI
  cases k with
  | zero => cases h
  | succ k =>
   refine At.jr hj ?_ h
   refine At.c 1 ?_ ?_
   ·refine At.J 0 2 [1, 2, 4] 2 (fun p4 => ([], [(0, .var (eA 16 1 k8 p4))], [])) (fun p4 => ?_) fun p4 => ?_
    ·refine lx ?_; intro x5
     refine At.b 5 (fun _ e => big_adR hT (k := 1) 0 [] 0 e) fun u6 => ?_
     refine At.b 0 (fun _ e => big_ldE hT k8 0 e) fun e7 => ?_
     refine At.b 1 (fun _ e => big_adR hT (k := 1) 0 [] 0 e) fun u8 => ?_
     refine At.b 0 (fun _ e => big_stV hT k8 0 s2 e (band .u8 e7 15) (by kernel_rfl) (by kernel_rfl) (H' := [.var (eA 16 1 k8 (s2.setIfInBounds x5.toNat (band .u8 e7 15))), .var (eA 16 1 k8 (Vector.replicate 16 0))])) fun e9 => ?_
     refine At.c 2 ?_ ?_
     ·refine At.b 2 (fun _ e => big_adR hT (k := 1) 0 [] 0 e) fun u10 => ?_
      refine At.b 0 (fun _ e => big_ldE hT k8 0 e) fun e11 => ?_
      refine At.b 1 (fun _ e => big_adR hT (k := 1) 0 [] 0 e) fun u12 => ?_
      refine At.b 0 (fun _ e => big_stV hT k8 0 (s2.setIfInBounds x5.toNat (band .u8 e7 15)) e (band .u8 e11 252) (by kernel_rfl) (by kernel_rfl) (H' := [.var (eA 16 1 k8 ((s2.setIfInBounds x5.toNat (band .u8 e7 15)).setIfInBounds ((I64 (4 * s3)).toNat) (band .u8 e11 252))), .var (eA 16 1 k8 (Vector.replicate 16 0))])) fun e13 => ?_
      apply rt; exact At.jn 0
     ·apply rt; exact At.jn 0
    ·exact fun h => At.k 2 ⟨_, _, h, jr⟩
   ·apply rt; exact At.x 0
 ·apply rt; exact At.r 2

def p_poly_number_L1 (N : Nat) (a0 : (List Int)) : Nat → Int → Int → Option (Int)
 | 0, _, _ => none
 | k + 1, s2, s3 =>
  cond (decide (s3 < 8)) (
   Option.bind (idx a0 s3) fun e4 =>
   Option.bind (shlO .u64 (U64 e4) (I64 (8 * s3))) fun x5 =>
   p_poly_number_L1 N a0 k (bor .u64 s2 x5) (I64 (s3 + 1))) (
   some s2)

def p_poly_number (N : Nat) (a0 : (List Int)) : Option (Int) :=
 Option.bind (p_poly_number_L1 N a0 N 0 0) fun p1 =>
 some p1

theorem poly_number_ok {N a0 r} (h : p_poly_number N a0 = some r) : FnM Tryz.prog 211 [] [(eL 1 k8 a0)] (k64 r) [] := by
 unfold p_poly_number at h
 refine At.f m_no hT hmo Tryz.func211 rfl h ?_
 refine At.L 3 [] 0 (fun p1 => ([(3, (k64 p1))], [], [])) (fun p1 J k => ∃ s2 s3, p_poly_number_L1 N a0 k s2 s3 = some p1 ∧ J [0] 0 [(3, (k64 s2)), (5, (j64 s3))] [] []) N (fun _ h => ⟨_, _, h, jr⟩) (fun p1 k s hI => ?_) fun p1 => ?_
 ·obtain ⟨s2, s3, h, hj⟩ := hI
  cases k with
  | zero => cases h
  | succ k =>
   refine At.jr hj ?_ h
   refine At.c 1 ?_ ?_
   ·refine At.b 5 (fun _ e => big_idx hT k8 e) fun e4 => ?_
    refine At.b 4 (fun _ e => big_shl hT (k' := .i64) e (by kernel_rfl) (by kernel_rfl)) fun x5 => ?_
    exact fun h => At.k 4 ⟨_, _, h, jr⟩
   ·apply rt; exact At.x 0
 ·apply rt; exact At.r 2

def m_poly_New : Nat → Bool := imL [1]

def p_poly_New (N : Nat) (a0 : (Vector Int 32)) : Option (Int × Int × Int × Int) :=
 Option.bind (slcO a0.toList 0 16) fun s1 =>
 Option.bind (vecO 16 s1) fun v2 =>
 Option.bind (p_poly_Clamp N v2) fun r3 =>
 Option.bind (slcO r3.toList 0 16) fun s4 =>
 Option.bind (p_poly_number N s4) fun r5 =>
 Option.bind (slcO r3.toList 8 16) fun s6 =>
 Option.bind (p_poly_number N s6) fun r7 =>
 Option.bind (slcO a0.toList 16 32) fun s8 =>
 Option.bind (p_poly_number N s8) fun r9 =>
 Option.bind (slcO a0.toList 24 32) fun s10 =>
 Option.bind (p_poly_number N s10) fun r11 =>
 some ((r5, r7, r9, r11))

theorem poly_New_ok {N a0 r} (h : p_poly_New N a0 = some r) : FnM Tryz.prog 179 [] [(eA 32 1 k8 a0)] (.ref 1 [] 0) [.dead, .var (.st 10 [(.st 3 [(.arr 3 1 [(k64 0), (k64 0), (k64 0)])]), (eB true), (k64 r.1), (k64 r.2.1), (k64 r.2.2.1), (k64 r.2.2.2), (.v (.slice none 0 0)), (j64 0)])] := by
 unfold p_poly_New at h
 refine At.f m_poly_New hT hmo Tryz.func179 rfl h ?_
 refine At.b 2 (fun _ e => big_slI hT (N := 32) (k := 1) k8 a0 e) fun s1 => ?_
 refine At.b 0 (fun v2 e => big_s2a hT k8 s1 v2 e rfl (by kernel_rfl) (by kernel_rfl)) fun v2 => ?_
 refine At.b 1 (fun _ e => big_C [] (poly_Clamp_ok e)) fun r3 => ?_
 refine At.gz 2 0 ((eA 16 1 k8 r3)) ?_
 refine bi fun s4 hs4 => ?_
 refine bi fun r5 hr5 => ?_
 refine bi fun s6 hs6 => ?_
 refine bi fun r7 hr7 => ?_
 refine bi fun s8 hs8 => ?_
 refine bi fun r9 hr9 => ?_
 refine bi fun s10 hs10 => ?_
 refine bi fun r11 hr11 => ?_
 refine At.d 0 (dE1 0 (fun _ => big_slI hT (N := 16) (k := 1) k8 r3 hs4) (dE2 1 (k64 r5) (fun _ => big_C0 (poly_number_ok hr5)) (dE1 2 (fun _ => big_slI hT (N := 16) (k := 1) k8 r3 hs6) (dE2 3 (k64 r7) (fun _ => big_C0 (poly_number_ok hr7)) (dE1 4 (fun _ => big_slI hT (N := 32) (k := 1) k8 a0 hs8) (dE2 5 (k64 r9) (fun _ => big_C0 (poly_number_ok hr9)) (dE1 6 (fun _ => big_slI hT (N := 32) (k := 1) k8 a0 hs10) (dE2 7 (k64 r11) (fun _ => big_C0 (poly_number_ok hr11)) dE0)))))))) dF0 ?_
 apply rt; exact At.r 0

def p_poly_Blocks_L1 (N : Nat)  : Nat → (List (Vector Int 17)) → (List Int) → Option ((List (Vector Int 17)))
 | 0, _, _ => none
 | k + 1, s4, s5 =>
  letO (decide (((s5.length : Int)) > 0)) fun x6 =>
  cond x6 (
   Option.bind (slcB 17 0 16) fun _ =>
   Option.bind (cpV (Vector.replicate 17 0) s5 0 16) fun v8 =>
   letO (((min s5.length 16 : Nat) : Int)) fun x9 =>
   Option.bind (inRO x9 17) fun _ =>
   Option.bind (v8.toList[x9.toNat]?) fun e11 =>
   Option.bind (appO 17 s4 (([v8.setIfInBounds x9.toNat 1] : List (Vector Int 17)))) fun z12 =>
   Option.bind (slcO s5 x9 ((s5.length : Int))) fun s13 =>
   p_poly_Blocks_L1 N k z12 s13) (
   some s4)

def p_poly_Blocks (N : Nat) (a0 : (List Int)) : Option ((List (Vector Int 17))) :=
 letO (imin ((a0.length : Int)) 65536) fun x1 =>
 Option.bind (slcO a0 0 x1) fun s2 =>
 Option.bind (p_poly_Blocks_L1 N N [] s2) fun p3 =>
 some p3

theorem poly_Blocks_ok {N a0 r} (h : p_poly_Blocks N a0 = some r) : FnM Tryz.prog 213 [] [(eL 1 k8 a0)] (eL 17 (eA 17 1 k8) r) [] := by
 unfold p_poly_Blocks at h
 refine At.f m_no hT hmo Tryz.func213 rfl h ?_
 refine lx ?_; intro x1
 refine At.b 5 (fun _ e => big_slc hT (k := 1) k8 e) fun s2 => ?_
 refine At.ownn 2 3 17 ?_
 refine At.L 0 [] 1 (fun p3 => ([(3, (eO 0 17 (eA 17 1 k8) p3))], [(0, .tail (p3.length * 17))], [])) (fun p3 J k => ∃ s4 s5, p_poly_Blocks_L1 N k s4 s5 = some p3 ∧ J [] 1 [(0, (eL 1 k8 s5)), (3, (eO 0 17 (eA 17 1 k8) s4))] [(0, .tail (s4.length * 17))] []) N (fun _ h => ⟨_, _, h, jr⟩) (fun p3 k s hI => ?_) fun p3 => ?_
 ·obtain ⟨s4, s5, h, hj⟩ := hI
  cases k with
  | zero => cases h
  | succ k =>
   refine At.jr hj ?_ h
   refine lx ?_; intro x6
   refine At.c 3 ?_ ?_
   ·refine At.b 1 (fun _ e => big_slR hT (k := 1) 1 [] 0 e (by kernel_rfl) (by kernel_rfl) (by decide)) fun s7 => ?_
    refine At.b 1 (fun v8 e => big_cpyV hT k8 (id := 1) (path := []) (off := 0) (H' := [.tail (s4.length * 17), .var (eA 17 1 k8 v8)]) e (by kernel_rfl) (by kernel_rfl) (by kernel_rfl)) fun v8 => ?_
    refine lx ?_; intro x9
    refine At.b 2 (fun _ e => big_adR hT (k := 1) 1 [] 0 e) fun u10 => ?_
    refine At.b 0 (fun _ e => big_stV hT k8 0 v8 e 1 (by kernel_rfl) (by kernel_rfl) (H' := [.tail (s4.length * 17), .var (eA 17 1 k8 (v8.setIfInBounds x9.toNat 1))])) fun e11 => ?_
    refine At.o 2 (big_row hT (x := (.sl 17 1 [(eA 17 1 k8 (v8.setIfInBounds x9.toNat 1))]))) ?_
    refine At.b 0 (fun _ e => big_app hT (eA 17 1 k8) (id := 0) (k := 17) e) fun z12 => ?_
    refine At.b 3 (fun _ e => big_slc hT (k := 1) k8 e) fun s13 => ?_
    exact fun h => At.k 1 ⟨_, _, h, jr⟩
   ·apply rt; exact At.x 0
 ·apply rt; exact At.r 2

theorem n_Add64 {x y c : Int} {r : Int × Int} (h : p_Add64 x y c = some r) : NatFn Tryz.prog 228 [.int .u64 x, .int .u64 y, .int .u64 c] (.tuple #[.int .u64 r.1, .int .u64 r.2]) :=
 nat_Add64 Tryz.func228 (by kernel_rfl) (by kernel_rfl) (by kernel_rfl) (by kernel_rfl) h

def p_math_bits_Mul64 (N : Nat) (a0 : Int) (a1 : Int) : Option (Int × Int) :=
 letO (band .u64 a0 4294967295) fun x1 =>
 letO (band .u64 a1 4294967295) fun x2 =>
 letO (U64 ((shr .u64 a0 32) * x2)) fun x3 =>
 letO (shr .u64 (U64 (x1 * x2)) 32) fun x4 =>
 letO (band .u64 (U64 (x3 + x4)) 4294967295) fun x5 =>
 letO (shr .u64 (U64 (x3 + x4)) 32) fun x6 =>
 letO (U64 (x1 * (shr .u64 a1 32))) fun x7 =>
 letO (U64 ((shr .u64 a0 32) * (shr .u64 a1 32))) fun x8 =>
 letO (shr .u64 (U64 (x5 + x7)) 32) fun x9 =>
 letO (U64 ((U64 (x8 + x6)) + x9)) fun x10 =>
 some ((x10, U64 (a0 * a1)))

theorem math_bits_Mul64_ok {N a0 a1 r} (h : p_math_bits_Mul64 N a0 a1 = some r) : FnM Tryz.prog 229 [] [(k64 a0), (k64 a1)] (.tup [(k64 r.1), (k64 r.2)]) [] := by
 unfold p_math_bits_Mul64 at h
 refine At.f m_no hT hmo Tryz.func229 rfl h ?_
 refine lx ?_; intro x1
 refine lx ?_; intro x2
 refine lx ?_; intro x3
 refine lx ?_; intro x4
 refine lx ?_; intro x5
 refine lx ?_; intro x6
 refine lx ?_; intro x7
 refine lx ?_; intro x8
 refine lx ?_; intro x9
 refine lx ?_; intro x10
 apply rt; exact At.r 50

def p_poly_sum_add_rdd_q (N : Nat) (a0 : Int) (a1 : Int) (a2 : S_poly_Mac) : Option ((Vector Int 3)) :=
 Option.bind (inRO 0 3) fun _ =>
 Option.bind (a2.gsum.gh.toList[(Int.toNat 0)]?) fun e2 =>
 Option.bind (p_Add64 e2 a0 0) fun r3 =>
 Option.bind (inRO 0 3) fun _ =>
 Option.bind (a2.gsum.gh.toList[(Int.toNat 0)]?) fun e5 =>
 Option.bind (inRO 1 3) fun _ =>
 Option.bind ((a2.gsum.gh.setIfInBounds ((Int.toNat 0)) r3.1).toList[(Int.toNat 1)]?) fun e7 =>
 Option.bind (p_Add64 e7 a1 r3.2) fun r8 =>
 Option.bind (inRO 1 3) fun _ =>
 Option.bind ((a2.gsum.gh.setIfInBounds ((Int.toNat 0)) r3.1).toList[(Int.toNat 1)]?) fun e10 =>
 Option.bind (inRO 2 3) fun _ =>
 Option.bind (((a2.gsum.gh.setIfInBounds ((Int.toNat 0)) r3.1).setIfInBounds ((Int.toNat 1)) r8.1).toList[(Int.toNat 2)]?) fun e12 =>
 Option.bind (inRO 2 3) fun _ =>
 Option.bind (((a2.gsum.gh.setIfInBounds ((Int.toNat 0)) r3.1).setIfInBounds ((Int.toNat 1)) r8.1).toList[(Int.toNat 2)]?) fun e14 =>
 some (((a2.gsum.gh.setIfInBounds ((Int.toNat 0)) r3.1).setIfInBounds ((Int.toNat 1)) r8.1).setIfInBounds ((Int.toNat 2)) (U64 (e12 + r8.2)))

theorem poly_sum_add_rdd_q_ok {N a0 a1 a2 r} (h : p_poly_sum_add_rdd_q N a0 a1 a2 = some r) : FnM Tryz.prog 230 [.var (S_poly_Mac.enc a2)] [(.ref 0 [0] 0), (k64 a0), (k64 a1)] (.tup []) [.var (.st 10 [(.st 3 [(eA 3 1 k64 r)]), (eB a2.gmade), (k64 a2.gr0), (k64 a2.gr1), (k64 a2.gs0), (k64 a2.gs1), (eL 1 k8 a2.grest), (j64 a2.gall)])] := by
 unfold p_poly_sum_add_rdd_q at h
 refine At.f m_no hT hmo Tryz.func230 rfl h ?_
 refine bi fun u1 hu1 => ?_
 refine bi fun e2 he2 => ?_
 refine bi fun r3 hr3 => ?_
 refine bi fun u4 hu4 => ?_
 refine bi fun e5 he5 => ?_
 refine At.d 1 (dE1 4 (fun _ => big_adR hT (k := 1) 0 [0, 0] 0 hu1) (dEL hT 5 (k64 e2) k64 2 he2 (dE1 7 (fun _ => big_nat (n_Add64 hr3) (fun _ => rv_tup2)) (dE1 13 (fun _ => big_adR hT (k := 1) 0 [0, 0] 0 hu4) dE0)))) (dF 14 (.v (.bool false)) [(0, .var (.st 10 [(.st 3 [(eA 3 1 k64 (a2.gsum.gh.setIfInBounds ((Int.toNat 0)) r3.1))]), (eB a2.gmade), (k64 a2.gr0), (k64 a2.gr1), (k64 a2.gs0), (k64 a2.gs1), (eL 1 k8 a2.grest), (j64 a2.gall)]))] [] (big_at (big_stV hT k64 2 a2.gsum.gh he5 r3.1 (by kernel_rfl) (by kernel_rfl) (H' := [.var (.st 10 [(.st 3 [(eA 3 1 k64 (a2.gsum.gh.setIfInBounds ((Int.toNat 0)) r3.1))]), (eB a2.gmade), (k64 a2.gr0), (k64 a2.gr1), (k64 a2.gs0), (k64 a2.gs1), (eL 1 k8 a2.grest), (j64 a2.gall)])]))) dF0) ?_
 refine bi fun u6 hu6 => ?_
 refine bi fun e7 he7 => ?_
 refine bi fun r8 hr8 => ?_
 refine bi fun u9 hu9 => ?_
 refine bi fun e10 he10 => ?_
 refine At.d 0 (dE1 4 (fun _ => big_adR hT (k := 1) 0 [0, 0] 0 hu6) (dEL hT 5 (k64 e7) k64 2 he7 (dE1 8 (fun _ => big_nat (n_Add64 hr8) (fun _ => rv_tup2)) (dE1 14 (fun _ => big_adR hT (k := 1) 0 [0, 0] 0 hu9) dE0)))) (dF 15 (.v (.bool false)) [(0, .var (.st 10 [(.st 3 [(eA 3 1 k64 ((a2.gsum.gh.setIfInBounds ((Int.toNat 0)) r3.1).setIfInBounds ((Int.toNat 1)) r8.1))]), (eB a2.gmade), (k64 a2.gr0), (k64 a2.gr1), (k64 a2.gs0), (k64 a2.gs1), (eL 1 k8 a2.grest), (j64 a2.gall)]))] [] (big_at (big_stV hT k64 2 (a2.gsum.gh.setIfInBounds ((Int.toNat 0)) r3.1) he10 r8.1 (by kernel_rfl) (by kernel_rfl) (H' := [.var (.st 10 [(.st 3 [(eA 3 1 k64 ((a2.gsum.gh.setIfInBounds ((Int.toNat 0)) r3.1).setIfInBounds ((Int.toNat 1)) r8.1))]), (eB a2.gmade), (k64 a2.gr0), (k64 a2.gr1), (k64 a2.gs0), (k64 a2.gs1), (eL 1 k8 a2.grest), (j64 a2.gall)])]))) dF0) ?_
 refine bi fun u11 hu11 => ?_
 refine bi fun e12 he12 => ?_
 refine bi fun u13 hu13 => ?_
 refine bi fun e14 he14 => ?_
 refine At.d 0 (dE1 3 (fun _ => big_adR hT (k := 1) 0 [0, 0] 0 hu11) (dEL hT 4 (k64 e12) k64 2 he12 (dE1 9 (fun _ => big_adR hT (k := 1) 0 [0, 0] 0 hu13) dE0))) (dF 10 (.v (.bool false)) [(0, .var (.st 10 [(.st 3 [(eA 3 1 k64 (((a2.gsum.gh.setIfInBounds ((Int.toNat 0)) r3.1).setIfInBounds ((Int.toNat 1)) r8.1).setIfInBounds ((Int.toNat 2)) (U64 (e12 + r8.2))))]), (eB a2.gmade), (k64 a2.gr0), (k64 a2.gr1), (k64 a2.gs0), (k64 a2.gs1), (eL 1 k8 a2.grest), (j64 a2.gall)]))] [] (big_at (big_stV hT k64 2 ((a2.gsum.gh.setIfInBounds ((Int.toNat 0)) r3.1).setIfInBounds ((Int.toNat 1)) r8.1) he14 (U64 (e12 + r8.2)) (by kernel_rfl) (by kernel_rfl) (H' := [.var (.st 10 [(.st 3 [(eA 3 1 k64 (((a2.gsum.gh.setIfInBounds ((Int.toNat 0)) r3.1).setIfInBounds ((Int.toNat 1)) r8.1).setIfInBounds ((Int.toNat 2)) (U64 (e12 + r8.2))))]), (eB a2.gmade), (k64 a2.gr0), (k64 a2.gr1), (k64 a2.gs0), (k64 a2.gs1), (eL 1 k8 a2.grest), (j64 a2.gall)])]))) dF0) ?_
 apply rt; exact At.z 0

end Go.UK

