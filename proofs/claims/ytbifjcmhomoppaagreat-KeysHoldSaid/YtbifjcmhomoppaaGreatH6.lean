/- A part of the proof: what the functions of the program compute. -/
import Derived.Test.YtbifjcmhomoppaaGreatH5
namespace Go.UK
open Go Go.Proofs
set_option maxRecDepth 20000
set_option maxHeartbeats 4000000
set_option linter.all false

attribute [local irreducible] adv putPt dropPt setPt brPt litPt cutPt restPt popN unrPt stPt envPt boxPt opPt opP2t ksPt lPt owp awl aw FnM NatFn opS Stab TOK Big
def m_chacha_Stream : Nat → Bool := imL [4, 6]

def p_chacha_Stream_L1 (N : Nat) (a3 : Int) (a0 : (Vector Int 32)) (a2 : (Vector Int 12)) : Nat → (List Int) → Int → Option ((List Int))
 | 0, _, _ => none
 | k + 1, s2, s3 =>
  letO (decide (((s2.length : Int)) < (imin a3 65536))) fun x4 =>
  cond x4 (
   Option.bind (p_chacha_Block N a0 s3 a2) fun r5 =>
   letO (I64 ((imin a3 65536) - ((s2.length : Int)))) fun x6 =>
   Option.bind (slcO r5.toList 0 (imin 64 x6)) fun s8 =>
   Option.bind (appO 1 s2 s8) fun z9 =>
   p_chacha_Stream_L1 N a3 a0 a2 k z9 (U32 (s3 + 1))) (
   some s2)

def p_chacha_Stream (N : Nat) (a0 : (Vector Int 32)) (a1 : Int) (a2 : (Vector Int 12)) (a3 : Int) : Option ((List Int)) :=
 Option.bind (p_chacha_Stream_L1 N a3 a0 a2 N [] a1) fun p1 =>
 some p1

theorem chacha_Stream_ok {N : Nat} {a0 : (Vector Int 32)} {a1 : Int} {a2 : (Vector Int 12)} {a3 : Int} {r : (List Int)} (h : p_chacha_Stream N a0 a1 a2 a3 = some r) : FnM Tryz.prog 131 [] [(eA 32 1 k8 a0), (k32 a1), (eA 12 1 k8 a2), (j64 a3)] (eL 1 k8 r) [] := by
 unfold p_chacha_Stream at h
 refine At.fn m_chacha_Stream hT hmo (m := 32) (lo := 0) (rs := [.tmp 8]) Tryz.func131 rfl rfl h ?_
 refine At.ownn 7 9 1 ?_
 refine At.l 0 (fun p1 => ⟨[en 9 (eO 0 1 k8 p1)], [.tail (p1.length * 1)]⟩) (fun p1 J k s => ∃ s2 s3, p_chacha_Stream_L1 N a3 a0 a2 k s2 s3 = some p1 ∧ J ⟨[en 1 (k32 s3), en 3 (j64 (imin a3 65536)), en 4 (.im (eA 32 1 k8 a0)), en 6 (.im (eA 12 1 k8 a2)), en 9 (eO 0 1 k8 s2)], [.tail (s2.length * 1)]⟩ s) N (fun _ h => ⟨_, _, h, jr⟩) (fun p1 k s hI => ?_) fun p1 => ?_
 ·obtain ⟨s2, s3, h, hj⟩ := hI
  cases k with
  | zero => cases h
  | succ k =>
   refine At.jr hj ?_ h
   refine lx ?_; intro x4
   refine At.c 4 ?_ ?_
   ·refine At.b 3 (fun _ e => big_call [] (chacha_Block_ok e) chacha_Block_ok_c) fun r5 => ?_
    refine lx ?_; intro x6
    refine At.gz 8 1 ((eA 64 1 k8 r5)) ?_
    refine At.b 0 (fun _ e => big_slI hT (N := 64) (k := 1) k8 r5 e) fun s8 => ?_
    refine At.b 0 (fun _ e => big_app hT k8 (id := 0) (k := 1) e) fun z9 => ?_
    exact fun h => At.k 4 ⟨_, _, h, jr⟩
   ·apply rt; exact At.x 0
 ·apply rt; exact At.r 2

theorem chacha_Stream_ok_c : callable Tryz.prog 131 := ⟨_, Tryz.func131, by decide, rfl⟩

def m_chacha_Xor : Nat → Bool := imL [4, 6]

def p_chacha_Xor_L1 (N : Nat) (a3 : (List (List Int))) : Nat → (List Int) → Int → Option ((List Int))
 | 0, _, _ => none
 | k + 1, s2, s3 =>
  letO (decide (s3 < ((a3.length : Int)))) fun x4 =>
  cond x4 (
   Option.bind (idx a3 s3) fun e5 =>
   letO (I64 (65536 - ((s2.length : Int)))) fun x6 =>
   letO (imin ((e5.length : Int)) x6) fun x7 =>
   Option.bind (slcO e5 0 x7) fun s8 =>
   Option.bind (appO 1 s2 s8) fun z9 =>
   p_chacha_Xor_L1 N a3 k z9 (I64 (s3 + 1))) (
   some s2)

def p_chacha_Xor_L2 (N : Nat) (r10 : (List Int)) : Nat → (List Int) → Int → Option ((List Int))
 | 0, _, _ => none
 | k + 1, s12, s13 =>
  letO (decide (s13 < ((r10.length : Int)))) fun x14 =>
  cond x14 (
   Option.bind (idx r10 s13) fun e15 =>
   Option.bind (inRO s13 s12.length) fun _ =>
   Option.bind (s12[s13.toNat]?) fun e17 =>
   Option.bind (inRO s13 s12.length) fun _ =>
   Option.bind (setO s12 s13.toNat (bxor .u8 e17 e15)) fun z19 =>
   p_chacha_Xor_L2 N r10 k z19 (I64 (s13 + 1))) (
   some s12)

def p_chacha_Xor (N : Nat) (a0 : (Vector Int 32)) (a1 : Int) (a2 : (Vector Int 12)) (a3 : (List (List Int))) : Option ((List Int)) :=
 Option.bind (p_chacha_Xor_L1 N a3 N [] 0) fun p1 =>
 Option.bind (p_chacha_Stream N a0 a1 a2 ((p1.length : Int))) fun r10 =>
 Option.bind (p_chacha_Xor_L2 N r10 N p1 0) fun p11 =>
 some p11

theorem chacha_Xor_ok {N : Nat} {a0 : (Vector Int 32)} {a1 : Int} {a2 : (Vector Int 12)} {a3 : (List (List Int))} {r : (List Int)} (h : p_chacha_Xor N a0 a1 a2 a3 = some r) : FnM Tryz.prog 88 [] [(eA 32 1 k8 a0), (k32 a1), (eA 12 1 k8 a2), (eL 1 (eL 1 k8) a3)] (eL 1 k8 r) [] := by
 unfold p_chacha_Xor at h
 refine At.fn m_chacha_Xor hT hmo (m := 52) (lo := 0) (rs := [.tmp 8]) Tryz.func88 rfl rfl h ?_
 refine At.gron 7 9 1 ?_
 refine At.l 0 (fun p1 => ⟨[en 1 (k32 a1), en 4 (.im (eA 32 1 k8 a0)), en 6 (.im (eA 12 1 k8 a2)), en 9 (.gro 0 1 p1.length none)], [.gro 1 (List.map k8 p1)]⟩) (fun p1 J k s => ∃ s2 s3, p_chacha_Xor_L1 N a3 k s2 s3 = some p1 ∧ J ⟨[en 1 (k32 a1), en 4 (.im (eA 32 1 k8 a0)), en 6 (.im (eA 12 1 k8 a2)), en 9 (.gro 0 1 s2.length none), en 14 (eL 1 (eL 1 k8) a3), en 15 (j64 ((a3.length : Int))), en 16 (j64 s3)], [.gro 1 (List.map k8 s2)]⟩ s) N (fun _ h => ⟨_, _, h, jr⟩) (fun p1 k s hI => ?_) fun p1 => ?_
 ·obtain ⟨s2, s3, h, hj⟩ := hI
  cases k with
  | zero => cases h
  | succ k =>
   refine At.jr hj ?_ h
   refine lx ?_; intro x4
   refine At.c 1 ?_ ?_
   ·refine At.b 0 (fun _ e => big_idx hT (eL 1 k8) e) fun e5 => ?_
    refine lx ?_; intro x6
    refine lx ?_; intro x7
    refine At.b 10 (fun _ e => big_slc hT (k := 1) k8 e) fun s8 => ?_
    refine At.b 0 (fun z9 e => big_gapp' hT k8 (id := 0) (k := 1) e (by kernel_rfl) (by kernel_rfl) (H' := [.gro 1 (List.map k8 z9)]) (by kernel_rfl)) fun z9 => ?_
    exact fun h => At.k 3 ⟨_, _, h, jr⟩
   ·apply rt; exact At.x 0
 ·refine At.b 5 (fun _ e => big_call [] (chacha_Stream_ok e) chacha_Stream_ok_c) fun r10 => ?_
  refine At.l 2 (fun p11 => ⟨[en 9 (.gro 0 1 p11.length none)], [.gro 1 (List.map k8 p11)]⟩) (fun p11 J k s => ∃ s12 s13, p_chacha_Xor_L2 N r10 k s12 s13 = some p11 ∧ J ⟨[en 9 (.gro 0 1 s12.length none), en 36 (eL 1 k8 r10), en 37 (j64 ((r10.length : Int))), en 38 (j64 s13)], [.gro 1 (List.map k8 s12)]⟩ s) N (fun _ h => ⟨_, _, h, jr⟩) (fun p11 k s hI => ?_) fun p11 => ?_
  ·obtain ⟨s12, s13, h, hj⟩ := hI
   cases k with
   | zero => cases h
   | succ k =>
    refine At.jr hj ?_ h
    refine lx ?_; intro x14
    refine At.c 1 ?_ ?_
    ·refine At.b 1 (fun _ e => big_idx hT k8 e) fun e15 => ?_
     refine At.b 5 (fun _ e => big_gad hT (id := 0) (k := 1) (es := List.map k8 s12) e (by kernel_rfl) (by kernel_rfl) (by kernel_rfl) (List.length_map _)) fun u16 => ?_
     refine At.b 0 (fun _ e => big_gld hT k8 e (by kernel_rfl) (by kernel_rfl)) fun e17 => ?_
     refine At.b 2 (fun _ e => big_gad hT (id := 0) (k := 1) (es := List.map k8 s12) e (by kernel_rfl) (by kernel_rfl) (by kernel_rfl) (List.length_map _)) fun u18 => ?_
     refine bi fun z19 hz19 => ?_
     refine At.o 0 (big_gsto hT k8 (k := 1) (bxor .u8 e17 e15) hz19 (by kernel_rfl) (fun _ => by kernel_rfl) (by kernel_rfl) (H' := [.gro 1 (List.map k8 z19)]) (by kernel_rfl)) ?_
     refine At.gl 0 [9, 49] s12.length z19.length (setO_t hz19).2.2 ?_
     exact fun h => At.k 2 ⟨_, _, h, jr⟩
    ·apply rt; exact At.x 0
  ·refine At.fz 2 0 1 p11.length _ (List.map k8 p11) (List.length_map _) (List.length_map _) ?_
   apply rt; exact At.r 0

theorem chacha_Xor_ok_c : callable Tryz.prog 88 := ⟨_, Tryz.func88, by decide, rfl⟩

def m_aead_Key : Nat → Bool := imL [2, 3]

def p_aead_Key (N : Nat) (a0 : (Vector Int 32)) (a1 : (Vector Int 12)) : Option ((Vector Int 32)) :=
 Option.bind (p_chacha_Block N a0 0 a1) fun r1 =>
 Option.bind (slcO r1.toList 0 32) fun s3 =>
 Option.bind (vecO 32 s3) fun v4 =>
 some v4

theorem aead_Key_ok {N : Nat} {a0 : (Vector Int 32)} {a1 : (Vector Int 12)} {r : (Vector Int 32)} (h : p_aead_Key N a0 a1 = some r) : FnM Tryz.prog 134 [] [(eA 32 1 k8 a0), (eA 12 1 k8 a1)] (eA 32 1 k8 r) [] := by
 unfold p_aead_Key at h
 refine At.fn m_aead_Key hT hmo (m := 12) (lo := 0) (rs := [.cell 4 22]) Tryz.func134 rfl rfl h ?_
 refine At.b 5 (fun _ e => big_call [] (chacha_Block_ok e) chacha_Block_ok_c) fun r1 => ?_
 refine At.gz 2 1 ((eA 64 1 k8 r1)) ?_
 refine At.b 0 (fun _ e => big_slI hT (N := 64) (k := 1) k8 r1 e) fun s3 => ?_
 refine At.b 0 (fun v4 e => big_s2a hT k8 s3 v4 e rfl (by kernel_rfl) (by kernel_rfl)) fun v4 => ?_
 apply rt; exact At.r 2

theorem aead_Key_ok_c : callable Tryz.prog 134 := ⟨_, Tryz.func134, by decide, rfl⟩

def p_aead_Mac_1 (N : Nat) (a0 : (List Int)) : Option ((List Int)) :=
 letO (Int.tmod ((a0.length : Int)) 16) fun x1 =>
 letO (Int.tmod (I64 (16 - x1)) 16) fun x2 =>
 Option.bind (mkO 1 x2) fun _ =>
 Option.bind (lenO (List.replicate x2.toNat (0 : Int)) x2.toNat) fun _ =>
 some (List.replicate x2.toNat (0 : Int))

theorem aead_Mac_1_ok {N : Nat} {a0 : (List Int)} {r : (List Int)} (h : p_aead_Mac_1 N a0 = some r) : FnM Tryz.prog 132 [] [(eL 1 k8 a0)] (eL 1 k8 r) [] := by
 unfold p_aead_Mac_1 at h
 refine At.fn m_no hT hmo (m := 9) (lo := 0) (rs := [.tmp 2]) Tryz.func132 rfl rfl h ?_
 refine lx ?_; intro x1
 refine lx ?_; intro x2
 refine At.b 6 (fun _ e => big_mk hT k8 ((0 : Int)) (k := 1) (kd := .int .u8) e (by kernel_rfl) (by kernel_rfl) rfl) fun u3 => ?_
 refine bi fun u4 hu4 => ?_
 refine At.fz 1 0 1 x2.toNat _ (List.map k8 (List.replicate x2.toNat (0 : Int))) (List.length_map _) (lenM k8 hu4) ?_
 apply rt; exact At.r 0

theorem aead_Mac_1_ok_c : callable Tryz.prog 132 := ⟨_, Tryz.func132, by decide, rfl⟩

def p_poly_Clamp_L1 (N : Nat)  : Nat → (Vector Int 16) → Int → Option ((Vector Int 16))
 | 0, _, _ => none
 | k + 1, s2, s3 =>
  cond (decide (s3 < 4)) (
   Option.bind (letO (I64 ((I64 (4 * s3)) + 3)) fun x5 =>
   Option.bind (inRO x5 16) fun _ =>
   Option.bind (s2.toList[x5.toNat]?) fun e7 =>
   Option.bind (inRO x5 16) fun _ =>
   Option.bind (s2.toList[x5.toNat]?) fun e9 =>
   cond (decide (s3 > 0)) (
    Option.bind (inRO (I64 (4 * s3)) 16) fun _ =>
    Option.bind ((s2.setIfInBounds x5.toNat (band .u8 e7 15)).toList[(I64 (4 * s3)).toNat]?) fun e11 =>
    Option.bind (inRO (I64 (4 * s3)) 16) fun _ =>
    Option.bind ((s2.setIfInBounds x5.toNat (band .u8 e7 15)).toList[(I64 (4 * s3)).toNat]?) fun e13 =>
    some ((s2.setIfInBounds x5.toNat (band .u8 e7 15)).setIfInBounds ((I64 (4 * s3)).toNat) (band .u8 e11 252))) (
    some (s2.setIfInBounds x5.toNat (band .u8 e7 15)))) fun p4 =>
   p_poly_Clamp_L1 N k p4 (I64 (s3 + 1))) (
   some s2)

def p_poly_Clamp (N : Nat) (a0 : (Vector Int 16)) : Option ((Vector Int 16)) :=
 Option.bind (p_poly_Clamp_L1 N N a0 0) fun p1 =>
 some p1

theorem poly_Clamp_ok {N : Nat} {a0 : (Vector Int 16)} {r : (Vector Int 16)} (h : p_poly_Clamp N a0 = some r) : FnM Tryz.prog 210 [] [(eA 16 1 k8 a0)] (eA 16 1 k8 r) [] := by
 unfold p_poly_Clamp at h
 refine At.fn m_no hT hmo (m := 24) (lo := 0) (rs := [.cell 2 176]) Tryz.func210 rfl rfl h ?_
 refine At.l 3 (fun p1 => ⟨[en 1 (.ref 0 [] 0), en 2 (.ref 1 [] 0)], [.var (eA 16 1 k8 p1), .var (eA 16 1 k8 (Vector.replicate 16 0))]⟩) (fun p1 J k s => ∃ s2 s3, p_poly_Clamp_L1 N k s2 s3 = some p1 ∧ J ⟨[en 1 (.ref 0 [] 0), en 2 (.ref 1 [] 0), en 4 (j64 s3)], [.var (eA 16 1 k8 s2), .var (eA 16 1 k8 (Vector.replicate 16 0))]⟩ s) N (fun _ h => ⟨_, _, h, jr⟩) (fun p1 k s hI => ?_) fun p1 => ?_
 ·obtain ⟨s2, s3, h, hj⟩ := hI
  cases k with
  | zero => cases h
  | succ k =>
   refine At.jr hj ?_ h
   refine At.c 1 ?_ ?_
   ·refine At.j 0 2 (fun p4 => ⟨[en 1 (.ref 0 [] 0), en 2 (.ref 1 [] 0), en 4 (j64 s3)], [.var (eA 16 1 k8 p4), .var (eA 16 1 k8 (Vector.replicate 16 0))]⟩) (fun p4 => ?_) fun p4 => ?_
    ·refine lx ?_; intro x5
     refine At.b 5 (fun _ e => big_adR hT (k := 1) 0 [] 0 e) fun u6 => ?_
     refine At.b 0 (fun _ e => big_ldE hT k8 0 e) fun e7 => ?_
     refine At.b 1 (fun _ e => big_adR hT (k := 1) 0 [] 0 e) fun u8 => ?_
     refine At.b 0 (fun _ e => big_stV hT k8 0 s2 e (band .u8 e7 15) (by kernel_rfl) (by kernel_rfl) (H' := [.var (eA 16 1 k8 (s2.setIfInBounds x5.toNat (band .u8 e7 15))), .var (eA 16 1 k8 (Vector.replicate 16 0))])) fun e9 => ?_
     refine At.c 2 ?_ ?_
     ·refine At.b 2 (fun _ e => big_adR hT (k := 1) 0 [] 0 e) fun u10 => ?_
      refine At.b 0 (fun _ e => big_ldE hT k8 0 e) fun e11 => ?_
      refine At.b 1 (fun _ e => big_adR hT (k := 1) 0 [] 0 e) fun u12 => ?_
      refine At.b 0 (fun _ e => big_stV hT k8 0 (s2.setIfInBounds x5.toNat (band .u8 e7 15)) e (band .u8 e11 252) (by kernel_rfl) (by kernel_rfl) (H' := [.var (eA 16 1 k8 ((s2.setIfInBounds x5.toNat (band .u8 e7 15)).setIfInBounds ((I64 (4 * s3)).toNat) (band .u8 e11 252))), .var (eA 16 1 k8 (Vector.replicate 16 0))])) fun e13 => ?_
      apply rt; exact At.jn 0
     ·apply rt; exact At.jn 0
    ·exact fun h => At.k 2 ⟨_, _, h, jr⟩
   ·apply rt; exact At.x 0
 ·apply rt; exact At.r 2

theorem poly_Clamp_ok_c : callable Tryz.prog 210 := ⟨_, Tryz.func210, by decide, rfl⟩

def p_poly_number_L1 (N : Nat) (a0 : (List Int)) : Nat → Int → Int → Option (Int)
 | 0, _, _ => none
 | k + 1, s2, s3 =>
  cond (decide (s3 < 8)) (
   Option.bind (idx a0 s3) fun e4 =>
   Option.bind (shlO .u64 (U64 e4) (I64 (8 * s3))) fun x5 =>
   p_poly_number_L1 N a0 k (bor .u64 s2 x5) (I64 (s3 + 1))) (
   some s2)

def p_poly_number (N : Nat) (a0 : (List Int)) : Option (Int) :=
 Option.bind (p_poly_number_L1 N a0 N 0 0) fun p1 =>
 some p1

theorem poly_number_ok {N : Nat} {a0 : (List Int)} {r : Int} (h : p_poly_number N a0 = some r) : FnM Tryz.prog 211 [] [(eL 1 k8 a0)] (k64 r) [] := by
 unfold p_poly_number at h
 refine At.fn m_no hT hmo (m := 20) (lo := 0) (rs := [.tmp 2]) Tryz.func211 rfl rfl h ?_
 refine At.l 3 (fun p1 => ⟨[en 3 (k64 p1)], []⟩) (fun p1 J k s => ∃ s2 s3, p_poly_number_L1 N a0 k s2 s3 = some p1 ∧ J ⟨[en 0 (eL 1 k8 a0), en 3 (k64 s2), en 5 (j64 s3)], []⟩ s) N (fun _ h => ⟨_, _, h, jr⟩) (fun p1 k s hI => ?_) fun p1 => ?_
 ·obtain ⟨s2, s3, h, hj⟩ := hI
  cases k with
  | zero => cases h
  | succ k =>
   refine At.jr hj ?_ h
   refine At.c 1 ?_ ?_
   ·refine At.b 5 (fun _ e => big_idx hT k8 e) fun e4 => ?_
    refine At.b 4 (fun _ e => big_shl hT (k' := .i64) e (by kernel_rfl) (by kernel_rfl)) fun x5 => ?_
    exact fun h => At.k 4 ⟨_, _, h, jr⟩
   ·apply rt; exact At.x 0
 ·apply rt; exact At.r 2

theorem poly_number_ok_c : callable Tryz.prog 211 := ⟨_, Tryz.func211, by decide, rfl⟩

def m_poly_New : Nat → Bool := imL [1]

def p_poly_New (N : Nat) (a0 : (Vector Int 32)) : Option (Int × Int × Int × Int) :=
 Option.bind (slcO a0.toList 0 16) fun s1 =>
 Option.bind (vecO 16 s1) fun v2 =>
 Option.bind (p_poly_Clamp N v2) fun r3 =>
 Option.bind (slcO r3.toList 0 16) fun s4 =>
 Option.bind (p_poly_number N s4) fun r5 =>
 Option.bind (slcO r3.toList 8 16) fun s6 =>
 Option.bind (p_poly_number N s6) fun r7 =>
 Option.bind (slcO a0.toList 16 32) fun s8 =>
 Option.bind (p_poly_number N s8) fun r9 =>
 Option.bind (slcO a0.toList 24 32) fun s10 =>
 Option.bind (p_poly_number N s10) fun r11 =>
 some ((r5, r7, r9, r11))

theorem poly_New_ok {N : Nat} {a0 : (Vector Int 32)} {r : Int × Int × Int × Int} (h : p_poly_New N a0 = some r) : FnM Tryz.prog 179 [] [(eA 32 1 k8 a0)] (.ref 1 [] 0) [.dead, .var (.st 10 [(.st 3 [(.arr 3 1 [(k64 0), (k64 0), (k64 0)])]), (eB true), (k64 r.1), (k64 r.2.1), (k64 r.2.2.1), (k64 r.2.2.2), (.v (.slice none 0 0)), (j64 0)])] := by
 unfold p_poly_New at h
 refine At.fn m_poly_New hT hmo (m := 18) (lo := 0) (rs := [.tmp 2]) Tryz.func179 rfl rfl h ?_
 refine At.b 2 (fun _ e => big_slI hT (N := 32) (k := 1) k8 a0 e) fun s1 => ?_
 refine At.b 0 (fun v2 e => big_s2a hT k8 s1 v2 e rfl (by kernel_rfl) (by kernel_rfl)) fun v2 => ?_
 refine At.b 1 (fun _ e => big_call [] (poly_Clamp_ok e) poly_Clamp_ok_c) fun r3 => ?_
 refine At.gz 2 0 ((eA 16 1 k8 r3)) ?_
 refine bi fun s4 hs4 => ?_
 refine bi fun r5 hr5 => ?_
 refine bi fun s6 hs6 => ?_
 refine bi fun r7 hr7 => ?_
 refine bi fun s8 hs8 => ?_
 refine bi fun r9 hr9 => ?_
 refine bi fun s10 hs10 => ?_
 refine bi fun r11 hr11 => ?_
 refine At.d 0 (dE1 0 (fun _ => big_slI hT (N := 16) (k := 1) k8 r3 hs4) (dE2 1 (k64 r5) (fun _ => big_call0 (poly_number_ok hr5) poly_number_ok_c (by kernel_rfl) (by kernel_rfl) (by kernel_rfl)) (dE1 2 (fun _ => big_slI hT (N := 16) (k := 1) k8 r3 hs6) (dE2 3 (k64 r7) (fun _ => big_call0 (poly_number_ok hr7) poly_number_ok_c (by kernel_rfl) (by kernel_rfl) (by kernel_rfl)) (dE1 4 (fun _ => big_slI hT (N := 32) (k := 1) k8 a0 hs8) (dE2 5 (k64 r9) (fun _ => big_call0 (poly_number_ok hr9) poly_number_ok_c (by kernel_rfl) (by kernel_rfl) (by kernel_rfl)) (dE1 6 (fun _ => big_slI hT (N := 32) (k := 1) k8 a0 hs10) (dE2 7 (k64 r11) (fun _ => big_call0 (poly_number_ok hr11) poly_number_ok_c (by kernel_rfl) (by kernel_rfl) (by kernel_rfl)) dE0)))))))) dF0 ?_
 apply rt; exact At.r 0

theorem poly_New_ok_c : callable Tryz.prog 179 := ⟨_, Tryz.func179, by decide, rfl⟩

def p_poly_Blocks_L1 (N : Nat)  : Nat → (List (Vector Int 17)) → (List Int) → Option ((List (Vector Int 17)))
 | 0, _, _ => none
 | k + 1, s4, s5 =>
  letO (decide (((s5.length : Int)) > 0)) fun x6 =>
  cond x6 (
   Option.bind (slcB 17 0 16) fun _ =>
   Option.bind (cpV (Vector.replicate 17 0) s5 0 16) fun v8 =>
   letO (((min s5.length 16 : Nat) : Int)) fun x9 =>
   Option.bind (inRO x9 17) fun _ =>
   Option.bind (v8.toList[x9.toNat]?) fun e11 =>
   Option.bind (appO 17 s4 (([v8.setIfInBounds x9.toNat 1] : List (Vector Int 17)))) fun z12 =>
   Option.bind (slcO s5 x9 ((s5.length : Int))) fun s13 =>
   p_poly_Blocks_L1 N k z12 s13) (
   some s4)

def p_poly_Blocks (N : Nat) (a0 : (List Int)) : Option ((List (Vector Int 17))) :=
 letO (imin ((a0.length : Int)) 65536) fun x1 =>
 Option.bind (slcO a0 0 x1) fun s2 =>
 Option.bind (p_poly_Blocks_L1 N N [] s2) fun p3 =>
 some p3

theorem poly_Blocks_ok {N : Nat} {a0 : (List Int)} {r : (List (Vector Int 17))} (h : p_poly_Blocks N a0 = some r) : FnM Tryz.prog 213 [] [(eL 1 k8 a0)] (eL 17 (eA 17 1 k8) r) [] := by
 unfold p_poly_Blocks at h
 refine At.fn m_no hT hmo (m := 27) (lo := 0) (rs := [.tmp 2]) Tryz.func213 rfl rfl h ?_
 refine lx ?_; intro x1
 refine At.b 5 (fun _ e => big_slc hT (k := 1) k8 e) fun s2 => ?_
 refine At.ownn 2 3 17 ?_
 refine At.l 0 (fun p3 => ⟨[en 3 (eO 0 17 (eA 17 1 k8) p3)], [.tail (p3.length * 17)]⟩) (fun p3 J k s => ∃ s4 s5, p_poly_Blocks_L1 N k s4 s5 = some p3 ∧ J ⟨[en 0 (eL 1 k8 s5), en 3 (eO 0 17 (eA 17 1 k8) s4)], [.tail (s4.length * 17)]⟩ s) N (fun _ h => ⟨_, _, h, jr⟩) (fun p3 k s hI => ?_) fun p3 => ?_
 ·obtain ⟨s4, s5, h, hj⟩ := hI
  cases k with
  | zero => cases h
  | succ k =>
   refine At.jr hj ?_ h
   refine lx ?_; intro x6
   refine At.c 3 ?_ ?_
   ·refine At.b 1 (fun _ e => big_slR hT (k := 1) 1 [] 0 e (by kernel_rfl) (by kernel_rfl) (by decide)) fun s7 => ?_
    refine At.b 1 (fun v8 e => big_cpyV hT k8 (id := 1) (path := []) (off := 0) (H' := [.tail (s4.length * 17), .var (eA 17 1 k8 v8)]) e (by kernel_rfl) (by kernel_rfl) (by kernel_rfl)) fun v8 => ?_
    refine lx ?_; intro x9
    refine At.b 2 (fun _ e => big_adR hT (k := 1) 1 [] 0 e) fun u10 => ?_
    refine At.b 0 (fun _ e => big_stV hT k8 0 v8 e 1 (by kernel_rfl) (by kernel_rfl) (H' := [.tail (s4.length * 17), .var (eA 17 1 k8 (v8.setIfInBounds x9.toNat 1))])) fun e11 => ?_
    refine At.o 2 (big_row hT (x := (.sl 17 1 [(eA 17 1 k8 (v8.setIfInBounds x9.toNat 1))]))) ?_
    refine At.b 0 (fun _ e => big_app hT (eA 17 1 k8) (id := 0) (k := 17) e) fun z12 => ?_
    refine At.b 3 (fun _ e => big_slc hT (k := 1) k8 e) fun s13 => ?_
    exact fun h => At.k 1 ⟨_, _, h, jr⟩
   ·apply rt; exact At.x 0
 ·apply rt; exact At.r 2

theorem poly_Blocks_ok_c : callable Tryz.prog 213 := ⟨_, Tryz.func213, by decide, rfl⟩

theorem n_Add64 {x y c : Int} {r : Int × Int} (h : p_Add64 x y c = some r) : NatFn Tryz.prog 228 [.int .u64 x, .int .u64 y, .int .u64 c] (.tuple #[.int .u64 r.1, .int .u64 r.2]) :=
 nat_Add64 Tryz.func228 (by kernel_rfl) (by kernel_rfl) (by kernel_rfl) (by kernel_rfl) h

def p_math_bits_Mul64 (N : Nat) (a0 : Int) (a1 : Int) : Option (Int × Int) :=
 letO (band .u64 a0 4294967295) fun x1 =>
 letO (band .u64 a1 4294967295) fun x2 =>
 letO (U64 ((shr .u64 a0 32) * x2)) fun x3 =>
 letO (shr .u64 (U64 (x1 * x2)) 32) fun x4 =>
 letO (band .u64 (U64 (x3 + x4)) 4294967295) fun x5 =>
 letO (shr .u64 (U64 (x3 + x4)) 32) fun x6 =>
 letO (U64 (x1 * (shr .u64 a1 32))) fun x7 =>
 letO (U64 ((shr .u64 a0 32) * (shr .u64 a1 32))) fun x8 =>
 letO (shr .u64 (U64 (x5 + x7)) 32) fun x9 =>
 letO (U64 ((U64 (x8 + x6)) + x9)) fun x10 =>
 some ((x10, U64 (a0 * a1)))

theorem math_bits_Mul64_ok {N : Nat} {a0 : Int} {a1 : Int} {r : Int × Int} (h : p_math_bits_Mul64 N a0 a1 = some r) : FnM Tryz.prog 229 [] [(k64 a0), (k64 a1)] (.tup [(k64 r.1), (k64 r.2)]) [] := by
 unfold p_math_bits_Mul64 at h
 refine At.fn m_no hT hmo (m := 51) (lo := 0) (rs := [.tmp 4, .tmp 5]) Tryz.func229 rfl rfl h ?_
 refine lx ?_; intro x1
 refine lx ?_; intro x2
 refine lx ?_; intro x3
 refine lx ?_; intro x4
 refine lx ?_; intro x5
 refine lx ?_; intro x6
 refine lx ?_; intro x7
 refine lx ?_; intro x8
 refine lx ?_; intro x9
 refine lx ?_; intro x10
 apply rt; exact At.r 50

theorem math_bits_Mul64_ok_c : callable Tryz.prog 229 := ⟨_, Tryz.func229, by decide, rfl⟩

end Go.UK

