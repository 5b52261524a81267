/- A part of the proof: what the functions of the program compute. -/
import Derived.Test.YtbifjcmhomoppaaGreatP2
namespace Go.UK
open Go Go.Proofs
set_option maxRecDepth 20000
set_option maxHeartbeats 40000000
set_option linter.all false

attribute [local irreducible] adv putPt dropPt setPt brPt litPt cutPt restPt popN stPt envPt boxPt opPt opP2t ksPt lPt owp awl aw FnM NatFn opS Stab TOK Big
def p_sha_Sum (N : Nat) (a0 : (List (List Int))) : Option ((Vector Int 32)) :=
 Option.bind (p_sha_New N ) fun r1 =>
 Option.bind (p_sha_Hash_Write_rd N a0 (S_sha_Hash.mk (#v[1779033703, 3144134277, 1013904242, 2773480762, 1359893119, 2600822924, 528734635, 1541459225]) (Vector.replicate 64 0) 0)) fun r2 =>
 Option.bind (p_sha_Hash_Sum_r N (S_sha_Hash.mk r2.1 r2.2.1 r2.2.2)) fun r3 =>
 some r3

theorem sha_Sum_ok {N a0 r} (h : p_sha_Sum N a0 = some r) : FnM Tryz.prog 100 [] [(eL 1 (eL 1 k8) a0)] (eA 32 1 k8 r) [] := by
 unfold p_sha_Sum at h
 refine At.f m_no hT hmo Tryz.func100 rfl h ?_
 refine At.b 1 (fun _ e => big_C [] (sha_New_ok e)) fun r1 => ?_
 refine At.b 3 (fun _ e => big_C [1] (sha_Hash_Write_rd_ok e)) fun r2 => ?_
 refine At.b 1 (fun _ e => big_C [1] (sha_Hash_Sum_r_ok e)) fun r3 => ?_
 apply rt; exact At.r 1

def p_mac_pads_L1 (N : Nat)  : Nat → (Vector Int 64) → (Vector Int 64) → Int → Option ((Vector Int 64) × (Vector Int 64))
 | 0, _, _, _ => none
 | k + 1, s9, s10, s11 =>
  cond (decide (s11 < 64)) (
   Option.bind (inRO s11 64) fun _ =>
   Option.bind (s9.toList[s11.toNat]?) fun e13 =>
   Option.bind (inRO s11 64) fun _ =>
   Option.bind (s9.toList[s11.toNat]?) fun e15 =>
   Option.bind (inRO s11 64) fun _ =>
   Option.bind (s10.toList[s11.toNat]?) fun e17 =>
   Option.bind (inRO s11 64) fun _ =>
   Option.bind (s10.toList[s11.toNat]?) fun e19 =>
   p_mac_pads_L1 N k (s9.setIfInBounds s11.toNat (bxor .u8 e13 54)) (s10.setIfInBounds s11.toNat (bxor .u8 e17 92)) (I64 (s11 + 1))) (
   some ((s9, s10)))

def p_mac_pads (N : Nat) (a0 : (List Int)) : Option ((Vector Int 64) × (Vector Int 64)) :=
 Option.bind (letO (decide (((a0.length : Int)) > 64)) fun x2 =>
 cond x2 (
  Option.bind (p_sha_Sum N ([a0])) fun r3 =>
  Option.bind (slcO r3.toList 0 32) fun s5 =>
  some s5) (
  some a0)) fun p1 =>
 Option.bind (slcB 64 0 64) fun _ =>
 Option.bind (cpV (Vector.replicate 64 0) p1 0 64) fun v7 =>
 Option.bind (p_mac_pads_L1 N N v7 v7 0) fun p8 =>
 some ((p8.1, p8.2))

theorem mac_pads_ok {N a0 r} (h : p_mac_pads N a0 = some r) : FnM Tryz.prog 96 [] [(eL 1 k8 a0)] (.tup [(eA 64 1 k8 r.1), (eA 64 1 k8 r.2)]) [] := by
 unfold p_mac_pads at h
 refine At.f m_no hT hmo Tryz.func96 rfl h ?_
 refine At.J 2 1 [2, 3] 2 (fun p1 => ([(0, (eL 1 k8 p1))], [], [])) (fun p1 => ?_) fun p1 => ?_
 ·refine lx ?_; intro x2
  refine At.c 3 ?_ ?_
  ·refine At.o 1 (big_row hT (x := (.sl 1 1 [(eL 1 k8 a0)]))) ?_
   refine At.b 0 (fun _ e => big_C [] (sha_Sum_ok e)) fun r3 => ?_
   refine At.gz 2 2 ((eA 32 1 k8 r3)) ?_
   refine At.b 0 (fun _ e => big_slI hT (N := 32) (k := 1) k8 r3 e) fun s5 => ?_
   apply rt; exact At.jn 1
  ·apply rt; exact At.jn 0
 ·refine At.b 0 (fun _ e => big_slR hT (k := 1) 0 [] 0 e (by kernel_rfl) (by kernel_rfl) (by decide)) fun s6 => ?_
  refine At.b 1 (fun v7 e => big_cpyV hT k8 (id := 0) (path := []) (off := 0) (H' := [.var (eA 64 1 k8 v7), .var (eA 64 1 k8 (Vector.replicate 64 0))]) e (by kernel_rfl) (by kernel_rfl) (by kernel_rfl)) fun v7 => ?_
  refine At.L 3 [2, 3] 2 (fun p8 => ([], [(0, .var (eA 64 1 k8 p8.1)), (1, .var (eA 64 1 k8 p8.2))], [])) (fun p8 J k => ∃ s9 s10 s11, p_mac_pads_L1 N k s9 s10 s11 = some p8 ∧ J [2, 3] 2 [(17, (j64 s11))] [(0, .var (eA 64 1 k8 s9)), (1, .var (eA 64 1 k8 s10))] []) N (fun _ h => ⟨_, _, _, h, jr⟩) (fun p8 k s hI => ?_) fun p8 => ?_
  ·obtain ⟨s9, s10, s11, h, hj⟩ := hI
   cases k with
   | zero => cases h
   | succ k =>
    refine At.jr hj ?_ h
    refine At.c 1 ?_ ?_
    ·refine At.b 3 (fun _ e => big_adR hT (k := 1) 0 [] 0 e) fun u12 => ?_
     refine At.b 0 (fun _ e => big_ldE hT k8 0 e) fun e13 => ?_
     refine At.b 1 (fun _ e => big_adR hT (k := 1) 0 [] 0 e) fun u14 => ?_
     refine At.b 0 (fun _ e => big_stV hT k8 0 s9 e (bxor .u8 e13 54) (by kernel_rfl) (by kernel_rfl) (H' := [.var (eA 64 1 k8 (s9.setIfInBounds s11.toNat (bxor .u8 e13 54))), .var (eA 64 1 k8 s10)])) fun e15 => ?_
     refine At.b 1 (fun _ e => big_adR hT (k := 1) 1 [] 0 e) fun u16 => ?_
     refine At.b 0 (fun _ e => big_ldE hT k8 0 e) fun e17 => ?_
     refine At.b 1 (fun _ e => big_adR hT (k := 1) 1 [] 0 e) fun u18 => ?_
     refine At.b 0 (fun _ e => big_stV hT k8 0 s10 e (bxor .u8 e17 92) (by kernel_rfl) (by kernel_rfl) (H' := [.var (eA 64 1 k8 (s9.setIfInBounds s11.toNat (bxor .u8 e13 54))), .var (eA 64 1 k8 (s10.setIfInBounds s11.toNat (bxor .u8 e17 92)))])) fun e19 => ?_
     exact fun h => At.k 2 ⟨_, _, _, h, jr⟩
    ·apply rt; exact At.x 0
  ·refine At.d 0 dE0 dF0 ?_
   apply rt; exact At.r 0

def p_mac_Sum (N : Nat) (a0 : (List Int)) (a1 : (List (List Int))) : Option ((Vector Int 32)) :=
 Option.bind (p_mac_pads N a0) fun r1 =>
 Option.bind (p_sha_New N ) fun r2 =>
 Option.bind (slcO r1.1.toList 0 64) fun s4 =>
 Option.bind (p_sha_Hash_Write_rd N ([s4]) (S_sha_Hash.mk (#v[1779033703, 3144134277, 1013904242, 2773480762, 1359893119, 2600822924, 528734635, 1541459225]) (Vector.replicate 64 0) 0)) fun r5 =>
 Option.bind (p_sha_Hash_Write_rd N a1 (S_sha_Hash.mk r5.1 r5.2.1 r5.2.2)) fun r6 =>
 Option.bind (p_sha_Hash_Sum_r N (S_sha_Hash.mk r6.1 r6.2.1 r6.2.2)) fun r7 =>
 Option.bind (slcO r1.2.toList 0 64) fun s8 =>
 Option.bind (slcO r7.toList 0 32) fun s9 =>
 Option.bind (p_sha_Sum N ([s8, s9])) fun r10 =>
 some r10

theorem mac_Sum_ok {N a0 a1 r} (h : p_mac_Sum N a0 a1 = some r) : FnM Tryz.prog 64 [] [(eL 1 k8 a0), (eL 1 (eL 1 k8) a1)] (eA 32 1 k8 r) [] := by
 unfold p_mac_Sum at h
 refine At.f m_no hT hmo Tryz.func64 rfl h ?_
 refine At.b 2 (fun _ e => big_C [] (mac_pads_ok e)) fun r1 => ?_
 refine At.b 7 (fun _ e => big_C [] (sha_New_ok e)) fun r2 => ?_
 refine At.gz 2 1 ((eA 64 1 k8 r1.1)) ?_
 refine At.b 0 (fun _ e => big_slI hT (N := 64) (k := 1) k8 r1.1 e) fun s4 => ?_
 refine At.o 0 (big_row hT (x := (.sl 1 1 [(eL 1 k8 s4)]))) ?_
 refine At.b 0 (fun _ e => big_C [3] (sha_Hash_Write_rd_ok e)) fun r5 => ?_
 refine At.b 2 (fun _ e => big_C [3] (sha_Hash_Write_rd_ok e)) fun r6 => ?_
 refine At.b 1 (fun _ e => big_C [3] (sha_Hash_Sum_r_ok e)) fun r7 => ?_
 refine At.gz 2 2 ((eA 64 1 k8 r1.2)) ?_
 refine At.gz 0 4 ((eA 32 1 k8 r7)) ?_
 refine bi fun s8 hs8 => ?_
 refine bi fun s9 hs9 => ?_
 refine bi fun r10 hr10 => ?_
 refine At.d 0 (dE1 0 (fun _ => big_slI hT (N := 64) (k := 1) k8 r1.2 hs8) (dE1 1 (fun _ => big_slI hT (N := 32) (k := 1) k8 r7 hs9) (dE1 2 (fun _ => big_row hT (x := (.sl 1 2 [(eL 1 k8 s8), (eL 1 k8 s9)]))) (dE2 3 (eA 32 1 k8 r10) (fun _ => big_C0 (sha_Sum_ok hr10)) dE0)))) dF0 ?_
 apply rt; exact At.r 0

def m_mac_Derive : Nat → Bool := imL [3]

def p_mac_Derive_L1 (N : Nat) (a2 : (List (List Int))) : Nat → (List (List Int)) → Int → Option ((List (List Int)))
 | 0, _, _ => none
 | k + 1, s4, s5 =>
  letO (decide (s5 < ((a2.length : Int)))) fun x6 =>
  cond x6 (
   Option.bind (idx a2 s5) fun e7 =>
   Option.bind (p_mac_eight N ((e7.length : Int))) fun r8 =>
   Option.bind (appO 24 s4 (([r8, e7] : List (List Int)))) fun z9 =>
   p_mac_Derive_L1 N a2 k z9 (I64 (s5 + 1))) (
   some s4)

def p_mac_Derive (N : Nat) (a0 : (Vector Int 32)) (a1 : ByteArray) (a2 : (List (List Int))) : Option ((Vector Int 32)) :=
 letO ((ByteArray.size a1 : Int)) fun x1 =>
 Option.bind (p_mac_eight N x1) fun r2 =>
 Option.bind (p_mac_Derive_L1 N a2 N (([r2, bytesI a1] : List (List Int))) 0) fun p3 =>
 Option.bind (slcO a0.toList 0 32) fun s10 =>
 Option.bind (p_mac_Sum N s10 p3) fun r11 =>
 some r11

theorem mac_Derive_ok {N a0 a1 a2 r} (h : p_mac_Derive N a0 a1 a2 = some r) : FnM Tryz.prog 33 [] [(eA 32 1 k8 a0), (eS a1), (eL 1 (eL 1 k8) a2)] (eA 32 1 k8 r) [] := by
 unfold p_mac_Derive at h
 refine At.f m_mac_Derive hT hmo Tryz.func33 rfl h ?_
 refine lx ?_; intro x1
 refine At.b 4 (fun _ e => big_C [] (mac_eight_ok e)) fun r2 => ?_
 refine At.o 1 (big_s2b hT a1 (e := 5) (by kernel_rfl) (by kernel_rfl)) ?_
 refine At.o 0 (big_rowO hT (eL 1 k8) (k := 1) ([r2, bytesI a1] : List (List Int)) (by kernel_rfl) (by kernel_rfl)) ?_
 refine At.L 4 [3, 6] 2 (fun p3 => ([(7, (eO 1 1 (eL 1 k8) p3))], [(1, .tail (p3.length * 1))], [])) (fun p3 J k => ∃ s4 s5, p_mac_Derive_L1 N a2 k s4 s5 = some p3 ∧ J [3, 6, 16, 17] 2 [(7, (eO 1 1 (eL 1 k8) s4)), (18, (j64 s5))] [(1, .tail (s4.length * 1))] []) N (fun _ h => ⟨_, _, h, jr⟩) (fun p3 k s hI => ?_) fun p3 => ?_
 ·obtain ⟨s4, s5, h, hj⟩ := hI
  cases k with
  | zero => cases h
  | succ k =>
   refine At.jr hj ?_ h
   refine lx ?_; intro x6
   refine At.c 1 ?_ ?_
   ·refine At.b 0 (fun _ e => big_idx hT (eL 1 k8) e) fun e7 => ?_
    refine At.b 5 (fun _ e => big_C [] (mac_eight_ok e)) fun r8 => ?_
    refine At.o 1 (big_row hT (x := (.sl 1 2 [(eL 1 k8 r8), (eL 1 k8 e7)]))) ?_
    refine At.b 0 (fun _ e => big_app hT (eL 1 k8) (id := 1) (k := 1) e) fun z9 => ?_
    exact fun h => At.k 3 ⟨_, _, h, jr⟩
   ·apply rt; exact At.x 0
 ·refine At.b 0 (fun _ e => big_slI hT (N := 32) (k := 1) k8 a0 e) fun s10 => ?_
  refine At.b 1 (fun _ e => big_C [] (mac_Sum_ok e)) fun r11 => ?_
  apply rt; exact At.r 1

def m_keys_Key : Nat → Bool := imL [3]

def p_keys_Key (N : Nat) (a0 : (Vector Int 32)) (a1 : Int) (a2 : Int) : Option ((Vector Int 32)) :=
 letO (band .u64 (U64 a1) 65535) fun x1 =>
 Option.bind (p_codec_Put N [] 2 ([x1])) fun r2 =>
 letO (band .u64 (U64 a2) 4294967295) fun x3 =>
 Option.bind (p_codec_Put N [] 4 ([x3])) fun r4 =>
 Option.bind (p_mac_Derive N a0 str_0 ([r2.1, r4.1])) fun r5 =>
 some r5

theorem keys_Key_ok {N a0 a1 a2 r} (h : p_keys_Key N a0 a1 a2 = some r) : FnM Tryz.prog 11 [] [(eA 32 1 k8 a0), (j64 a1), (j64 a2)] (eA 32 1 k8 r) [] := by
 unfold p_keys_Key at h
 refine At.f m_keys_Key hT hmo Tryz.func11 rfl h ?_
 refine lx ?_; intro x1
 refine At.o 5 (big_row hT (x := (.sl 1 1 [(k64 x1)]))) ?_
 refine At.b 0 (fun _ e => big_C [] (codec_Put_ok e)) fun r2 => ?_
 refine lx ?_; intro x3
 refine At.o 8 (big_row hT (x := (.sl 1 1 [(k64 x3)]))) ?_
 refine At.b 0 (fun _ e => big_C [] (codec_Put_ok e)) fun r4 => ?_
 refine At.wk 8 28 ((eL 1 k8 r2.1)) ?_
 refine At.wk 0 29 ((eL 1 k8 r4.1)) ?_
 refine At.o 0 (big_row hT (x := (.sl 1 2 [(eL 1 k8 r2.1), (eL 1 k8 r4.1)]))) ?_
 refine At.b 0 (fun _ e => big_C [] (mac_Derive_ok e)) fun r5 => ?_
 apply rt; exact At.r 1

def m_mesh_Check_1 : Nat → Bool := imL [1]

def p_mesh_Check_1 (N : Nat) (a0 : S_api_Point) : Option (Bool) :=
 Option.bind (letO (decide ((imax (imax a0.gX a0.gY) a0.gZ) > 4096)) fun x2 =>
 cond x2 (
  some true) (
  letO (decide ((imin (imin a0.gX a0.gY) a0.gZ) < (-4096))) fun x3 =>
  some x3)) fun p1 =>
 some p1

theorem mesh_Check_1_ok {N a0 r} (h : p_mesh_Check_1 N a0 = some r) : FnM Tryz.prog 186 [] [(S_api_Point.enc a0)] (eB r) [] := by
 unfold p_mesh_Check_1 at h
 refine At.f m_mesh_Check_1 hT hmo Tryz.func186 rfl h ?_
 refine At.J 2 0 [] 0 (fun p1 => ([(2, (eB p1))], [], [])) (fun p1 => ?_) fun p1 => ?_
 ·refine At.o 6 (big_max3 (k := .i64) (i := a0.gX) (j := a0.gY) (l := a0.gZ) (by kernel_rfl) (by kernel_rfl)) ?_
  refine lx ?_; intro x2
  refine At.s 11 2 ?_ ?_
  ·refine At.g [11] 10 ?_
   apply rt; exact At.jn 0
  ·refine At.g [11] 6 ?_
   refine At.o 0 (big_min3 (k := .i64) (i := a0.gX) (j := a0.gY) (l := a0.gZ) (by kernel_rfl) (by kernel_rfl)) ?_
   refine lx ?_; intro x3
   refine At.g [11] 3 ?_
   apply rt; exact At.jn 0
 ·apply rt; exact At.r 0

def p_slices_IndexFunc_api_Point_api_Point_Check_1_L1 (N : Nat) (a0 : (List S_api_Point)) : Nat → Int → Option (Sum (Unit) (Int))
 | 0, _ => none
 | k + 1, s2 =>
  letO (decide (s2 < ((a0.length : Int)))) fun x3 =>
  cond x3 (
   Option.bind (idx a0 s2) fun e4 =>
   Option.bind (p_mesh_Check_1 N e4) fun r5 =>
   cond r5 (
    some (Sum.inr s2)) (
    p_slices_IndexFunc_api_Point_api_Point_Check_1_L1 N a0 k (I64 (s2 + 1)))) (
   some (Sum.inl (())))

def p_slices_IndexFunc_api_Point_api_Point_Check_1 (N : Nat) (a0 : (List S_api_Point)) : Option (Int) :=
 Option.bind (p_slices_IndexFunc_api_Point_api_Point_Check_1_L1 N a0 N 0) fun o => sumC o (fun p1 =>
  some (-1)) (fun r => some r)

theorem slices_IndexFunc_api_Point_api_Point_Check_1_ok {N a0 r} (h : p_slices_IndexFunc_api_Point_api_Point_Check_1 N a0 = some r) : FnM Tryz.prog 217 [] [(eL 3 S_api_Point.enc a0), (.fn (.func 186) [] [])] (j64 r) [] := by
 unfold p_slices_IndexFunc_api_Point_api_Point_Check_1 at h
 refine At.f m_no hT hmo Tryz.func217 rfl h ?_
 refine At.LS 4 [] 0 (fun p1 => ([], [], [])) (fun op1 J k => ∃ s2, p_slices_IndexFunc_api_Point_api_Point_Check_1_L1 N a0 k s2 = some op1 ∧ J [0, 1, 7] 0 [(8, (j64 s2))] [] []) N (fun _ h => ⟨_, h, jr⟩) (fun op1 g1 k s hI => ?_) fun p1 => ?_
 ·obtain ⟨s2, h, hj⟩ := hI
  cases k with
  | zero => cases h
  | succ k =>
   refine At.jr hj ?_ h
   refine lx ?_; intro x3
   refine At.c 1 ?_ ?_
   ·refine At.b 5 (fun _ e => big_idx hT S_api_Point.enc e) fun e4 => ?_
    refine At.b 1 (fun _ e => big_C [] (mesh_Check_1_ok e)) fun r5 => ?_
    refine At.c 0 ?_ ?_
    ·intro e; apply rtS1 g1 e; exact At.r 2
    ·exact fun h => At.k 2 ⟨_, h, jr⟩
   ·apply rt; exact At.xs 0
 ·apply rt; exact At.r 1

def p_slices_ContainsFunc_api_Point_api_Point_Check_1 (N : Nat) (a0 : (List S_api_Point)) : Option (Bool) :=
 Option.bind (p_slices_IndexFunc_api_Point_api_Point_Check_1 N a0) fun r1 =>
 some (decide (r1 ≥ 0))

theorem slices_ContainsFunc_api_Point_api_Point_Check_1_ok {N a0 r} (h : p_slices_ContainsFunc_api_Point_api_Point_Check_1 N a0 = some r) : FnM Tryz.prog 189 [] [(eL 3 S_api_Point.enc a0), (.fn (.func 186) [] [])] (eB r) [] := by
 unfold p_slices_ContainsFunc_api_Point_api_Point_Check_1 at h
 refine At.f m_no hT hmo Tryz.func189 rfl h ?_
 refine At.b 3 (fun _ e => big_C [] (slices_IndexFunc_api_Point_api_Point_Check_1_ok e)) fun r1 => ?_
 apply rt; exact At.r 2

def m_mesh_Check_2 : Nat → Bool := imL [1]

def p_mesh_Check_2 (N : Nat) (a0 : (Vector Int 2)) : Option (Bool) :=
 Option.bind (Option.bind (idx a0.toList 0) fun e2 =>
 Option.bind (idx a0.toList 1) fun e3 =>
 letO (decide ((imin e2 e3) < 0)) fun x4 =>
 cond x4 (
  some true) (
  Option.bind (idx a0.toList 0) fun e5 =>
  Option.bind (idx a0.toList 1) fun e6 =>
  letO (decide ((imax e5 e6) > 65535)) fun x7 =>
  some x7)) fun p1 =>
 some p1

theorem mesh_Check_2_ok {N a0 r} (h : p_mesh_Check_2 N a0 = some r) : FnM Tryz.prog 187 [] [(eA 2 1 j64 a0)] (eB r) [] := by
 unfold p_mesh_Check_2 at h
 refine At.f m_mesh_Check_2 hT hmo Tryz.func187 rfl h ?_
 refine At.J 2 0 [] 0 (fun p1 => ([(2, (eB p1))], [], [])) (fun p1 => ?_) fun p1 => ?_
 ·refine At.b 0 (fun _ e => big_adI hT (N := 2) (k := 1) j64 a0 e) fun e2 => ?_
  refine At.b 1 (fun _ e => big_adI hT (N := 2) (k := 1) j64 a0 e) fun e3 => ?_
  refine lx ?_; intro x4
  refine At.s 9 4 ?_ ?_
  ·refine At.g [9] 8 ?_
   apply rt; exact At.jn 0
  ·refine At.b 0 (fun _ e => big_adI hT (N := 2) (k := 1) j64 a0 e) fun e5 => ?_
   refine At.g [9] 1 ?_
   refine At.b 0 (fun _ e => big_adI hT (N := 2) (k := 1) j64 a0 e) fun e6 => ?_
   refine lx ?_; intro x7
   refine At.g [9] 5 ?_
   apply rt; exact At.jn 0
 ·apply rt; exact At.r 0

def p_slices_IndexFunc_2_int_2_int_Check_2_L1 (N : Nat) (a0 : (List (Vector Int 2))) : Nat → Int → Option (Sum (Unit) (Int))
 | 0, _ => none
 | k + 1, s2 =>
  letO (decide (s2 < ((a0.length : Int)))) fun x3 =>
  cond x3 (
   Option.bind (idx a0 s2) fun e4 =>
   Option.bind (p_mesh_Check_2 N e4) fun r5 =>
   cond r5 (
    some (Sum.inr s2)) (
    p_slices_IndexFunc_2_int_2_int_Check_2_L1 N a0 k (I64 (s2 + 1)))) (
   some (Sum.inl (())))

def p_slices_IndexFunc_2_int_2_int_Check_2 (N : Nat) (a0 : (List (Vector Int 2))) : Option (Int) :=
 Option.bind (p_slices_IndexFunc_2_int_2_int_Check_2_L1 N a0 N 0) fun o => sumC o (fun p1 =>
  some (-1)) (fun r => some r)

theorem slices_IndexFunc_2_int_2_int_Check_2_ok {N a0 r} (h : p_slices_IndexFunc_2_int_2_int_Check_2 N a0 = some r) : FnM Tryz.prog 218 [] [(eL 2 (eA 2 1 j64) a0), (.fn (.func 187) [] [])] (j64 r) [] := by
 unfold p_slices_IndexFunc_2_int_2_int_Check_2 at h
 refine At.f m_no hT hmo Tryz.func218 rfl h ?_
 refine At.LS 4 [] 0 (fun p1 => ([], [], [])) (fun op1 J k => ∃ s2, p_slices_IndexFunc_2_int_2_int_Check_2_L1 N a0 k s2 = some op1 ∧ J [0, 1, 7] 0 [(8, (j64 s2))] [] []) N (fun _ h => ⟨_, h, jr⟩) (fun op1 g1 k s hI => ?_) fun p1 => ?_
 ·obtain ⟨s2, h, hj⟩ := hI
  cases k with
  | zero => cases h
  | succ k =>
   refine At.jr hj ?_ h
   refine lx ?_; intro x3
   refine At.c 1 ?_ ?_
   ·refine At.b 5 (fun _ e => big_idx hT (eA 2 1 j64) e) fun e4 => ?_
    refine At.b 1 (fun _ e => big_C [] (mesh_Check_2_ok e)) fun r5 => ?_
    refine At.c 0 ?_ ?_
    ·intro e; apply rtS1 g1 e; exact At.r 2
    ·exact fun h => At.k 2 ⟨_, h, jr⟩
   ·apply rt; exact At.xs 0
 ·apply rt; exact At.r 1

def p_slices_ContainsFunc_2_int_2_int_Check_2 (N : Nat) (a0 : (List (Vector Int 2))) : Option (Bool) :=
 Option.bind (p_slices_IndexFunc_2_int_2_int_Check_2 N a0) fun r1 =>
 some (decide (r1 ≥ 0))

theorem slices_ContainsFunc_2_int_2_int_Check_2_ok {N a0 r} (h : p_slices_ContainsFunc_2_int_2_int_Check_2 N a0 = some r) : FnM Tryz.prog 190 [] [(eL 2 (eA 2 1 j64) a0), (.fn (.func 187) [] [])] (eB r) [] := by
 unfold p_slices_ContainsFunc_2_int_2_int_Check_2 at h
 refine At.f m_no hT hmo Tryz.func190 rfl h ?_
 refine At.b 3 (fun _ e => big_C [] (slices_IndexFunc_2_int_2_int_Check_2_ok e)) fun r1 => ?_
 apply rt; exact At.r 2

def m_mesh_Check_3_di : Nat → Bool := imL [2]

def p_mesh_Check_3_di (N : Nat) (a0 : (Vector Int 3)) (a1 : S_api_Mesh) : Option (Bool) :=
 Option.bind (Option.bind (idx a0.toList 0) fun e2 =>
 Option.bind (idx a0.toList 1) fun e3 =>
 Option.bind (idx a0.toList 2) fun e4 =>
 letO (decide ((imin (imin e2 e3) e4) < 0)) fun x5 =>
 cond x5 (
  some true) (
  Option.bind (idx a0.toList 0) fun e6 =>
  Option.bind (idx a0.toList 1) fun e7 =>
  Option.bind (idx a0.toList 2) fun e8 =>
  letO ((a1.gVerts.length : Int)) fun x9 =>
  letO (decide ((imax (imax e6 e7) e8) ≥ x9)) fun x10 =>
  cond x10 (
   some true) (
   Option.bind (idx a0.toList 0) fun e11 =>
   Option.bind (idx a0.toList 1) fun e12 =>
   cond (e11 == e12) (
    some true) (
    Option.bind (idx a0.toList 1) fun e13 =>
    Option.bind (idx a0.toList 2) fun e14 =>
    cond (e13 == e14) (
     some true) (
     Option.bind (idx a0.toList 2) fun e15 =>
     Option.bind (idx a0.toList 0) fun e16 =>
     some (e15 == e16)))))) fun p1 =>
 some p1

theorem mesh_Check_3_di_ok {N a0 a1 r} (h : p_mesh_Check_3_di N a0 a1 = some r) : FnM Tryz.prog 188 [] [(eA 3 1 j64 a0), (.im (S_api_Mesh.enc a1))] (eB r) [] := by
 unfold p_mesh_Check_3_di at h
 refine At.f m_mesh_Check_3_di hT hmo Tryz.func188 rfl h ?_
 refine At.J 2 0 [] 0 (fun p1 => ([(3, (eB p1))], [], [])) (fun p1 => ?_) fun p1 => ?_
 ·refine At.b 0 (fun _ e => big_adI hT (N := 3) (k := 1) j64 a0 e) fun e2 => ?_
  refine At.b 1 (fun _ e => big_adI hT (N := 3) (k := 1) j64 a0 e) fun e3 => ?_
  refine At.b 1 (fun _ e => big_adI hT (N := 3) (k := 1) j64 a0 e) fun e4 => ?_
  refine At.o 1 (big_min3 (k := .i64) (i := e2) (j := e3) (l := e4) (by kernel_rfl) (by kernel_rfl)) ?_
  refine lx ?_; intro x5
  refine At.s 12 2 ?_ ?_
  ·refine At.g [12, 25, 32, 39] 34 ?_
   apply rt; exact At.jn 0
  ·refine At.b 0 (fun _ e => big_adI hT (N := 3) (k := 1) j64 a0 e) fun e6 => ?_
   refine At.g [12] 1 ?_
   refine At.b 0 (fun _ e => big_adI hT (N := 3) (k := 1) j64 a0 e) fun e7 => ?_
   refine At.g [12] 1 ?_
   refine At.b 0 (fun _ e => big_adI hT (N := 3) (k := 1) j64 a0 e) fun e8 => ?_
   refine At.g [12] 1 ?_
   refine At.o 0 (big_max3 (k := .i64) (i := e6) (j := e7) (l := e8) (by kernel_rfl) (by kernel_rfl)) ?_
   refine lx ?_; intro x9
   refine lx ?_; intro x10
   refine At.g [12] 6 ?_
   refine At.s 25 0 ?_ ?_
   ·refine At.g [25, 32, 39] 21 ?_
    apply rt; exact At.jn 0
   ·refine At.b 0 (fun _ e => big_adI hT (N := 3) (k := 1) j64 a0 e) fun e11 => ?_
    refine At.g [25] 1 ?_
    refine At.b 0 (fun _ e => big_adI hT (N := 3) (k := 1) j64 a0 e) fun e12 => ?_
    refine At.g [25] 4 ?_
    refine At.s 32 0 ?_ ?_
    ·refine At.g [32, 39] 14 ?_
     apply rt; exact At.jn 0
    ·refine At.b 0 (fun _ e => big_adI hT (N := 3) (k := 1) j64 a0 e) fun e13 => ?_
     refine At.g [32] 1 ?_
     refine At.b 0 (fun _ e => big_adI hT (N := 3) (k := 1) j64 a0 e) fun e14 => ?_
     refine At.g [32] 4 ?_
     refine At.s 39 0 ?_ ?_
     ·refine At.g [39] 7 ?_
      apply rt; exact At.jn 0
     ·refine At.b 0 (fun _ e => big_adI hT (N := 3) (k := 1) j64 a0 e) fun e15 => ?_
      refine At.g [39] 1 ?_
      refine At.b 0 (fun _ e => big_adI hT (N := 3) (k := 1) j64 a0 e) fun e16 => ?_
      refine At.g [39] 4 ?_
      apply rt; exact At.jn 0
 ·apply rt; exact At.r 0

def p_slices_IndexFunc_3_int_3_int_Check_3_L1 (N : Nat) (a0 : (List (Vector Int 3))) (a1 : S_api_Mesh) : Nat → Int → Option (Sum (Unit) (Int))
 | 0, _ => none
 | k + 1, s2 =>
  letO (decide (s2 < ((a0.length : Int)))) fun x3 =>
  cond x3 (
   Option.bind (idx a0 s2) fun e4 =>
   Option.bind (p_mesh_Check_3_di N e4 a1) fun r5 =>
   cond r5 (
    some (Sum.inr s2)) (
    p_slices_IndexFunc_3_int_3_int_Check_3_L1 N a0 a1 k (I64 (s2 + 1)))) (
   some (Sum.inl (())))

def p_slices_IndexFunc_3_int_3_int_Check_3 (N : Nat) (a0 : (List (Vector Int 3))) (a1 : S_api_Mesh) : Option (Int) :=
 Option.bind (p_slices_IndexFunc_3_int_3_int_Check_3_L1 N a0 a1 N 0) fun o => sumC o (fun p1 =>
  some (-1)) (fun r => some r)

theorem slices_IndexFunc_3_int_3_int_Check_3_ok {N a0 a1 r} (h : p_slices_IndexFunc_3_int_3_int_Check_3 N a0 a1 = some r) : FnM Tryz.prog 219 [] [(eL 3 (eA 3 1 j64) a0), (.fn (.func 188) [] [(.im (S_api_Mesh.enc a1))])] (j64 r) [] := by
 unfold p_slices_IndexFunc_3_int_3_int_Check_3 at h
 refine At.f m_no hT hmo Tryz.func219 rfl h ?_
 refine At.LS 4 [] 0 (fun p1 => ([], [], [])) (fun op1 J k => ∃ s2, p_slices_IndexFunc_3_int_3_int_Check_3_L1 N a0 a1 k s2 = some op1 ∧ J [0, 1, 7] 0 [(8, (j64 s2))] [] []) N (fun _ h => ⟨_, h, jr⟩) (fun op1 g1 k s hI => ?_) fun p1 => ?_
 ·obtain ⟨s2, h, hj⟩ := hI
  cases k with
  | zero => cases h
  | succ k =>
   refine At.jr hj ?_ h
   refine lx ?_; intro x3
   refine At.c 1 ?_ ?_
   ·refine At.b 5 (fun _ e => big_idx hT (eA 3 1 j64) e) fun e4 => ?_
    refine At.b 1 (fun _ e => big_C [] (mesh_Check_3_di_ok e)) fun r5 => ?_
    refine At.c 0 ?_ ?_
    ·intro e; apply rtS1 g1 e; exact At.r 2
    ·exact fun h => At.k 2 ⟨_, h, jr⟩
   ·apply rt; exact At.xs 0
 ·apply rt; exact At.r 1

def p_slices_ContainsFunc_3_int_3_int_Check_3 (N : Nat) (a0 : (List (Vector Int 3))) (a1 : S_api_Mesh) : Option (Bool) :=
 Option.bind (p_slices_IndexFunc_3_int_3_int_Check_3 N a0 a1) fun r1 =>
 some (decide (r1 ≥ 0))

theorem slices_ContainsFunc_3_int_3_int_Check_3_ok {N a0 a1 r} (h : p_slices_ContainsFunc_3_int_3_int_Check_3 N a0 a1 = some r) : FnM Tryz.prog 191 [] [(eL 3 (eA 3 1 j64) a0), (.fn (.func 188) [] [(.im (S_api_Mesh.enc a1))])] (eB r) [] := by
 unfold p_slices_ContainsFunc_3_int_3_int_Check_3 at h
 refine At.f m_no hT hmo Tryz.func191 rfl h ?_
 refine At.b 3 (fun _ e => big_C [] (slices_IndexFunc_3_int_3_int_Check_3_ok e)) fun r1 => ?_
 apply rt; exact At.r 2

def m_mesh_Check : Nat → Bool := imL [1]

def p_mesh_Check (N : Nat) (a0 : S_api_Mesh) : Option (Int) :=
 letO ((a0.gVerts.length : Int)) fun x1 =>
 letO ((a0.gTris.length : Int)) fun x2 =>
 letO (cond (decide (x1 > 64)) true (decide (x2 > 64))) fun x3 =>
 cond x3 (
  some 3) (
  letO ((a0.gVerts.length : Int)) fun x4 =>
  letO ((a0.gTris.length : Int)) fun x5 =>
  letO (cond (x4 == 0) true (x5 == 0)) fun x6 =>
  letO ((a0.gVerts.length : Int)) fun x7 =>
  letO (((a0.gUvs.length : Int)) != x7) fun x8 =>
  cond (cond x6 true x8) (
   some 5) (
   Option.bind (p_slices_ContainsFunc_api_Point_api_Point_Check_1 N a0.gVerts) fun r9 =>
   cond r9 (
    some 8) (
    Option.bind (Option.bind (p_slices_ContainsFunc_2_int_2_int_Check_2 N a0.gUvs) fun r11 =>
    cond r11 (
     some true) (
     Option.bind (p_slices_ContainsFunc_3_int_3_int_Check_3 N a0.gTris a0) fun r12 =>
     some r12)) fun p10 =>
    cond p10 (some 5) (some 0))))

theorem mesh_Check_ok {N a0 r} (h : p_mesh_Check N a0 = some r) : FnM Tryz.prog 155 [] [(S_api_Mesh.enc a0)] (j64 r) [] := by
 unfold p_mesh_Check at h
 refine At.f m_mesh_Check hT hmo Tryz.func155 rfl h ?_
 refine At.o 4 (big_mkf (x := (.fn (.func 188) [] [(.im (S_api_Mesh.enc a0))])) (by kernel_rfl) (by kernel_rfl)) ?_
 refine lx ?_; intro x1
 refine lx ?_; intro x2
 refine lx ?_; intro x3
 refine At.c 12 ?_ ?_
 ·apply rt; exact At.r 1
 ·refine lx ?_; intro x4
  refine lx ?_; intro x5
  refine lx ?_; intro x6
  refine lx ?_; intro x7
  refine lx ?_; intro x8
  refine At.c 20 ?_ ?_
  ·apply rt; exact At.r 1
  ·refine At.b 3 (fun _ e => big_C [] (slices_ContainsFunc_api_Point_api_Point_Check_1_ok e)) fun r9 => ?_
   refine At.c 1 ?_ ?_
   ·apply rt; exact At.r 1
   ·refine At.J 0 0 [] 0 (fun p10 => ([(43, (eB p10))], [], [])) (fun p10 => ?_) fun p10 => ?_
    ·refine At.b 3 (fun _ e => big_C [] (slices_ContainsFunc_2_int_2_int_Check_2_ok e)) fun r11 => ?_
     refine At.s 48 1 ?_ ?_
     ·refine At.g [48] 6 ?_
      apply rt; exact At.jn 0
     ·refine At.g [48] 3 ?_
      refine At.b 0 (fun _ e => big_C [] (slices_ContainsFunc_3_int_3_int_Check_3_ok e)) fun r12 => ?_
      refine At.g [48] 2 ?_
      apply rt; exact At.jn 0
    ·refine At.c 0 ?_ ?_
     ·apply rt; exact At.r 1
     ·apply rt; exact At.r 1

def p_slices_Index_int_int_L1 (N : Nat) (a0 : (List Int)) (a1 : Int) : Nat → Int → Option (Sum (Unit) (Int))
 | 0, _ => none
 | k + 1, s2 =>
  letO (decide (s2 < ((a0.length : Int)))) fun x3 =>
  cond x3 (
   Option.bind (idx a0 s2) fun e4 =>
   cond (a1 == e4) (
    some (Sum.inr s2)) (
    p_slices_Index_int_int_L1 N a0 a1 k (I64 (s2 + 1)))) (
   some (Sum.inl (())))

def p_slices_Index_int_int (N : Nat) (a0 : (List Int)) (a1 : Int) : Option (Int) :=
 Option.bind (p_slices_Index_int_int_L1 N a0 a1 N 0) fun o => sumC o (fun p1 =>
  some (-1)) (fun r => some r)

theorem slices_Index_int_int_ok {N a0 a1 r} (h : p_slices_Index_int_int N a0 a1 = some r) : FnM Tryz.prog 220 [] [(eL 1 j64 a0), (j64 a1)] (j64 r) [] := by
 unfold p_slices_Index_int_int at h
 refine At.f m_no hT hmo Tryz.func220 rfl h ?_
 refine At.LS 4 [] 0 (fun p1 => ([], [], [])) (fun op1 J k => ∃ s2, p_slices_Index_int_int_L1 N a0 a1 k s2 = some op1 ∧ J [0, 1, 7] 0 [(8, (j64 s2))] [] []) N (fun _ h => ⟨_, h, jr⟩) (fun op1 g1 k s hI => ?_) fun p1 => ?_
 ·obtain ⟨s2, h, hj⟩ := hI
  cases k with
  | zero => cases h
  | succ k =>
   refine At.jr hj ?_ h
   refine lx ?_; intro x3
   refine At.c 1 ?_ ?_
   ·refine At.b 5 (fun _ e => big_idx hT j64 e) fun e4 => ?_
    refine At.c 2 ?_ ?_
    ·intro e; apply rtS1 g1 e; exact At.r 2
    ·exact fun h => At.k 2 ⟨_, h, jr⟩
   ·apply rt; exact At.xs 0
 ·apply rt; exact At.r 1

def p_slices_Contains_int_int (N : Nat) (a0 : (List Int)) (a1 : Int) : Option (Bool) :=
 Option.bind (p_slices_Index_int_int N a0 a1) fun r1 =>
 some (decide (r1 ≥ 0))

theorem slices_Contains_int_int_ok {N a0 a1 r} (h : p_slices_Contains_int_int N a0 a1 = some r) : FnM Tryz.prog 192 [] [(eL 1 j64 a0), (j64 a1)] (eB r) [] := by
 unfold p_slices_Contains_int_int at h
 refine At.f m_no hT hmo Tryz.func192 rfl h ?_
 refine At.b 3 (fun _ e => big_C [] (slices_Index_int_int_ok e)) fun r1 => ?_
 apply rt; exact At.r 2

def m_texture_Check : Nat → Bool := imL [1]

def p_texture_Check_L1 (N : Nat) (x5 : Int) (a0 : S_api_Texture) : Nat → Int → Option (Sum (Unit) (Int))
 | 0, _ => none
 | k + 1, s7 =>
  cond (decide (s7 < x5)) (
   Option.bind (idx a0.gTexels s7) fun e8 =>
   Option.bind (Option.bind (inRO 0 3) fun _ =>
   Option.bind (e8.toList[(Int.toNat 0)]?) fun e11 =>
   Option.bind (inRO 1 3) fun _ =>
   Option.bind (e8.toList[(Int.toNat 1)]?) fun e13 =>
   Option.bind (inRO 2 3) fun _ =>
   Option.bind (e8.toList[(Int.toNat 2)]?) fun e15 =>
   letO (decide ((imin (imin e11 e13) e15) < 0)) fun x16 =>
   cond x16 (
    some true) (
    Option.bind (inRO 0 3) fun _ =>
    Option.bind (e8.toList[(Int.toNat 0)]?) fun e18 =>
    Option.bind (inRO 1 3) fun _ =>
    Option.bind (e8.toList[(Int.toNat 1)]?) fun e20 =>
    Option.bind (inRO 2 3) fun _ =>
    Option.bind (e8.toList[(Int.toNat 2)]?) fun e22 =>
    letO (decide ((imax (imax e18 e20) e22) > 255)) fun x23 =>
    some x23)) fun p9 =>
   cond p9 (some (Sum.inr 5)) (p_texture_Check_L1 N x5 a0 k (I64 (s7 + 1)))) (
   some (Sum.inl (())))

def p_texture_Check (N : Nat) (a0 : S_api_Texture) : Option (Int) :=
 Option.bind (p_slices_Contains_int_int N ([1, 2, 4, 8, 16]) a0.gSide) fun r1 =>
 letO ((a0.gTexels.length : Int)) fun x2 =>
 letO (I64 (a0.gSide * a0.gSide)) fun x3 =>
 letO (cond (!r1) true (x2 != x3)) fun x4 =>
 cond x4 (
  some 5) (
  letO ((a0.gTexels.length : Int)) fun x5 =>
  Option.bind (p_texture_Check_L1 N x5 a0 N 0) fun o => sumC o (fun p6 =>
   some 0) (fun r => some r))

theorem texture_Check_ok {N a0 r} (h : p_texture_Check N a0 = some r) : FnM Tryz.prog 156 [] [(S_api_Texture.enc a0)] (j64 r) [] := by
 unfold p_texture_Check at h
 refine At.f m_texture_Check hT hmo Tryz.func156 rfl h ?_
 refine At.o 2 (big_row hT (x := (.sl 1 5 [(j64 1), (j64 2), (j64 4), (j64 8), (j64 16)]))) ?_
 refine At.b 2 (fun _ e => big_C [] (slices_Contains_int_int_ok e)) fun r1 => ?_
 refine lx ?_; intro x2
 refine lx ?_; intro x3
 refine lx ?_; intro x4
 refine At.c 12 ?_ ?_
 ·apply rt; exact At.r 1
 ·refine lx ?_; intro x5
  refine At.LS 4 [] 0 (fun p6 => ([], [], [])) (fun op6 J k => ∃ s7, p_texture_Check_L1 N x5 a0 k s7 = some op6 ∧ J [22, 23] 0 [(24, (j64 s7))] [] []) N (fun _ h => ⟨_, h, jr⟩) (fun op6 g6 k s hI => ?_) fun p6 => ?_
  ·obtain ⟨s7, h, hj⟩ := hI
   cases k with
   | zero => cases h
   | succ k =>
    refine At.jr hj ?_ h
    refine At.c 1 ?_ ?_
    ·refine At.b 0 (fun _ e => big_idx hT (eA 3 1 j64) e) fun e8 => ?_
     refine At.J 3 0 [22, 23, 24] 1 (fun p9 => ([(45, (eB p9))], [], [])) (fun p9 => ?_) fun p9 => ?_
     ·refine At.b 0 (fun _ e => big_adR hT (k := 1) 0 [] 0 e) fun u10 => ?_
      refine At.b 0 (fun _ e => big_ldE hT j64 0 e) fun e11 => ?_
      refine At.b 0 (fun _ e => big_adR hT (k := 1) 0 [] 0 e) fun u12 => ?_
      refine At.b 0 (fun _ e => big_ldE hT j64 0 e) fun e13 => ?_
      refine At.b 0 (fun _ e => big_adR hT (k := 1) 0 [] 0 e) fun u14 => ?_
      refine At.b 0 (fun _ e => big_ldE hT j64 0 e) fun e15 => ?_
      refine At.o 0 (big_min3 (k := .i64) (i := e11) (j := e13) (l := e15) (by kernel_rfl) (by kernel_rfl)) ?_
      refine lx ?_; intro x16
      refine At.s 36 2 ?_ ?_
      ·refine At.g [36] 9 ?_
       apply rt; exact At.jn 0
      ·refine At.b 0 (fun _ e => big_adR hT (k := 1) 0 [] 0 e) fun u17 => ?_
       refine At.b 0 (fun _ e => big_ldE hT j64 0 e) fun e18 => ?_
       refine At.b 0 (fun _ e => big_adR hT (k := 1) 0 [] 0 e) fun u19 => ?_
       refine At.b 0 (fun _ e => big_ldE hT j64 0 e) fun e20 => ?_
       refine At.b 0 (fun _ e => big_adR hT (k := 1) 0 [] 0 e) fun u21 => ?_
       refine At.b 0 (fun _ e => big_ldE hT j64 0 e) fun e22 => ?_
       refine At.o 0 (big_max3 (k := .i64) (i := e18) (j := e20) (l := e22) (by kernel_rfl) (by kernel_rfl)) ?_
       refine lx ?_; intro x23
       refine At.g [36] 2 ?_
       apply rt; exact At.jn 0
     ·refine At.c 0 ?_ ?_
      ·intro e; apply rtS1 g6 e; exact At.r 1
      ·exact fun h => At.k 2 ⟨_, h, jr⟩
    ·apply rt; exact At.xs 0
  ·apply rt; exact At.r 1

def p_asset_outside_1_di (N : Nat) (a0 : Int) (a1 : Int) : Option (Bool) :=
 letO (cond (decide (a0 < 0)) true (decide (a0 > a1))) fun x1 =>
 some x1

theorem asset_outside_1_di_ok {N a0 a1 r} (h : p_asset_outside_1_di N a0 a1 = some r) : FnM Tryz.prog 226 [] [(j64 a0), (.im (j64 a1))] (eB r) [] := by
 unfold p_asset_outside_1_di at h
 refine At.f m_no hT hmo Tryz.func226 rfl h ?_
 refine lx ?_; intro x1
 apply rt; exact At.r 9

def p_slices_IndexFunc_int_int_outside_1_L1 (N : Nat) (a0 : (List Int)) (a1 : Int) : Nat → Int → Option (Sum (Unit) (Int))
 | 0, _ => none
 | k + 1, s2 =>
  letO (decide (s2 < ((a0.length : Int)))) fun x3 =>
  cond x3 (
   Option.bind (idx a0 s2) fun e4 =>
   Option.bind (p_asset_outside_1_di N e4 a1) fun r5 =>
   cond r5 (
    some (Sum.inr s2)) (
    p_slices_IndexFunc_int_int_outside_1_L1 N a0 a1 k (I64 (s2 + 1)))) (
   some (Sum.inl (())))

def p_slices_IndexFunc_int_int_outside_1 (N : Nat) (a0 : (List Int)) (a1 : Int) : Option (Int) :=
 Option.bind (p_slices_IndexFunc_int_int_outside_1_L1 N a0 a1 N 0) fun o => sumC o (fun p1 =>
  some (-1)) (fun r => some r)

theorem slices_IndexFunc_int_int_outside_1_ok {N a0 a1 r} (h : p_slices_IndexFunc_int_int_outside_1 N a0 a1 = some r) : FnM Tryz.prog 233 [] [(eL 1 j64 a0), (.fn (.func 226) [] [(.im (j64 a1))])] (j64 r) [] := by
 unfold p_slices_IndexFunc_int_int_outside_1 at h
 refine At.f m_no hT hmo Tryz.func233 rfl h ?_
 refine At.LS 4 [] 0 (fun p1 => ([], [], [])) (fun op1 J k => ∃ s2, p_slices_IndexFunc_int_int_outside_1_L1 N a0 a1 k s2 = some op1 ∧ J [0, 1, 7] 0 [(8, (j64 s2))] [] []) N (fun _ h => ⟨_, h, jr⟩) (fun op1 g1 k s hI => ?_) fun p1 => ?_
 ·obtain ⟨s2, h, hj⟩ := hI
  cases k with
  | zero => cases h
  | succ k =>
   refine At.jr hj ?_ h
   refine lx ?_; intro x3
   refine At.c 1 ?_ ?_
   ·refine At.b 5 (fun _ e => big_idx hT j64 e) fun e4 => ?_
    refine At.b 1 (fun _ e => big_C [] (asset_outside_1_di_ok e)) fun r5 => ?_
    refine At.c 0 ?_ ?_
    ·intro e; apply rtS1 g1 e; exact At.r 2
    ·exact fun h => At.k 2 ⟨_, h, jr⟩
   ·apply rt; exact At.xs 0
 ·apply rt; exact At.r 1

def p_slices_ContainsFunc_int_int_outside_1 (N : Nat) (a0 : (List Int)) (a1 : Int) : Option (Bool) :=
 Option.bind (p_slices_IndexFunc_int_int_outside_1 N a0 a1) fun r1 =>
 some (decide (r1 ≥ 0))

theorem slices_ContainsFunc_int_int_outside_1_ok {N a0 a1 r} (h : p_slices_ContainsFunc_int_int_outside_1 N a0 a1 = some r) : FnM Tryz.prog 225 [] [(eL 1 j64 a0), (.fn (.func 226) [] [(.im (j64 a1))])] (eB r) [] := by
 unfold p_slices_ContainsFunc_int_int_outside_1 at h
 refine At.f m_no hT hmo Tryz.func225 rfl h ?_
 refine At.b 3 (fun _ e => big_C [] (slices_IndexFunc_int_int_outside_1_ok e)) fun r1 => ?_
 apply rt; exact At.r 2

def m_asset_outside : Nat → Bool := imL [2]

def p_asset_outside (N : Nat) (a0 : Int) (a1 : (List Int)) : Option (Bool) :=
 Option.bind (p_slices_ContainsFunc_int_int_outside_1 N a1 a0) fun r1 =>
 some r1

theorem asset_outside_ok {N a0 a1 r} (h : p_asset_outside N a0 a1 = some r) : FnM Tryz.prog 206 [] [(j64 a0), (eL 1 j64 a1)] (eB r) [] := by
 unfold p_asset_outside at h
 refine At.f m_asset_outside hT hmo Tryz.func206 rfl h ?_
 refine At.o 3 (big_mkf (x := (.fn (.func 226) [] [(.im (j64 a0))])) (by kernel_rfl) (by kernel_rfl)) ?_
 refine At.b 0 (fun _ e => big_C [] (slices_ContainsFunc_int_int_outside_1_ok e)) fun r1 => ?_
 apply rt; exact At.r 1

def m_asset_Material : Nat → Bool := imL [1]

def p_asset_Material (N : Nat) (a0 : S_api_Material) : Option (Int) :=
 Option.bind (Option.bind (p_asset_outside N 4 ([a0.gKind])) fun r2 =>
 cond r2 (
  some true) (
  Option.bind (idx a0.gColor.toList 0) fun e3 =>
  Option.bind (idx a0.gColor.toList 1) fun e4 =>
  Option.bind (idx a0.gColor.toList 2) fun e5 =>
  Option.bind (p_asset_outside N 65535 ([e3, e4, e5, a0.gRough])) fun r6 =>
  some r6)) fun p1 =>
 cond p1 (some 5) (some 0)

theorem asset_Material_ok {N a0 r} (h : p_asset_Material N a0 = some r) : FnM Tryz.prog 176 [] [(S_api_Material.enc a0)] (j64 r) [] := by
 unfold p_asset_Material at h
 refine At.f m_asset_Material hT hmo Tryz.func176 rfl h ?_
 refine At.J 2 0 [] 0 (fun p1 => ([(21, (eB p1))], [], [])) (fun p1 => ?_) fun p1 => ?_
 ·refine At.o 2 (big_row hT (x := (.sl 1 1 [(j64 a0.gKind)]))) ?_
  refine At.b 0 (fun _ e => big_C [] (asset_outside_ok e)) fun r2 => ?_
  refine At.s 7 1 ?_ ?_
  ·refine At.g [7] 14 ?_
   apply rt; exact At.jn 0
  ·refine At.g [7] 1 ?_
   refine At.b 0 (fun _ e => big_adI hT (N := 3) (k := 1) j64 a0.gColor e) fun e3 => ?_
   refine At.g [7] 2 ?_
   refine At.b 0 (fun _ e => big_adI hT (N := 3) (k := 1) j64 a0.gColor e) fun e4 => ?_
   refine At.g [7] 2 ?_
   refine At.b 0 (fun _ e => big_adI hT (N := 3) (k := 1) j64 a0.gColor e) fun e5 => ?_
   refine At.g [7] 3 ?_
   refine At.o 0 (big_row hT (x := (.sl 1 4 [(j64 e3), (j64 e4), (j64 e5), (j64 a0.gRough)]))) ?_
   refine At.b 0 (fun _ e => big_C [] (asset_outside_ok e)) fun r6 => ?_
   refine At.g [7] 1 ?_
   apply rt; exact At.jn 0
 ·refine At.c 0 ?_ ?_
  ·apply rt; exact At.r 1
  ·apply rt; exact At.r 1

end Go.UK

