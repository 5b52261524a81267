/- A part of the proof: what the functions of the program compute. -/
import Derived.Test.YtbifjcmhomoppaaGreatP4
namespace Go.UK
open Go Go.Proofs
set_option maxRecDepth 20000
set_option maxHeartbeats 40000000
set_option linter.all false

attribute [local irreducible] adv putPt dropPt setPt brPt litPt cutPt restPt popN stPt envPt boxPt opPt opP2t ksPt lPt owp awl aw FnM NatFn opS Stab TOK Big
def p_manifest_Cap (N : Nat) (a0 : Int) : Option (Int) :=
 letO (cond (decide (a0 < 0)) true (decide (a0 ≥ 5))) fun x1 =>
 cond x1 (
  some 0) (
  Option.bind (inRO a0 5) fun _ =>
  Option.bind ((#v[0, 2048, 1024, 64, 64]).toList[a0.toNat]?) fun e3 =>
  some e3)

theorem manifest_Cap_ok {N a0 r} (h : p_manifest_Cap N a0 = some r) : FnM Tryz.prog 127 [] [(j64 a0)] (j64 r) [] := by
 unfold p_manifest_Cap at h
 refine At.f m_no hT hmo Tryz.func127 rfl h ?_
 refine lx ?_; intro x1
 refine At.c 10 ?_ ?_
 ·apply rt; exact At.r 1
 ·refine At.b 1 (fun _ e => big_adR hT (k := 1) 0 [] 0 e) fun u2 => ?_
  refine At.b 0 (fun _ e => big_ldE hT j64 0 e) fun e3 => ?_
  apply rt; exact At.r 1

def m_asset_Check : Nat → Bool := imL [1]

def p_asset_Check (N : Nat) (a0 : S_api_Asset) : Option (Int) :=
 Option.bind (p_asset_own N a0) fun r1 =>
 cond (r1 != 0) (
  some r1) (
  Option.bind (p_asset_bare N a0) fun r2 =>
  Option.bind (p_asset_Same N r2 (S_api_Asset.mk a0.gKind (S_api_Mesh.mk [] [] []) (S_api_Texture.mk 0 []) (S_api_Material.mk 0 (#v[0, 0, 0]) 0) (S_api_Light.mk 0 (#v[0, 0, 0]) (S_api_Point.mk 0 0 0) (S_api_Point.mk 0 0 0) (S_api_Point.mk 0 0 0)))) fun r3 =>
  cond (!r3) (
   some 5) (
   Option.bind (p_asset_encode N a0) fun r4 =>
   Option.bind (p_manifest_Cap N a0.gKind) fun r5 =>
   letO (decide (((r4.length : Int)) > r5)) fun x6 =>
   cond x6 (some 9) (some 0)))

theorem asset_Check_ok {N a0 r} (h : p_asset_Check N a0 = some r) : FnM Tryz.prog 84 [] [(S_api_Asset.enc a0)] (j64 r) [] := by
 unfold p_asset_Check at h
 refine At.f m_asset_Check hT hmo Tryz.func84 rfl h ?_
 refine At.b 3 (fun _ e => big_C [] (asset_own_ok e)) fun r1 => ?_
 refine At.c 3 ?_ ?_
 ·apply rt; exact At.r 2
 ·refine bi fun r2 hr2 => ?_
  refine bi fun r3 hr3 => ?_
  refine At.d 0 (dE2 1 (S_api_Asset.enc r2) (fun _ => big_C0 (asset_bare_ok hr2)) (dE2 5 (eB r3) (fun _ => big_C0 (asset_Same_ok hr3)) dE0)) dF0 ?_
  refine At.c 0 ?_ ?_
  ·apply rt; exact At.r 1
  ·refine bi fun r4 hr4 => ?_
   refine bi fun r5 hr5 => ?_
   refine lx ?_; intro x6
   refine At.d 0 (dE2 1 (eL 1 k8 r4) (fun _ => big_C0 (asset_encode_ok hr4)) (dE2 5 (j64 r5) (fun _ => big_C0 (manifest_Cap_ok hr5)) dE0)) dF0 ?_
   refine At.c 0 ?_ ?_
   ·apply rt; exact At.r 1
   ·apply rt; exact At.r 1

def m_asset_Encode : Nat → Bool := imL [1]

def p_asset_Encode (N : Nat) (a0 : S_api_Asset) : Option ((List Int) × Int) :=
 Option.bind (p_asset_Check N a0) fun r1 =>
 cond (r1 != 0) (
  some (([], r1))) (
  Option.bind (p_asset_encode N a0) fun r2 =>
  some ((r2, 0)))

theorem asset_Encode_ok {N a0 r} (h : p_asset_Encode N a0 = some r) : FnM Tryz.prog 51 [] [(S_api_Asset.enc a0)] (.tup [(eL 1 k8 r.1), (j64 r.2)]) [] := by
 unfold p_asset_Encode at h
 refine At.f m_asset_Encode hT hmo Tryz.func51 rfl h ?_
 refine At.b 4 (fun _ e => big_C [] (asset_Check_ok e)) fun r1 => ?_
 refine At.c 3 ?_ ?_
 ·apply rt; exact At.r 3
 ·refine At.b 1 (fun _ e => big_C [] (asset_encode_ok e)) fun r2 => ?_
  apply rt; exact At.r 2

def p_manifest_Chunks (N : Nat) (a0 : Int) : Option (Int) :=
 cond (decide (a0 < 1)) (
  some 0) (
  letO (I64 (Int.tdiv (I64 (a0 - 1)) 256)) fun x1 =>
  some (I64 (x1 + 1)))

theorem manifest_Chunks_ok {N a0 r} (h : p_manifest_Chunks N a0 = some r) : FnM Tryz.prog 52 [] [(j64 a0)] (j64 r) [] := by
 unfold p_manifest_Chunks at h
 refine At.f m_no hT hmo Tryz.func52 rfl h ?_
 refine At.c 3 ?_ ?_
 ·apply rt; exact At.r 1
 ·refine lx ?_; intro x1
  apply rt; exact At.r 5

def m_manifest_Check : Nat → Bool := imL [1]

def p_manifest_Check_L1 (N : Nat) (a0 : S_api_Manifest) : Nat → Int → Option (Sum (Unit) (Int))
 | 0, _ => none
 | k + 1, s3 =>
  cond (decide (s3 < 8)) (
   Option.bind (idx a0.gMasks.toList s3) fun e4 =>
   cond (decide (e4 > 15)) (some (Sum.inr 5)) (p_manifest_Check_L1 N a0 k (I64 (s3 + 1)))) (
   some (Sum.inl (())))

def p_manifest_Check (N : Nat) (a0 : S_api_Manifest) : Option (Int) :=
 Option.bind (p_manifest_Cap N a0.gKind) fun r1 =>
 cond (r1 == 0) (
  some 12) (
  Option.bind (p_manifest_Check_L1 N a0 N 0) fun o => sumC o (fun p2 =>
   letO (decide (a0.gFrom > a0.gTo)) fun x5 =>
   letO (cond x5 true (decide (a0.gSize < 1))) fun x6 =>
   cond x6 (
    some 5) (
    cond (decide (a0.gSize > r1)) (
     some 9) (
     Option.bind (p_manifest_Chunks N a0.gSize) fun r7 =>
     cond (a0.gChunks != r7) (some 5) (some 0)))) (fun r => some r))

theorem manifest_Check_ok {N a0 r} (h : p_manifest_Check N a0 = some r) : FnM Tryz.prog 86 [] [(S_api_Manifest.enc a0)] (j64 r) [] := by
 unfold p_manifest_Check at h
 refine At.f m_manifest_Check hT hmo Tryz.func86 rfl h ?_
 refine At.b 4 (fun _ e => big_C [] (manifest_Cap_ok e)) fun r1 => ?_
 refine At.c 3 ?_ ?_
 ·apply rt; exact At.r 1
 ·refine At.LS 3 [1, 3] 0 (fun p2 => ([], [], [])) (fun op2 J k => ∃ s3, p_manifest_Check_L1 N a0 k s3 = some op2 ∧ J [1, 3, 12] 0 [(13, (j64 s3))] [] []) N (fun _ h => ⟨_, h, jr⟩) (fun op2 g2 k s hI => ?_) fun p2 => ?_
  ·obtain ⟨s3, h, hj⟩ := hI
   cases k with
   | zero => cases h
   | succ k =>
    refine At.jr hj ?_ h
    refine At.c 1 ?_ ?_
    ·refine At.b 0 (fun _ e => big_ixA hT k8 a0.gMasks e (by kernel_rfl) (by kernel_rfl)) fun e4 => ?_
     refine At.c 3 ?_ ?_
     ·intro e; apply rtS1 g2 e; exact At.r 1
     ·exact fun h => At.k 2 ⟨_, h, jr⟩
    ·apply rt; exact At.xs 0
  ·refine lx ?_; intro x5
   refine lx ?_; intro x6
   refine At.c 11 ?_ ?_
   ·apply rt; exact At.r 1
   ·refine At.c 5 ?_ ?_
    ·apply rt; exact At.r 1
    ·refine bi fun r7 hr7 => ?_
     refine At.d 0 (dE2 4 (j64 r7) (fun _ => big_C0 (manifest_Chunks_ok hr7)) dE0) dF0 ?_
     refine At.c 0 ?_ ?_
     ·apply rt; exact At.r 1
     ·apply rt; exact At.r 1

def m_manifest_Encode : Nat → Bool := imL [1]

def p_manifest_Encode (N : Nat) (a0 : S_api_Manifest) : Option ((List Int) × Int) :=
 Option.bind (p_manifest_Check N a0) fun r1 =>
 cond (r1 != 0) (
  some (([], r1))) (
  Option.bind (p_codec_Put N [] 8 ([a0.gId])) fun r2 =>
  Option.bind (p_codec_Put N r2.1 1 ([U64 a0.gKind])) fun r3 =>
  Option.bind (p_codec_Put N r3.1 4 ([U64 a0.gLabel])) fun r4 =>
  Option.bind (slcO a0.gMasks.toList 0 8) fun s5 =>
  Option.bind (appO 1 r4.1 s5) fun z6 =>
  Option.bind (p_codec_Put N z6 4 ([U64 a0.gFrom, U64 a0.gTo, U64 a0.gSize])) fun r7 =>
  Option.bind (p_codec_Put N r7.1 2 ([U64 a0.gChunks])) fun r8 =>
  some ((r8.1, r8.2)))

theorem manifest_Encode_ok {N a0 r} (h : p_manifest_Encode N a0 = some r) : FnM Tryz.prog 53 [] [(S_api_Manifest.enc a0)] (.tup [(eL 1 k8 r.1), (j64 r.2)]) [] := by
 unfold p_manifest_Encode at h
 refine At.f m_manifest_Encode hT hmo Tryz.func53 rfl h ?_
 refine At.b 4 (fun _ e => big_C [] (manifest_Check_ok e)) fun r1 => ?_
 refine At.c 3 ?_ ?_
 ·apply rt; exact At.r 3
 ·refine At.o 2 (big_row hT (x := (.sl 1 1 [(k64 a0.gId)]))) ?_
  refine At.b 0 (fun _ e => big_C [] (codec_Put_ok e)) fun r2 => ?_
  refine At.o 9 (big_row hT (x := (.sl 1 1 [(k64 (U64 a0.gKind))]))) ?_
  refine At.b 0 (fun _ e => big_C [] (codec_Put_ok e)) fun r3 => ?_
  refine At.o 8 (big_row hT (x := (.sl 1 1 [(k64 (U64 a0.gLabel))]))) ?_
  refine At.b 0 (fun _ e => big_C [] (codec_Put_ok e)) fun r4 => ?_
  refine At.b 6 (fun _ e => big_slI hT (N := 8) (k := 1) k8 a0.gMasks e) fun s5 => ?_
  refine At.b 0 (fun _ e => big_app hT k8 (id := 2) (k := 1) e) fun z6 => ?_
  refine At.o 11 (big_row hT (x := (.sl 1 3 [(k64 (U64 a0.gFrom)), (k64 (U64 a0.gTo)), (k64 (U64 a0.gSize))]))) ?_
  refine At.b 0 (fun _ e => big_C [] (codec_Put_ok e)) fun r7 => ?_
  refine At.o 8 (big_row hT (x := (.sl 1 1 [(k64 (U64 a0.gChunks))]))) ?_
  refine At.b 0 (fun _ e => big_C [] (codec_Put_ok e)) fun r8 => ?_
  apply rt; exact At.r 4

def gren_87 : Go.Shelf.Ren := ⟨fun | 4 => 87 | n => n, fun | 0 => 0 | 3 => 3 | 4 => 4 | 9 => 9 | 20 => 20 | 22 => 57 | 25 => 5 | n => n, fun n => n⟩
theorem glay_87 : Lays8.n4 Tryz.prog gren_87 := { mixed := by kernel_rfl, f4 := ⟨Tryz.f87.name, by decide, Tryz.func87.trans (congrArg some (by kernel_rfl))⟩, t0 := Tryz.underlying0, a0 := Tryz.isAgg0, z0 := Tryz.sizeOf0, v0 := Tryz.zeroValue0, t3 := Tryz.underlying3, a3 := Tryz.isAgg3, z3 := Tryz.sizeOf3, v3 := Tryz.zeroValue3, t4 := Tryz.underlying4, a4 := Tryz.isAgg4, z4 := Tryz.sizeOf4, v4 := Tryz.zeroValue4, t9 := Tryz.underlying9, a9 := Tryz.isAgg9, z9 := Tryz.sizeOf9, v9 := Tryz.zeroValue9, t20 := Tryz.underlying20, a20 := Tryz.isAgg20, z20 := Tryz.sizeOf20, v20 := Tryz.zeroValue20, t22 := Tryz.underlying57, a22 := Tryz.isAgg57, z22 := Tryz.sizeOf57, v22 := Tryz.zeroValue57 }
theorem grow_87 {n : Int} {r : List Int} (h : growO Int 1 n = some r) : FnM Tryz.prog 87 [] [.v (.slice none 0 0), .v (.int .i64 n)] (eO 0 1 k8 r) [.tail (r.length * 1)] :=
 grow_fn (i0 := Tryz.t5) glay_87 rfl k8 (by kernel_rfl) rfl (by kernel_rfl) (by kernel_rfl) (by kernel_rfl) (by decide) h
theorem grow_87_c : callable Tryz.prog 87 := ⟨_, Tryz.func87, by decide, rfl⟩

def p_slices_Concat_byte_byte_L1 (N : Nat) (a0 : (List (List Int))) : Nat → Int → Int → Option (Int)
 | 0, _, _ => none
 | k + 1, s2, s3 =>
  letO (decide (s3 < ((a0.length : Int)))) fun x4 =>
  cond x4 (
   Option.bind (idx a0 s3) fun e5 =>
   letO (I64 (s2 + ((e5.length : Int)))) fun x6 =>
   cond (decide (x6 < 0)) (none) (p_slices_Concat_byte_byte_L1 N a0 k x6 (I64 (s3 + 1)))) (
   some s2)

def p_slices_Concat_byte_byte_L2 (N : Nat) (a0 : (List (List Int))) : Nat → (List Int) → Int → Option ((List Int))
 | 0, _, _ => none
 | k + 1, s9, s10 =>
  letO (decide (s10 < ((a0.length : Int)))) fun x11 =>
  cond x11 (
   Option.bind (idx a0 s10) fun e12 =>
   Option.bind (appO 1 s9 e12) fun z13 =>
   p_slices_Concat_byte_byte_L2 N a0 k z13 (I64 (s10 + 1))) (
   some s9)

def p_slices_Concat_byte_byte (N : Nat) (a0 : (List (List Int))) : Option ((List Int)) :=
 Option.bind (p_slices_Concat_byte_byte_L1 N a0 N 0 0) fun p1 =>
 Option.bind (growO Int 1 p1) fun r7 =>
 Option.bind (p_slices_Concat_byte_byte_L2 N a0 N r7 0) fun p8 =>
 some p8

theorem slices_Concat_byte_byte_ok {N a0 r} (h : p_slices_Concat_byte_byte N a0 = some r) : FnM Tryz.prog 54 [] [(eL 1 (eL 1 k8) a0)] (eO 0 1 k8 r) [.tail (r.length * 1)] := by
 unfold p_slices_Concat_byte_byte at h
 refine At.f m_no hT hmo Tryz.func54 rfl h ?_
 refine At.L 5 [0] 0 (fun p1 => ([(3, (j64 p1))], [], [])) (fun p1 J k => ∃ s2 s3, p_slices_Concat_byte_byte_L1 N a0 k s2 s3 = some p1 ∧ J [0, 9, 10] 0 [(3, (j64 s2)), (11, (j64 s3))] [] []) N (fun _ h => ⟨_, _, h, jr⟩) (fun p1 k s hI => ?_) fun p1 => ?_
 ·obtain ⟨s2, s3, h, hj⟩ := hI
  cases k with
  | zero => cases h
  | succ k =>
   refine At.jr hj ?_ h
   refine lx ?_; intro x4
   refine At.c 1 ?_ ?_
   ·refine At.b 0 (fun _ e => big_idx hT (eL 1 k8) e) fun e5 => ?_
    refine lx ?_; intro x6
    refine At.c 9 ?_ ?_
    ·exact nn
    ·exact fun h => At.k 2 ⟨_, _, h, jr⟩
   ·apply rt; exact At.x 0
 ·refine At.b 1 (fun _ e => big_call [] (grow_87 e) grow_87_c) fun r7 => ?_
  refine At.L 4 [] 1 (fun p8 => ([(6, (eO 0 1 k8 p8))], [(0, .tail (p8.length * 1))], [])) (fun p8 J k => ∃ s9 s10, p_slices_Concat_byte_byte_L2 N a0 k s9 s10 = some p8 ∧ J [25, 26] 1 [(6, (eO 0 1 k8 s9)), (27, (j64 s10))] [(0, .tail (s9.length * 1))] []) N (fun _ h => ⟨_, _, h, jr⟩) (fun p8 k s hI => ?_) fun p8 => ?_
  ·obtain ⟨s9, s10, h, hj⟩ := hI
   cases k with
   | zero => cases h
   | succ k =>
    refine At.jr hj ?_ h
    refine lx ?_; intro x11
    refine At.c 1 ?_ ?_
    ·refine At.b 0 (fun _ e => big_idx hT (eL 1 k8) e) fun e12 => ?_
     refine At.b 4 (fun _ e => big_app hT k8 (id := 0) (k := 1) e) fun z13 => ?_
     exact fun h => At.k 3 ⟨_, _, h, jr⟩
    ·apply rt; exact At.x 0
  ·apply rt; exact At.r 2

def m_bundle_Nonce : Nat → Bool := imL [2]

def p_bundle_Nonce_L1 (N : Nat) (a1 : Int) : Nat → (Vector Int 12) → Int → Option ((Vector Int 12))
 | 0, _, _ => none
 | k + 1, s5, s6 =>
  cond (decide (s6 < 4)) (
   Option.bind (shrO .i64 a1 (I64 (8 * s6))) fun x7 =>
   Option.bind (inRO (I64 (8 + s6)) 12) fun _ =>
   Option.bind (s5.toList[(I64 (8 + s6)).toNat]?) fun e9 =>
   p_bundle_Nonce_L1 N a1 k (s5.setIfInBounds ((I64 (8 + s6)).toNat) (U8 x7)) (I64 (s6 + 1))) (
   some s5)

def p_bundle_Nonce (N : Nat) (a0 : (Vector Int 8)) (a1 : Int) : Option ((Vector Int 12)) :=
 Option.bind (slcB 12 0 12) fun _ =>
 Option.bind (slcO a0.toList 0 8) fun s2 =>
 Option.bind (cpV (Vector.replicate 12 0) s2 0 12) fun v3 =>
 Option.bind (p_bundle_Nonce_L1 N a1 N v3 0) fun p4 =>
 some p4

theorem bundle_Nonce_ok {N a0 a1 r} (h : p_bundle_Nonce N a0 a1 = some r) : FnM Tryz.prog 56 [] [(eA 8 1 k8 a0), (j64 a1)] (eA 12 1 k8 r) [] := by
 unfold p_bundle_Nonce at h
 refine At.f m_bundle_Nonce hT hmo Tryz.func56 rfl h ?_
 refine bi fun s1 hs1 => ?_
 refine bi fun s2 hs2 => ?_
 refine bi fun v3 hv3 => ?_
 refine At.d 3 (dE1 0 (fun _ => big_slR hT (k := 1) 1 [] 0 hs1 (by kernel_rfl) (by kernel_rfl) (by decide)) (dE1 1 (fun _ => big_slI hT (N := 8) (k := 1) k8 a0 hs2) dE0)) (dF 2 (j64 (((min s2.length 12 : Nat) : Int))) [(1, .var (eA 12 1 k8 v3))] [] (big_at (big_cpyV hT k8 (id := 1) (path := []) (off := 0) (H' := [.var (eA 12 1 k8 (Vector.replicate 12 0)), .var (eA 12 1 k8 v3)]) hv3 (by kernel_rfl) (by kernel_rfl) (by kernel_rfl))) dF0) ?_
 refine At.L 1 [4, 5] 2 (fun p4 => ([], [(1, .var (eA 12 1 k8 p4))], [])) (fun p4 J k => ∃ s5 s6, p_bundle_Nonce_L1 N a1 k s5 s6 = some p4 ∧ J [1, 4, 5] 2 [(10, (j64 s6))] [(1, .var (eA 12 1 k8 s5))] []) N (fun _ h => ⟨_, _, h, jr⟩) (fun p4 k s hI => ?_) fun p4 => ?_
 ·obtain ⟨s5, s6, h, hj⟩ := hI
  cases k with
  | zero => cases h
  | succ k =>
   refine At.jr hj ?_ h
   refine At.c 1 ?_ ?_
   ·refine At.b 7 (fun _ e => big_shr hT (k' := .i64) e (by kernel_rfl) (by kernel_rfl)) fun x7 => ?_
    refine At.b 1 (fun _ e => big_adR hT (k := 1) 1 [] 0 e) fun u8 => ?_
    refine At.b 0 (fun _ e => big_stV hT k8 0 s5 e (U8 x7) (by kernel_rfl) (by kernel_rfl) (H' := [.var (eA 12 1 k8 (Vector.replicate 12 0)), .var (eA 12 1 k8 (s5.setIfInBounds ((I64 (8 + s6)).toNat) (U8 x7)))])) fun e9 => ?_
    exact fun h => At.k 2 ⟨_, _, h, jr⟩
   ·apply rt; exact At.x 0
 ·apply rt; exact At.r 2

def p_chacha_number (N : Nat) (a0 : (List Int)) : Option (Int) :=
 Option.bind (idx a0 0) fun e1 =>
 Option.bind (idx a0 1) fun e2 =>
 letO (bor .u32 (U32 e1) (shl .u32 (U32 e2) 8)) fun x3 =>
 Option.bind (idx a0 2) fun e4 =>
 letO (bor .u32 x3 (shl .u32 (U32 e4) 16)) fun x5 =>
 Option.bind (idx a0 3) fun e6 =>
 letO (bor .u32 x5 (shl .u32 (U32 e6) 24)) fun x7 =>
 some x7

theorem chacha_number_ok {N a0 r} (h : p_chacha_number N a0 = some r) : FnM Tryz.prog 227 [] [(eL 1 k8 a0)] (k32 r) [] := by
 unfold p_chacha_number at h
 refine At.f m_no hT hmo Tryz.func227 rfl h ?_
 refine bi fun e1 he1 => ?_
 refine bi fun e2 he2 => ?_
 refine lx ?_; intro x3
 refine bi fun e4 he4 => ?_
 refine lx ?_; intro x5
 refine bi fun e6 he6 => ?_
 refine lx ?_; intro x7
 refine At.d 1 (dE1 1 (fun _ => big_idx hT k8 he1) (dE1 5 (fun _ => big_idx hT k8 he2) (dE1 11 (fun _ => big_idx hT k8 he4) (dE1 17 (fun _ => big_idx hT k8 he6) dE0)))) dF0 ?_
 apply rt; exact At.r 0

def m_chacha_State : Nat → Bool := imL [3, 5]

def p_chacha_State_L1 (N : Nat) (a0 : (Vector Int 32)) : Nat → (Vector Int 16) → Int → Option ((Vector Int 16))
 | 0, _, _ => none
 | k + 1, s2, s3 =>
  cond (decide (s3 < 8)) (
   Option.bind (slcO a0.toList (I64 (4 * s3)) 32) fun s4 =>
   Option.bind (p_chacha_number N s4) fun r5 =>
   Option.bind (inRO (I64 (4 + s3)) 16) fun _ =>
   Option.bind (s2.toList[(I64 (4 + s3)).toNat]?) fun e7 =>
   p_chacha_State_L1 N a0 k (s2.setIfInBounds ((I64 (4 + s3)).toNat) r5) (I64 (s3 + 1))) (
   some s2)

def p_chacha_State_L2 (N : Nat) (a2 : (Vector Int 12)) : Nat → (Vector Int 16) → Int → Option ((Vector Int 16))
 | 0, _, _ => none
 | k + 1, s9, s10 =>
  cond (decide (s10 < 3)) (
   Option.bind (slcO a2.toList (I64 (4 * s10)) 12) fun s11 =>
   Option.bind (p_chacha_number N s11) fun r12 =>
   Option.bind (inRO (I64 (13 + s10)) 16) fun _ =>
   Option.bind (s9.toList[(I64 (13 + s10)).toNat]?) fun e14 =>
   p_chacha_State_L2 N a2 k (s9.setIfInBounds ((I64 (13 + s10)).toNat) r12) (I64 (s10 + 1))) (
   some s9)

def p_chacha_State (N : Nat) (a0 : (Vector Int 32)) (a1 : Int) (a2 : (Vector Int 12)) : Option ((Vector Int 16)) :=
 Option.bind (p_chacha_State_L1 N a0 N (#v[1634760805, 857760878, 2036477234, 1797285236, 0, 0, 0, 0, 0, 0, 0, 0, a1, 0, 0, 0]) 0) fun p1 =>
 Option.bind (p_chacha_State_L2 N a2 N p1 0) fun p8 =>
 some p8

theorem chacha_State_ok {N a0 a1 a2 r} (h : p_chacha_State N a0 a1 a2 = some r) : FnM Tryz.prog 208 [] [(eA 32 1 k8 a0), (k32 a1), (eA 12 1 k8 a2)] (eA 16 1 k32 r) [] := by
 unfold p_chacha_State at h
 refine At.f m_chacha_State hT hmo Tryz.func208 rfl h ?_
 refine At.L 8 [5, 6, 7] 2 (fun p1 => ([], [(1, .var (eA 16 1 k32 p1))], [])) (fun p1 J k => ∃ s2 s3, p_chacha_State_L1 N a0 k s2 s3 = some p1 ∧ J [3, 5, 6, 7] 2 [(12, (j64 s3))] [(1, .var (eA 16 1 k32 s2))] []) N (fun _ h => ⟨_, _, h, jr⟩) (fun p1 k s hI => ?_) fun p1 => ?_
 ·obtain ⟨s2, s3, h, hj⟩ := hI
  cases k with
  | zero => cases h
  | succ k =>
   refine At.jr hj ?_ h
   refine At.c 1 ?_ ?_
   ·refine At.b 6 (fun _ e => big_slI hT (N := 32) (k := 1) k8 a0 e) fun s4 => ?_
    refine At.b 0 (fun _ e => big_C [] (chacha_number_ok e)) fun r5 => ?_
    refine At.b 0 (fun _ e => big_adR hT (k := 1) 1 [] 0 e) fun u6 => ?_
    refine At.b 0 (fun _ e => big_stV hT k32 0 s2 e r5 (by kernel_rfl) (by kernel_rfl) (H' := [.var (eA 16 1 k32 (Vector.replicate 16 0)), .var (eA 16 1 k32 (s2.setIfInBounds ((I64 (4 + s3)).toNat) r5))])) fun e7 => ?_
    exact fun h => At.k 2 ⟨_, _, h, jr⟩
   ·apply rt; exact At.x 0
 ·refine At.L 1 [6, 7] 2 (fun p8 => ([], [(1, .var (eA 16 1 k32 p8))], [])) (fun p8 J k => ∃ s9 s10, p_chacha_State_L2 N a2 k s9 s10 = some p8 ∧ J [5, 6, 7] 2 [(23, (j64 s10))] [(1, .var (eA 16 1 k32 s9))] []) N (fun _ h => ⟨_, _, h, jr⟩) (fun p8 k s hI => ?_) fun p8 => ?_
  ·obtain ⟨s9, s10, h, hj⟩ := hI
   cases k with
   | zero => cases h
   | succ k =>
    refine At.jr hj ?_ h
    refine At.c 1 ?_ ?_
    ·refine At.b 6 (fun _ e => big_slI hT (N := 12) (k := 1) k8 a2 e) fun s11 => ?_
     refine At.b 0 (fun _ e => big_C [] (chacha_number_ok e)) fun r12 => ?_
     refine At.b 0 (fun _ e => big_adR hT (k := 1) 1 [] 0 e) fun u13 => ?_
     refine At.b 0 (fun _ e => big_stV hT k32 0 s9 e r12 (by kernel_rfl) (by kernel_rfl) (H' := [.var (eA 16 1 k32 (Vector.replicate 16 0)), .var (eA 16 1 k32 (s9.setIfInBounds ((I64 (13 + s10)).toNat) r12))])) fun e14 => ?_
     exact fun h => At.k 2 ⟨_, _, h, jr⟩
    ·apply rt; exact At.x 0
  ·apply rt; exact At.r 2

def m_chacha_Quarter : Nat → Bool := imL [1]

def p_chacha_Quarter (N : Nat) (a0 : (Vector Int 4)) : Option ((Vector Int 4)) :=
 Option.bind (idx a0.toList 0) fun e1 =>
 Option.bind (idx a0.toList 1) fun e2 =>
 Option.bind (idx a0.toList 2) fun e3 =>
 Option.bind (idx a0.toList 3) fun e4 =>
 letO (bxor .u32 e4 (U32 (e1 + e2))) fun x5 =>
 Option.bind (p_math_bits_RotateLeft32 N x5 16) fun r6 =>
 letO (bxor .u32 e2 (U32 (e3 + r6))) fun x7 =>
 Option.bind (p_math_bits_RotateLeft32 N x7 12) fun r8 =>
 letO (U32 ((U32 (e1 + e2)) + r8)) fun x9 =>
 Option.bind (p_math_bits_RotateLeft32 N (bxor .u32 r6 x9) 8) fun r10 =>
 letO (U32 ((U32 (e3 + r6)) + r10)) fun x11 =>
 Option.bind (p_math_bits_RotateLeft32 N (bxor .u32 r8 x11) 7) fun r12 =>
 some (#v[x9, r12, x11, r10])

theorem chacha_Quarter_ok {N a0 r} (h : p_chacha_Quarter N a0 = some r) : FnM Tryz.prog 209 [] [(eA 4 1 k32 a0)] (eA 4 1 k32 r) [] := by
 unfold p_chacha_Quarter at h
 refine At.f m_chacha_Quarter hT hmo Tryz.func209 rfl h ?_
 refine bi fun e1 he1 => ?_
 refine bi fun e2 he2 => ?_
 refine bi fun e3 he3 => ?_
 refine bi fun e4 he4 => ?_
 refine At.d 2 (dE1 0 (fun _ => big_adI hT (N := 4) (k := 1) k32 a0 he1) (dE1 2 (fun _ => big_adI hT (N := 4) (k := 1) k32 a0 he2) (dE1 4 (fun _ => big_adI hT (N := 4) (k := 1) k32 a0 he3) (dE1 6 (fun _ => big_adI hT (N := 4) (k := 1) k32 a0 he4) dE0)))) dF0 ?_
 refine lx ?_; intro x5
 refine At.b 7 (fun _ e => big_C [] (math_bits_RotateLeft32_ok e)) fun r6 => ?_
 refine lx ?_; intro x7
 refine At.b 8 (fun _ e => big_C [] (math_bits_RotateLeft32_ok e)) fun r8 => ?_
 refine lx ?_; intro x9
 refine At.b 8 (fun _ e => big_C [] (math_bits_RotateLeft32_ok e)) fun r10 => ?_
 refine lx ?_; intro x11
 refine At.b 8 (fun _ e => big_C [] (math_bits_RotateLeft32_ok e)) fun r12 => ?_
 apply rt; exact At.r 7

def m_chacha_Block : Nat → Bool := imL [3, 5]

def p_chacha_Block_L2 (N : Nat)  : Nat → (Vector Int 16) → Int → Option ((Vector Int 16))
 | 0, _, _ => none
 | k + 1, s6, s7 =>
  cond (decide (s7 < 8)) (
   Option.bind (idx (#v[#v[0, 4, 8, 12], #v[1, 5, 9, 13], #v[2, 6, 10, 14], #v[3, 7, 11, 15], #v[0, 5, 10, 15], #v[1, 6, 11, 12], #v[2, 7, 8, 13], #v[3, 4, 9, 14]]).toList s7) fun e8 =>
   Option.bind (inRO 0 4) fun _ =>
   Option.bind (e8.toList[(Int.toNat 0)]?) fun e10 =>
   Option.bind (inRO e10 16) fun _ =>
   Option.bind (s6.toList[e10.toNat]?) fun e12 =>
   Option.bind (inRO 1 4) fun _ =>
   Option.bind (e8.toList[(Int.toNat 1)]?) fun e14 =>
   Option.bind (inRO e14 16) fun _ =>
   Option.bind (s6.toList[e14.toNat]?) fun e16 =>
   Option.bind (inRO 2 4) fun _ =>
   Option.bind (e8.toList[(Int.toNat 2)]?) fun e18 =>
   Option.bind (inRO e18 16) fun _ =>
   Option.bind (s6.toList[e18.toNat]?) fun e20 =>
   Option.bind (inRO 3 4) fun _ =>
   Option.bind (e8.toList[(Int.toNat 3)]?) fun e22 =>
   Option.bind (inRO e22 16) fun _ =>
   Option.bind (s6.toList[e22.toNat]?) fun e24 =>
   Option.bind (p_chacha_Quarter N (#v[e12, e16, e20, e24])) fun r25 =>
   Option.bind (inRO 0 4) fun _ =>
   Option.bind (e8.toList[(Int.toNat 0)]?) fun e27 =>
   Option.bind (inRO 1 4) fun _ =>
   Option.bind (e8.toList[(Int.toNat 1)]?) fun e29 =>
   Option.bind (inRO 2 4) fun _ =>
   Option.bind (e8.toList[(Int.toNat 2)]?) fun e31 =>
   Option.bind (inRO 3 4) fun _ =>
   Option.bind (e8.toList[(Int.toNat 3)]?) fun e33 =>
   Option.bind (inRO 0 4) fun _ =>
   Option.bind (r25.toList[(Int.toNat 0)]?) fun e35 =>
   Option.bind (inRO 1 4) fun _ =>
   Option.bind (r25.toList[(Int.toNat 1)]?) fun e37 =>
   Option.bind (inRO 2 4) fun _ =>
   Option.bind (r25.toList[(Int.toNat 2)]?) fun e39 =>
   Option.bind (inRO 3 4) fun _ =>
   Option.bind (r25.toList[(Int.toNat 3)]?) fun e41 =>
   Option.bind (inRO e27 16) fun _ =>
   Option.bind (s6.toList[e27.toNat]?) fun e43 =>
   Option.bind (inRO e29 16) fun _ =>
   Option.bind ((s6.setIfInBounds e27.toNat e35).toList[e29.toNat]?) fun e45 =>
   Option.bind (inRO e31 16) fun _ =>
   Option.bind (((s6.setIfInBounds e27.toNat e35).setIfInBounds e29.toNat e37).toList[e31.toNat]?) fun e47 =>
   Option.bind (inRO e33 16) fun _ =>
   Option.bind ((((s6.setIfInBounds e27.toNat e35).setIfInBounds e29.toNat e37).setIfInBounds e31.toNat e39).toList[e33.toNat]?) fun e49 =>
   p_chacha_Block_L2 N k ((((s6.setIfInBounds e27.toNat e35).setIfInBounds e29.toNat e37).setIfInBounds e31.toNat e39).setIfInBounds e33.toNat e41) (I64 (s7 + 1))) (
   some s6)

def p_chacha_Block_L1 (N : Nat)  : Nat → (Vector Int 16) → Int → Option ((Vector Int 16))
 | 0, _, _ => none
 | k + 1, s3, s4 =>
  cond (decide (s4 < 10)) (
   Option.bind (p_chacha_Block_L2 N N s3 0) fun p5 =>
   p_chacha_Block_L1 N k p5 (I64 (s4 + 1))) (
   some s3)

def p_chacha_Block_L3 (N : Nat) (p2 : (Vector Int 16)) (r1 : (Vector Int 16)) : Nat → (Vector Int 64) → Int → Option ((Vector Int 64))
 | 0, _, _ => none
 | k + 1, s51, s52 =>
  cond (decide (s52 < 16)) (
   Option.bind (idx p2.toList s52) fun e53 =>
   Option.bind (inRO s52 16) fun _ =>
   Option.bind (r1.toList[s52.toNat]?) fun e55 =>
   letO (I64 ((I64 (4 * s52)) + 1)) fun x56 =>
   letO (I64 ((I64 (4 * s52)) + 2)) fun x57 =>
   letO (I64 ((I64 (4 * s52)) + 3)) fun x58 =>
   letO (shr .u32 (U32 (e53 + e55)) 8) fun x59 =>
   letO (shr .u32 (U32 (e53 + e55)) 16) fun x60 =>
   letO (shr .u32 (U32 (e53 + e55)) 24) fun x61 =>
   Option.bind (inRO (I64 (4 * s52)) 64) fun _ =>
   Option.bind (s51.toList[(I64 (4 * s52)).toNat]?) fun e63 =>
   Option.bind (inRO x56 64) fun _ =>
   Option.bind ((s51.setIfInBounds ((I64 (4 * s52)).toNat) (U8 (U32 (e53 + e55)))).toList[x56.toNat]?) fun e65 =>
   Option.bind (inRO x57 64) fun _ =>
   Option.bind (((s51.setIfInBounds ((I64 (4 * s52)).toNat) (U8 (U32 (e53 + e55)))).setIfInBounds x56.toNat (U8 x59)).toList[x57.toNat]?) fun e67 =>
   Option.bind (inRO x58 64) fun _ =>
   Option.bind ((((s51.setIfInBounds ((I64 (4 * s52)).toNat) (U8 (U32 (e53 + e55)))).setIfInBounds x56.toNat (U8 x59)).setIfInBounds x57.toNat (U8 x60)).toList[x58.toNat]?) fun e69 =>
   p_chacha_Block_L3 N p2 r1 k ((((s51.setIfInBounds ((I64 (4 * s52)).toNat) (U8 (U32 (e53 + e55)))).setIfInBounds x56.toNat (U8 x59)).setIfInBounds x57.toNat (U8 x60)).setIfInBounds x58.toNat (U8 x61)) (I64 (s52 + 1))) (
   some s51)

def p_chacha_Block (N : Nat) (a0 : (Vector Int 32)) (a1 : Int) (a2 : (Vector Int 12)) : Option ((Vector Int 64)) :=
 Option.bind (p_chacha_State N a0 a1 a2) fun r1 =>
 Option.bind (p_chacha_Block_L1 N N r1 0) fun p2 =>
 Option.bind (p_chacha_Block_L3 N p2 r1 N (Vector.replicate 64 0) 0) fun p50 =>
 some p50

theorem chacha_Block_ok {N a0 a1 a2 r} (h : p_chacha_Block N a0 a1 a2 = some r) : FnM Tryz.prog 178 [] [(eA 32 1 k8 a0), (k32 a1), (eA 12 1 k8 a2)] (eA 64 1 k8 r) [] := by
 unfold p_chacha_Block at h
 refine At.f m_chacha_Block hT hmo Tryz.func178 rfl h ?_
 refine At.b 6 (fun _ e => big_C [] (chacha_State_ok e)) fun r1 => ?_
 refine At.L 17 [6, 7, 8] 4 (fun p2 => ([], [(2, .var (eA 16 1 k32 p2))], [])) (fun p2 J k => ∃ s3 s4, p_chacha_Block_L1 N k s3 s4 = some p2 ∧ J [6, 7, 8, 9] 4 [(30, (j64 s4))] [(2, .var (eA 16 1 k32 s3))] []) N (fun _ h => ⟨_, _, h, jr⟩) (fun p2 k s hI => ?_) fun p2 => ?_
 ·obtain ⟨s3, s4, h, hj⟩ := hI
  cases k with
  | zero => cases h
  | succ k =>
   refine At.jr hj ?_ h
   refine At.c 1 ?_ ?_
   ·refine At.L 2 [6, 7, 8, 9, 30] 4 (fun p5 => ([], [(2, .var (eA 16 1 k32 p5))], [])) (fun p5 J k => ∃ s6 s7, p_chacha_Block_L2 N k s6 s7 = some p5 ∧ J [6, 7, 8, 9, 30, 32] 4 [(33, (j64 s7))] [(2, .var (eA 16 1 k32 s6))] []) N (fun _ h => ⟨_, _, h, jr⟩) (fun p5 k s hI => ?_) fun p5 => ?_
    ·obtain ⟨s6, s7, h, hj⟩ := hI
     cases k with
     | zero => cases h
     | succ k =>
      refine At.jr hj ?_ h
      refine At.c 1 ?_ ?_
      ·refine At.b 0 (fun _ e => big_ixA hT (eA 4 1 j64) (#v[#v[0, 4, 8, 12], #v[1, 5, 9, 13], #v[2, 6, 10, 14], #v[3, 7, 11, 15], #v[0, 5, 10, 15], #v[1, 6, 11, 12], #v[2, 7, 8, 13], #v[3, 4, 9, 14]]) e (by kernel_rfl) (by kernel_rfl)) fun e8 => ?_
       refine bi fun u9 hu9 => ?_
       refine bi fun e10 he10 => ?_
       refine bi fun u11 hu11 => ?_
       refine bi fun e12 he12 => ?_
       refine bi fun u13 hu13 => ?_
       refine bi fun e14 he14 => ?_
       refine bi fun u15 hu15 => ?_
       refine bi fun e16 he16 => ?_
       refine bi fun u17 hu17 => ?_
       refine bi fun e18 he18 => ?_
       refine bi fun u19 hu19 => ?_
       refine bi fun e20 he20 => ?_
       refine bi fun u21 hu21 => ?_
       refine bi fun e22 he22 => ?_
       refine bi fun u23 hu23 => ?_
       refine bi fun e24 he24 => ?_
       refine bi fun r25 hr25 => ?_
       refine At.d 2 (dE1 0 (fun _ => big_adR hT (k := 1) 4 [] 0 hu9) (dEL hT 1 (j64 e10) j64 0 he10 (dE1 2 (fun _ => big_adR hT (k := 1) 2 [] 0 hu11) (dEL hT 3 (k32 e12) k32 0 he12 (dE1 4 (fun _ => big_adR hT (k := 1) 4 [] 0 hu13) (dEL hT 5 (j64 e14) j64 0 he14 (dE1 6 (fun _ => big_adR hT (k := 1) 2 [] 0 hu15) (dEL hT 7 (k32 e16) k32 0 he16 (dE1 8 (fun _ => big_adR hT (k := 1) 4 [] 0 hu17) (dEL hT 9 (j64 e18) j64 0 he18 (dE1 10 (fun _ => big_adR hT (k := 1) 2 [] 0 hu19) (dEL hT 11 (k32 e20) k32 0 he20 (dE1 12 (fun _ => big_adR hT (k := 1) 4 [] 0 hu21) (dEL hT 13 (j64 e22) j64 0 he22 (dE1 14 (fun _ => big_adR hT (k := 1) 2 [] 0 hu23) (dEL hT 15 (k32 e24) k32 0 he24 (dE2 17 (eA 4 1 k32 r25) (fun _ => big_C0 (chacha_Quarter_ok hr25)) dE0))))))))))))))))) dF0 ?_
       refine bi fun u26 hu26 => ?_
       refine bi fun e27 he27 => ?_
       refine bi fun u28 hu28 => ?_
       refine bi fun e29 he29 => ?_
       refine bi fun u30 hu30 => ?_
       refine bi fun e31 he31 => ?_
       refine bi fun u32 hu32 => ?_
       refine bi fun e33 he33 => ?_
       refine bi fun u34 hu34 => ?_
       refine bi fun e35 he35 => ?_
       refine bi fun u36 hu36 => ?_
       refine bi fun e37 he37 => ?_
       refine bi fun u38 hu38 => ?_
       refine bi fun e39 he39 => ?_
       refine bi fun u40 hu40 => ?_
       refine bi fun e41 he41 => ?_
       refine bi fun u42 hu42 => ?_
       refine bi fun e43 he43 => ?_
       refine bi fun u44 hu44 => ?_
       refine bi fun e45 he45 => ?_
       refine bi fun u46 hu46 => ?_
       refine bi fun e47 he47 => ?_
       refine bi fun u48 hu48 => ?_
       refine bi fun e49 he49 => ?_
       refine At.d 0 (dE1 0 (fun _ => big_adR hT (k := 1) 4 [] 0 hu26) (dEL hT 1 (j64 e27) j64 0 he27 (dE1 2 (fun _ => big_adR hT (k := 1) 4 [] 0 hu28) (dEL hT 3 (j64 e29) j64 0 he29 (dE1 4 (fun _ => big_adR hT (k := 1) 4 [] 0 hu30) (dEL hT 5 (j64 e31) j64 0 he31 (dE1 6 (fun _ => big_adR hT (k := 1) 4 [] 0 hu32) (dEL hT 7 (j64 e33) j64 0 he33 (dE1 8 (fun _ => big_adR hT (k := 1) 5 [] 0 hu34) (dEL hT 9 (k32 e35) k32 0 he35 (dE1 10 (fun _ => big_adR hT (k := 1) 5 [] 0 hu36) (dEL hT 11 (k32 e37) k32 0 he37 (dE1 12 (fun _ => big_adR hT (k := 1) 5 [] 0 hu38) (dEL hT 13 (k32 e39) k32 0 he39 (dE1 14 (fun _ => big_adR hT (k := 1) 5 [] 0 hu40) (dEL hT 15 (k32 e41) k32 0 he41 (dE1 16 (fun _ => big_adR hT (k := 1) 2 [] 0 hu42) (dE1 18 (fun _ => big_adR hT (k := 1) 2 [] 0 hu44) (dE1 20 (fun _ => big_adR hT (k := 1) 2 [] 0 hu46) (dE1 22 (fun _ => big_adR hT (k := 1) 2 [] 0 hu48) dE0)))))))))))))))))))) (dF 17 (.v (.bool false)) [(2, .var (eA 16 1 k32 (s6.setIfInBounds e27.toNat e35)))] [] (big_at (big_stV hT k32 0 s6 he43 e35 (by kernel_rfl) (by kernel_rfl) (H' := [.var (eA 64 1 k8 (Vector.replicate 64 0)), .var (eA 16 1 k32 r1), .var (eA 16 1 k32 (s6.setIfInBounds e27.toNat e35)), .var cv_2, .var (eA 4 1 j64 e8), .var (eA 4 1 k32 r25)]))) (dF 19 (.v (.bool false)) [(2, .var (eA 16 1 k32 ((s6.setIfInBounds e27.toNat e35).setIfInBounds e29.toNat e37)))] [] (big_at (big_stV hT k32 0 (s6.setIfInBounds e27.toNat e35) he45 e37 (by kernel_rfl) (by kernel_rfl) (H' := [.var (eA 64 1 k8 (Vector.replicate 64 0)), .var (eA 16 1 k32 r1), .var (eA 16 1 k32 ((s6.setIfInBounds e27.toNat e35).setIfInBounds e29.toNat e37)), .var cv_2, .var (eA 4 1 j64 e8), .var (eA 4 1 k32 r25)]))) (dF 21 (.v (.bool false)) [(2, .var (eA 16 1 k32 (((s6.setIfInBounds e27.toNat e35).setIfInBounds e29.toNat e37).setIfInBounds e31.toNat e39)))] [] (big_at (big_stV hT k32 0 ((s6.setIfInBounds e27.toNat e35).setIfInBounds e29.toNat e37) he47 e39 (by kernel_rfl) (by kernel_rfl) (H' := [.var (eA 64 1 k8 (Vector.replicate 64 0)), .var (eA 16 1 k32 r1), .var (eA 16 1 k32 (((s6.setIfInBounds e27.toNat e35).setIfInBounds e29.toNat e37).setIfInBounds e31.toNat e39)), .var cv_2, .var (eA 4 1 j64 e8), .var (eA 4 1 k32 r25)]))) (dF 23 (.v (.bool false)) [(2, .var (eA 16 1 k32 ((((s6.setIfInBounds e27.toNat e35).setIfInBounds e29.toNat e37).setIfInBounds e31.toNat e39).setIfInBounds e33.toNat e41)))] [] (big_at (big_stV hT k32 0 (((s6.setIfInBounds e27.toNat e35).setIfInBounds e29.toNat e37).setIfInBounds e31.toNat e39) he49 e41 (by kernel_rfl) (by kernel_rfl) (H' := [.var (eA 64 1 k8 (Vector.replicate 64 0)), .var (eA 16 1 k32 r1), .var (eA 16 1 k32 ((((s6.setIfInBounds e27.toNat e35).setIfInBounds e29.toNat e37).setIfInBounds e31.toNat e39).setIfInBounds e33.toNat e41)), .var cv_2, .var (eA 4 1 j64 e8), .var (eA 4 1 k32 r25)]))) dF0)))) ?_
       exact fun h => At.k 2 ⟨_, _, h, jr⟩
      ·apply rt; exact At.x 0
    ·exact fun h => At.k 2 ⟨_, _, h, jr⟩
   ·apply rt; exact At.x 0
 ·refine At.L 3 [6, 13] 5 (fun p50 => ([], [(4, .var (eA 64 1 k8 p50))], [])) (fun p50 J k => ∃ s51 s52, p_chacha_Block_L3 N p2 r1 k s51 s52 = some p50 ∧ J [6, 7, 13, 76] 5 [(77, (j64 s52))] [(4, .var (eA 64 1 k8 s51))] []) N (fun _ h => ⟨_, _, h, jr⟩) (fun p50 k s hI => ?_) fun p50 => ?_
  ·obtain ⟨s51, s52, h, hj⟩ := hI
   cases k with
   | zero => cases h
   | succ k =>
    refine At.jr hj ?_ h
    refine At.c 1 ?_ ?_
    ·refine At.b 1 (fun _ e => big_ixA hT k32 p2 e (by kernel_rfl) (by kernel_rfl)) fun e53 => ?_
     refine At.b 4 (fun _ e => big_adR hT (k := 1) 1 [] 0 e) fun u54 => ?_
     refine At.b 0 (fun _ e => big_ldE hT k32 0 e) fun e55 => ?_
     refine lx ?_; intro x56
     refine lx ?_; intro x57
     refine lx ?_; intro x58
     refine lx ?_; intro x59
     refine lx ?_; intro x60
     refine lx ?_; intro x61
     refine At.b 24 (fun _ e => big_adR hT (k := 1) 4 [] 0 e) fun u62 => ?_
     refine At.b 0 (fun _ e => big_stV hT k8 0 s51 e (U8 (U32 (e53 + e55))) (by kernel_rfl) (by kernel_rfl) (H' := [.var (eA 64 1 k8 (Vector.replicate 64 0)), .var (eA 16 1 k32 r1), .var (eA 16 1 k32 p2), .var cv_2, .var (eA 64 1 k8 (s51.setIfInBounds ((I64 (4 * s52)).toNat) (U8 (U32 (e53 + e55)))))])) fun e63 => ?_
     refine At.b 0 (fun _ e => big_adR hT (k := 1) 4 [] 0 e) fun u64 => ?_
     refine At.b 0 (fun _ e => big_stV hT k8 0 (s51.setIfInBounds ((I64 (4 * s52)).toNat) (U8 (U32 (e53 + e55)))) e (U8 x59) (by kernel_rfl) (by kernel_rfl) (H' := [.var (eA 64 1 k8 (Vector.replicate 64 0)), .var (eA 16 1 k32 r1), .var (eA 16 1 k32 p2), .var cv_2, .var (eA 64 1 k8 ((s51.setIfInBounds ((I64 (4 * s52)).toNat) (U8 (U32 (e53 + e55)))).setIfInBounds x56.toNat (U8 x59)))])) fun e65 => ?_
     refine At.b 0 (fun _ e => big_adR hT (k := 1) 4 [] 0 e) fun u66 => ?_
     refine At.b 0 (fun _ e => big_stV hT k8 0 ((s51.setIfInBounds ((I64 (4 * s52)).toNat) (U8 (U32 (e53 + e55)))).setIfInBounds x56.toNat (U8 x59)) e (U8 x60) (by kernel_rfl) (by kernel_rfl) (H' := [.var (eA 64 1 k8 (Vector.replicate 64 0)), .var (eA 16 1 k32 r1), .var (eA 16 1 k32 p2), .var cv_2, .var (eA 64 1 k8 (((s51.setIfInBounds ((I64 (4 * s52)).toNat) (U8 (U32 (e53 + e55)))).setIfInBounds x56.toNat (U8 x59)).setIfInBounds x57.toNat (U8 x60)))])) fun e67 => ?_
     refine At.b 0 (fun _ e => big_adR hT (k := 1) 4 [] 0 e) fun u68 => ?_
     refine At.b 0 (fun _ e => big_stV hT k8 0 (((s51.setIfInBounds ((I64 (4 * s52)).toNat) (U8 (U32 (e53 + e55)))).setIfInBounds x56.toNat (U8 x59)).setIfInBounds x57.toNat (U8 x60)) e (U8 x61) (by kernel_rfl) (by kernel_rfl) (H' := [.var (eA 64 1 k8 (Vector.replicate 64 0)), .var (eA 16 1 k32 r1), .var (eA 16 1 k32 p2), .var cv_2, .var (eA 64 1 k8 ((((s51.setIfInBounds ((I64 (4 * s52)).toNat) (U8 (U32 (e53 + e55)))).setIfInBounds x56.toNat (U8 x59)).setIfInBounds x57.toNat (U8 x60)).setIfInBounds x58.toNat (U8 x61)))])) fun e69 => ?_
     exact fun h => At.k 2 ⟨_, _, h, jr⟩
    ·apply rt; exact At.x 0
  ·apply rt; exact At.r 2

end Go.UK

