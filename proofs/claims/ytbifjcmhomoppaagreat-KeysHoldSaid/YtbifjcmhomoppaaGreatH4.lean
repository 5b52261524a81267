/- A part of the proof: what the functions of the program compute. -/
import Derived.Test.YtbifjcmhomoppaaGreatH3
namespace Go.UK
open Go Go.Proofs
set_option maxRecDepth 20000
set_option maxHeartbeats 4000000
set_option linter.all false

attribute [local irreducible] adv putPt dropPt setPt brPt litPt cutPt restPt popN unrPt stPt envPt boxPt opPt opP2t ksPt lPt owp awl aw FnM NatFn opS Stab TOK Big
def m_mesh_Encode : Nat → Bool := imL [1]

def p_mesh_Encode_L1 (N : Nat) (x4 : Int) (a0 : S_api_Mesh) : Nat → (List Int) → Int → Option ((List Int))
 | 0, _, _ => none
 | k + 1, s6, s7 =>
  cond (decide (s7 < x4)) (
   Option.bind (idx a0.gVerts s7) fun e8 =>
   Option.bind (p_codec_Signed N s6 2 ([e8.gX, e8.gY, e8.gZ])) fun r9 =>
   p_mesh_Encode_L1 N x4 a0 k r9.1 (I64 (s7 + 1))) (
   some s6)

def p_mesh_Encode_L2 (N : Nat) (a0 : S_api_Mesh) : Nat → (List Int) → Int → Option ((List Int))
 | 0, _, _ => none
 | k + 1, s11, s12 =>
  letO (decide (s12 < ((a0.gUvs.length : Int)))) fun x13 =>
  cond x13 (
   Option.bind (idx a0.gUvs s12) fun e14 =>
   Option.bind (inRO 0 2) fun _ =>
   Option.bind (e14.toList[(Int.toNat 0)]?) fun e16 =>
   Option.bind (inRO 1 2) fun _ =>
   Option.bind (e14.toList[(Int.toNat 1)]?) fun e18 =>
   Option.bind (p_codec_Put N s11 2 ([U64 e16, U64 e18])) fun r19 =>
   p_mesh_Encode_L2 N a0 k r19.1 (I64 (s12 + 1))) (
   some s11)

def p_mesh_Encode_L3 (N : Nat) (x20 : Int) (a0 : S_api_Mesh) : Nat → (List Int) → Int → Option ((List Int))
 | 0, _, _ => none
 | k + 1, s22, s23 =>
  cond (decide (s23 < x20)) (
   Option.bind (idx a0.gTris s23) fun e24 =>
   Option.bind (inRO 0 3) fun _ =>
   Option.bind (e24.toList[(Int.toNat 0)]?) fun e26 =>
   Option.bind (inRO 1 3) fun _ =>
   Option.bind (e24.toList[(Int.toNat 1)]?) fun e28 =>
   Option.bind (inRO 2 3) fun _ =>
   Option.bind (e24.toList[(Int.toNat 2)]?) fun e30 =>
   Option.bind (appO 1 s22 (([U8 e26, U8 e28, U8 e30] : List Int))) fun z31 =>
   p_mesh_Encode_L3 N x20 a0 k z31 (I64 (s23 + 1))) (
   some s22)

def p_mesh_Encode (N : Nat) (a0 : S_api_Mesh) : Option ((List Int) × Int) :=
 Option.bind (p_mesh_Check N a0) fun r1 =>
 cond (r1 != 0) (
  some (([], r1))) (
  letO ((a0.gVerts.length : Int)) fun x2 =>
  letO ((a0.gTris.length : Int)) fun x3 =>
  letO ((a0.gVerts.length : Int)) fun x4 =>
  Option.bind (p_mesh_Encode_L1 N x4 a0 N (([U8 x2, U8 x3] : List Int)) 0) fun p5 =>
  Option.bind (p_mesh_Encode_L2 N a0 N p5 0) fun p10 =>
  letO ((a0.gTris.length : Int)) fun x20 =>
  Option.bind (p_mesh_Encode_L3 N x20 a0 N p10 0) fun p21 =>
  some ((p21, 0)))

theorem mesh_Encode_ok {N : Nat} {a0 : S_api_Mesh} {r : (List Int) × Int} (h : p_mesh_Encode N a0 = some r) : FnM Tryz.prog 128 [] [(S_api_Mesh.enc a0)] (.tup [(eL 1 k8 r.1), (j64 r.2)]) [] := by
 unfold p_mesh_Encode at h
 refine At.fn m_mesh_Encode hT hmo (m := 87) (lo := 0) (rs := [.tmp 2, .tmp 3]) Tryz.func128 rfl rfl h ?_
 refine At.b 4 (fun _ e => big_call [] (mesh_Check_ok e) mesh_Check_ok_c) fun r1 => ?_
 refine At.c 3 ?_ ?_
 ·apply rt; exact At.r 3
 ·refine lx ?_; intro x2
  refine lx ?_; intro x3
  refine At.o 8 (big_rowO hT k8 (k := 1) ([U8 x2, U8 x3] : List Int) (by kernel_rfl) (by kernel_rfl)) ?_
  refine lx ?_; intro x4
  refine At.l 5 (fun p5 => ⟨[en 1 (.im (S_api_Mesh.enc a0)), en 5 (eO 0 1 k8 p5)], [.tail (p5.length * 1)]⟩) (fun p5 J k s => ∃ s6 s7, p_mesh_Encode_L1 N x4 a0 k s6 s7 = some p5 ∧ J ⟨[en 1 (.im (S_api_Mesh.enc a0)), en 5 (eO 0 1 k8 s6), en 27 (eL 3 S_api_Point.enc a0.gVerts), en 28 (j64 x4), en 29 (j64 s7)], [.tail (s6.length * 1)]⟩ s) N (fun _ h => ⟨_, _, h, jr⟩) (fun p5 k s hI => ?_) fun p5 => ?_
  ·obtain ⟨s6, s7, h, hj⟩ := hI
   cases k with
   | zero => cases h
   | succ k =>
    refine At.jr hj ?_ h
    refine At.c 1 ?_ ?_
    ·refine At.b 0 (fun _ e => big_idx hT S_api_Point.enc e) fun e8 => ?_
     refine At.o 10 (big_row hT (x := (.sl 1 3 [(j64 e8.gX), (j64 e8.gY), (j64 e8.gZ)]))) ?_
     refine At.b 0 (fun _ e => big_call [] (codec_Signed_ok e) codec_Signed_ok_c) fun r9 => ?_
     exact fun h => At.k 6 ⟨_, _, h, (jr_sw 2 0 (by kernel_rfl) jr)⟩
    ·apply rt; exact At.x 0
  ·refine At.l 4 (fun p10 => ⟨[en 1 (.im (S_api_Mesh.enc a0)), en 5 (eO 0 1 k8 p10)], [.tail (p10.length * 1)]⟩) (fun p10 J k s => ∃ s11 s12, p_mesh_Encode_L2 N a0 k s11 s12 = some p10 ∧ J ⟨[en 1 (.im (S_api_Mesh.enc a0)), en 5 (eO 0 1 k8 s11), en 47 (eL 2 (eA 2 1 j64) a0.gUvs), en 48 (j64 ((a0.gUvs.length : Int))), en 49 (j64 s12)], [.tail (s11.length * 1)]⟩ s) N (fun _ h => ⟨_, _, h, jr⟩) (fun p10 k s hI => ?_) fun p10 => ?_
   ·obtain ⟨s11, s12, h, hj⟩ := hI
    cases k with
    | zero => cases h
    | succ k =>
     refine At.jr hj ?_ h
     refine lx ?_; intro x13
     refine At.c 1 ?_ ?_
     ·refine At.b 0 (fun _ e => big_idx hT (eA 2 1 j64) e) fun e14 => ?_
      refine At.b 4 (fun _ e => big_adR hT (k := 1) 1 [] 0 e) fun u15 => ?_
      refine At.b 0 (fun _ e => big_ldE hT j64 0 e) fun e16 => ?_
      refine At.b 1 (fun _ e => big_adR hT (k := 1) 1 [] 0 e) fun u17 => ?_
      refine At.b 0 (fun _ e => big_ldE hT j64 0 e) fun e18 => ?_
      refine At.o 1 (big_row hT (x := (.sl 1 2 [(k64 (U64 e16)), (k64 (U64 e18))]))) ?_
      refine At.b 0 (fun _ e => big_call [] (codec_Put_ok e) codec_Put_ok_c) fun r19 => ?_
      exact fun h => At.k 6 ⟨_, _, h, (jr_sw 2 0 (by kernel_rfl) jr)⟩
     ·apply rt; exact At.x 0
   ·refine lx ?_; intro x20
    refine At.l 4 (fun p21 => ⟨[en 5 (eO 0 1 k8 p21)], [.tail (p21.length * 1)]⟩) (fun p21 J k s => ∃ s22 s23, p_mesh_Encode_L3 N x20 a0 k s22 s23 = some p21 ∧ J ⟨[en 5 (eO 0 1 k8 s22), en 67 (eL 3 (eA 3 1 j64) a0.gTris), en 68 (j64 x20), en 69 (j64 s23)], [.tail (s22.length * 1)]⟩ s) N (fun _ h => ⟨_, _, h, jr⟩) (fun p21 k s hI => ?_) fun p21 => ?_
    ·obtain ⟨s22, s23, h, hj⟩ := hI
     cases k with
     | zero => cases h
     | succ k =>
      refine At.jr hj ?_ h
      refine At.c 1 ?_ ?_
      ·refine At.b 0 (fun _ e => big_idx hT (eA 3 1 j64) e) fun e24 => ?_
       refine At.b 4 (fun _ e => big_adR hT (k := 1) 1 [] 0 e) fun u25 => ?_
       refine At.b 0 (fun _ e => big_ldE hT j64 0 e) fun e26 => ?_
       refine At.b 1 (fun _ e => big_adR hT (k := 1) 1 [] 0 e) fun u27 => ?_
       refine At.b 0 (fun _ e => big_ldE hT j64 0 e) fun e28 => ?_
       refine At.b 1 (fun _ e => big_adR hT (k := 1) 1 [] 0 e) fun u29 => ?_
       refine At.b 0 (fun _ e => big_ldE hT j64 0 e) fun e30 => ?_
       refine At.o 1 (big_row hT (x := (.sl 1 3 [(k8 (U8 e26)), (k8 (U8 e28)), (k8 (U8 e30))]))) ?_
       refine At.b 0 (fun _ e => big_app hT k8 (id := 0) (k := 1) e) fun z31 => ?_
       exact fun h => At.k 3 ⟨_, _, h, jr⟩
      ·apply rt; exact At.x 0
    ·apply rt; exact At.r 3

theorem mesh_Encode_ok_c : callable Tryz.prog 128 := ⟨_, Tryz.func128, by decide, rfl⟩

def m_texture_Encode : Nat → Bool := imL [1]

def p_texture_Encode_L1 (N : Nat) (x2 : Int) (a0 : S_api_Texture) : Nat → (List Int) → Int → Option ((List Int))
 | 0, _, _ => none
 | k + 1, s4, s5 =>
  cond (decide (s5 < x2)) (
   Option.bind (idx a0.gTexels s5) fun e6 =>
   Option.bind (inRO 0 3) fun _ =>
   Option.bind (e6.toList[(Int.toNat 0)]?) fun e8 =>
   Option.bind (inRO 1 3) fun _ =>
   Option.bind (e6.toList[(Int.toNat 1)]?) fun e10 =>
   Option.bind (inRO 2 3) fun _ =>
   Option.bind (e6.toList[(Int.toNat 2)]?) fun e12 =>
   Option.bind (appO 1 s4 (([U8 e8, U8 e10, U8 e12] : List Int))) fun z13 =>
   p_texture_Encode_L1 N x2 a0 k z13 (I64 (s5 + 1))) (
   some s4)

def p_texture_Encode (N : Nat) (a0 : S_api_Texture) : Option ((List Int) × Int) :=
 Option.bind (p_texture_Check N a0) fun r1 =>
 cond (r1 != 0) (
  some (([], r1))) (
  letO ((a0.gTexels.length : Int)) fun x2 =>
  Option.bind (p_texture_Encode_L1 N x2 a0 N (([U8 a0.gSide] : List Int)) 0) fun p3 =>
  some ((p3, 0)))

theorem texture_Encode_ok {N : Nat} {a0 : S_api_Texture} {r : (List Int) × Int} (h : p_texture_Encode N a0 = some r) : FnM Tryz.prog 129 [] [(S_api_Texture.enc a0)] (.tup [(eL 1 k8 r.1), (j64 r.2)]) [] := by
 unfold p_texture_Encode at h
 refine At.fn m_texture_Encode hT hmo (m := 38) (lo := 0) (rs := [.tmp 2, .tmp 3]) Tryz.func129 rfl rfl h ?_
 refine At.b 4 (fun _ e => big_call [] (texture_Check_ok e) texture_Check_ok_c) fun r1 => ?_
 refine At.c 3 ?_ ?_
 ·apply rt; exact At.r 3
 ·refine At.o 3 (big_rowO hT k8 (k := 1) ([U8 a0.gSide] : List Int) (by kernel_rfl) (by kernel_rfl)) ?_
  refine lx ?_; intro x2
  refine At.l 5 (fun p3 => ⟨[en 5 (eO 0 1 k8 p3)], [.tail (p3.length * 1)]⟩) (fun p3 J k s => ∃ s4 s5, p_texture_Encode_L1 N x2 a0 k s4 s5 = some p3 ∧ J ⟨[en 5 (eO 0 1 k8 s4), en 18 (eL 3 (eA 3 1 j64) a0.gTexels), en 19 (j64 x2), en 20 (j64 s5)], [.tail (s4.length * 1)]⟩ s) N (fun _ h => ⟨_, _, h, jr⟩) (fun p3 k s hI => ?_) fun p3 => ?_
  ·obtain ⟨s4, s5, h, hj⟩ := hI
   cases k with
   | zero => cases h
   | succ k =>
    refine At.jr hj ?_ h
    refine At.c 1 ?_ ?_
    ·refine At.b 0 (fun _ e => big_idx hT (eA 3 1 j64) e) fun e6 => ?_
     refine At.b 4 (fun _ e => big_adR hT (k := 1) 1 [] 0 e) fun u7 => ?_
     refine At.b 0 (fun _ e => big_ldE hT j64 0 e) fun e8 => ?_
     refine At.b 1 (fun _ e => big_adR hT (k := 1) 1 [] 0 e) fun u9 => ?_
     refine At.b 0 (fun _ e => big_ldE hT j64 0 e) fun e10 => ?_
     refine At.b 1 (fun _ e => big_adR hT (k := 1) 1 [] 0 e) fun u11 => ?_
     refine At.b 0 (fun _ e => big_ldE hT j64 0 e) fun e12 => ?_
     refine At.o 1 (big_row hT (x := (.sl 1 3 [(k8 (U8 e8)), (k8 (U8 e10)), (k8 (U8 e12))]))) ?_
     refine At.b 0 (fun _ e => big_app hT k8 (id := 0) (k := 1) e) fun z13 => ?_
     exact fun h => At.k 3 ⟨_, _, h, jr⟩
    ·apply rt; exact At.x 0
  ·apply rt; exact At.r 3

theorem texture_Encode_ok_c : callable Tryz.prog 129 := ⟨_, Tryz.func129, by decide, rfl⟩

def m_asset_encode : Nat → Bool := imL [1]

def p_asset_encode_L1 (N : Nat) (e4 : Int) (e6 : Int) (e8 : Int) (a0 : S_api_Asset) : Nat → (List Int) → Int → Option ((List Int))
 | 0, _, _ => none
 | k + 1, s10, s11 =>
  cond (decide (s11 < 4)) (
   Option.bind (idx ([e4, e6, e8, a0.gMaterial.gRough]) s11) fun e12 =>
   Option.bind (p_codec_Put N s10 2 ([U64 e12])) fun r13 =>
   p_asset_encode_L1 N e4 e6 e8 a0 k r13.1 (I64 (s11 + 1))) (
   some s10)

def p_asset_encode_L2 (N : Nat) (a0 : S_api_Asset) : Nat → (List Int) → Int → Option ((List Int))
 | 0, _, _ => none
 | k + 1, s22, s23 =>
  cond (decide (s23 < 3)) (
   Option.bind (idx ([a0.gLight.gAt, a0.gLight.gU, a0.gLight.gV]) s23) fun e24 =>
   Option.bind (p_codec_Signed N s22 2 ([e24.gX, e24.gY, e24.gZ])) fun r25 =>
   p_asset_encode_L2 N a0 k r25.1 (I64 (s23 + 1))) (
   some s22)

def p_asset_encode (N : Nat) (a0 : S_api_Asset) : Option ((List Int)) :=
 cond (a0.gKind == 1) (
  Option.bind (p_mesh_Encode N a0.gMesh) fun r1 =>
  some r1.1) (
  cond (a0.gKind == 2) (
   Option.bind (p_texture_Encode N a0.gTexture) fun r2 =>
   some r2.1) (
   cond (a0.gKind == 3) (
    Option.bind (inRO 0 3) fun _ =>
    Option.bind (a0.gMaterial.gColor.toList[(Int.toNat 0)]?) fun e4 =>
    Option.bind (inRO 1 3) fun _ =>
    Option.bind (a0.gMaterial.gColor.toList[(Int.toNat 1)]?) fun e6 =>
    Option.bind (inRO 2 3) fun _ =>
    Option.bind (a0.gMaterial.gColor.toList[(Int.toNat 2)]?) fun e8 =>
    Option.bind (p_asset_encode_L1 N e4 e6 e8 a0 N ([U8 a0.gMaterial.gKind]) 0) fun p9 =>
    some p9) (
    Option.bind (inRO 0 3) fun _ =>
    Option.bind (a0.gLight.gColor.toList[(Int.toNat 0)]?) fun e15 =>
    Option.bind (inRO 1 3) fun _ =>
    Option.bind (a0.gLight.gColor.toList[(Int.toNat 1)]?) fun e17 =>
    Option.bind (inRO 2 3) fun _ =>
    Option.bind (a0.gLight.gColor.toList[(Int.toNat 2)]?) fun e19 =>
    Option.bind (p_codec_Put N ([U8 a0.gLight.gKind]) 4 ([U64 e15, U64 e17, U64 e19])) fun r20 =>
    Option.bind (p_asset_encode_L2 N a0 N r20.1 0) fun p21 =>
    some p21)))

theorem asset_encode_ok {N : Nat} {a0 : S_api_Asset} {r : (List Int)} (h : p_asset_encode N a0 = some r) : FnM Tryz.prog 85 [] [(S_api_Asset.enc a0)] (eL 1 k8 r) [] := by
 unfold p_asset_encode at h
 refine At.fn m_asset_encode hT hmo (m := 120) (lo := 0) (rs := [.tmp 2]) Tryz.func85 rfl rfl h ?_
 refine At.c 6 ?_ ?_
 ·refine At.b 2 (fun _ e => big_call [] (mesh_Encode_ok e) mesh_Encode_ok_c) fun r1 => ?_
  apply rt; exact At.r 7
 ·refine At.c 2 ?_ ?_
  ·refine At.b 2 (fun _ e => big_call [] (texture_Encode_ok e) texture_Encode_ok_c) fun r2 => ?_
   apply rt; exact At.r 7
  ·refine At.c 2 ?_ ?_
   ·refine At.o 7 (big_row hT (x := (.sl 1 1 [(k8 (U8 a0.gMaterial.gKind))]))) ?_
    refine At.b 2 (fun _ e => big_adR hT (k := 1) 0 [1] 1 e) fun u3 => ?_
    refine At.b 0 (fun _ e => big_ldE hT j64 1 e) fun e4 => ?_
    refine At.b 1 (fun _ e => big_adR hT (k := 1) 0 [1] 1 e) fun u5 => ?_
    refine At.b 0 (fun _ e => big_ldE hT j64 1 e) fun e6 => ?_
    refine At.b 1 (fun _ e => big_adR hT (k := 1) 0 [1] 1 e) fun u7 => ?_
    refine At.b 0 (fun _ e => big_ldE hT j64 1 e) fun e8 => ?_
    refine At.o 2 (big_row hT (x := (.sl 1 4 [(j64 e4), (j64 e6), (j64 e8), (j64 a0.gMaterial.gRough)]))) ?_
    refine At.l 2 (fun p9 => ⟨[en 8 (eL 1 k8 p9)], [.var (S_api_Material.enc a0.gMaterial)]⟩) (fun p9 J k s => ∃ s10 s11, p_asset_encode_L1 N e4 e6 e8 a0 k s10 s11 = some p9 ∧ J ⟨[en 8 (eL 1 k8 s10), en 55 (.sl 1 4 [(j64 e4), (j64 e6), (j64 e8), (j64 a0.gMaterial.gRough)]), en 56 (j64 4), en 57 (j64 s11)], [.var (S_api_Material.enc a0.gMaterial)]⟩ s) N (fun _ h => ⟨_, _, h, jr⟩) (fun p9 k s hI => ?_) fun p9 => ?_
    ·obtain ⟨s10, s11, h, hj⟩ := hI
     cases k with
     | zero => cases h
     | succ k =>
      refine At.jr hj ?_ h
      refine At.c 1 ?_ ?_
      ·refine At.b 0 (fun _ e => big_idx hT j64 e) fun e12 => ?_
       refine At.o 5 (big_row hT (x := (.sl 1 1 [(k64 (U64 e12))]))) ?_
       refine At.b 0 (fun _ e => big_call [] (codec_Put_ok e) codec_Put_ok_c) fun r13 => ?_
       exact fun h => At.k 6 ⟨_, _, h, jr⟩
      ·apply rt; exact At.x 0
    ·apply rt; exact At.r 2
   ·refine At.o 7 (big_row hT (x := (.sl 1 1 [(k8 (U8 a0.gLight.gKind))]))) ?_
    refine At.b 1 (fun _ e => big_adR hT (k := 1) 0 [1] 1 e) fun u14 => ?_
    refine At.b 0 (fun _ e => big_ldE hT j64 1 e) fun e15 => ?_
    refine At.b 2 (fun _ e => big_adR hT (k := 1) 0 [1] 1 e) fun u16 => ?_
    refine At.b 0 (fun _ e => big_ldE hT j64 1 e) fun e17 => ?_
    refine At.b 2 (fun _ e => big_adR hT (k := 1) 0 [1] 1 e) fun u18 => ?_
    refine At.b 0 (fun _ e => big_ldE hT j64 1 e) fun e19 => ?_
    refine At.o 1 (big_row hT (x := (.sl 1 3 [(k64 (U64 e15)), (k64 (U64 e17)), (k64 (U64 e19))]))) ?_
    refine At.b 0 (fun _ e => big_call [] (codec_Put_ok e) codec_Put_ok_c) fun r20 => ?_
    refine At.o 11 (big_row hT (x := (.sl 3 3 [(S_api_Point.enc a0.gLight.gAt), (S_api_Point.enc a0.gLight.gU), (S_api_Point.enc a0.gLight.gV)]))) ?_
    refine At.l 2 (fun p21 => ⟨[en 12 (eO 1 1 k8 p21)], [.var (S_api_Light.enc a0.gLight), .tail (p21.length * 1)]⟩) (fun p21 J k s => ∃ s22 s23, p_asset_encode_L2 N a0 k s22 s23 = some p21 ∧ J ⟨[en 12 (eO 1 1 k8 s22), en 100 (.sl 3 3 [(S_api_Point.enc a0.gLight.gAt), (S_api_Point.enc a0.gLight.gU), (S_api_Point.enc a0.gLight.gV)]), en 101 (j64 3), en 102 (j64 s23)], [.var (S_api_Light.enc a0.gLight), .tail (s22.length * 1)]⟩ s) N (fun _ h => ⟨_, _, h, jr⟩) (fun p21 k s hI => ?_) fun p21 => ?_
    ·obtain ⟨s22, s23, h, hj⟩ := hI
     cases k with
     | zero => cases h
     | succ k =>
      refine At.jr hj ?_ h
      refine At.c 1 ?_ ?_
      ·refine At.b 0 (fun _ e => big_idx hT S_api_Point.enc e) fun e24 => ?_
       refine At.o 10 (big_row hT (x := (.sl 1 3 [(j64 e24.gX), (j64 e24.gY), (j64 e24.gZ)]))) ?_
       refine At.b 0 (fun _ e => big_call [] (codec_Signed_ok e) codec_Signed_ok_c) fun r25 => ?_
       exact fun h => At.k 6 ⟨_, _, h, (jr_sw 3 1 (by kernel_rfl) jr)⟩
      ·apply rt; exact At.x 0
    ·apply rt; exact At.r 2

theorem asset_encode_ok_c : callable Tryz.prog 85 := ⟨_, Tryz.func85, by decide, rfl⟩

def p_manifest_Cap (N : Nat) (a0 : Int) : Option (Int) :=
 letO (cond (decide (a0 < 0)) true (decide (a0 ≥ 5))) fun x1 =>
 cond x1 (
  some 0) (
  Option.bind (inRO a0 5) fun _ =>
  Option.bind ((#v[0, 2048, 1024, 64, 64]).toList[a0.toNat]?) fun e3 =>
  some e3)

theorem manifest_Cap_ok {N : Nat} {a0 : Int} {r : Int} (h : p_manifest_Cap N a0 = some r) : FnM Tryz.prog 127 [] [(j64 a0)] (j64 r) [] := by
 unfold p_manifest_Cap at h
 refine At.fn m_no hT hmo (m := 14) (lo := 0) (rs := [.tmp 2]) Tryz.func127 rfl rfl h ?_
 refine lx ?_; intro x1
 refine At.c 10 ?_ ?_
 ·apply rt; exact At.r 1
 ·refine At.b 1 (fun _ e => big_adR hT (k := 1) 0 [] 0 e) fun u2 => ?_
  refine At.b 0 (fun _ e => big_ldE hT j64 0 e) fun e3 => ?_
  apply rt; exact At.r 1

theorem manifest_Cap_ok_c : callable Tryz.prog 127 := ⟨_, Tryz.func127, by decide, rfl⟩

def m_asset_Check : Nat → Bool := imL [1]

def p_asset_Check (N : Nat) (a0 : S_api_Asset) : Option (Int) :=
 Option.bind (p_asset_own N a0) fun r1 =>
 cond (r1 != 0) (
  some r1) (
  Option.bind (p_asset_bare N a0) fun r2 =>
  Option.bind (p_asset_Same N r2 (S_api_Asset.mk a0.gKind (S_api_Mesh.mk [] [] []) (S_api_Texture.mk 0 []) (S_api_Material.mk 0 (#v[0, 0, 0]) 0) (S_api_Light.mk 0 (#v[0, 0, 0]) (S_api_Point.mk 0 0 0) (S_api_Point.mk 0 0 0) (S_api_Point.mk 0 0 0)))) fun r3 =>
  cond (!r3) (
   some 5) (
   Option.bind (p_asset_encode N a0) fun r4 =>
   Option.bind (p_manifest_Cap N a0.gKind) fun r5 =>
   letO (decide (((r4.length : Int)) > r5)) fun x6 =>
   cond x6 (some 9) (some 0)))

theorem asset_Check_ok {N : Nat} {a0 : S_api_Asset} {r : Int} (h : p_asset_Check N a0 = some r) : FnM Tryz.prog 84 [] [(S_api_Asset.enc a0)] (j64 r) [] := by
 unfold p_asset_Check at h
 refine At.fn m_asset_Check hT hmo (m := 23) (lo := 0) (rs := [.tmp 2]) Tryz.func84 rfl rfl h ?_
 refine At.b 3 (fun _ e => big_call [] (asset_own_ok e) asset_own_ok_c) fun r1 => ?_
 refine At.c 3 ?_ ?_
 ·apply rt; exact At.r 2
 ·refine bi fun r2 hr2 => ?_
  refine bi fun r3 hr3 => ?_
  refine At.d 0 (dE2 1 (S_api_Asset.enc r2) (fun _ => big_call0 (asset_bare_ok hr2) asset_bare_ok_c (by kernel_rfl) (by kernel_rfl) (by kernel_rfl)) (dE2 5 (eB r3) (fun _ => big_call0 (asset_Same_ok hr3) asset_Same_ok_c (by kernel_rfl) (by kernel_rfl) (by kernel_rfl)) dE0)) dF0 ?_
  refine At.c 0 ?_ ?_
  ·apply rt; exact At.r 1
  ·refine bi fun r4 hr4 => ?_
   refine bi fun r5 hr5 => ?_
   refine lx ?_; intro x6
   refine At.d 0 (dE2 1 (eL 1 k8 r4) (fun _ => big_call0 (asset_encode_ok hr4) asset_encode_ok_c (by kernel_rfl) (by kernel_rfl) (by kernel_rfl)) (dE2 5 (j64 r5) (fun _ => big_call0 (manifest_Cap_ok hr5) manifest_Cap_ok_c (by kernel_rfl) (by kernel_rfl) (by kernel_rfl)) dE0)) dF0 ?_
   refine At.c 0 ?_ ?_
   ·apply rt; exact At.r 1
   ·apply rt; exact At.r 1

theorem asset_Check_ok_c : callable Tryz.prog 84 := ⟨_, Tryz.func84, by decide, rfl⟩

def m_asset_Encode : Nat → Bool := imL [1]

def p_asset_Encode (N : Nat) (a0 : S_api_Asset) : Option ((List Int) × Int) :=
 Option.bind (p_asset_Check N a0) fun r1 =>
 cond (r1 != 0) (
  some (([], r1))) (
  Option.bind (p_asset_encode N a0) fun r2 =>
  some ((r2, 0)))

theorem asset_Encode_ok {N : Nat} {a0 : S_api_Asset} {r : (List Int) × Int} (h : p_asset_Encode N a0 = some r) : FnM Tryz.prog 51 [] [(S_api_Asset.enc a0)] (.tup [(eL 1 k8 r.1), (j64 r.2)]) [] := by
 unfold p_asset_Encode at h
 refine At.fn m_asset_Encode hT hmo (m := 12) (lo := 0) (rs := [.tmp 2, .tmp 3]) Tryz.func51 rfl rfl h ?_
 refine At.b 4 (fun _ e => big_call [] (asset_Check_ok e) asset_Check_ok_c) fun r1 => ?_
 refine At.c 3 ?_ ?_
 ·apply rt; exact At.r 3
 ·refine At.b 1 (fun _ e => big_call [] (asset_encode_ok e) asset_encode_ok_c) fun r2 => ?_
  apply rt; exact At.r 2

theorem asset_Encode_ok_c : callable Tryz.prog 51 := ⟨_, Tryz.func51, by decide, rfl⟩

def p_manifest_Chunks (N : Nat) (a0 : Int) : Option (Int) :=
 cond (decide (a0 < 1)) (
  some 0) (
  letO (I64 (Int.tdiv (I64 (a0 - 1)) 256)) fun x1 =>
  some (I64 (x1 + 1)))

theorem manifest_Chunks_ok {N : Nat} {a0 : Int} {r : Int} (h : p_manifest_Chunks N a0 = some r) : FnM Tryz.prog 52 [] [(j64 a0)] (j64 r) [] := by
 unfold p_manifest_Chunks at h
 refine At.fn m_no hT hmo (m := 9) (lo := 0) (rs := [.tmp 2]) Tryz.func52 rfl rfl h ?_
 refine At.c 3 ?_ ?_
 ·apply rt; exact At.r 1
 ·refine lx ?_; intro x1
  apply rt; exact At.r 5

theorem manifest_Chunks_ok_c : callable Tryz.prog 52 := ⟨_, Tryz.func52, by decide, rfl⟩

def m_manifest_Check : Nat → Bool := imL [1]

def p_manifest_Check_L1 (N : Nat) (a0 : S_api_Manifest) : Nat → Int → Option (Sum (Unit) (Int))
 | 0, _ => none
 | k + 1, s3 =>
  cond (decide (s3 < 8)) (
   Option.bind (idx a0.gMasks.toList s3) fun e4 =>
   cond (decide (e4 > 15)) (some (Sum.inr 5)) (p_manifest_Check_L1 N a0 k (I64 (s3 + 1)))) (
   some (Sum.inl (())))

def p_manifest_Check (N : Nat) (a0 : S_api_Manifest) : Option (Int) :=
 Option.bind (p_manifest_Cap N a0.gKind) fun r1 =>
 cond (r1 == 0) (
  some 12) (
  Option.bind (p_manifest_Check_L1 N a0 N 0) fun o => sumC o (fun p2 =>
   letO (decide (a0.gFrom > a0.gTo)) fun x5 =>
   letO (cond x5 true (decide (a0.gSize < 1))) fun x6 =>
   cond x6 (
    some 5) (
    cond (decide (a0.gSize > r1)) (
     some 9) (
     Option.bind (p_manifest_Chunks N a0.gSize) fun r7 =>
     cond (a0.gChunks != r7) (some 5) (some 0)))) (fun r => some r))

theorem manifest_Check_ok {N : Nat} {a0 : S_api_Manifest} {r : Int} (h : p_manifest_Check N a0 = some r) : FnM Tryz.prog 86 [] [(S_api_Manifest.enc a0)] (j64 r) [] := by
 unfold p_manifest_Check at h
 refine At.fn m_manifest_Check hT hmo (m := 42) (lo := 0) (rs := [.tmp 2]) Tryz.func86 rfl rfl h ?_
 refine At.b 4 (fun _ e => big_call [] (manifest_Cap_ok e) manifest_Cap_ok_c) fun r1 => ?_
 refine At.c 3 ?_ ?_
 ·apply rt; exact At.r 1
 ·refine At.ls 3 (fun p2 => ⟨[en 1 (.im (S_api_Manifest.enc a0)), en 3 (j64 r1)], []⟩) (fun op2 J k s => ∃ s3, p_manifest_Check_L1 N a0 k s3 = some op2 ∧ J ⟨[en 1 (.im (S_api_Manifest.enc a0)), en 3 (j64 r1), en 12 (eA 8 1 k8 a0.gMasks), en 13 (j64 s3)], []⟩ s) N (fun _ h => ⟨_, h, jr⟩) (fun op2 g2 k s hI => ?_) fun p2 => ?_
  ·obtain ⟨s3, h, hj⟩ := hI
   cases k with
   | zero => cases h
   | succ k =>
    refine At.jr hj ?_ h
    refine At.c 1 ?_ ?_
    ·refine At.b 0 (fun _ e => big_ixA hT k8 a0.gMasks e (by kernel_rfl) (by kernel_rfl)) fun e4 => ?_
     refine At.c 3 ?_ ?_
     ·rintro ⟨⟩
      obtain rfl := sum_e g2
      exact At.r 1
     ·exact fun h => At.k 2 ⟨_, h, jr⟩
    ·apply rt; exact At.xs 0
  ·refine lx ?_; intro x5
   refine lx ?_; intro x6
   refine At.c 11 ?_ ?_
   ·apply rt; exact At.r 1
   ·refine At.c 5 ?_ ?_
    ·apply rt; exact At.r 1
    ·refine bi fun r7 hr7 => ?_
     refine At.d 0 (dE2 4 (j64 r7) (fun _ => big_call0 (manifest_Chunks_ok hr7) manifest_Chunks_ok_c (by kernel_rfl) (by kernel_rfl) (by kernel_rfl)) dE0) dF0 ?_
     refine At.c 0 ?_ ?_
     ·apply rt; exact At.r 1
     ·apply rt; exact At.r 1

theorem manifest_Check_ok_c : callable Tryz.prog 86 := ⟨_, Tryz.func86, by decide, rfl⟩

def m_manifest_Encode : Nat → Bool := imL [1]

def p_manifest_Encode (N : Nat) (a0 : S_api_Manifest) : Option ((List Int) × Int) :=
 Option.bind (p_manifest_Check N a0) fun r1 =>
 cond (r1 != 0) (
  some (([], r1))) (
  Option.bind (p_codec_Put N [] 8 ([a0.gId])) fun r2 =>
  Option.bind (p_codec_Put N r2.1 1 ([U64 a0.gKind])) fun r3 =>
  Option.bind (p_codec_Put N r3.1 4 ([U64 a0.gLabel])) fun r4 =>
  Option.bind (slcO a0.gMasks.toList 0 8) fun s5 =>
  Option.bind (appO 1 r4.1 s5) fun z6 =>
  Option.bind (p_codec_Put N z6 4 ([U64 a0.gFrom, U64 a0.gTo, U64 a0.gSize])) fun r7 =>
  Option.bind (p_codec_Put N r7.1 2 ([U64 a0.gChunks])) fun r8 =>
  some ((r8.1, r8.2)))

theorem manifest_Encode_ok {N : Nat} {a0 : S_api_Manifest} {r : (List Int) × Int} (h : p_manifest_Encode N a0 = some r) : FnM Tryz.prog 53 [] [(S_api_Manifest.enc a0)] (.tup [(eL 1 k8 r.1), (j64 r.2)]) [] := by
 unfold p_manifest_Encode at h
 refine At.fn m_manifest_Encode hT hmo (m := 64) (lo := 0) (rs := [.tmp 2, .tmp 3]) Tryz.func53 rfl rfl h ?_
 refine At.b 4 (fun _ e => big_call [] (manifest_Check_ok e) manifest_Check_ok_c) fun r1 => ?_
 refine At.c 3 ?_ ?_
 ·apply rt; exact At.r 3
 ·refine At.o 2 (big_row hT (x := (.sl 1 1 [(k64 a0.gId)]))) ?_
  refine At.b 0 (fun _ e => big_call [] (codec_Put_ok e) codec_Put_ok_c) fun r2 => ?_
  refine At.o 9 (big_row hT (x := (.sl 1 1 [(k64 (U64 a0.gKind))]))) ?_
  refine At.b 0 (fun _ e => big_call [] (codec_Put_ok e) codec_Put_ok_c) fun r3 => ?_
  refine At.o 8 (big_row hT (x := (.sl 1 1 [(k64 (U64 a0.gLabel))]))) ?_
  refine At.b 0 (fun _ e => big_call [] (codec_Put_ok e) codec_Put_ok_c) fun r4 => ?_
  refine At.b 6 (fun _ e => big_slI hT (N := 8) (k := 1) k8 a0.gMasks e) fun s5 => ?_
  refine At.b 0 (fun _ e => big_app hT k8 (id := 2) (k := 1) e) fun z6 => ?_
  refine At.o 11 (big_row hT (x := (.sl 1 3 [(k64 (U64 a0.gFrom)), (k64 (U64 a0.gTo)), (k64 (U64 a0.gSize))]))) ?_
  refine At.b 0 (fun _ e => big_call [] (codec_Put_ok e) codec_Put_ok_c) fun r7 => ?_
  refine At.o 8 (big_row hT (x := (.sl 1 1 [(k64 (U64 a0.gChunks))]))) ?_
  refine At.b 0 (fun _ e => big_call [] (codec_Put_ok e) codec_Put_ok_c) fun r8 => ?_
  apply rt; exact At.r 4

theorem manifest_Encode_ok_c : callable Tryz.prog 53 := ⟨_, Tryz.func53, by decide, rfl⟩

def gren_87 : Go.Shelf.Ren := ⟨fun | 4 => 87 | n => n, fun | 0 => 0 | 3 => 3 | 4 => 4 | 9 => 9 | 20 => 20 | 22 => 57 | 25 => 5 | n => n, fun n => n⟩
theorem glay_87 : Lays8.n4 Tryz.prog gren_87 := { mixed := by kernel_rfl, f4 := ⟨Tryz.f87.name, by decide, Tryz.func87.trans (congrArg some (by kernel_rfl))⟩, t0 := Tryz.underlying0, a0 := Tryz.isAgg0, z0 := Tryz.sizeOf0, v0 := Tryz.zeroValue0, t3 := Tryz.underlying3, a3 := Tryz.isAgg3, z3 := Tryz.sizeOf3, v3 := Tryz.zeroValue3, t4 := Tryz.underlying4, a4 := Tryz.isAgg4, z4 := Tryz.sizeOf4, v4 := Tryz.zeroValue4, t9 := Tryz.underlying9, a9 := Tryz.isAgg9, z9 := Tryz.sizeOf9, v9 := Tryz.zeroValue9, t20 := Tryz.underlying20, a20 := Tryz.isAgg20, z20 := Tryz.sizeOf20, v20 := Tryz.zeroValue20, t22 := Tryz.underlying57, a22 := Tryz.isAgg57, z22 := Tryz.sizeOf57, v22 := Tryz.zeroValue57 }
theorem grow_87 {n : Int} {r : List Int} (h : growO Int 1 n = some r) : FnM Tryz.prog 87 [] [.v (.slice none 0 0), .v (.int .i64 n)] (eO 0 1 k8 r) [.tail (r.length * 1)] :=
 grow_fn (i0 := Tryz.t5) glay_87 rfl k8 (by kernel_rfl) rfl (by kernel_rfl) (by kernel_rfl) (by kernel_rfl) (by decide) h
theorem grow_87_c : callable Tryz.prog 87 := ⟨_, Tryz.func87, by decide, rfl⟩

def p_slices_Concat_byte_byte_L1 (N : Nat) (a0 : (List (List Int))) : Nat → Int → Int → Option (Int)
 | 0, _, _ => none
 | k + 1, s2, s3 =>
  letO (decide (s3 < ((a0.length : Int)))) fun x4 =>
  cond x4 (
   Option.bind (idx a0 s3) fun e5 =>
   letO (I64 (s2 + ((e5.length : Int)))) fun x6 =>
   cond (decide (x6 < 0)) (none) (p_slices_Concat_byte_byte_L1 N a0 k x6 (I64 (s3 + 1)))) (
   some s2)

def p_slices_Concat_byte_byte_L2 (N : Nat) (a0 : (List (List Int))) : Nat → (List Int) → Int → Option ((List Int))
 | 0, _, _ => none
 | k + 1, s9, s10 =>
  letO (decide (s10 < ((a0.length : Int)))) fun x11 =>
  cond x11 (
   Option.bind (idx a0 s10) fun e12 =>
   Option.bind (appO 1 s9 e12) fun z13 =>
   p_slices_Concat_byte_byte_L2 N a0 k z13 (I64 (s10 + 1))) (
   some s9)

def p_slices_Concat_byte_byte (N : Nat) (a0 : (List (List Int))) : Option ((List Int)) :=
 Option.bind (p_slices_Concat_byte_byte_L1 N a0 N 0 0) fun p1 =>
 Option.bind (growO Int 1 p1) fun r7 =>
 Option.bind (p_slices_Concat_byte_byte_L2 N a0 N r7 0) fun p8 =>
 some p8

theorem slices_Concat_byte_byte_ok {N : Nat} {a0 : (List (List Int))} {r : (List Int)} (h : p_slices_Concat_byte_byte N a0 = some r) : FnM Tryz.prog 54 [] [(eL 1 (eL 1 k8) a0)] (eO 0 1 k8 r) [.tail (r.length * 1)] := by
 unfold p_slices_Concat_byte_byte at h
 refine At.fn m_no hT hmo (m := 36) (lo := 0) (rs := [.tmp 2]) Tryz.func54 rfl rfl h ?_
 refine At.l 5 (fun p1 => ⟨[en 0 (eL 1 (eL 1 k8) a0), en 3 (j64 p1)], []⟩) (fun p1 J k s => ∃ s2 s3, p_slices_Concat_byte_byte_L1 N a0 k s2 s3 = some p1 ∧ J ⟨[en 0 (eL 1 (eL 1 k8) a0), en 3 (j64 s2), en 9 (eL 1 (eL 1 k8) a0), en 10 (j64 ((a0.length : Int))), en 11 (j64 s3)], []⟩ s) N (fun _ h => ⟨_, _, h, jr⟩) (fun p1 k s hI => ?_) fun p1 => ?_
 ·obtain ⟨s2, s3, h, hj⟩ := hI
  cases k with
  | zero => cases h
  | succ k =>
   refine At.jr hj ?_ h
   refine lx ?_; intro x4
   refine At.c 1 ?_ ?_
   ·refine At.b 0 (fun _ e => big_idx hT (eL 1 k8) e) fun e5 => ?_
    refine lx ?_; intro x6
    refine At.c 9 ?_ ?_
    ·exact nn
    ·exact fun h => At.k 2 ⟨_, _, h, jr⟩
   ·apply rt; exact At.x 0
 ·refine At.b 1 (fun _ e => big_call [] (grow_87 e) grow_87_c) fun r7 => ?_
  refine At.l 4 (fun p8 => ⟨[en 6 (eO 0 1 k8 p8)], [.tail (p8.length * 1)]⟩) (fun p8 J k s => ∃ s9 s10, p_slices_Concat_byte_byte_L2 N a0 k s9 s10 = some p8 ∧ J ⟨[en 6 (eO 0 1 k8 s9), en 25 (eL 1 (eL 1 k8) a0), en 26 (j64 ((a0.length : Int))), en 27 (j64 s10)], [.tail (s9.length * 1)]⟩ s) N (fun _ h => ⟨_, _, h, jr⟩) (fun p8 k s hI => ?_) fun p8 => ?_
  ·obtain ⟨s9, s10, h, hj⟩ := hI
   cases k with
   | zero => cases h
   | succ k =>
    refine At.jr hj ?_ h
    refine lx ?_; intro x11
    refine At.c 1 ?_ ?_
    ·refine At.b 0 (fun _ e => big_idx hT (eL 1 k8) e) fun e12 => ?_
     refine At.b 4 (fun _ e => big_app hT k8 (id := 0) (k := 1) e) fun z13 => ?_
     exact fun h => At.k 3 ⟨_, _, h, jr⟩
    ·apply rt; exact At.x 0
  ·apply rt; exact At.r 2

theorem slices_Concat_byte_byte_ok_c : callable Tryz.prog 54 := ⟨_, Tryz.func54, by decide, rfl⟩

def m_bundle_Nonce : Nat → Bool := imL [2]

def p_bundle_Nonce_L1 (N : Nat) (a1 : Int) : Nat → (Vector Int 12) → Int → Option ((Vector Int 12))
 | 0, _, _ => none
 | k + 1, s5, s6 =>
  cond (decide (s6 < 4)) (
   Option.bind (shrO .i64 a1 (I64 (8 * s6))) fun x7 =>
   Option.bind (inRO (I64 (8 + s6)) 12) fun _ =>
   Option.bind (s5.toList[(I64 (8 + s6)).toNat]?) fun e9 =>
   p_bundle_Nonce_L1 N a1 k (s5.setIfInBounds ((I64 (8 + s6)).toNat) (U8 x7)) (I64 (s6 + 1))) (
   some s5)

def p_bundle_Nonce (N : Nat) (a0 : (Vector Int 8)) (a1 : Int) : Option ((Vector Int 12)) :=
 Option.bind (slcB 12 0 12) fun _ =>
 Option.bind (slcO a0.toList 0 8) fun s2 =>
 Option.bind (cpV (Vector.replicate 12 0) s2 0 12) fun v3 =>
 Option.bind (p_bundle_Nonce_L1 N a1 N v3 0) fun p4 =>
 some p4

theorem bundle_Nonce_ok {N : Nat} {a0 : (Vector Int 8)} {a1 : Int} {r : (Vector Int 12)} (h : p_bundle_Nonce N a0 a1 = some r) : FnM Tryz.prog 56 [] [(eA 8 1 k8 a0), (j64 a1)] (eA 12 1 k8 r) [] := by
 unfold p_bundle_Nonce at h
 refine At.fn m_bundle_Nonce hT hmo (m := 23) (lo := 0) (rs := [.cell 4 139]) Tryz.func56 rfl rfl h ?_
 refine bi fun s1 hs1 => ?_
 refine bi fun s2 hs2 => ?_
 refine bi fun v3 hv3 => ?_
 refine At.d 3 (dE1 0 (fun _ => big_slR hT (k := 1) 1 [] 0 hs1 (by kernel_rfl) (by kernel_rfl) (by decide)) (dE1 1 (fun _ => big_slI hT (N := 8) (k := 1) k8 a0 hs2) dE0)) (dF1 2 (j64 (((min s2.length 12 : Nat) : Int))) [.var (eA 12 1 k8 (Vector.replicate 12 0)), .var (eA 12 1 k8 v3)] (big_at (big_cpyV hT k8 (id := 1) (path := []) (off := 0) (H' := [.var (eA 12 1 k8 (Vector.replicate 12 0)), .var (eA 12 1 k8 v3)]) hv3 (by kernel_rfl) (by kernel_rfl) (by kernel_rfl))) dF0) ?_
 refine At.l 1 (fun p4 => ⟨[en 4 (.ref 0 [] 0), en 5 (.ref 1 [] 0)], [.var (eA 12 1 k8 (Vector.replicate 12 0)), .var (eA 12 1 k8 p4)]⟩) (fun p4 J k s => ∃ s5 s6, p_bundle_Nonce_L1 N a1 k s5 s6 = some p4 ∧ J ⟨[en 1 (j64 a1), en 4 (.ref 0 [] 0), en 5 (.ref 1 [] 0), en 10 (j64 s6)], [.var (eA 12 1 k8 (Vector.replicate 12 0)), .var (eA 12 1 k8 s5)]⟩ s) N (fun _ h => ⟨_, _, h, jr⟩) (fun p4 k s hI => ?_) fun p4 => ?_
 ·obtain ⟨s5, s6, h, hj⟩ := hI
  cases k with
  | zero => cases h
  | succ k =>
   refine At.jr hj ?_ h
   refine At.c 1 ?_ ?_
   ·refine At.b 7 (fun _ e => big_shr hT (k' := .i64) e (by kernel_rfl) (by kernel_rfl)) fun x7 => ?_
    refine At.b 1 (fun _ e => big_adR hT (k := 1) 1 [] 0 e) fun u8 => ?_
    refine At.b 0 (fun _ e => big_stV hT k8 0 s5 e (U8 x7) (by kernel_rfl) (by kernel_rfl) (H' := [.var (eA 12 1 k8 (Vector.replicate 12 0)), .var (eA 12 1 k8 (s5.setIfInBounds ((I64 (8 + s6)).toNat) (U8 x7)))])) fun e9 => ?_
    exact fun h => At.k 2 ⟨_, _, h, jr⟩
   ·apply rt; exact At.x 0
 ·apply rt; exact At.r 2

theorem bundle_Nonce_ok_c : callable Tryz.prog 56 := ⟨_, Tryz.func56, by decide, rfl⟩

def p_chacha_number (N : Nat) (a0 : (List Int)) : Option (Int) :=
 Option.bind (idx a0 0) fun e1 =>
 Option.bind (idx a0 1) fun e2 =>
 letO (bor .u32 (U32 e1) (shl .u32 (U32 e2) 8)) fun x3 =>
 Option.bind (idx a0 2) fun e4 =>
 letO (bor .u32 x3 (shl .u32 (U32 e4) 16)) fun x5 =>
 Option.bind (idx a0 3) fun e6 =>
 letO (bor .u32 x5 (shl .u32 (U32 e6) 24)) fun x7 =>
 some x7

theorem chacha_number_ok {N : Nat} {a0 : (List Int)} {r : Int} (h : p_chacha_number N a0 = some r) : FnM Tryz.prog 227 [] [(eL 1 k8 a0)] (k32 r) [] := by
 unfold p_chacha_number at h
 refine At.fn m_no hT hmo (m := 25) (lo := 0) (rs := [.tmp 2]) Tryz.func227 rfl rfl h ?_
 refine bi fun e1 he1 => ?_
 refine bi fun e2 he2 => ?_
 refine lx ?_; intro x3
 refine bi fun e4 he4 => ?_
 refine lx ?_; intro x5
 refine bi fun e6 he6 => ?_
 refine lx ?_; intro x7
 refine At.d 1 (dE1 1 (fun _ => big_idx hT k8 he1) (dE1 5 (fun _ => big_idx hT k8 he2) (dE1 11 (fun _ => big_idx hT k8 he4) (dE1 17 (fun _ => big_idx hT k8 he6) dE0)))) dF0 ?_
 apply rt; exact At.r 0

theorem chacha_number_ok_c : callable Tryz.prog 227 := ⟨_, Tryz.func227, by decide, rfl⟩

def m_chacha_State : Nat → Bool := imL [3, 5]

def p_chacha_State_L1 (N : Nat) (a0 : (Vector Int 32)) : Nat → (Vector Int 16) → Int → Option ((Vector Int 16))
 | 0, _, _ => none
 | k + 1, s2, s3 =>
  cond (decide (s3 < 8)) (
   Option.bind (slcO a0.toList (I64 (4 * s3)) 32) fun s4 =>
   Option.bind (p_chacha_number N s4) fun r5 =>
   Option.bind (inRO (I64 (4 + s3)) 16) fun _ =>
   Option.bind (s2.toList[(I64 (4 + s3)).toNat]?) fun e7 =>
   p_chacha_State_L1 N a0 k (s2.setIfInBounds ((I64 (4 + s3)).toNat) r5) (I64 (s3 + 1))) (
   some s2)

def p_chacha_State_L2 (N : Nat) (a2 : (Vector Int 12)) : Nat → (Vector Int 16) → Int → Option ((Vector Int 16))
 | 0, _, _ => none
 | k + 1, s9, s10 =>
  cond (decide (s10 < 3)) (
   Option.bind (slcO a2.toList (I64 (4 * s10)) 12) fun s11 =>
   Option.bind (p_chacha_number N s11) fun r12 =>
   Option.bind (inRO (I64 (13 + s10)) 16) fun _ =>
   Option.bind (s9.toList[(I64 (13 + s10)).toNat]?) fun e14 =>
   p_chacha_State_L2 N a2 k (s9.setIfInBounds ((I64 (13 + s10)).toNat) r12) (I64 (s10 + 1))) (
   some s9)

def p_chacha_State (N : Nat) (a0 : (Vector Int 32)) (a1 : Int) (a2 : (Vector Int 12)) : Option ((Vector Int 16)) :=
 Option.bind (p_chacha_State_L1 N a0 N (#v[1634760805, 857760878, 2036477234, 1797285236, 0, 0, 0, 0, 0, 0, 0, 0, a1, 0, 0, 0]) 0) fun p1 =>
 Option.bind (p_chacha_State_L2 N a2 N p1 0) fun p8 =>
 some p8

theorem chacha_State_ok {N : Nat} {a0 : (Vector Int 32)} {a1 : Int} {a2 : (Vector Int 12)} {r : (Vector Int 16)} (h : p_chacha_State N a0 a1 a2 = some r) : FnM Tryz.prog 208 [] [(eA 32 1 k8 a0), (k32 a1), (eA 12 1 k8 a2)] (eA 16 1 k32 r) [] := by
 unfold p_chacha_State at h
 refine At.fn m_chacha_State hT hmo (m := 35) (lo := 0) (rs := [.cell 6 285]) Tryz.func208 rfl rfl h ?_
 refine At.l 8 (fun p1 => ⟨[en 5 (.im (eA 12 1 k8 a2)), en 6 (.ref 0 [] 0), en 7 (.ref 1 [] 0)], [.var (eA 16 1 k32 (Vector.replicate 16 0)), .var (eA 16 1 k32 p1)]⟩) (fun p1 J k s => ∃ s2 s3, p_chacha_State_L1 N a0 k s2 s3 = some p1 ∧ J ⟨[en 3 (.im (eA 32 1 k8 a0)), en 5 (.im (eA 12 1 k8 a2)), en 6 (.ref 0 [] 0), en 7 (.ref 1 [] 0), en 12 (j64 s3)], [.var (eA 16 1 k32 (Vector.replicate 16 0)), .var (eA 16 1 k32 s2)]⟩ s) N (fun _ h => ⟨_, _, h, jr⟩) (fun p1 k s hI => ?_) fun p1 => ?_
 ·obtain ⟨s2, s3, h, hj⟩ := hI
  cases k with
  | zero => cases h
  | succ k =>
   refine At.jr hj ?_ h
   refine At.c 1 ?_ ?_
   ·refine At.b 6 (fun _ e => big_slI hT (N := 32) (k := 1) k8 a0 e) fun s4 => ?_
    refine At.b 0 (fun _ e => big_call [] (chacha_number_ok e) chacha_number_ok_c) fun r5 => ?_
    refine At.b 0 (fun _ e => big_adR hT (k := 1) 1 [] 0 e) fun u6 => ?_
    refine At.b 0 (fun _ e => big_stV hT k32 0 s2 e r5 (by kernel_rfl) (by kernel_rfl) (H' := [.var (eA 16 1 k32 (Vector.replicate 16 0)), .var (eA 16 1 k32 (s2.setIfInBounds ((I64 (4 + s3)).toNat) r5))])) fun e7 => ?_
    exact fun h => At.k 2 ⟨_, _, h, jr⟩
   ·apply rt; exact At.x 0
 ·refine At.l 1 (fun p8 => ⟨[en 6 (.ref 0 [] 0), en 7 (.ref 1 [] 0)], [.var (eA 16 1 k32 (Vector.replicate 16 0)), .var (eA 16 1 k32 p8)]⟩) (fun p8 J k s => ∃ s9 s10, p_chacha_State_L2 N a2 k s9 s10 = some p8 ∧ J ⟨[en 5 (.im (eA 12 1 k8 a2)), en 6 (.ref 0 [] 0), en 7 (.ref 1 [] 0), en 23 (j64 s10)], [.var (eA 16 1 k32 (Vector.replicate 16 0)), .var (eA 16 1 k32 s9)]⟩ s) N (fun _ h => ⟨_, _, h, jr⟩) (fun p8 k s hI => ?_) fun p8 => ?_
  ·obtain ⟨s9, s10, h, hj⟩ := hI
   cases k with
   | zero => cases h
   | succ k =>
    refine At.jr hj ?_ h
    refine At.c 1 ?_ ?_
    ·refine At.b 6 (fun _ e => big_slI hT (N := 12) (k := 1) k8 a2 e) fun s11 => ?_
     refine At.b 0 (fun _ e => big_call [] (chacha_number_ok e) chacha_number_ok_c) fun r12 => ?_
     refine At.b 0 (fun _ e => big_adR hT (k := 1) 1 [] 0 e) fun u13 => ?_
     refine At.b 0 (fun _ e => big_stV hT k32 0 s9 e r12 (by kernel_rfl) (by kernel_rfl) (H' := [.var (eA 16 1 k32 (Vector.replicate 16 0)), .var (eA 16 1 k32 (s9.setIfInBounds ((I64 (13 + s10)).toNat) r12))])) fun e14 => ?_
     exact fun h => At.k 2 ⟨_, _, h, jr⟩
    ·apply rt; exact At.x 0
  ·apply rt; exact At.r 2

theorem chacha_State_ok_c : callable Tryz.prog 208 := ⟨_, Tryz.func208, by decide, rfl⟩

end Go.UK

