/- A part of the proof: what the functions of the program compute. -/
import Derived.Test.YtljnaeghnleipaaB3
namespace Go.UK
open Go Go.Proofs
set_option maxRecDepth 20000
set_option maxHeartbeats 4000000
set_option linter.all false

attribute [local irreducible] owp awl aw FnM NatFn opS Stab TOK Big
def m_texture_Encode : Nat → Bool := imL [1]

def p_texture_Encode_L1 (N : Nat) (x2 : Int) (a0 : S_api_Texture) : Nat → (List Int) → Int → Option ((List Int))
 | 0, _, _ => none
 | k + 1, s4, s5 =>
  cond (decide (s5 < x2)) (
   Option.bind (idx a0.gTexels s5) fun e6 =>
   Option.bind (inRO 0 3) fun _ =>
   Option.bind (e6.toList[(Int.toNat 0)]?) fun e8 =>
   Option.bind (inRO 1 3) fun _ =>
   Option.bind (e6.toList[(Int.toNat 1)]?) fun e10 =>
   Option.bind (inRO 2 3) fun _ =>
   Option.bind (e6.toList[(Int.toNat 2)]?) fun e12 =>
   Option.bind (appO 1 s4 (([U8 e8, U8 e10, U8 e12] : List Int))) fun z13 =>
   p_texture_Encode_L1 N x2 a0 k z13 (I64 (s5 + 1))) (
   some s4)

def p_texture_Encode (N : Nat) (a0 : S_api_Texture) : Option ((List Int) × Int) :=
 Option.bind (p_texture_Check N a0) fun r1 =>
 cond (r1 != 0) (
  some (([], r1))) (
  letO ((a0.gTexels.length : Int)) fun x2 =>
  Option.bind (p_texture_Encode_L1 N x2 a0 N (([U8 a0.gSide] : List Int)) 0) fun p3 =>
  some ((p3, 0)))

theorem texture_Encode_ok {N : Nat} {a0 : S_api_Texture} {r : (List Int) × Int} (h : p_texture_Encode N a0 = some r) : FnM Try.prog 58 [] [(S_api_Texture.enc a0)] (.tup [(eL 1 k8 r.1), (j64 r.2)]) [] := by
 unfold p_texture_Encode at h
 refine fnM_of_aw (m := 38) (lo := 0) (rs := [.tmp 2, .tmp 3]) hT Try.func58 rfl (by kernel_rfl) rfl ?_
 refine aw_sregU hT m_texture_Encode [] (by kernel_rfl) ?_
 refine aw_seq ?_
 refine aw_sreg ?_
 refine awl_u hT m_texture_Encode [] 1 (by kernel_rfl) ?_
 obtain ⟨r1, hr1, h⟩ := obind h
 refine awl_big (big_call [] (texture_Check_ok hr1) texture_Check_ok_c) (by kernel_rfl) ?_
 refine awl_u hT m_texture_Encode [] 1 (by kernel_rfl) ?_
 refine awl_nil ?_
 refine aw_sregU hT m_texture_Encode [] (by kernel_rfl) ?_
 refine aw_condH h (by kernel_rfl) (fun _ h => ?_) (fun _ h => ?_)
 ·refine aw_sregU hT m_texture_Encode [] (by kernel_rfl) ?_
  refine aw_ret (tn_r ?_)
  cases h
  exact fin_r
 ·refine aw_skip (tn_n ?_)
  refine aw_sreg ?_
  refine awl_u hT m_texture_Encode [] 3 (by kernel_rfl) ?_
  refine awl_big (big_rowO hT k8 (k := 1) ([U8 a0.gSide] : List Int) (by kernel_rfl) (by kernel_rfl)) (by kernel_rfl) ?_
  refine awl_u hT m_texture_Encode [] 1 (by kernel_rfl) ?_
  refine awl_nil ?_
  refine aw_seq ?_
  obtain ⟨x2, hx2, h⟩ := letE h
  refine aw_sregU hT m_texture_Encode [] (by kernel_rfl) ?_
  refine aw_nms [(19, (j64 x2))] (by subst hx2; kernel_rfl) ?_
  obtain ⟨p3, h, g3⟩ := obind h
  refine aw_joinTK ⟨[en 5 (eO 0 1 k8 p3)], [.tail (p3.length * 1)]⟩ ?_ ?_
  ·refine aw_block (aw_loop (fun k s => ∃ s4 s5, p_texture_Encode_L1 N x2 a0 k s4 s5 = some p3 ∧ JR (Fr.f 38 0) ⟨[en 5 (eO 0 1 k8 s4), en 18 (eL 3 (eA 3 1 j64) a0.gTexels), en 19 (j64 x2), en 20 (j64 s5)], [.tail (s4.length * 1)]⟩ s) (fun k s hI => ?_) N _ ⟨_, _, h, jr⟩)
   obtain ⟨s4, s5, h, hj⟩ := hI
   cases k with
   | zero => cases h
   | succ k =>
    refine aw_jr hj ?_
    refine aw_sregU hT m_texture_Encode [] (by kernel_rfl) ?_
    refine aw_seq ?_
    refine aw_condH h (by kernel_rfl) (fun _ h => ?_) (fun _ h => ?_)
    ·refine aw_skip (tn_n ?_)
     refine aw_seq ?_
     refine aw_block ?_
     refine aw_sreg ?_
     obtain ⟨e6, he6, h⟩ := obind h
     refine awl_big (big_idx hT (eA 3 1 j64) he6) (by kernel_rfl) ?_
     refine awl_u hT m_texture_Encode [] 3 (by kernel_rfl) ?_
     refine awl_nil ?_
     refine aw_region ?_
     refine awl_u hT m_texture_Encode [] 1 (by kernel_rfl) ?_
     obtain ⟨u7, hu7, h⟩ := obind h
     refine awl_big (big_adR hT (k := 1) 1 [] 0 hu7) (by kernel_rfl) ?_
     first | refine awl_to ⟨[en 7 (.ref 1 [] 0), en 18 (eL 3 (eA 3 1 j64) a0.gTexels), en 19 (j64 x2), en 20 (j64 s5), en 24 (eO 0 1 k8 s4), en 25 (.ref 1 [(Int.toNat 0)] (0 + (Int.toNat 0) * 1))], [.tail (s4.length * 1), .var (eA 3 1 j64 e6)]⟩ (by kernel_rfl) ?_ | skip
     obtain ⟨e8, he8, h⟩ := obind h
     refine awl_big (big_ldE hT j64 0 he8) (by kernel_rfl) ?_
     refine awl_u hT m_texture_Encode [] 1 (by kernel_rfl) ?_
     obtain ⟨u9, hu9, h⟩ := obind h
     refine awl_big (big_adR hT (k := 1) 1 [] 0 hu9) (by kernel_rfl) ?_
     obtain ⟨e10, he10, h⟩ := obind h
     refine awl_big (big_ldE hT j64 0 he10) (by kernel_rfl) ?_
     refine awl_u hT m_texture_Encode [] 1 (by kernel_rfl) ?_
     obtain ⟨u11, hu11, h⟩ := obind h
     refine awl_big (big_adR hT (k := 1) 1 [] 0 hu11) (by kernel_rfl) ?_
     first | refine awl_to ⟨[en 18 (eL 3 (eA 3 1 j64) a0.gTexels), en 19 (j64 x2), en 20 (j64 s5), en 24 (eO 0 1 k8 s4), en 27 (k8 (U8 e8)), en 30 (k8 (U8 e10)), en 31 (.ref 1 [(Int.toNat 2)] (0 + (Int.toNat 2) * 1))], [.tail (s4.length * 1), .var (eA 3 1 j64 e6)]⟩ (by kernel_rfl) ?_ | skip
     obtain ⟨e12, he12, h⟩ := obind h
     refine awl_big (big_ldE hT j64 0 he12) (by kernel_rfl) ?_
     refine awl_u hT m_texture_Encode [] 1 (by kernel_rfl) ?_
     refine awl_big (big_row hT (x := (.sl 1 3 [(k8 (U8 e8)), (k8 (U8 e10)), (k8 (U8 e12))]))) (by kernel_rfl) ?_
     obtain ⟨z13, hz13, h⟩ := obind h
     refine awl_big (big_app hT k8 (id := 0) (k := 1) hz13) (by kernel_rfl) ?_
     refine awl_u hT m_texture_Encode [] 1 (by kernel_rfl) ?_
     refine awl_nil (inB_n (tn_n ?_))
     refine aw_regU hT m_texture_Encode [] (by kernel_rfl) (tn_n ?_)
     exact ⟨k, Nat.lt_succ_self k, _, _, h, jr⟩
    ·refine aw_exit (tn_x (tn_x (inB_e (tn_n ?_))))
     cases h
     exact jr
  ·have h := g3
   refine (tn_n ?_)
   refine aw_sregU hT m_texture_Encode [] (by kernel_rfl) ?_
   refine aw_ret ?_
   cases h
   exact fin_r

theorem texture_Encode_ok_c : callable Try.prog 58 := ⟨_, Try.func58, by decide, rfl⟩

def m_asset_encode : Nat → Bool := imL [1]

def p_asset_encode_L1 (N : Nat) (e4 : Int) (e6 : Int) (e8 : Int) (a0 : S_api_Asset) : Nat → (List Int) → Int → Option ((List Int))
 | 0, _, _ => none
 | k + 1, s10, s11 =>
  cond (decide (s11 < 4)) (
   Option.bind (idx ([e4, e6, e8, a0.gMaterial.gRough]) s11) fun e12 =>
   Option.bind (p_codec_Put N s10 2 ([U64 e12])) fun r13 =>
   p_asset_encode_L1 N e4 e6 e8 a0 k r13.1 (I64 (s11 + 1))) (
   some s10)

def p_asset_encode_L2 (N : Nat) (a0 : S_api_Asset) : Nat → (List Int) → Int → Option ((List Int))
 | 0, _, _ => none
 | k + 1, s22, s23 =>
  cond (decide (s23 < 3)) (
   Option.bind (idx ([a0.gLight.gAt, a0.gLight.gU, a0.gLight.gV]) s23) fun e24 =>
   Option.bind (p_codec_Signed N s22 2 ([e24.gX, e24.gY, e24.gZ])) fun r25 =>
   p_asset_encode_L2 N a0 k r25.1 (I64 (s23 + 1))) (
   some s22)

def p_asset_encode (N : Nat) (a0 : S_api_Asset) : Option ((List Int)) :=
 cond (a0.gKind == 1) (
  Option.bind (p_mesh_Encode N a0.gMesh) fun r1 =>
  some r1.1) (
  cond (a0.gKind == 2) (
   Option.bind (p_texture_Encode N a0.gTexture) fun r2 =>
   some r2.1) (
   cond (a0.gKind == 3) (
    Option.bind (inRO 0 3) fun _ =>
    Option.bind (a0.gMaterial.gColor.toList[(Int.toNat 0)]?) fun e4 =>
    Option.bind (inRO 1 3) fun _ =>
    Option.bind (a0.gMaterial.gColor.toList[(Int.toNat 1)]?) fun e6 =>
    Option.bind (inRO 2 3) fun _ =>
    Option.bind (a0.gMaterial.gColor.toList[(Int.toNat 2)]?) fun e8 =>
    Option.bind (p_asset_encode_L1 N e4 e6 e8 a0 N ([U8 a0.gMaterial.gKind]) 0) fun p9 =>
    some p9) (
    Option.bind (inRO 0 3) fun _ =>
    Option.bind (a0.gLight.gColor.toList[(Int.toNat 0)]?) fun e15 =>
    Option.bind (inRO 1 3) fun _ =>
    Option.bind (a0.gLight.gColor.toList[(Int.toNat 1)]?) fun e17 =>
    Option.bind (inRO 2 3) fun _ =>
    Option.bind (a0.gLight.gColor.toList[(Int.toNat 2)]?) fun e19 =>
    Option.bind (p_codec_Put N ([U8 a0.gLight.gKind]) 4 ([U64 e15, U64 e17, U64 e19])) fun r20 =>
    Option.bind (p_asset_encode_L2 N a0 N r20.1 0) fun p21 =>
    some p21)))

theorem asset_encode_ok {N : Nat} {a0 : S_api_Asset} {r : (List Int)} (h : p_asset_encode N a0 = some r) : FnM Try.prog 32 [] [(S_api_Asset.enc a0)] (eL 1 k8 r) [] := by
 unfold p_asset_encode at h
 refine fnM_of_aw (m := 120) (lo := 0) (rs := [.tmp 2]) hT Try.func32 rfl (by kernel_rfl) rfl ?_
 refine aw_sregU hT m_asset_encode [] (by kernel_rfl) ?_
 refine aw_seq ?_
 refine aw_sregU hT m_asset_encode [] (by kernel_rfl) ?_
 refine aw_block ?_
 refine aw_sregU hT m_asset_encode [] (by kernel_rfl) ?_
 refine aw_condH h (by kernel_rfl) (fun _ h => ?_) (fun _ h => ?_)
 ·refine aw_sreg ?_
  refine awl_u hT m_asset_encode [] 2 (by kernel_rfl) ?_
  obtain ⟨r1, hr1, h⟩ := obind h
  refine awl_big (big_call [] (mesh_Encode_ok hr1) mesh_Encode_ok_c) (by kernel_rfl) ?_
  refine awl_u hT m_asset_encode [] 5 (by kernel_rfl) ?_
  refine awl_nil ?_
  refine aw_sregU hT m_asset_encode [] (by kernel_rfl) ?_
  refine aw_ret (inB_r (tn_r ?_))
  cases h
  exact fin_r
 ·refine aw_sregU hT m_asset_encode [] (by kernel_rfl) ?_
  refine aw_condH h (by kernel_rfl) (fun _ h => ?_) (fun _ h => ?_)
  ·refine aw_sreg ?_
   refine awl_u hT m_asset_encode [] 2 (by kernel_rfl) ?_
   obtain ⟨r2, hr2, h⟩ := obind h
   refine awl_big (big_call [] (texture_Encode_ok hr2) texture_Encode_ok_c) (by kernel_rfl) ?_
   refine awl_u hT m_asset_encode [] 5 (by kernel_rfl) ?_
   refine awl_nil ?_
   refine aw_sregU hT m_asset_encode [] (by kernel_rfl) ?_
   refine aw_ret (inB_r (tn_r ?_))
   cases h
   exact fin_r
  ·refine aw_sregU hT m_asset_encode [] (by kernel_rfl) ?_
   refine aw_condH h (by kernel_rfl) (fun _ h => ?_) (fun _ h => ?_)
   ·refine aw_sregU hT m_asset_encode [] (by kernel_rfl) ?_
    refine aw_sreg ?_
    refine awl_u hT m_asset_encode [] 3 (by kernel_rfl) ?_
    refine awl_big (big_row hT (x := (.sl 1 1 [(k8 (U8 a0.gMaterial.gKind))]))) (by kernel_rfl) ?_
    first | refine awl_to ⟨[en 7 (.ref 0 [] 0), en 43 (.sl 1 1 [(k8 (U8 a0.gMaterial.gKind))])], [.var (S_api_Material.enc a0.gMaterial)]⟩ (by kernel_rfl) ?_ | skip
    refine awl_u hT m_asset_encode [] 1 (by kernel_rfl) ?_
    refine awl_nil ?_
    refine aw_seq ?_
    refine aw_sreg ?_
    refine awl_u hT m_asset_encode [] 1 (by kernel_rfl) ?_
    obtain ⟨u3, hu3, h⟩ := obind h
    refine awl_big (big_adR hT (k := 1) 0 [1] 1 hu3) (by kernel_rfl) ?_
    obtain ⟨e4, he4, h⟩ := obind h
    refine awl_big (big_ldE hT j64 1 he4) (by kernel_rfl) ?_
    refine awl_u hT m_asset_encode [] 1 (by kernel_rfl) ?_
    obtain ⟨u5, hu5, h⟩ := obind h
    refine awl_big (big_adR hT (k := 1) 0 [1] 1 hu5) (by kernel_rfl) ?_
    obtain ⟨e6, he6, h⟩ := obind h
    refine awl_big (big_ldE hT j64 1 he6) (by kernel_rfl) ?_
    first | refine awl_to ⟨[en 7 (.ref 0 [] 0), en 8 (.sl 1 1 [(k8 (U8 a0.gMaterial.gKind))]), en 46 (j64 e4), en 49 (j64 e6)], [.var (S_api_Material.enc a0.gMaterial)]⟩ (by kernel_rfl) ?_ | skip
    refine awl_u hT m_asset_encode [] 1 (by kernel_rfl) ?_
    obtain ⟨u7, hu7, h⟩ := obind h
    refine awl_big (big_adR hT (k := 1) 0 [1] 1 hu7) (by kernel_rfl) ?_
    obtain ⟨e8, he8, h⟩ := obind h
    refine awl_big (big_ldE hT j64 1 he8) (by kernel_rfl) ?_
    refine awl_u hT m_asset_encode [] 2 (by kernel_rfl) ?_
    refine awl_big (big_row hT (x := (.sl 1 4 [(j64 e4), (j64 e6), (j64 e8), (j64 a0.gMaterial.gRough)]))) (by kernel_rfl) ?_
    refine awl_u hT m_asset_encode [] 2 (by kernel_rfl) ?_
    refine awl_nil ?_
    obtain ⟨p9, h, g9⟩ := obind h
    refine aw_joinTK ⟨[en 8 (eL 1 k8 p9)], [.var (S_api_Material.enc a0.gMaterial)]⟩ ?_ ?_
    ·refine aw_block (aw_loop (fun k s => ∃ s10 s11, p_asset_encode_L1 N e4 e6 e8 a0 k s10 s11 = some p9 ∧ JR (Fr.f 120 0) ⟨[en 8 (eL 1 k8 s10), en 55 (.sl 1 4 [(j64 e4), (j64 e6), (j64 e8), (j64 a0.gMaterial.gRough)]), en 56 (j64 4), en 57 (j64 s11)], [.var (S_api_Material.enc a0.gMaterial)]⟩ s) (fun k s hI => ?_) N _ ⟨_, _, h, jr⟩)
     obtain ⟨s10, s11, h, hj⟩ := hI
     cases k with
     | zero => cases h
     | succ k =>
      refine aw_jr hj ?_
      refine aw_sregU hT m_asset_encode [] (by kernel_rfl) ?_
      refine aw_seq ?_
      refine aw_condH h (by kernel_rfl) (fun _ h => ?_) (fun _ h => ?_)
      ·refine aw_skip (tn_n ?_)
       refine aw_seq ?_
       refine aw_block ?_
       refine aw_sreg ?_
       obtain ⟨e12, he12, h⟩ := obind h
       refine awl_big (big_idx hT j64 he12) (by kernel_rfl) ?_
       refine awl_u hT m_asset_encode [] 2 (by kernel_rfl) ?_
       refine awl_nil ?_
       refine aw_region ?_
       refine awl_u hT m_asset_encode [] 3 (by kernel_rfl) ?_
       refine awl_big (big_row hT (x := (.sl 1 1 [(k64 (U64 e12))]))) (by kernel_rfl) ?_
       obtain ⟨r13, hr13, h⟩ := obind h
       refine awl_big (big_call [] (codec_Put_ok hr13) codec_Put_ok_c) (by kernel_rfl) ?_
       refine awl_u hT m_asset_encode [] 4 (by kernel_rfl) ?_
       refine awl_nil (inB_n (tn_n ?_))
       refine aw_regU hT m_asset_encode [] (by kernel_rfl) (tn_n ?_)
       exact ⟨k, Nat.lt_succ_self k, _, _, h, jr⟩
      ·refine aw_exit (tn_x (tn_x (inB_e (tn_n ?_))))
       cases h
       exact jr
    ·have h := g9
     refine (tn_n ?_)
     refine aw_sregU hT m_asset_encode [] (by kernel_rfl) ?_
     refine aw_ret (inB_r (tn_r ?_))
     cases h
     exact fin_r
   ·refine aw_skip (inB_n (tn_n ?_))
    refine aw_sregU hT m_asset_encode [] (by kernel_rfl) ?_
    refine aw_sreg ?_
    refine awl_u hT m_asset_encode [] 3 (by kernel_rfl) ?_
    refine awl_big (big_row hT (x := (.sl 1 1 [(k8 (U8 a0.gLight.gKind))]))) (by kernel_rfl) ?_
    refine awl_u hT m_asset_encode [] 1 (by kernel_rfl) ?_
    obtain ⟨u14, hu14, h⟩ := obind h
    refine awl_big (big_adR hT (k := 1) 0 [1] 1 hu14) (by kernel_rfl) ?_
    obtain ⟨e15, he15, h⟩ := obind h
    refine awl_big (big_ldE hT j64 1 he15) (by kernel_rfl) ?_
    first | refine awl_to ⟨[en 11 (.ref 0 [] 0), en 77 (.sl 1 1 [(k8 (U8 a0.gLight.gKind))]), en 80 (j64 e15)], [.var (S_api_Light.enc a0.gLight)]⟩ (by kernel_rfl) ?_ | skip
    refine awl_u hT m_asset_encode [] 2 (by kernel_rfl) ?_
    obtain ⟨u16, hu16, h⟩ := obind h
    refine awl_big (big_adR hT (k := 1) 0 [1] 1 hu16) (by kernel_rfl) ?_
    obtain ⟨e17, he17, h⟩ := obind h
    refine awl_big (big_ldE hT j64 1 he17) (by kernel_rfl) ?_
    refine awl_u hT m_asset_encode [] 2 (by kernel_rfl) ?_
    obtain ⟨u18, hu18, h⟩ := obind h
    refine awl_big (big_adR hT (k := 1) 0 [1] 1 hu18) (by kernel_rfl) ?_
    obtain ⟨e19, he19, h⟩ := obind h
    refine awl_big (big_ldE hT j64 1 he19) (by kernel_rfl) ?_
    first | refine awl_to ⟨[en 11 (.ref 0 [] 0), en 77 (.sl 1 1 [(k8 (U8 a0.gLight.gKind))]), en 81 (k64 (U64 e15)), en 85 (k64 (U64 e17)), en 88 (j64 e19)], [.var (S_api_Light.enc a0.gLight)]⟩ (by kernel_rfl) ?_ | skip
    refine awl_u hT m_asset_encode [] 1 (by kernel_rfl) ?_
    refine awl_big (big_row hT (x := (.sl 1 3 [(k64 (U64 e15)), (k64 (U64 e17)), (k64 (U64 e19))]))) (by kernel_rfl) ?_
    obtain ⟨r20, hr20, h⟩ := obind h
    refine awl_big (big_call [] (codec_Put_ok hr20) codec_Put_ok_c) (by kernel_rfl) ?_
    refine awl_u hT m_asset_encode [] 5 (by kernel_rfl) ?_
    refine awl_nil ?_
    refine aw_seq ?_
    refine aw_sreg ?_
    refine awl_u hT m_asset_encode [] 6 (by kernel_rfl) ?_
    refine awl_big (big_row hT (x := (.sl 3 3 [(S_api_Point.enc a0.gLight.gAt), (S_api_Point.enc a0.gLight.gU), (S_api_Point.enc a0.gLight.gV)]))) (by kernel_rfl) ?_
    refine awl_u hT m_asset_encode [] 2 (by kernel_rfl) ?_
    refine awl_nil ?_
    obtain ⟨p21, h, g21⟩ := obind h
    refine aw_joinTK ⟨[en 12 (eO 1 1 k8 p21)], [.var (S_api_Light.enc a0.gLight), .tail (p21.length * 1)]⟩ ?_ ?_
    ·refine aw_block (aw_loop (fun k s => ∃ s22 s23, p_asset_encode_L2 N a0 k s22 s23 = some p21 ∧ JR (Fr.f 120 0) ⟨[en 12 (eO 1 1 k8 s22), en 100 (.sl 3 3 [(S_api_Point.enc a0.gLight.gAt), (S_api_Point.enc a0.gLight.gU), (S_api_Point.enc a0.gLight.gV)]), en 101 (j64 3), en 102 (j64 s23)], [.var (S_api_Light.enc a0.gLight), .tail (s22.length * 1)]⟩ s) (fun k s hI => ?_) N _ ⟨_, _, h, jr⟩)
     obtain ⟨s22, s23, h, hj⟩ := hI
     cases k with
     | zero => cases h
     | succ k =>
      refine aw_jr hj ?_
      refine aw_sregU hT m_asset_encode [] (by kernel_rfl) ?_
      refine aw_seq ?_
      refine aw_condH h (by kernel_rfl) (fun _ h => ?_) (fun _ h => ?_)
      ·refine aw_skip (tn_n ?_)
       refine aw_seq ?_
       refine aw_block ?_
       refine aw_sreg ?_
       obtain ⟨e24, he24, h⟩ := obind h
       refine awl_big (big_idx hT S_api_Point.enc he24) (by kernel_rfl) ?_
       refine awl_u hT m_asset_encode [] 3 (by kernel_rfl) ?_
       refine awl_nil ?_
       refine aw_region ?_
       refine awl_u hT m_asset_encode [] 7 (by kernel_rfl) ?_
       refine awl_big (big_row hT (x := (.sl 1 3 [(j64 e24.gX), (j64 e24.gY), (j64 e24.gZ)]))) (by kernel_rfl) ?_
       obtain ⟨r25, hr25, h⟩ := obind h
       refine awl_big (big_call [] (codec_Signed_ok hr25) codec_Signed_ok_c) (by kernel_rfl) ?_
       refine awl_u hT m_asset_encode [] 4 (by kernel_rfl) ?_
       refine awl_nil (inB_n (tn_n ?_))
       refine aw_regU hT m_asset_encode [] (by kernel_rfl) (tn_n ?_)
       exact ⟨k, Nat.lt_succ_self k, _, _, h, jr_sw 3 1 (by kernel_rfl) (jr)⟩
      ·refine aw_exit (tn_x (tn_x (inB_e (tn_n ?_))))
       cases h
       exact jr
    ·have h := g21
     refine (tn_n ?_)
     refine aw_sregU hT m_asset_encode [] (by kernel_rfl) ?_
     refine aw_ret ?_
     cases h
     exact fin_r

theorem asset_encode_ok_c : callable Try.prog 32 := ⟨_, Try.func32, by decide, rfl⟩

def p_manifest_Cap (N : Nat) (a0 : Int) : Option (Int) :=
 letO (cond (decide (a0 < 0)) true (decide (a0 ≥ 5))) fun x1 =>
 cond x1 (
  some 0) (
  Option.bind (inRO a0 5) fun _ =>
  Option.bind ((#v[0, 2048, 1024, 64, 64]).toList[a0.toNat]?) fun e3 =>
  some e3)

theorem manifest_Cap_ok {N : Nat} {a0 : Int} {r : Int} (h : p_manifest_Cap N a0 = some r) : FnM Try.prog 56 [] [(j64 a0)] (j64 r) [] := by
 unfold p_manifest_Cap at h
 refine fnM_of_aw (m := 14) (lo := 0) (rs := [.tmp 2]) hT Try.func56 rfl (by kernel_rfl) rfl ?_
 refine aw_sregU hT m_no [] (by kernel_rfl) ?_
 refine aw_sregU hT m_no [] (by kernel_rfl) ?_
 refine aw_seq ?_
 obtain ⟨x1, hx1, h⟩ := letE h
 refine aw_sregU hT m_no [] (by kernel_rfl) ?_
 refine aw_nms [(10, (eB x1))] (by subst hx1; kernel_rfl) ?_
 refine aw_condH h (by kernel_rfl) (fun _ h => ?_) (fun _ h => ?_)
 ·refine aw_sregU hT m_no [] (by kernel_rfl) ?_
  refine aw_ret (tn_r ?_)
  cases h
  exact fin_r
 ·refine aw_skip (tn_n ?_)
  refine aw_sreg ?_
  refine awl_u hT m_no [] 1 (by kernel_rfl) ?_
  obtain ⟨u2, hu2, h⟩ := obind h
  refine awl_big (big_adR hT (k := 1) 0 [] 0 hu2) (by kernel_rfl) ?_
  obtain ⟨e3, he3, h⟩ := obind h
  refine awl_big (big_ldE hT j64 0 he3) (by kernel_rfl) ?_
  refine awl_u hT m_no [] 1 (by kernel_rfl) ?_
  refine awl_nil ?_
  refine aw_ret ?_
  cases h
  exact fin_r

theorem manifest_Cap_ok_c : callable Try.prog 56 := ⟨_, Try.func56, by decide, rfl⟩

def m_asset_Check : Nat → Bool := imL [1]

def p_asset_Check (N : Nat) (a0 : S_api_Asset) : Option (Int) :=
 Option.bind (p_asset_own N a0) fun r1 =>
 cond (r1 != 0) (
  some r1) (
  Option.bind (p_asset_bare N a0) fun r2 =>
  Option.bind (p_asset_Same N r2 (S_api_Asset.mk a0.gKind (S_api_Mesh.mk [] [] []) (S_api_Texture.mk 0 []) (S_api_Material.mk 0 (#v[0, 0, 0]) 0) (S_api_Light.mk 0 (#v[0, 0, 0]) (S_api_Point.mk 0 0 0) (S_api_Point.mk 0 0 0) (S_api_Point.mk 0 0 0)))) fun r3 =>
  cond (!r3) (
   some 5) (
   Option.bind (p_asset_encode N a0) fun r4 =>
   Option.bind (p_manifest_Cap N a0.gKind) fun r5 =>
   letO (decide (((r4.length : Int)) > r5)) fun x6 =>
   cond x6 (some 9) (some 0)))

theorem asset_Check_ok {N : Nat} {a0 : S_api_Asset} {r : Int} (h : p_asset_Check N a0 = some r) : FnM Try.prog 31 [] [(S_api_Asset.enc a0)] (j64 r) [] := by
 unfold p_asset_Check at h
 refine fnM_of_aw (m := 23) (lo := 0) (rs := [.tmp 2]) hT Try.func31 rfl (by kernel_rfl) rfl ?_
 refine aw_sregU hT m_asset_Check [] (by kernel_rfl) ?_
 refine aw_seq ?_
 refine aw_sreg ?_
 refine awl_u hT m_asset_Check [] 1 (by kernel_rfl) ?_
 obtain ⟨r1, hr1, h⟩ := obind h
 refine awl_big (big_call [] (asset_own_ok hr1) asset_own_ok_c) (by kernel_rfl) ?_
 refine awl_u hT m_asset_Check [] 1 (by kernel_rfl) ?_
 refine awl_nil ?_
 refine aw_sregU hT m_asset_Check [] (by kernel_rfl) ?_
 refine aw_condH h (by kernel_rfl) (fun _ h => ?_) (fun _ h => ?_)
 ·refine aw_sregU hT m_asset_Check [] (by kernel_rfl) ?_
  refine aw_ret (tn_r ?_)
  cases h
  exact fin_r
 ·refine aw_skip (tn_n ?_)
  refine aw_seq ?_
  obtain ⟨r2, hr2, h⟩ := obind h
  obtain ⟨r3, hr3, h⟩ := obind h
  refine aw_sdrawV hT hmo m_asset_Check [(1, (S_api_Asset.enc r2)), (5, (eB r3))] [] (by kernel_rfl) (by kernel_rfl) (by kernel_rfl) ⟨fun _ => big_call0 (asset_bare_ok hr2) asset_bare_ok_c (by kernel_rfl) (by kernel_rfl) (by kernel_rfl), fun _ => big_call0 (asset_Same_ok hr3) asset_Same_ok_c (by kernel_rfl) (by kernel_rfl) (by kernel_rfl), trivial⟩ trivial ?_
  refine aw_condH h (by kernel_rfl) (fun _ h => ?_) (fun _ h => ?_)
  ·refine aw_sregU hT m_asset_Check [] (by kernel_rfl) ?_
   refine aw_ret (tn_r ?_)
   cases h
   exact fin_r
  ·refine aw_skip (tn_n ?_)
   refine aw_seq ?_
   obtain ⟨r4, hr4, h⟩ := obind h
   obtain ⟨r5, hr5, h⟩ := obind h
   obtain ⟨x6, hx6, h⟩ := letE h
   refine aw_sdrawV hT hmo m_asset_Check [(1, (eL 1 k8 r4)), (5, (j64 r5))] [] (by subst hx6; kernel_rfl) (by subst hx6; kernel_rfl) (by kernel_rfl) ⟨fun _ => big_call0 (asset_encode_ok hr4) asset_encode_ok_c (by kernel_rfl) (by kernel_rfl) (by kernel_rfl), fun _ => big_call0 (manifest_Cap_ok hr5) manifest_Cap_ok_c (by kernel_rfl) (by kernel_rfl) (by kernel_rfl), trivial⟩ trivial ?_
   refine aw_nms [(22, (eB x6))] (by subst hx6; kernel_rfl) ?_
   refine aw_condH h (by kernel_rfl) (fun _ h => ?_) (fun _ h => ?_)
   ·refine aw_sregU hT m_asset_Check [] (by kernel_rfl) ?_
    refine aw_ret (tn_r ?_)
    cases h
    exact fin_r
   ·refine aw_skip (tn_n ?_)
    refine aw_sregU hT m_asset_Check [] (by kernel_rfl) ?_
    refine aw_ret ?_
    cases h
    exact fin_r

theorem asset_Check_ok_c : callable Try.prog 31 := ⟨_, Try.func31, by decide, rfl⟩

def m_asset_Encode : Nat → Bool := imL [1]

def p_asset_Encode (N : Nat) (a0 : S_api_Asset) : Option ((List Int) × Int) :=
 Option.bind (p_asset_Check N a0) fun r1 =>
 cond (r1 != 0) (
  some (([], r1))) (
  Option.bind (p_asset_encode N a0) fun r2 =>
  some ((r2, 0)))

theorem asset_Encode_ok {N : Nat} {a0 : S_api_Asset} {r : (List Int) × Int} (h : p_asset_Encode N a0 = some r) : FnM Try.prog 12 [] [(S_api_Asset.enc a0)] (.tup [(eL 1 k8 r.1), (j64 r.2)]) [] := by
 unfold p_asset_Encode at h
 refine fnM_of_aw (m := 12) (lo := 0) (rs := [.tmp 2, .tmp 3]) hT Try.func12 rfl (by kernel_rfl) rfl ?_
 refine aw_sregU hT m_asset_Encode [] (by kernel_rfl) ?_
 refine aw_seq ?_
 refine aw_sreg ?_
 refine awl_u hT m_asset_Encode [] 1 (by kernel_rfl) ?_
 obtain ⟨r1, hr1, h⟩ := obind h
 refine awl_big (big_call [] (asset_Check_ok hr1) asset_Check_ok_c) (by kernel_rfl) ?_
 refine awl_u hT m_asset_Encode [] 1 (by kernel_rfl) ?_
 refine awl_nil ?_
 refine aw_sregU hT m_asset_Encode [] (by kernel_rfl) ?_
 refine aw_condH h (by kernel_rfl) (fun _ h => ?_) (fun _ h => ?_)
 ·refine aw_sregU hT m_asset_Encode [] (by kernel_rfl) ?_
  refine aw_ret (tn_r ?_)
  cases h
  exact fin_r
 ·refine aw_skip (tn_n ?_)
  refine aw_sreg ?_
  refine awl_u hT m_asset_Encode [] 1 (by kernel_rfl) ?_
  obtain ⟨r2, hr2, h⟩ := obind h
  refine awl_big (big_call [] (asset_encode_ok hr2) asset_encode_ok_c) (by kernel_rfl) ?_
  refine awl_u hT m_asset_Encode [] 2 (by kernel_rfl) ?_
  refine awl_nil ?_
  refine aw_ret ?_
  cases h
  exact fin_r

theorem asset_Encode_ok_c : callable Try.prog 12 := ⟨_, Try.func12, by decide, rfl⟩

def p_manifest_Chunks (N : Nat) (a0 : Int) : Option (Int) :=
 cond (decide (a0 < 1)) (
  some 0) (
  letO (I64 (Int.tdiv (I64 (a0 - 1)) 256)) fun x1 =>
  some (I64 (x1 + 1)))

theorem manifest_Chunks_ok {N : Nat} {a0 : Int} {r : Int} (h : p_manifest_Chunks N a0 = some r) : FnM Try.prog 13 [] [(j64 a0)] (j64 r) [] := by
 unfold p_manifest_Chunks at h
 refine fnM_of_aw (m := 9) (lo := 0) (rs := [.tmp 2]) hT Try.func13 rfl (by kernel_rfl) rfl ?_
 refine aw_sregU hT m_no [] (by kernel_rfl) ?_
 refine aw_seq ?_
 refine aw_sregU hT m_no [] (by kernel_rfl) ?_
 refine aw_condH h (by kernel_rfl) (fun _ h => ?_) (fun _ h => ?_)
 ·refine aw_sregU hT m_no [] (by kernel_rfl) ?_
  refine aw_ret (tn_r ?_)
  cases h
  exact fin_r
 ·refine aw_skip (tn_n ?_)
  obtain ⟨x1, hx1, h⟩ := letE h
  refine aw_sregU hT m_no [] (by kernel_rfl) ?_
  refine aw_nms [(2, (j64 (I64 (x1 + 1))))] (by subst hx1; kernel_rfl) ?_
  refine aw_ret ?_
  cases h
  exact fin_r

theorem manifest_Chunks_ok_c : callable Try.prog 13 := ⟨_, Try.func13, by decide, rfl⟩

def m_manifest_Check : Nat → Bool := imL [1]

def p_manifest_Check_L1 (N : Nat) (a0 : S_api_Manifest) : Nat → Int → Option (Sum (Unit) (Int))
 | 0, _ => none
 | k + 1, s3 =>
  cond (decide (s3 < 8)) (
   Option.bind (idx a0.gMasks.toList s3) fun e4 =>
   cond (decide (e4 > 15)) (some (Sum.inr 5)) (p_manifest_Check_L1 N a0 k (I64 (s3 + 1)))) (
   some (Sum.inl (())))

def p_manifest_Check (N : Nat) (a0 : S_api_Manifest) : Option (Int) :=
 Option.bind (p_manifest_Cap N a0.gKind) fun r1 =>
 cond (r1 == 0) (
  some 12) (
  Option.bind (p_manifest_Check_L1 N a0 N 0) fun o => sumC o (fun p2 =>
   letO (decide (a0.gFrom > a0.gTo)) fun x5 =>
   letO (cond x5 true (decide (a0.gSize < 1))) fun x6 =>
   cond x6 (
    some 5) (
    cond (decide (a0.gSize > r1)) (
     some 9) (
     Option.bind (p_manifest_Chunks N a0.gSize) fun r7 =>
     cond (a0.gChunks != r7) (some 5) (some 0)))) (fun r => some r))

theorem manifest_Check_ok {N : Nat} {a0 : S_api_Manifest} {r : Int} (h : p_manifest_Check N a0 = some r) : FnM Try.prog 39 [] [(S_api_Manifest.enc a0)] (j64 r) [] := by
 unfold p_manifest_Check at h
 refine fnM_of_aw (m := 42) (lo := 0) (rs := [.tmp 2]) hT Try.func39 rfl (by kernel_rfl) rfl ?_
 refine aw_sregU hT m_manifest_Check [] (by kernel_rfl) ?_
 refine aw_sreg ?_
 refine awl_u hT m_manifest_Check [] 2 (by kernel_rfl) ?_
 obtain ⟨r1, hr1, h⟩ := obind h
 refine awl_big (big_call [] (manifest_Cap_ok hr1) manifest_Cap_ok_c) (by kernel_rfl) ?_
 refine awl_u hT m_manifest_Check [] 1 (by kernel_rfl) ?_
 refine awl_nil ?_
 refine aw_seq ?_
 refine aw_sregU hT m_manifest_Check [] (by kernel_rfl) ?_
 refine aw_condH h (by kernel_rfl) (fun _ h => ?_) (fun _ h => ?_)
 ·refine aw_sregU hT m_manifest_Check [] (by kernel_rfl) ?_
  refine aw_ret (tn_r ?_)
  cases h
  exact fin_r
 ·refine aw_skip (tn_n ?_)
  refine aw_seq ?_
  refine aw_sregU hT m_manifest_Check [] (by kernel_rfl) ?_
  obtain ⟨op2, h, g2⟩ := obind h
  refine aw_joinSK (fun p2 => ⟨[en 1 (.im (S_api_Manifest.enc a0)), en 3 (j64 r1)], []⟩) g2 ?_ (fun p2 h => ?_)
  ·refine aw_block (aw_loop (fun k s => ∃ s3, p_manifest_Check_L1 N a0 k s3 = some op2 ∧ JR (Fr.f 42 0) ⟨[en 1 (.im (S_api_Manifest.enc a0)), en 3 (j64 r1), en 12 (eA 8 1 k8 a0.gMasks), en 13 (j64 s3)], []⟩ s) (fun k s hI => ?_) N _ ⟨_, h, jr⟩)
   obtain ⟨s3, h, hj⟩ := hI
   cases k with
   | zero => cases h
   | succ k =>
    refine aw_jr hj ?_
    refine aw_sregU hT m_manifest_Check [] (by kernel_rfl) ?_
    refine aw_seq ?_
    refine aw_condH h (by kernel_rfl) (fun _ h => ?_) (fun _ h => ?_)
    ·refine aw_skip (tn_n ?_)
     refine aw_seq ?_
     refine aw_block ?_
     refine aw_sreg ?_
     obtain ⟨e4, he4, h⟩ := obind h
     refine awl_big (big_ixA hT k8 a0.gMasks he4 (by kernel_rfl) (by kernel_rfl)) (by kernel_rfl) ?_
     refine awl_u hT m_manifest_Check [] 1 (by kernel_rfl) ?_
     refine awl_nil ?_
     refine aw_sregU hT m_manifest_Check [] (by kernel_rfl) ?_
     refine aw_condH h (by kernel_rfl) (fun _ h => ?_) (fun _ h => ?_)
     ·refine aw_sregU hT m_manifest_Check [] (by kernel_rfl) ?_
      cases h
      have h := g2
      refine aw_ret (inB_r (tn_r (tn_r (inB_r (tn_r (tn_r ?_))))))
      obtain rfl := sum_e h
      exact fin_r
     ·refine aw_skip (inB_n (tn_n ?_))
      refine aw_regU hT m_manifest_Check [] (by kernel_rfl) (tn_n ?_)
      exact ⟨k, Nat.lt_succ_self k, _, h, jr⟩
    ·refine aw_exit (tn_x (tn_x (inB_e (tn_n ?_))))
     cases h
     exact ⟨_, rfl, jr⟩
  ·refine (tn_n ?_)
   refine aw_seq ?_
   refine aw_block ?_
   obtain ⟨x5, hx5, h⟩ := letE h
   obtain ⟨x6, hx6, h⟩ := letE h
   refine aw_sregU hT m_manifest_Check [] (by kernel_rfl) ?_
   refine aw_nms [(19, (eB x6))] (by subst hx6 hx5; kernel_rfl) ?_
   refine aw_condH h (by kernel_rfl) (fun _ h => ?_) (fun _ h => ?_)
   ·refine aw_sregU hT m_manifest_Check [] (by kernel_rfl) ?_
    refine aw_ret (inB_r (tn_r ?_))
    cases h
    exact fin_r
   ·refine aw_sregU hT m_manifest_Check [] (by kernel_rfl) ?_
    refine aw_condH h (by kernel_rfl) (fun _ h => ?_) (fun _ h => ?_)
    ·refine aw_sregU hT m_manifest_Check [] (by kernel_rfl) ?_
     refine aw_ret (inB_r (tn_r ?_))
     cases h
     exact fin_r
    ·obtain ⟨r7, hr7, h⟩ := obind h
     refine aw_sdrawV hT hmo m_manifest_Check [(4, (j64 r7))] [] (by kernel_rfl) (by kernel_rfl) (by kernel_rfl) ⟨fun _ => big_call0 (manifest_Chunks_ok hr7) manifest_Chunks_ok_c (by kernel_rfl) (by kernel_rfl) (by kernel_rfl), trivial⟩ trivial ?_
     refine aw_condH h (by kernel_rfl) (fun _ h => ?_) (fun _ h => ?_)
     ·refine aw_sregU hT m_manifest_Check [] (by kernel_rfl) ?_
      refine aw_ret (inB_r (tn_r ?_))
      cases h
      exact fin_r
     ·refine aw_skip (inB_n (tn_n ?_))
      refine aw_sregU hT m_manifest_Check [] (by kernel_rfl) ?_
      refine aw_ret ?_
      cases h
      exact fin_r

theorem manifest_Check_ok_c : callable Try.prog 39 := ⟨_, Try.func39, by decide, rfl⟩

def m_manifest_Encode : Nat → Bool := imL [1]

def p_manifest_Encode (N : Nat) (a0 : S_api_Manifest) : Option ((List Int) × Int) :=
 Option.bind (p_manifest_Check N a0) fun r1 =>
 cond (r1 != 0) (
  some (([], r1))) (
  Option.bind (p_codec_Put N [] 8 ([a0.gId])) fun r2 =>
  Option.bind (p_codec_Put N r2.1 1 ([U64 a0.gKind])) fun r3 =>
  Option.bind (p_codec_Put N r3.1 4 ([U64 a0.gLabel])) fun r4 =>
  Option.bind (slcO a0.gMasks.toList 0 8) fun s5 =>
  Option.bind (appO 1 r4.1 s5) fun z6 =>
  Option.bind (p_codec_Put N z6 4 ([U64 a0.gFrom, U64 a0.gTo, U64 a0.gSize])) fun r7 =>
  Option.bind (p_codec_Put N r7.1 2 ([U64 a0.gChunks])) fun r8 =>
  some ((r8.1, r8.2)))

theorem manifest_Encode_ok {N : Nat} {a0 : S_api_Manifest} {r : (List Int) × Int} (h : p_manifest_Encode N a0 = some r) : FnM Try.prog 19 [] [(S_api_Manifest.enc a0)] (.tup [(eL 1 k8 r.1), (j64 r.2)]) [] := by
 unfold p_manifest_Encode at h
 refine fnM_of_aw (m := 64) (lo := 0) (rs := [.tmp 2, .tmp 3]) hT Try.func19 rfl (by kernel_rfl) rfl ?_
 refine aw_sregU hT m_manifest_Encode [] (by kernel_rfl) ?_
 refine aw_seq ?_
 refine aw_sreg ?_
 refine awl_u hT m_manifest_Encode [] 1 (by kernel_rfl) ?_
 obtain ⟨r1, hr1, h⟩ := obind h
 refine awl_big (big_call [] (manifest_Check_ok hr1) manifest_Check_ok_c) (by kernel_rfl) ?_
 refine awl_u hT m_manifest_Encode [] 1 (by kernel_rfl) ?_
 refine awl_nil ?_
 refine aw_sregU hT m_manifest_Encode [] (by kernel_rfl) ?_
 refine aw_condH h (by kernel_rfl) (fun _ h => ?_) (fun _ h => ?_)
 ·refine aw_sregU hT m_manifest_Encode [] (by kernel_rfl) ?_
  refine aw_ret (tn_r ?_)
  cases h
  exact fin_r
 ·refine aw_skip (tn_n ?_)
  refine aw_sreg ?_
  refine awl_u hT m_manifest_Encode [] 2 (by kernel_rfl) ?_
  refine awl_big (big_row hT (x := (.sl 1 1 [(k64 a0.gId)]))) (by kernel_rfl) ?_
  first | refine awl_to ⟨[en 1 (.im (S_api_Manifest.enc a0)), en 15 (.sl 1 1 [(k64 a0.gId)])], []⟩ (by kernel_rfl) ?_ | skip
  obtain ⟨r2, hr2, h⟩ := obind h
  refine awl_big (big_call [] (codec_Put_ok hr2) codec_Put_ok_c) (by kernel_rfl) ?_
  refine awl_u hT m_manifest_Encode [] 5 (by kernel_rfl) ?_
  refine awl_nil ?_
  refine aw_sreg ?_
  refine awl_u hT m_manifest_Encode [] 4 (by kernel_rfl) ?_
  refine awl_big (big_row hT (x := (.sl 1 1 [(k64 (U64 a0.gKind))]))) (by kernel_rfl) ?_
  obtain ⟨r3, hr3, h⟩ := obind h
  refine awl_big (big_call [] (codec_Put_ok hr3) codec_Put_ok_c) (by kernel_rfl) ?_
  refine awl_u hT m_manifest_Encode [] 4 (by kernel_rfl) ?_
  refine awl_nil ?_
  refine aw_sreg ?_
  refine awl_u hT m_manifest_Encode [] 4 (by kernel_rfl) ?_
  refine awl_big (big_row hT (x := (.sl 1 1 [(k64 (U64 a0.gLabel))]))) (by kernel_rfl) ?_
  first | refine awl_to ⟨[en 1 (.im (S_api_Manifest.enc a0)), en 29 (eO 1 1 k8 r3.1), en 33 (.sl 1 1 [(k64 (U64 a0.gLabel))])], [.tail (r2.1.length * 1), .tail (r3.1.length * 1)]⟩ (by kernel_rfl) ?_ | skip
  obtain ⟨r4, hr4, h⟩ := obind h
  refine awl_big (big_call [] (codec_Put_ok hr4) codec_Put_ok_c) (by kernel_rfl) ?_
  refine awl_u hT m_manifest_Encode [] 4 (by kernel_rfl) ?_
  refine awl_nil ?_
  refine aw_sreg ?_
  refine awl_u hT m_manifest_Encode [] 2 (by kernel_rfl) ?_
  obtain ⟨s5, hs5, h⟩ := obind h
  refine awl_big (big_slI hT (N := 8) (k := 1) k8 a0.gMasks hs5) (by kernel_rfl) ?_
  obtain ⟨z6, hz6, h⟩ := obind h
  refine awl_big (big_app hT k8 (id := 2) (k := 1) hz6) (by kernel_rfl) ?_
  refine awl_u hT m_manifest_Encode [] 1 (by kernel_rfl) ?_
  refine awl_nil ?_
  refine aw_sreg ?_
  refine awl_u hT m_manifest_Encode [] 10 (by kernel_rfl) ?_
  refine awl_big (big_row hT (x := (.sl 1 3 [(k64 (U64 a0.gFrom)), (k64 (U64 a0.gTo)), (k64 (U64 a0.gSize))]))) (by kernel_rfl) ?_
  first | refine awl_to ⟨[en 1 (.im (S_api_Manifest.enc a0)), en 42 (eO 2 1 k8 z6), en 52 (.sl 1 3 [(k64 (U64 a0.gFrom)), (k64 (U64 a0.gTo)), (k64 (U64 a0.gSize))])], [.tail (r2.1.length * 1), .tail (r3.1.length * 1), .tail (z6.length * 1)]⟩ (by kernel_rfl) ?_ | skip
  obtain ⟨r7, hr7, h⟩ := obind h
  refine awl_big (big_call [] (codec_Put_ok hr7) codec_Put_ok_c) (by kernel_rfl) ?_
  refine awl_u hT m_manifest_Encode [] 4 (by kernel_rfl) ?_
  refine awl_nil ?_
  refine aw_sreg ?_
  refine awl_u hT m_manifest_Encode [] 4 (by kernel_rfl) ?_
  refine awl_big (big_row hT (x := (.sl 1 1 [(k64 (U64 a0.gChunks))]))) (by kernel_rfl) ?_
  obtain ⟨r8, hr8, h⟩ := obind h
  refine awl_big (big_call [] (codec_Put_ok hr8) codec_Put_ok_c) (by kernel_rfl) ?_
  refine awl_u hT m_manifest_Encode [] 4 (by kernel_rfl) ?_
  refine awl_nil ?_
  refine aw_ret ?_
  cases h
  exact fin_r

theorem manifest_Encode_ok_c : callable Try.prog 19 := ⟨_, Try.func19, by decide, rfl⟩

def gren_40 : Go.Shelf.Ren := ⟨fun | 4 => 40 | n => n, fun | 0 => 0 | 3 => 3 | 4 => 4 | 9 => 9 | 20 => 20 | 22 => 47 | 25 => 5 | n => n, fun n => n⟩
theorem glay_40 : Lays8.n4 Try.prog gren_40 := { mixed := by kernel_rfl, f4 := ⟨Try.f40.name, by decide, Try.func40.trans (congrArg some (by kernel_rfl))⟩, t0 := Try.underlying0, a0 := Try.isAgg0, z0 := Try.sizeOf0, v0 := Try.zeroValue0, t3 := Try.underlying3, a3 := Try.isAgg3, z3 := Try.sizeOf3, v3 := Try.zeroValue3, t4 := Try.underlying4, a4 := Try.isAgg4, z4 := Try.sizeOf4, v4 := Try.zeroValue4, t9 := Try.underlying9, a9 := Try.isAgg9, z9 := Try.sizeOf9, v9 := Try.zeroValue9, t20 := Try.underlying20, a20 := Try.isAgg20, z20 := Try.sizeOf20, v20 := Try.zeroValue20, t22 := Try.underlying47, a22 := Try.isAgg47, z22 := Try.sizeOf47, v22 := Try.zeroValue47 }
theorem grow_40 {n : Int} {r : List Int} (h : growO Int 1 n = some r) : FnM Try.prog 40 [] [.v (.slice none 0 0), .v (.int .i64 n)] (eO 0 1 k8 r) [.tail (r.length * 1)] :=
 grow_fn (i0 := Try.t5) glay_40 rfl k8 (by kernel_rfl) rfl (by kernel_rfl) (by kernel_rfl) (by kernel_rfl) (by decide) h
theorem grow_40_c : callable Try.prog 40 := ⟨_, Try.func40, by decide, rfl⟩

def p_slices_Concat_byte_byte_L1 (N : Nat) (a0 : (List (List Int))) : Nat → Int → Int → Option (Int)
 | 0, _, _ => none
 | k + 1, s2, s3 =>
  letO (decide (s3 < ((a0.length : Int)))) fun x4 =>
  cond x4 (
   Option.bind (idx a0 s3) fun e5 =>
   letO (I64 (s2 + ((e5.length : Int)))) fun x6 =>
   cond (decide (x6 < 0)) (none) (p_slices_Concat_byte_byte_L1 N a0 k x6 (I64 (s3 + 1)))) (
   some s2)

def p_slices_Concat_byte_byte_L2 (N : Nat) (a0 : (List (List Int))) : Nat → (List Int) → Int → Option ((List Int))
 | 0, _, _ => none
 | k + 1, s9, s10 =>
  letO (decide (s10 < ((a0.length : Int)))) fun x11 =>
  cond x11 (
   Option.bind (idx a0 s10) fun e12 =>
   Option.bind (appO 1 s9 e12) fun z13 =>
   p_slices_Concat_byte_byte_L2 N a0 k z13 (I64 (s10 + 1))) (
   some s9)

def p_slices_Concat_byte_byte (N : Nat) (a0 : (List (List Int))) : Option ((List Int)) :=
 Option.bind (p_slices_Concat_byte_byte_L1 N a0 N 0 0) fun p1 =>
 Option.bind (growO Int 1 p1) fun r7 =>
 Option.bind (p_slices_Concat_byte_byte_L2 N a0 N r7 0) fun p8 =>
 some p8

theorem slices_Concat_byte_byte_ok {N : Nat} {a0 : (List (List Int))} {r : (List Int)} (h : p_slices_Concat_byte_byte N a0 = some r) : FnM Try.prog 20 [] [(eL 1 (eL 1 k8) a0)] (eO 0 1 k8 r) [.tail (r.length * 1)] := by
 unfold p_slices_Concat_byte_byte at h
 refine fnM_of_aw (m := 36) (lo := 0) (rs := [.tmp 2]) hT Try.func20 rfl (by kernel_rfl) rfl ?_
 refine aw_sregU hT m_no [] (by kernel_rfl) ?_
 refine aw_sregU hT m_no [] (by kernel_rfl) ?_
 refine aw_seq ?_
 refine aw_sregU hT m_no [] (by kernel_rfl) ?_
 obtain ⟨p1, h, g1⟩ := obind h
 refine aw_joinTK ⟨[en 0 (eL 1 (eL 1 k8) a0), en 3 (j64 p1)], []⟩ ?_ ?_
 ·refine aw_block (aw_loop (fun k s => ∃ s2 s3, p_slices_Concat_byte_byte_L1 N a0 k s2 s3 = some p1 ∧ JR (Fr.f 36 0) ⟨[en 0 (eL 1 (eL 1 k8) a0), en 3 (j64 s2), en 9 (eL 1 (eL 1 k8) a0), en 10 (j64 ((a0.length : Int))), en 11 (j64 s3)], []⟩ s) (fun k s hI => ?_) N _ ⟨_, _, h, jr⟩)
  obtain ⟨s2, s3, h, hj⟩ := hI
  cases k with
  | zero => cases h
  | succ k =>
   refine aw_jr hj ?_
   obtain ⟨x4, hx4, h⟩ := letE h
   refine aw_sregU hT m_no [] (by kernel_rfl) ?_
   refine aw_nms [(12, (eB x4))] (by subst hx4; kernel_rfl) ?_
   refine aw_seq ?_
   refine aw_condH h (by kernel_rfl) (fun _ h => ?_) (fun _ h => ?_)
   ·refine aw_skip (tn_n ?_)
    refine aw_seq ?_
    refine aw_block ?_
    refine aw_sreg ?_
    obtain ⟨e5, he5, h⟩ := obind h
    refine awl_big (big_idx hT (eL 1 k8) he5) (by kernel_rfl) ?_
    refine awl_u hT m_no [] 2 (by kernel_rfl) ?_
    refine awl_nil ?_
    obtain ⟨x6, hx6, h⟩ := letE h
    refine aw_sregU hT m_no [] (by kernel_rfl) ?_
    refine aw_nms [(3, (j64 x6))] (by subst hx6; kernel_rfl) ?_
    refine aw_sregU hT m_no [] (by kernel_rfl) ?_
    refine aw_condH h (by kernel_rfl) (fun _ h => ?_) (fun _ h => ?_)
    ·cases h
    ·refine aw_skip (inB_n (tn_n ?_))
     refine aw_regU hT m_no [] (by kernel_rfl) (tn_n ?_)
     exact ⟨k, Nat.lt_succ_self k, _, _, h, jr⟩
   ·refine aw_exit (tn_x (tn_x (inB_e (tn_n ?_))))
    cases h
    exact jr
 ·have h := g1
  refine (tn_n ?_)
  refine aw_sreg ?_
  refine awl_u hT m_no [] 1 (by kernel_rfl) ?_
  obtain ⟨r7, hr7, h⟩ := obind h
  refine awl_big (big_call [] (grow_40 hr7) grow_40_c) (by kernel_rfl) ?_
  refine awl_u hT m_no [] 1 (by kernel_rfl) ?_
  refine awl_nil ?_
  refine aw_seq ?_
  refine aw_sregU hT m_no [] (by kernel_rfl) ?_
  obtain ⟨p8, h, g8⟩ := obind h
  refine aw_joinTK ⟨[en 6 (eO 0 1 k8 p8)], [.tail (p8.length * 1)]⟩ ?_ ?_
  ·refine aw_block (aw_loop (fun k s => ∃ s9 s10, p_slices_Concat_byte_byte_L2 N a0 k s9 s10 = some p8 ∧ JR (Fr.f 36 0) ⟨[en 6 (eO 0 1 k8 s9), en 25 (eL 1 (eL 1 k8) a0), en 26 (j64 ((a0.length : Int))), en 27 (j64 s10)], [.tail (s9.length * 1)]⟩ s) (fun k s hI => ?_) N _ ⟨_, _, h, jr⟩)
   obtain ⟨s9, s10, h, hj⟩ := hI
   cases k with
   | zero => cases h
   | succ k =>
    refine aw_jr hj ?_
    obtain ⟨x11, hx11, h⟩ := letE h
    refine aw_sregU hT m_no [] (by kernel_rfl) ?_
    refine aw_nms [(28, (eB x11))] (by subst hx11; kernel_rfl) ?_
    refine aw_seq ?_
    refine aw_condH h (by kernel_rfl) (fun _ h => ?_) (fun _ h => ?_)
    ·refine aw_skip (tn_n ?_)
     refine aw_seq ?_
     refine aw_block ?_
     refine aw_sreg ?_
     obtain ⟨e12, he12, h⟩ := obind h
     refine awl_big (big_idx hT (eL 1 k8) he12) (by kernel_rfl) ?_
     refine awl_u hT m_no [] 2 (by kernel_rfl) ?_
     refine awl_nil ?_
     refine aw_region ?_
     refine awl_u hT m_no [] 2 (by kernel_rfl) ?_
     obtain ⟨z13, hz13, h⟩ := obind h
     refine awl_big (big_app hT k8 (id := 0) (k := 1) hz13) (by kernel_rfl) ?_
     refine awl_u hT m_no [] 1 (by kernel_rfl) ?_
     refine awl_nil (inB_n (tn_n ?_))
     refine aw_regU hT m_no [] (by kernel_rfl) (tn_n ?_)
     exact ⟨k, Nat.lt_succ_self k, _, _, h, jr⟩
    ·refine aw_exit (tn_x (tn_x (inB_e (tn_n ?_))))
     cases h
     exact jr
  ·have h := g8
   refine (tn_n ?_)
   refine aw_sregU hT m_no [] (by kernel_rfl) ?_
   refine aw_ret ?_
   cases h
   exact fin_r

theorem slices_Concat_byte_byte_ok_c : callable Try.prog 20 := ⟨_, Try.func20, by decide, rfl⟩

end Go.UK

