/- A part of the proof: what the functions of the program compute. -/
import Derived.Test.YtljnaeghnleipaaB11
namespace Go.UK
open Go Go.Proofs
set_option maxRecDepth 20000
set_option maxHeartbeats 4000000
set_option linter.all false

attribute [local irreducible] owp awl aw FnM NatFn opS Stab TOK Big
def p_asset_Decode (N : Nat) (a0 : Int) (a1 : (List Int)) : Option (S_api_Asset × Int) :=
 Option.bind (Option.bind (p_codec_New N a1) fun r2 =>
 cond (a0 == 1) (
  Option.bind (p_mesh_Decode N a1) fun r3 =>
  some ((r2, r3.1.gVerts, r3.1.gUvs, r3.1.gTris, 0, [], 0, #v[0, 0, 0], 0, 0, #v[0, 0, 0], 0, 0, 0, 0, 0, 0, 0, 0, 0, S_codec_Reader.mk r2 0 true, r3.2))) (
  cond (a0 == 2) (
   Option.bind (p_texture_Decode N a1) fun r4 =>
   some ((r2, [], [], [], r4.1.gSide, r4.1.gTexels, 0, #v[0, 0, 0], 0, 0, #v[0, 0, 0], 0, 0, 0, 0, 0, 0, 0, 0, 0, S_codec_Reader.mk r2 0 true, r4.2))) (
   cond (a0 == 3) (
    Option.bind (p_asset_decoder_uint_srzd N 1 (S_codec_Reader.mk r2 0 true)) fun r5 =>
    Option.bind (p_asset_decoder_three_srzd N 2 (S_codec_Reader.mk r5.1 r5.2.1 ((S_codec_Reader.mk r2 0 true).gmade))) fun r6 =>
    Option.bind (p_asset_decoder_uint_srzd N 2 (S_codec_Reader.mk r6.1 r6.2.1 r6.2.2.1)) fun r7 =>
    Option.bind (p_codec_Reader_End_r N (S_codec_Reader.mk r7.1 r7.2.1 ((S_codec_Reader.mk r6.1 r6.2.1 r6.2.2.1).gmade))) fun r8 =>
    some ((r2, [], [], [], 0, [], r5.2.2, r6.2.2.2, r7.2.2, 0, #v[0, 0, 0], 0, 0, 0, 0, 0, 0, 0, 0, 0, (S_codec_Reader.mk r7.1 r7.2.1 ((S_codec_Reader.mk r6.1 r6.2.1 r6.2.2.1).gmade)), r8))) (
    cond (a0 == 4) (
     Option.bind (p_asset_decoder_uint_srzd N 1 (S_codec_Reader.mk r2 0 true)) fun r9 =>
     Option.bind (p_asset_decoder_three_srzd N 4 (S_codec_Reader.mk r9.1 r9.2.1 ((S_codec_Reader.mk r2 0 true).gmade))) fun r10 =>
     Option.bind (p_asset_decoder_point_srz N (S_codec_Reader.mk r10.1 r10.2.1 r10.2.2.1)) fun r11 =>
     Option.bind (p_asset_decoder_point_srz N (S_codec_Reader.mk r11.1 r11.2.1 r11.2.2.1)) fun r12 =>
     Option.bind (p_asset_decoder_point_srz N (S_codec_Reader.mk r12.1 r12.2.1 r12.2.2.1)) fun r13 =>
     Option.bind (p_codec_Reader_End_r N (S_codec_Reader.mk r13.1 r13.2.1 r13.2.2.1)) fun r14 =>
     some ((r2, [], [], [], 0, [], 0, #v[0, 0, 0], 0, r9.2.2, r10.2.2.2, r11.2.2.2.gX, r11.2.2.2.gY, r11.2.2.2.gZ, r12.2.2.2.gX, r12.2.2.2.gY, r12.2.2.2.gZ, r13.2.2.2.gX, r13.2.2.2.gY, r13.2.2.2.gZ, (S_codec_Reader.mk r13.1 r13.2.1 r13.2.2.1), r14))) (
     some ((r2, [], [], [], 0, [], 0, #v[0, 0, 0], 0, 0, #v[0, 0, 0], 0, 0, 0, 0, 0, 0, 0, 0, 0, S_codec_Reader.mk r2 0 true, 0))))))) fun p1 =>
 letO p1.2.2.2.2.2.2.2.2.2.2.2.2.2.2.2.2.2.2.2.2.2 fun x15 =>
 cond (x15 != 0) (
  letO p1.2.2.2.2.2.2.2.2.2.2.2.2.2.2.2.2.2.2.2.2.2 fun x16 =>
  some ((S_api_Asset.mk 0 (S_api_Mesh.mk [] [] []) (S_api_Texture.mk 0 []) (S_api_Material.mk 0 (#v[0, 0, 0]) 0) (S_api_Light.mk 0 (#v[0, 0, 0]) (S_api_Point.mk 0 0 0) (S_api_Point.mk 0 0 0) (S_api_Point.mk 0 0 0)), x16))) (
  Option.bind (p_asset_Check N (S_api_Asset.mk a0 (S_api_Mesh.mk p1.2.1 p1.2.2.1 p1.2.2.2.1) (S_api_Texture.mk p1.2.2.2.2.1 p1.2.2.2.2.2.1) (S_api_Material.mk p1.2.2.2.2.2.2.1 p1.2.2.2.2.2.2.2.1 p1.2.2.2.2.2.2.2.2.1) (S_api_Light.mk p1.2.2.2.2.2.2.2.2.2.1 p1.2.2.2.2.2.2.2.2.2.2.1 (S_api_Point.mk p1.2.2.2.2.2.2.2.2.2.2.2.1 p1.2.2.2.2.2.2.2.2.2.2.2.2.1 p1.2.2.2.2.2.2.2.2.2.2.2.2.2.1) (S_api_Point.mk p1.2.2.2.2.2.2.2.2.2.2.2.2.2.2.1 p1.2.2.2.2.2.2.2.2.2.2.2.2.2.2.2.1 p1.2.2.2.2.2.2.2.2.2.2.2.2.2.2.2.2.1) (S_api_Point.mk p1.2.2.2.2.2.2.2.2.2.2.2.2.2.2.2.2.2.1 p1.2.2.2.2.2.2.2.2.2.2.2.2.2.2.2.2.2.2.1 p1.2.2.2.2.2.2.2.2.2.2.2.2.2.2.2.2.2.2.2.1)))) fun r17 =>
  cond (r17 != 0) (
   some ((S_api_Asset.mk 0 (S_api_Mesh.mk [] [] []) (S_api_Texture.mk 0 []) (S_api_Material.mk 0 (#v[0, 0, 0]) 0) (S_api_Light.mk 0 (#v[0, 0, 0]) (S_api_Point.mk 0 0 0) (S_api_Point.mk 0 0 0) (S_api_Point.mk 0 0 0)), r17))) (
   some ((S_api_Asset.mk a0 (S_api_Mesh.mk p1.2.1 p1.2.2.1 p1.2.2.2.1) (S_api_Texture.mk p1.2.2.2.2.1 p1.2.2.2.2.2.1) (S_api_Material.mk p1.2.2.2.2.2.2.1 p1.2.2.2.2.2.2.2.1 p1.2.2.2.2.2.2.2.2.1) (S_api_Light.mk p1.2.2.2.2.2.2.2.2.2.1 p1.2.2.2.2.2.2.2.2.2.2.1 (S_api_Point.mk p1.2.2.2.2.2.2.2.2.2.2.2.1 p1.2.2.2.2.2.2.2.2.2.2.2.2.1 p1.2.2.2.2.2.2.2.2.2.2.2.2.2.1) (S_api_Point.mk p1.2.2.2.2.2.2.2.2.2.2.2.2.2.2.1 p1.2.2.2.2.2.2.2.2.2.2.2.2.2.2.2.1 p1.2.2.2.2.2.2.2.2.2.2.2.2.2.2.2.2.1) (S_api_Point.mk p1.2.2.2.2.2.2.2.2.2.2.2.2.2.2.2.2.2.1 p1.2.2.2.2.2.2.2.2.2.2.2.2.2.2.2.2.2.2.1 p1.2.2.2.2.2.2.2.2.2.2.2.2.2.2.2.2.2.2.2.1)), 0))))

theorem asset_Decode_ok {N : Nat} {a0 : Int} {a1 : (List Int)} {r : S_api_Asset × Int} (h : p_asset_Decode N a0 a1 = some r) : FnM Try.prog 28 [] [(j64 a0), (eL 1 k8 a1)] (.tup [(S_api_Asset.enc r.1), (j64 r.2)]) [] := by
 unfold p_asset_Decode at h
 refine fnM_of_aw (m := 73) (lo := 0) (rs := [.cell 4 45, .tmp 5]) hT Try.func28 rfl (by kernel_rfl) rfl ?_
 refine aw_sregU hT m_no [] (by kernel_rfl) ?_
 refine aw_sregU hT m_no [] (by kernel_rfl) ?_
 refine aw_sregU hT m_no [] (by kernel_rfl) ?_
 obtain ⟨p1, h, g1⟩ := obind h
 refine aw_joinT ⟨[en 4 (.ref 0 [] 0), en 6 (.ref 1 [] 0), en 7 (j64 p1.2.2.2.2.2.2.2.2.2.2.2.2.2.2.2.2.2.2.2.2.2)], [.var cv_3, .var (.st 24 [(j64 a0), (.st 3 [(eL 3 S_api_Point.enc p1.2.1), (eL 2 (eA 2 1 j64) p1.2.2.1), (eL 3 (eA 3 1 j64) p1.2.2.2.1)]), (.st 2 [(j64 p1.2.2.2.2.1), (eL 3 (eA 3 1 j64) p1.2.2.2.2.2.1)]), (.st 5 [(j64 p1.2.2.2.2.2.2.1), (eA 3 1 j64 p1.2.2.2.2.2.2.2.1), (j64 p1.2.2.2.2.2.2.2.2.1)]), (.st 13 [(j64 p1.2.2.2.2.2.2.2.2.2.1), (eA 3 1 j64 p1.2.2.2.2.2.2.2.2.2.2.1), (.st 3 [(j64 p1.2.2.2.2.2.2.2.2.2.2.2.1), (j64 p1.2.2.2.2.2.2.2.2.2.2.2.2.1), (j64 p1.2.2.2.2.2.2.2.2.2.2.2.2.2.1)]), (.st 3 [(j64 p1.2.2.2.2.2.2.2.2.2.2.2.2.2.2.1), (j64 p1.2.2.2.2.2.2.2.2.2.2.2.2.2.2.2.1), (j64 p1.2.2.2.2.2.2.2.2.2.2.2.2.2.2.2.2.1)]), (.st 3 [(j64 p1.2.2.2.2.2.2.2.2.2.2.2.2.2.2.2.2.2.1), (j64 p1.2.2.2.2.2.2.2.2.2.2.2.2.2.2.2.2.2.2.1), (j64 p1.2.2.2.2.2.2.2.2.2.2.2.2.2.2.2.2.2.2.2.1)])])]), .tail (p1.1.length * 1), .var (S_codec_Reader.enc p1.2.2.2.2.2.2.2.2.2.2.2.2.2.2.2.2.2.2.2.2.1), .var (.st 1 [(.ref 3 [] 0)])]⟩ ?_ ?_
 ·refine aw_sreg ?_
  refine awl_u hT m_no [] 1 (by kernel_rfl) ?_
  obtain ⟨r2, hr2, h⟩ := obind h
  refine awl_big (big_call [] (codec_New_ok hr2) codec_New_ok_c) (by kernel_rfl) ?_
  refine awl_u hT m_no [] 3 (by kernel_rfl) ?_
  refine awl_nil ?_
  refine aw_sregU hT m_no [] (by kernel_rfl) ?_
  refine aw_block ?_
  refine aw_sregU hT m_no [] (by kernel_rfl) ?_
  refine aw_condH h (by kernel_rfl) (fun _ h => ?_) (fun _ h => ?_)
  ·refine aw_region ?_
   refine awl_u hT m_no [] 1 (by kernel_rfl) ?_
   obtain ⟨r3, hr3, h⟩ := obind h
   refine awl_big (big_call [] (mesh_Decode_ok hr3) mesh_Decode_ok_c) (by kernel_rfl) ?_
   refine awl_u hT m_no [] 6 (by kernel_rfl) ?_
   refine awl_nil (inB_n (tn_n ?_))
   cases h
   exact jr
  ·refine aw_sregU hT m_no [] (by kernel_rfl) ?_
   refine aw_condH h (by kernel_rfl) (fun _ h => ?_) (fun _ h => ?_)
   ·refine aw_region ?_
    refine awl_u hT m_no [] 1 (by kernel_rfl) ?_
    obtain ⟨r4, hr4, h⟩ := obind h
    refine awl_big (big_call [] (texture_Decode_ok hr4) texture_Decode_ok_c) (by kernel_rfl) ?_
    refine awl_u hT m_no [] 6 (by kernel_rfl) ?_
    refine awl_nil (inB_n (tn_n ?_))
    cases h
    exact jr
   ·refine aw_sregU hT m_no [] (by kernel_rfl) ?_
    refine aw_condH h (by kernel_rfl) (fun _ h => ?_) (fun _ h => ?_)
    ·obtain ⟨r5, hr5, h⟩ := obind h
     obtain ⟨r6, hr6, h⟩ := obind h
     obtain ⟨r7, hr7, h⟩ := obind h
     refine aw_sdrawV hT hmo m_no [] [(1, fun _ => ((j64 r5.2.2), [.var cv_3, .var (.st 24 [(j64 a0), cv_4, (.st 2 [(j64 0), (.v (.slice none 0 0))]), cv_5, cv_6]), .tail (r2.length * 1), .var (.st 3 [(eL 1 k8 r5.1), (j64 r5.2.1), (eB ((S_codec_Reader.mk r2 0 true).gmade))]), .var (.st 1 [(.ref 3 [] 0)])])), (3, fun _ => ((eA 3 1 j64 r6.2.2.2), [.var cv_3, .var (.st 24 [(j64 a0), cv_4, (.st 2 [(j64 0), (.v (.slice none 0 0))]), cv_5, cv_6]), .tail (r2.length * 1), .var (.st 3 [(eL 1 k8 r6.1), (j64 r6.2.1), (eB r6.2.2.1)]), .var (.st 1 [(.ref 3 [] 0)])])), (5, fun _ => ((j64 r7.2.2), [.var cv_3, .var (.st 24 [(j64 a0), cv_4, (.st 2 [(j64 0), (.v (.slice none 0 0))]), cv_5, cv_6]), .tail (r2.length * 1), .var (.st 3 [(eL 1 k8 r7.1), (j64 r7.2.1), (eB ((S_codec_Reader.mk r6.1 r6.2.1 r6.2.2.1).gmade))]), .var (.st 1 [(.ref 3 [] 0)])]))] (by kernel_rfl) (by kernel_rfl) (by kernel_rfl) trivial ⟨big_at (big_call [3] (asset_decoder_uint_srzd_ok hr5) asset_decoder_uint_srzd_ok_c), big_at (big_call [3] (asset_decoder_three_srzd_ok hr6) asset_decoder_three_srzd_ok_c), big_at (big_call [3] (asset_decoder_uint_srzd_ok hr7) asset_decoder_uint_srzd_ok_c), trivial⟩ ?_
     refine aw_region ?_
     refine awl_u hT m_no [] 2 (by kernel_rfl) ?_
     obtain ⟨r8, hr8, h⟩ := obind h
     refine awl_big (big_call [3] (codec_Reader_End_r_ok hr8) codec_Reader_End_r_ok_c) (by kernel_rfl) ?_
     refine awl_u hT m_no [] 1 (by kernel_rfl) ?_
     refine awl_nil (inB_n (tn_n ?_))
     cases h
     exact jr
    ·refine aw_sregU hT m_no [] (by kernel_rfl) ?_
     refine aw_condH h (by kernel_rfl) (fun _ h => ?_) (fun _ h => ?_)
     ·obtain ⟨r9, hr9, h⟩ := obind h
      obtain ⟨r10, hr10, h⟩ := obind h
      obtain ⟨r11, hr11, h⟩ := obind h
      obtain ⟨r12, hr12, h⟩ := obind h
      obtain ⟨r13, hr13, h⟩ := obind h
      refine aw_sdrawV hT hmo m_no [] [(1, fun _ => ((j64 r9.2.2), [.var cv_3, .var (.st 24 [(j64 a0), cv_4, (.st 2 [(j64 0), (.v (.slice none 0 0))]), cv_5, cv_6]), .tail (r2.length * 1), .var (.st 3 [(eL 1 k8 r9.1), (j64 r9.2.1), (eB ((S_codec_Reader.mk r2 0 true).gmade))]), .var (.st 1 [(.ref 3 [] 0)])])), (3, fun _ => ((eA 3 1 j64 r10.2.2.2), [.var cv_3, .var (.st 24 [(j64 a0), cv_4, (.st 2 [(j64 0), (.v (.slice none 0 0))]), cv_5, cv_6]), .tail (r2.length * 1), .var (.st 3 [(eL 1 k8 r10.1), (j64 r10.2.1), (eB r10.2.2.1)]), .var (.st 1 [(.ref 3 [] 0)])])), (5, fun _ => ((S_api_Point.enc r11.2.2.2), [.var cv_3, .var (.st 24 [(j64 a0), cv_4, (.st 2 [(j64 0), (.v (.slice none 0 0))]), cv_5, cv_6]), .tail (r2.length * 1), .var (.st 3 [(eL 1 k8 r11.1), (j64 r11.2.1), (eB r11.2.2.1)]), .var (.st 1 [(.ref 3 [] 0)])])), (7, fun _ => ((S_api_Point.enc r12.2.2.2), [.var cv_3, .var (.st 24 [(j64 a0), cv_4, (.st 2 [(j64 0), (.v (.slice none 0 0))]), cv_5, cv_6]), .tail (r2.length * 1), .var (.st 3 [(eL 1 k8 r12.1), (j64 r12.2.1), (eB r12.2.2.1)]), .var (.st 1 [(.ref 3 [] 0)])])), (9, fun _ => ((S_api_Point.enc r13.2.2.2), [.var cv_3, .var (.st 24 [(j64 a0), cv_4, (.st 2 [(j64 0), (.v (.slice none 0 0))]), cv_5, cv_6]), .tail (r2.length * 1), .var (.st 3 [(eL 1 k8 r13.1), (j64 r13.2.1), (eB r13.2.2.1)]), .var (.st 1 [(.ref 3 [] 0)])]))] (by kernel_rfl) (by kernel_rfl) (by kernel_rfl) trivial ⟨big_at (big_call [3] (asset_decoder_uint_srzd_ok hr9) asset_decoder_uint_srzd_ok_c), big_at (big_call [3] (asset_decoder_three_srzd_ok hr10) asset_decoder_three_srzd_ok_c), big_at (big_call [3] (asset_decoder_point_srz_ok hr11) asset_decoder_point_srz_ok_c), big_at (big_call [3] (asset_decoder_point_srz_ok hr12) asset_decoder_point_srz_ok_c), big_at (big_call [3] (asset_decoder_point_srz_ok hr13) asset_decoder_point_srz_ok_c), trivial⟩ ?_
      refine aw_region ?_
      refine awl_u hT m_no [] 2 (by kernel_rfl) ?_
      obtain ⟨r14, hr14, h⟩ := obind h
      refine awl_big (big_call [3] (codec_Reader_End_r_ok hr14) codec_Reader_End_r_ok_c) (by kernel_rfl) ?_
      refine awl_u hT m_no [] 1 (by kernel_rfl) ?_
      refine awl_nil (inB_n (tn_n ?_))
      cases h
      exact jr
     ·refine aw_skip (inB_n (tn_n ?_))
      cases h
      exact jr
 ·have h := g1
  refine aw_seq ?_
  obtain ⟨x15, hx15, h⟩ := letE h
  refine aw_sregU hT m_no [] (by kernel_rfl) ?_
  refine aw_nms [(63, (eB (x15 != 0)))] (by subst hx15; kernel_rfl) ?_
  refine aw_condH h (by kernel_rfl) (fun _ h => ?_) (fun _ h => ?_)
  ·obtain ⟨x16, hx16, h⟩ := letE h
   refine aw_sregU hT m_no [] (by kernel_rfl) ?_
   refine aw_nms [(5, (j64 x16))] (by subst hx16; kernel_rfl) ?_
   refine aw_ret (tn_r ?_)
   cases h
   exact fin_r
  ·refine aw_skip (tn_n ?_)
   refine aw_seq ?_
   refine aw_sreg ?_
   refine awl_u hT m_no [] 1 (by kernel_rfl) ?_
   obtain ⟨r17, hr17, h⟩ := obind h
   refine awl_big (big_call [] (asset_Check_ok hr17) asset_Check_ok_c) (by kernel_rfl) ?_
   refine awl_u hT m_no [] 1 (by kernel_rfl) ?_
   refine awl_nil ?_
   refine aw_sregU hT m_no [] (by kernel_rfl) ?_
   refine aw_condH h (by kernel_rfl) (fun _ h => ?_) (fun _ h => ?_)
   ·refine aw_sregU hT m_no [] (by kernel_rfl) ?_
    refine aw_ret (tn_r ?_)
    cases h
    exact fin_r
   ·refine aw_skip (tn_n ?_)
    refine aw_sregU hT m_no [] (by kernel_rfl) ?_
    refine aw_ret ?_
    cases h
    exact fin_r

theorem asset_Decode_ok_c : callable Try.prog 28 := ⟨_, Try.func28, by decide, rfl⟩

def m_bundle_Open : Nat → Bool := imL [2]

def p_bundle_Open_L1 (N : Nat) (r1 : S_api_Manifest × Int) (v4 : (Vector Int 8)) (a0 : (Vector Int 32)) (s5 : (List Int)) : Nat → (List Int) → (List Int) → Int → Bool → Int → Option (Sum ((List Int) × (List Int) × Int × Bool) (S_api_Manifest × S_api_Asset × Int))
 | 0, _, _, _, _, _ => none
 | k + 1, s9, s10, s11, s12, s13 =>
  letO (decide (s13 < r1.1.gChunks)) fun x14 =>
  cond x14 (
   Option.bind (p_bundle_Nonce N v4 (I64 (s13 + 1))) fun r15 =>
   letO (I64 (r1.1.gSize - ((s9.length : Int)))) fun x16 =>
   Option.bind (p_bundle_chunk_ddrddd N a0 r15 s5 s13 (imin 256 x16) (S_codec_Reader.mk s10 s11 s12)) fun r17 =>
   cond (r17.2.2 != 0) (
    Option.bind (p_bundle_Open_1 N r17.2.2) fun r18 =>
    some (Sum.inr ((r18.1, r18.2.1, r18.2.2)))) (
    Option.bind (appO 1 s9 r17.2.1) fun z19 =>
    p_bundle_Open_L1 N r1 v4 a0 s5 k z19 r17.1.gb r17.1.ge r17.1.gmade (I64 (s13 + 1)))) (
   some (Sum.inl ((s9, s10, s11, s12))))

def p_bundle_Open (N : Nat) (a0 : (Vector Int 32)) (a1 : (List Int)) : Option (S_api_Manifest × S_api_Asset × Int) :=
 Option.bind (p_bundle_Peek N a0 a1) fun r1 =>
 cond (r1.2 != 0) (
  Option.bind (p_bundle_Open_1 N r1.2) fun r2 =>
  some ((r2.1, r2.2.1, r2.2.2))) (
  Option.bind (slcO a1 4 12) fun s3 =>
  Option.bind (vecO 8 s3) fun v4 =>
  Option.bind (slcO a1 47 63) fun s5 =>
  Option.bind (slcO a1 63 ((a1.length : Int))) fun s6 =>
  Option.bind (p_codec_New N s6) fun r7 =>
  Option.bind (p_bundle_Open_L1 N r1 v4 a0 s5 N [] r7 0 true 0) fun o => sumC o (fun p8 =>
   Option.bind (p_codec_Reader_Left_r N (S_codec_Reader.mk p8.2.1 p8.2.2.1 p8.2.2.2)) fun r20 =>
   cond (decide (r20 > 0)) (
    Option.bind (p_bundle_Open_1 N 7) fun r21 =>
    some ((r21.1, r21.2.1, r21.2.2))) (
    Option.bind (p_asset_Decode N r1.1.gKind p8.1) fun r22 =>
    cond (r22.2 != 0) (
     Option.bind (p_bundle_Open_1 N r22.2) fun r23 =>
     some ((r23.1, r23.2.1, r23.2.2))) (
     some ((r1.1, r22.1, 0))))) (fun r => some r))

theorem bundle_Open_ok {N : Nat} {a0 : (Vector Int 32)} {a1 : (List Int)} {r : S_api_Manifest × S_api_Asset × Int} (h : p_bundle_Open N a0 a1 = some r) : FnM Try.prog 10 [] [(eA 32 1 k8 a0), (eL 1 k8 a1)] (.tup [(S_api_Manifest.enc r.1), (S_api_Asset.enc r.2.1), (j64 r.2.2)]) [] := by
 unfold p_bundle_Open at h
 refine fnM_of_aw (m := 101) (lo := 0) (rs := [.cell 4 27, .cell 5 45, .tmp 6]) hT Try.func10 rfl (by kernel_rfl) rfl ?_
 refine aw_sregU hT m_bundle_Open [] (by kernel_rfl) ?_
 refine aw_sregU hT m_bundle_Open [] (by kernel_rfl) ?_
 refine aw_sreg ?_
 refine awl_u hT m_bundle_Open [] 2 (by kernel_rfl) ?_
 obtain ⟨r1, hr1, h⟩ := obind h
 refine awl_big (big_call [] (bundle_Peek_ok hr1) bundle_Peek_ok_c) (by kernel_rfl) ?_
 refine awl_u hT m_bundle_Open [] 6 (by kernel_rfl) ?_
 refine awl_nil ?_
 refine aw_seq ?_
 refine aw_sregU hT m_bundle_Open [] (by kernel_rfl) ?_
 refine aw_condH h (by kernel_rfl) (fun _ h => ?_) (fun _ h => ?_)
 ·refine aw_sreg ?_
  refine awl_u hT m_bundle_Open [] 2 (by kernel_rfl) ?_
  obtain ⟨r2, hr2, h⟩ := obind h
  refine awl_big (big_call [] (bundle_Open_1_ok hr2) bundle_Open_1_ok_c) (by kernel_rfl) ?_
  refine awl_u hT m_bundle_Open [] 6 (by kernel_rfl) ?_
  refine awl_nil ?_
  refine aw_ret (tn_r ?_)
  cases h
  exact fin_r
 ·refine aw_skip (tn_n ?_)
  refine aw_sreg ?_
  refine awl_u hT m_bundle_Open [] 1 (by kernel_rfl) ?_
  obtain ⟨s3, hs3, h⟩ := obind h
  refine awl_big (big_slc hT (k := 1) k8 hs3) (by kernel_rfl) ?_
  obtain ⟨v4, hv4, h⟩ := obind h
  refine awl_big (big_s2a hT k8 s3 v4 hv4 rfl (by kernel_rfl) (by kernel_rfl)) (by kernel_rfl) ?_
  first | refine awl_to ⟨[en 1 (eL 1 k8 a1), en 2 (.im (eA 32 1 k8 a0)), en 4 (.ref 0 [] 0), en 5 (.ref 1 [] 0), en 7 (.fn (.func 24) [] []), en 8 (.ref 2 [] 0), en 34 (.im (eA 8 1 k8 v4))], [.var cv_2, .var cv_3, .var (S_api_Manifest.enc r1.1)]⟩ (by kernel_rfl) ?_ | skip
  refine awl_u hT m_bundle_Open [] 3 (by kernel_rfl) ?_
  refine awl_nil ?_
  refine aw_sreg ?_
  refine awl_u hT m_bundle_Open [] 1 (by kernel_rfl) ?_
  obtain ⟨s5, hs5, h⟩ := obind h
  refine awl_big (big_slc hT (k := 1) k8 hs5) (by kernel_rfl) ?_
  refine awl_u hT m_bundle_Open [] 1 (by kernel_rfl) ?_
  refine awl_nil ?_
  refine aw_sreg ?_
  refine awl_u hT m_bundle_Open [] 1 (by kernel_rfl) ?_
  obtain ⟨s6, hs6, h⟩ := obind h
  refine awl_big (big_slc hT (k := 1) k8 hs6) (by kernel_rfl) ?_
  obtain ⟨r7, hr7, h⟩ := obind h
  refine awl_big (big_call [] (codec_New_ok hr7) codec_New_ok_c) (by kernel_rfl) ?_
  refine awl_u hT m_bundle_Open [] 1 (by kernel_rfl) ?_
  refine awl_nil ?_
  refine aw_sregU hT m_bundle_Open [] (by kernel_rfl) ?_
  refine aw_seq ?_
  refine aw_sregU hT m_bundle_Open [] (by kernel_rfl) ?_
  refine aw_own_nil 13 1 (by kernel_rfl) ?_
  obtain ⟨op8, h, g8⟩ := obind h
  refine aw_joinSK (fun p8 => ⟨[en 4 (.ref 0 [] 0), en 5 (.ref 1 [] 0), en 7 (.fn (.func 24) [] []), en 8 (.ref 2 [] 0), en 12 (.ref 5 [] 0), en 13 (eO 6 1 k8 p8.1)], [.var cv_2, .var cv_3, .var (S_api_Manifest.enc r1.1), .var (eA 8 1 k8 v4), .tail (r7.length * 1), .var (.st 3 [(eL 1 k8 p8.2.1), (j64 p8.2.2.1), (eB p8.2.2.2)]), .tail (p8.1.length * 1)]⟩) g8 ?_ (fun p8 h => ?_)
  ·refine aw_block (aw_loop (fun k s => ∃ s9 s10 s11 s12 s13, p_bundle_Open_L1 N r1 v4 a0 s5 k s9 s10 s11 s12 s13 = some op8 ∧ JR (Fr.f 101 0) ⟨[en 2 (.im (eA 32 1 k8 a0)), en 4 (.ref 0 [] 0), en 5 (.ref 1 [] 0), en 7 (.fn (.func 24) [] []), en 8 (.ref 2 [] 0), en 10 (.ref 3 [] 0), en 11 (eL 1 k8 s5), en 12 (.ref 5 [] 0), en 13 (eO 6 1 k8 s9), en 42 (j64 r1.1.gChunks), en 43 (j64 s13)], [.var cv_2, .var cv_3, .var (S_api_Manifest.enc r1.1), .var (eA 8 1 k8 v4), .tail (r7.length * 1), .var (.st 3 [(eL 1 k8 s10), (j64 s11), (eB s12)]), .tail (s9.length * 1)]⟩ s) (fun k s hI => ?_) N _ ⟨_, _, _, _, _, h, jr⟩)
   obtain ⟨s9, s10, s11, s12, s13, h, hj⟩ := hI
   cases k with
   | zero => cases h
   | succ k =>
    refine aw_jr hj ?_
    obtain ⟨x14, hx14, h⟩ := letE h
    refine aw_sregU hT m_bundle_Open [] (by kernel_rfl) ?_
    refine aw_nms [(44, (eB x14))] (by subst hx14; kernel_rfl) ?_
    refine aw_seq ?_
    refine aw_condH h (by kernel_rfl) (fun _ h => ?_) (fun _ h => ?_)
    ·refine aw_skip (tn_n ?_)
     refine aw_seq ?_
     refine aw_block ?_
     refine aw_sregU hT m_bundle_Open [] (by kernel_rfl) ?_
     obtain ⟨r15, hr15, h⟩ := obind h
     obtain ⟨x16, hx16, h⟩ := letE h
     obtain ⟨r17, hr17, h⟩ := obind h
     refine aw_sdrawV hT hmo m_bundle_Open [(4, (eA 12 1 k8 r15))] [(14, fun _ => ((.tup [(eL 1 k8 r17.2.1), (j64 r17.2.2)]), [.var cv_2, .var cv_3, .var (S_api_Manifest.enc r1.1), .var (eA 8 1 k8 v4), .tail (r7.length * 1), .var (S_codec_Reader.enc r17.1), .tail (s9.length * 1)]))] (by subst hx16; kernel_rfl) (by subst hx16; kernel_rfl) (by kernel_rfl) ⟨fun _ => big_call0 (bundle_Nonce_ok hr15) bundle_Nonce_ok_c (by kernel_rfl) (by kernel_rfl) (by kernel_rfl), trivial⟩ ⟨big_at (big_call [5] (bundle_chunk_ddrddd_ok hr17) bundle_chunk_ddrddd_ok_c (by subst hx16; kernel_rfl) (by subst hx16; kernel_rfl)) (by subst hx16; kernel_rfl), trivial⟩ ?_
     refine aw_seq ?_
     refine aw_sregU hT m_bundle_Open [] (by kernel_rfl) ?_
     refine aw_condH h (by kernel_rfl) (fun _ h => ?_) (fun _ h => ?_)
     ·refine aw_sreg ?_
      refine awl_u hT m_bundle_Open [] 2 (by kernel_rfl) ?_
      obtain ⟨r18, hr18, h⟩ := obind h
      refine awl_big (big_call [] (bundle_Open_1_ok hr18) bundle_Open_1_ok_c) (by kernel_rfl) ?_
      refine awl_u hT m_bundle_Open [] 6 (by kernel_rfl) ?_
      refine awl_nil ?_
      cases h
      have h := g8
      refine aw_ret (tn_r (inB_r (tn_r (tn_r (inB_r (tn_r (tn_r ?_)))))))
      obtain rfl := sum_e h
      exact fin_r
     ·refine aw_skip (tn_n ?_)
      refine aw_region ?_
      refine awl_u hT m_bundle_Open [] 2 (by kernel_rfl) ?_
      obtain ⟨z19, hz19, h⟩ := obind h
      refine awl_big (big_app hT k8 (id := 6) (k := 1) hz19) (by kernel_rfl) ?_
      refine awl_u hT m_bundle_Open [] 1 (by kernel_rfl) ?_
      refine awl_nil (inB_n (tn_n ?_))
      refine aw_regU hT m_bundle_Open [] (by kernel_rfl) (tn_n ?_)
      exact ⟨k, Nat.lt_succ_self k, _, _, _, _, _, h, jr⟩
    ·refine aw_exit (tn_x (tn_x (inB_e (tn_n ?_))))
     cases h
     exact ⟨_, rfl, jr⟩
  ·refine (tn_n ?_)
   refine aw_seq ?_
   refine aw_sreg ?_
   refine awl_u hT m_bundle_Open [] 1 (by kernel_rfl) ?_
   obtain ⟨r20, hr20, h⟩ := obind h
   refine awl_big (big_call [5] (codec_Reader_Left_r_ok hr20) codec_Reader_Left_r_ok_c) (by kernel_rfl) ?_
   refine awl_u hT m_bundle_Open [] 1 (by kernel_rfl) ?_
   refine awl_nil ?_
   refine aw_condH h (by kernel_rfl) (fun _ h => ?_) (fun _ h => ?_)
   ·refine aw_sreg ?_
    refine awl_u hT m_bundle_Open [] 1 (by kernel_rfl) ?_
    obtain ⟨r21, hr21, h⟩ := obind h
    refine awl_big (big_call [] (bundle_Open_1_ok hr21) bundle_Open_1_ok_c) (by kernel_rfl) ?_
    refine awl_u hT m_bundle_Open [] 6 (by kernel_rfl) ?_
    refine awl_nil ?_
    refine aw_ret (tn_r ?_)
    cases h
    exact fin_r
   ·refine aw_skip (tn_n ?_)
    refine aw_sreg ?_
    refine awl_u hT m_bundle_Open [] 3 (by kernel_rfl) ?_
    obtain ⟨r22, hr22, h⟩ := obind h
    refine awl_big (big_call [] (asset_Decode_ok hr22) asset_Decode_ok_c) (by kernel_rfl) ?_
    refine awl_u hT m_bundle_Open [] 6 (by kernel_rfl) ?_
    refine awl_nil ?_
    refine aw_seq ?_
    refine aw_sregU hT m_bundle_Open [] (by kernel_rfl) ?_
    refine aw_condH h (by kernel_rfl) (fun _ h => ?_) (fun _ h => ?_)
    ·refine aw_sreg ?_
     refine awl_u hT m_bundle_Open [] 2 (by kernel_rfl) ?_
     obtain ⟨r23, hr23, h⟩ := obind h
     refine awl_big (big_call [] (bundle_Open_1_ok hr23) bundle_Open_1_ok_c) (by kernel_rfl) ?_
     refine awl_u hT m_bundle_Open [] 6 (by kernel_rfl) ?_
     refine awl_nil ?_
     refine aw_ret (tn_r ?_)
     cases h
     exact fin_r
    ·refine aw_skip (tn_n ?_)
     refine aw_sdrawV hT hmo m_bundle_Open [] [] (by kernel_rfl) (by kernel_rfl) (by kernel_rfl) trivial trivial ?_
     refine aw_ret ?_
     cases h
     exact fin_r

theorem bundle_Open_ok_c : callable Try.prog 10 := ⟨_, Try.func10, by decide, rfl⟩

def p_umbralaw16_works (N : Nat) : Option (Bool) :=
 Option.bind (p_bundle_Seal N ((Vector.replicate 32 0).setIfInBounds 0 1) ((Vector.replicate 8 0).setIfInBounds 0 2) (S_api_Manifest.mk 0 3 0 (Vector.replicate 8 0) 0 0 0 0) (S_api_Asset.mk 3 (S_api_Mesh.mk [] [] []) (S_api_Texture.mk 0 []) (S_api_Material.mk 0 (#v[0, 0, 0]) 0) (S_api_Light.mk 0 (#v[0, 0, 0]) (S_api_Point.mk 0 0 0) (S_api_Point.mk 0 0 0) (S_api_Point.mk 0 0 0)))) fun r1 =>
 Option.bind (p_bundle_Open N ((Vector.replicate 32 0).setIfInBounds 0 1) r1.1) fun r2 =>
 Option.bind (letO (((r1.1.length : Int)) == 92) fun x4 =>
 letO (cond (r1.2 == 0) x4 false) fun x5 =>
 letO (cond x5 (r2.2.2 == 0) false) fun x6 =>
 cond x6 (
  letO (S_api_Manifest.eq r2.1 (S_api_Manifest.mk 0 3 0 (Vector.replicate 8 0) 0 0 9 1)) fun x7 =>
  some x7) (
  some false)) fun p3 =>
 some p3

theorem umbralaw16_works_ok {N : Nat} {r : Bool} (h : p_umbralaw16_works N = some r) : FnM Try.prog 9 [] [] (eB r) [] := by
 unfold p_umbralaw16_works at h
 refine fnM_of_aw (m := 37) (lo := 0) (rs := [.tmp 0]) hT Try.func9 rfl (by kernel_rfl) rfl ?_
 refine aw_sregU hT m_no [] (by kernel_rfl) ?_
 refine aw_sreg ?_
 refine awl_u hT m_no [] 4 (by kernel_rfl) ?_
 obtain ⟨r1, hr1, h⟩ := obind h
 refine awl_big (big_call [] (bundle_Seal_ok hr1) bundle_Seal_ok_c) (by kernel_rfl) ?_
 refine awl_u hT m_no [] 5 (by kernel_rfl) ?_
 refine awl_nil ?_
 refine aw_sreg ?_
 refine awl_u hT m_no [] 2 (by kernel_rfl) ?_
 obtain ⟨r2, hr2, h⟩ := obind h
 refine awl_big (big_call [] (bundle_Open_ok hr2) bundle_Open_ok_c) (by kernel_rfl) ?_
 refine awl_u hT m_no [] 9 (by kernel_rfl) ?_
 refine awl_nil ?_
 obtain ⟨p3, h, g3⟩ := obind h
 refine aw_joinT ⟨[en 0 (eB p3)], [.var (S_api_Manifest.enc r2.1), .var (S_api_Asset.enc r2.2.1)]⟩ ?_ ?_
 ·refine aw_region ?_
  obtain ⟨x4, hx4, h⟩ := letE h
  obtain ⟨x5, hx5, h⟩ := letE h
  obtain ⟨x6, hx6, h⟩ := letE h
  refine awl_u hT m_no [] 12 (by kernel_rfl) ?_
  refine awl_nms [(32, (eB x6))] (by subst hx6 hx5 hx4; kernel_rfl) ?_
  refine awl_split 32 h (by kernel_rfl) (fun h => ?_) (fun h => ?_)
  ·refine awl_u hT m_no [32] 2 (by kernel_rfl) ?_
   refine awl_big (big_eql eqT_27 (r2.1 : S_api_Manifest) (S_api_Manifest.mk 0 3 0 (Vector.replicate 8 0) 0 0 9 1 : S_api_Manifest) (by kernel_rfl) (by kernel_rfl) (fun _ => rfl) (fun _ => rfl) (by kernel_rfl) (by kernel_rfl)) (by kernel_rfl) ?_
   obtain ⟨x7, hx7, h⟩ := letE h
   refine awl_u hT m_no [32] 2 (by kernel_rfl) ?_
   refine awl_nms [(0, (eB x7))] (by subst hx7; kernel_rfl) ?_
   refine awl_nil (tn_n ?_)
   cases h
   exact jr
  ·refine awl_u hT m_no [32] 5 (by kernel_rfl) ?_
   refine awl_nil (tn_n ?_)
   cases h
   exact jr
 ·have h := g3
  refine aw_ret ?_
  cases h
  exact fin_r

theorem umbralaw16_works_ok_c : callable Try.prog 9 := ⟨_, Try.func9, by decide, rfl⟩

end Go.UK

