/- A part of the proof: what the functions of the program compute. -/
import Derived.Test.YtbifjcmhomoppaaGreatP8
namespace Go.UK
open Go Go.Proofs
set_option maxRecDepth 20000
set_option maxHeartbeats 40000000
set_option linter.all false

attribute [local irreducible] adv putPt dropPt setPt brPt litPt cutPt restPt popN stPt envPt boxPt opPt opP2t ksPt lPt owp awl aw FnM NatFn opS Stab TOK Big
def m_bundle_Peek : Nat → Bool := imL [2]

def p_bundle_Peek (N : Nat) (a0 : (Vector Int 32)) (a1 : (List Int)) : Option (S_api_Manifest × Int) :=
 letO (decide (((a1.length : Int)) < 63)) fun x1 =>
 cond x1 (
  some ((S_api_Manifest.mk 0 0 0 (Vector.replicate 8 0) 0 0 0 0, 4))) (
  Option.bind (p_bytes_HasPrefix N a1 (([85, 77, 66, 49] : List Int))) fun r2 =>
  cond (!r2) (
   some ((S_api_Manifest.mk 0 0 0 (Vector.replicate 8 0) 0 0 0 0, 5))) (
   Option.bind (slcO a1 4 12) fun s3 =>
   Option.bind (vecO 8 s3) fun v4 =>
   Option.bind (p_bundle_Nonce N v4 0) fun r5 =>
   Option.bind (slcO a1 0 47) fun s6 =>
   Option.bind (slcO a1 47 63) fun s7 =>
   Option.bind (p_aead_Open N a0 r5 s6 s7) fun r8 =>
   cond (r8.2 != 0) (
    some ((S_api_Manifest.mk 0 0 0 (Vector.replicate 8 0) 0 0 0 0, r8.2))) (
    Option.bind (slcO a1 12 47) fun s9 =>
    Option.bind (p_manifest_Decode N s9) fun r10 =>
    some ((r10.1, r10.2)))))

theorem bundle_Peek_ok {N a0 a1 r} (h : p_bundle_Peek N a0 a1 = some r) : FnM Tryz.prog 70 [] [(eA 32 1 k8 a0), (eL 1 k8 a1)] (.tup [(S_api_Manifest.enc r.1), (j64 r.2)]) [] := by
 unfold p_bundle_Peek at h
 refine At.f m_bundle_Peek hT hmo Tryz.func70 rfl h ?_
 refine lx ?_; intro x1
 refine At.c 7 ?_ ?_
 ·apply rt; exact At.r 3
 ·refine At.l2 hT 1 (d1 := 16) (d2 := 17) (t := 57) (e := 5) k8 (z := 1) ([85, 77, 66, 49] : List Int) rfl rfl rfl ?_
  refine At.b 0 (fun _ e => big_C [] (bytes_HasPrefix_ok e)) fun r2 => ?_
  refine At.c 2 ?_ ?_
  ·apply rt; exact At.r 3
  ·refine At.b 1 (fun _ e => big_slc hT (k := 1) k8 e) fun s3 => ?_
   refine At.b 0 (fun v4 e => big_s2a hT k8 s3 v4 e rfl (by kernel_rfl) (by kernel_rfl)) fun v4 => ?_
   refine bi fun r5 hr5 => ?_
   refine bi fun s6 hs6 => ?_
   refine bi fun s7 hs7 => ?_
   refine bi fun r8 hr8 => ?_
   refine At.d 3 (dE2 2 (eA 12 1 k8 r5) (fun _ => big_C0 (bundle_Nonce_ok hr5)) (dE1 4 (fun _ => big_slc hT (k := 1) k8 hs6) (dE1 6 (fun _ => big_slc hT (k := 1) k8 hs7) (dE2 7 (.tup [(eL 1 k8 r8.1), (j64 r8.2)]) (fun _ => big_C0 (aead_Open_ok hr8)) dE0)))) dF0 ?_
   refine At.c 2 ?_ ?_
   ·apply rt; exact At.r 4
   ·refine At.b 1 (fun _ e => big_slc hT (k := 1) k8 e) fun s9 => ?_
    refine At.b 0 (fun _ e => big_C [] (manifest_Decode_ok e)) fun r10 => ?_
    apply rt; exact At.r 4

def p_bundle_Open_1 (N : Nat) (a0 : Int) : Option (S_api_Manifest × S_api_Asset × Int) :=
 some ((S_api_Manifest.mk 0 0 0 (Vector.replicate 8 0) 0 0 0 0, S_api_Asset.mk 0 (S_api_Mesh.mk [] [] []) (S_api_Texture.mk 0 []) (S_api_Material.mk 0 (#v[0, 0, 0]) 0) (S_api_Light.mk 0 (#v[0, 0, 0]) (S_api_Point.mk 0 0 0) (S_api_Point.mk 0 0 0) (S_api_Point.mk 0 0 0)), a0))

theorem bundle_Open_1_ok {N a0 r} (h : p_bundle_Open_1 N a0 = some r) : FnM Tryz.prog 69 [] [(j64 a0)] (.tup [(S_api_Manifest.enc r.1), (S_api_Asset.enc r.2.1), (j64 r.2.2)]) [] := by
 unfold p_bundle_Open_1 at h
 refine At.f m_no hT hmo Tryz.func69 rfl h ?_
 apply rt; exact At.r 9

def m_bundle_chunk_ddrddd : Nat → Bool := imL [6, 7]

def p_bundle_chunk_ddrddd (N : Nat) (a0 : (Vector Int 32)) (a1 : (Vector Int 12)) (a2 : (List Int)) (a3 : Int) (a4 : Int) (a5 : S_codec_Reader) : Option (S_codec_Reader × (List Int) × Int) :=
 Option.bind (p_codec_Reader_Take_rd N 4 a5) fun r1 =>
 letO (decide (((r1.2.2.length : Int)) < 4)) fun x2 =>
 cond x2 (
  some ((S_codec_Reader.mk r1.1 r1.2.1 a5.gmade, [], 4))) (
  Option.bind (p_codec_Put N [] 2 ([U64 a3, U64 a4])) fun r3 =>
  Option.bind (p_bytes_Equal N r1.2.2 r3.1) fun r4 =>
  cond (!r4) (
   some ((S_codec_Reader.mk r1.1 r1.2.1 a5.gmade, [], 7))) (
   Option.bind (p_codec_Reader_Take_rd N (I64 (a4 + 16)) (S_codec_Reader.mk r1.1 r1.2.1 a5.gmade)) fun r5 =>
   Option.bind (p_codec_Reader_Err_r N (S_codec_Reader.mk r5.1 r5.2.1 ((S_codec_Reader.mk r1.1 r1.2.1 a5.gmade).gmade))) fun r6 =>
   cond (r6 != 0) (
    Option.bind (p_codec_Reader_Err_r N ((S_codec_Reader.mk r5.1 r5.2.1 ((S_codec_Reader.mk r1.1 r1.2.1 a5.gmade).gmade)))) fun r7 =>
    some ((((S_codec_Reader.mk r5.1 r5.2.1 ((S_codec_Reader.mk r1.1 r1.2.1 a5.gmade).gmade))), [], r7))) (
    Option.bind (p_slices_Concat_byte_byte N ([r1.2.2, a2])) fun r8 =>
    Option.bind (p_aead_Open N a0 a1 r8 r5.2.2) fun r9 =>
    some (((S_codec_Reader.mk r5.1 r5.2.1 ((S_codec_Reader.mk r1.1 r1.2.1 a5.gmade).gmade)), r9.1, r9.2)))))

theorem bundle_chunk_ddrddd_ok {N a0 a1 a2 a3 a4 a5 r} (h : p_bundle_chunk_ddrddd N a0 a1 a2 a3 a4 a5 = some r) : FnM Tryz.prog 71 [.var (S_codec_Reader.enc a5)] [(eA 32 1 k8 a0), (eA 12 1 k8 a1), (.ref 0 [] 0), (eL 1 k8 a2), (j64 a3), (j64 a4)] (.tup [(eL 1 k8 r.2.1), (j64 r.2.2)]) [.var (S_codec_Reader.enc r.1)] := by
 unfold p_bundle_chunk_ddrddd at h
 refine At.f m_bundle_chunk_ddrddd hT hmo Tryz.func71 rfl h ?_
 refine At.b 5 (fun _ e => big_C [0] (codec_Reader_Take_rd_ok e)) fun r1 => ?_
 refine lx ?_; intro x2
 refine At.c 4 ?_ ?_
 ·apply rt; exact At.r 2
 ·refine At.o 4 (big_row hT (x := (.sl 1 2 [(k64 (U64 a3)), (k64 (U64 a4))]))) ?_
  refine At.b 0 (fun _ e => big_C [] (codec_Put_ok e)) fun r3 => ?_
  refine At.b 7 (fun _ e => big_C [] (bytes_Equal_ok e)) fun r4 => ?_
  refine At.c 1 ?_ ?_
  ·apply rt; exact At.r 2
  ·refine At.b 3 (fun _ e => big_C [0] (codec_Reader_Take_rd_ok e)) fun r5 => ?_
   refine At.b 2 (fun _ e => big_C [0] (codec_Reader_Err_r_ok e)) fun r6 => ?_
   refine At.c 1 ?_ ?_
   ·refine At.b 1 (fun _ e => big_C [0] (codec_Reader_Err_r_ok e)) fun r7 => ?_
    apply rt; exact At.r 2
   ·refine bi fun r8 hr8 => ?_
    refine bi fun r9 hr9 => ?_
    refine At.d 0 (dE1 4 (fun _ => big_row hT (x := (.sl 1 2 [(eL 1 k8 r1.2.2), (eL 1 k8 a2)]))) (dE2 7 (.tup [(eL 1 k8 r9.1), (j64 r9.2)]) (fun _ => big_C0 (aead_Open_ok hr9)) dE0)) (dF 5 (eO 2 1 k8 r8) [] [.tail (r8.length * 1)] (big_at (big_C [] (slices_Concat_byte_byte_ok hr8))) dF0) ?_
    apply rt; exact At.r 0

def p_codec_Reader_Left_r (N : Nat) (a0 : S_codec_Reader) : Option (Int) :=
 Option.bind (p_codec_Reader_none_r N a0) fun r1 =>
 letO (cond r1 true (a0.ge != 0)) fun x2 =>
 cond x2 (some 0) (some ((a0.gb.length : Int)))

theorem codec_Reader_Left_r_ok {N a0 r} (h : p_codec_Reader_Left_r N a0 = some r) : FnM Tryz.prog 72 [.var (S_codec_Reader.enc a0)] [(.ref 0 [] 0)] (j64 r) [.var (S_codec_Reader.enc a0)] := by
 unfold p_codec_Reader_Left_r at h
 refine At.f m_no hT hmo Tryz.func72 rfl h ?_
 refine At.b 2 (fun _ e => big_C [0] (codec_Reader_none_r_ok e)) fun r1 => ?_
 refine lx ?_; intro x2
 refine At.c 7 ?_ ?_
 ·apply rt; exact At.r 1
 ·apply rt; exact At.r 6

def p_mesh_decoder_uint_srzd (N : Nat) (a0 : Int) (a1 : S_codec_Reader) : Option ((List Int) × Int × Int) :=
 Option.bind (p_codec_Reader_Num_rd N a0 a1) fun r1 =>
 some ((r1.1, r1.2.1, I64 r1.2.2))

theorem mesh_decoder_uint_srzd_ok {N a0 a1 r} (h : p_mesh_decoder_uint_srzd N a0 a1 = some r) : FnM Tryz.prog 153 [.var (S_codec_Reader.enc a1)] [(.st 1 [(.ref 0 [] 0)]), (j64 a0)] (j64 r.2.2) [.var (.st 3 [(eL 1 k8 r.1), (j64 r.2.1), (eB a1.gmade)])] := by
 unfold p_mesh_decoder_uint_srzd at h
 refine At.f m_no hT hmo Tryz.func153 rfl h ?_
 refine At.b 5 (fun _ e => big_C [0] (codec_Reader_Num_rd_ok e)) fun r1 => ?_
 apply rt; exact At.r 2

def p_codec_Reader_Int_rd (N : Nat) (a0 : Int) (a1 : S_codec_Reader) : Option ((List Int) × Int × Int) :=
 Option.bind (p_codec_Reader_Num_rd N a0 a1) fun r1 =>
 letO (cond (decide (a0 < 1)) true (decide (a0 > 8))) fun x2 =>
 cond x2 (
  some ((r1.1, r1.2.1, 0))) (
  letO (I64 (64 - (I64 (8 * a0)))) fun x3 =>
  Option.bind (shlO .i64 (I64 r1.2.2) x3) fun x4 =>
  letO (I64 (64 - (I64 (8 * a0)))) fun x5 =>
  Option.bind (shrO .i64 x4 x5) fun x6 =>
  some ((r1.1, r1.2.1, x6)))

theorem codec_Reader_Int_rd_ok {N a0 a1 r} (h : p_codec_Reader_Int_rd N a0 a1 = some r) : FnM Tryz.prog 157 [.var (S_codec_Reader.enc a1)] [(.ref 0 [] 0), (j64 a0)] (j64 r.2.2) [.var (.st 3 [(eL 1 k8 r.1), (j64 r.2.1), (eB a1.gmade)])] := by
 unfold p_codec_Reader_Int_rd at h
 refine At.f m_no hT hmo Tryz.func157 rfl h ?_
 refine At.b 3 (fun _ e => big_C [0] (codec_Reader_Num_rd_ok e)) fun r1 => ?_
 refine lx ?_; intro x2
 refine At.c 7 ?_ ?_
 ·apply rt; exact At.r 1
 ·refine lx ?_; intro x3
  refine At.b 5 (fun _ e => big_shl hT (k' := .i64) e (by kernel_rfl) (by kernel_rfl)) fun x4 => ?_
  refine lx ?_; intro x5
  refine At.b 3 (fun _ e => big_shr hT (k' := .i64) e (by kernel_rfl) (by kernel_rfl)) fun x6 => ?_
  apply rt; exact At.r 1

def p_mesh_decoder_point_srz (N : Nat) (a0 : S_codec_Reader) : Option ((List Int) × Int × Bool × S_api_Point) :=
 Option.bind (p_codec_Reader_Int_rd N 2 a0) fun r1 =>
 Option.bind (p_codec_Reader_Int_rd N 2 (S_codec_Reader.mk r1.1 r1.2.1 a0.gmade)) fun r2 =>
 Option.bind (p_codec_Reader_Int_rd N 2 (S_codec_Reader.mk r2.1 r2.2.1 ((S_codec_Reader.mk r1.1 r1.2.1 a0.gmade).gmade))) fun r3 =>
 some ((r3.1, r3.2.1, (S_codec_Reader.mk r2.1 r2.2.1 ((S_codec_Reader.mk r1.1 r1.2.1 a0.gmade).gmade)).gmade, S_api_Point.mk r1.2.2 r2.2.2 r3.2.2))

theorem mesh_decoder_point_srz_ok {N a0 r} (h : p_mesh_decoder_point_srz N a0 = some r) : FnM Tryz.prog 154 [.var (S_codec_Reader.enc a0)] [(.st 1 [(.ref 0 [] 0)])] (S_api_Point.enc r.2.2.2) [.var (.st 3 [(eL 1 k8 r.1), (j64 r.2.1), (eB r.2.2.1)])] := by
 unfold p_mesh_decoder_point_srz at h
 refine At.f m_no hT hmo Tryz.func154 rfl h ?_
 refine bi fun r1 hr1 => ?_
 refine bi fun r2 hr2 => ?_
 refine bi fun r3 hr3 => ?_
 refine At.d 2 dE0 (dF 2 (j64 r1.2.2) [(0, .var (.st 3 [(eL 1 k8 r1.1), (j64 r1.2.1), (eB a0.gmade)]))] [] (big_at (big_C [0] (codec_Reader_Int_rd_ok hr1))) (dF 5 (j64 r2.2.2) [(0, .var (.st 3 [(eL 1 k8 r2.1), (j64 r2.2.1), (eB ((S_codec_Reader.mk r1.1 r1.2.1 a0.gmade).gmade))]))] [] (big_at (big_C [0] (codec_Reader_Int_rd_ok hr2))) (dF 8 (j64 r3.2.2) [(0, .var (.st 3 [(eL 1 k8 r3.1), (j64 r3.2.1), (eB ((S_codec_Reader.mk r2.1 r2.2.1 ((S_codec_Reader.mk r1.1 r1.2.1 a0.gmade).gmade)).gmade))]))] [] (big_at (big_C [0] (codec_Reader_Int_rd_ok hr3))) dF0))) ?_
 apply rt; exact At.r 0

def p_mesh_Decode_L1 (N : Nat) (r2 : (List Int) × Int × Int) : Nat → (List S_api_Point) → (List Int) → Int → Bool → Int → Option ((List S_api_Point) × (List Int) × Int × Bool)
 | 0, _, _, _, _, _ => none
 | k + 1, s5, s6, s7, s8, s9 =>
  cond (decide (s9 < r2.2.2)) (
   Option.bind (p_mesh_decoder_point_srz N (S_codec_Reader.mk s6 s7 s8)) fun r10 =>
   Option.bind (appO 24 s5 (([r10.2.2.2] : List S_api_Point))) fun z11 =>
   p_mesh_Decode_L1 N r2 k z11 r10.1 r10.2.1 r10.2.2.1 (I64 (s9 + 1))) (
   some ((s5, s6, s7, s8)))

def p_mesh_Decode_L2 (N : Nat) (r2 : (List Int) × Int × Int) : Nat → (List (Vector Int 2)) → (List Int) → Int → Bool → Int → Option ((List (Vector Int 2)) × (List Int) × Int × Bool)
 | 0, _, _, _, _, _ => none
 | k + 1, s13, s14, s15, s16, s17 =>
  cond (decide (s17 < r2.2.2)) (
   Option.bind (p_mesh_decoder_uint_srzd N 2 (S_codec_Reader.mk s14 s15 s16)) fun r18 =>
   Option.bind (p_mesh_decoder_uint_srzd N 2 (S_codec_Reader.mk r18.1 r18.2.1 ((S_codec_Reader.mk s14 s15 s16).gmade))) fun r19 =>
   Option.bind (appO 16 s13 (([#v[r18.2.2, r19.2.2]] : List (Vector Int 2)))) fun z20 =>
   p_mesh_Decode_L2 N r2 k z20 r19.1 r19.2.1 ((S_codec_Reader.mk r18.1 r18.2.1 ((S_codec_Reader.mk s14 s15 s16).gmade)).gmade) (I64 (s17 + 1))) (
   some ((s13, s14, s15, s16)))

def p_mesh_Decode_L3 (N : Nat) (r3 : (List Int) × Int × Int) : Nat → (List (Vector Int 3)) → (List Int) → Int → Bool → Int → Option ((List (Vector Int 3)) × (List Int) × Int × Bool)
 | 0, _, _, _, _, _ => none
 | k + 1, s22, s23, s24, s25, s26 =>
  cond (decide (s26 < r3.2.2)) (
   Option.bind (p_mesh_decoder_uint_srzd N 1 (S_codec_Reader.mk s23 s24 s25)) fun r27 =>
   Option.bind (p_mesh_decoder_uint_srzd N 1 (S_codec_Reader.mk r27.1 r27.2.1 ((S_codec_Reader.mk s23 s24 s25).gmade))) fun r28 =>
   Option.bind (p_mesh_decoder_uint_srzd N 1 (S_codec_Reader.mk r28.1 r28.2.1 ((S_codec_Reader.mk r27.1 r27.2.1 ((S_codec_Reader.mk s23 s24 s25).gmade)).gmade))) fun r29 =>
   Option.bind (appO 24 s22 (([#v[r27.2.2, r28.2.2, r29.2.2]] : List (Vector Int 3)))) fun z30 =>
   p_mesh_Decode_L3 N r3 k z30 r29.1 r29.2.1 ((S_codec_Reader.mk r28.1 r28.2.1 ((S_codec_Reader.mk r27.1 r27.2.1 ((S_codec_Reader.mk s23 s24 s25).gmade)).gmade)).gmade) (I64 (s26 + 1))) (
   some ((s22, s23, s24, s25)))

def p_mesh_Decode (N : Nat) (a0 : (List Int)) : Option (S_api_Mesh × Int) :=
 Option.bind (p_codec_New N a0) fun r1 =>
 Option.bind (p_mesh_decoder_uint_srzd N 1 (S_codec_Reader.mk r1 0 true)) fun r2 =>
 Option.bind (p_mesh_decoder_uint_srzd N 1 (S_codec_Reader.mk r2.1 r2.2.1 ((S_codec_Reader.mk r1 0 true).gmade))) fun r3 =>
 Option.bind (p_mesh_Decode_L1 N r2 N [] r3.1 r3.2.1 ((S_codec_Reader.mk r2.1 r2.2.1 ((S_codec_Reader.mk r1 0 true).gmade)).gmade) 0) fun p4 =>
 Option.bind (p_mesh_Decode_L2 N r2 N [] p4.2.1 p4.2.2.1 p4.2.2.2 0) fun p12 =>
 Option.bind (p_mesh_Decode_L3 N r3 N [] p12.2.1 p12.2.2.1 p12.2.2.2 0) fun p21 =>
 Option.bind (p_codec_Reader_End_r N (S_codec_Reader.mk p21.2.1 p21.2.2.1 p21.2.2.2)) fun r31 =>
 cond (r31 != 0) (
  some ((S_api_Mesh.mk [] [] [], r31))) (
  Option.bind (p_mesh_Check N (S_api_Mesh.mk p4.1 p12.1 p21.1)) fun r32 =>
  cond (r32 != 0) (
   some ((S_api_Mesh.mk [] [] [], r32))) (
   some ((S_api_Mesh.mk p4.1 p12.1 p21.1, 0))))

theorem mesh_Decode_ok {N a0 r} (h : p_mesh_Decode N a0 = some r) : FnM Tryz.prog 107 [] [(eL 1 k8 a0)] (.tup [(S_api_Mesh.enc r.1), (j64 r.2)]) [] := by
 unfold p_mesh_Decode at h
 refine At.f m_no hT hmo Tryz.func107 rfl h ?_
 refine At.b 3 (fun _ e => big_C [] (codec_New_ok e)) fun r1 => ?_
 refine bi fun r2 hr2 => ?_
 refine bi fun r3 hr3 => ?_
 refine At.d 3 dE0 (dF 1 (j64 r2.2.2) [(2, .var (.st 3 [(eL 1 k8 r2.1), (j64 r2.2.1), (eB ((S_codec_Reader.mk r1 0 true).gmade))]))] [] (big_at (big_C [2] (mesh_decoder_uint_srzd_ok hr2))) (dF 3 (j64 r3.2.2) [(2, .var (.st 3 [(eL 1 k8 r3.1), (j64 r3.2.1), (eB ((S_codec_Reader.mk r2.1 r2.2.1 ((S_codec_Reader.mk r1 0 true).gmade)).gmade))]))] [] (big_at (big_C [2] (mesh_decoder_uint_srzd_ok hr3))) dF0)) ?_
 refine At.ownb 3 4 3 [0] ?_
 refine At.L 0 [2, 4, 5, 6, 7] 6 (fun p4 => ([], [(2, .var (.st 3 [(eL 1 k8 p4.2.1), (j64 p4.2.2.1), (eB p4.2.2.2)])), (4, .var (.st 3 [(eO 5 3 S_api_Point.enc p4.1), (.v (.slice none 0 0)), (.v (.slice none 0 0))])), (5, .tail (p4.1.length * 3))], [])) (fun p4 J k => ∃ s5 s6 s7 s8 s9, p_mesh_Decode_L1 N r2 k s5 s6 s7 s8 s9 = some p4 ∧ J [2, 4, 5, 6, 7, 17] 6 [(18, (j64 s9))] [(2, .var (.st 3 [(eL 1 k8 s6), (j64 s7), (eB s8)])), (4, .var (.st 3 [(eO 5 3 S_api_Point.enc s5), (.v (.slice none 0 0)), (.v (.slice none 0 0))])), (5, .tail (s5.length * 3))] []) N (fun _ h => ⟨_, _, _, _, _, h, jr⟩) (fun p4 k s hI => ?_) fun p4 => ?_
 ·obtain ⟨s5, s6, s7, s8, s9, h, hj⟩ := hI
  cases k with
  | zero => cases h
  | succ k =>
   refine At.jr hj ?_ h
   refine At.c 1 ?_ ?_
   ·refine bi fun r10 hr10 => ?_
    refine bi fun z11 hz11 => ?_
    refine At.d 0 (dE1 4 (fun _ => big_row hT (x := (.sl 3 1 [(S_api_Point.enc r10.2.2.2)]))) dE0) (dF 3 (S_api_Point.enc r10.2.2.2) [(2, .var (.st 3 [(eL 1 k8 r10.1), (j64 r10.2.1), (eB r10.2.2.1)]))] [] (big_at (big_C [2] (mesh_decoder_point_srz_ok hr10))) (dF 5 (eO 5 3 S_api_Point.enc z11) [(5, .tail (z11.length * 3))] [] (big_at (big_app hT S_api_Point.enc (id := 5) (k := 3) hz11)) dF0)) ?_
    exact fun h => At.k 2 ⟨_, _, _, _, _, h, jr⟩
   ·apply rt; exact At.x 0
 ·refine At.ownb 2 4 2 [1] ?_
  refine At.L 0 [2, 4, 6, 7] 7 (fun p12 => ([], [(2, .var (.st 3 [(eL 1 k8 p12.2.1), (j64 p12.2.2.1), (eB p12.2.2.2)])), (4, .var (.st 3 [(eO 5 3 S_api_Point.enc p4.1), (eO 6 2 (eA 2 1 j64) p12.1), (.v (.slice none 0 0))])), (6, .tail (p12.1.length * 2))], [])) (fun p12 J k => ∃ s13 s14 s15 s16 s17, p_mesh_Decode_L2 N r2 k s13 s14 s15 s16 s17 = some p12 ∧ J [2, 4, 6, 7, 28] 7 [(29, (j64 s17))] [(2, .var (.st 3 [(eL 1 k8 s14), (j64 s15), (eB s16)])), (4, .var (.st 3 [(eO 5 3 S_api_Point.enc p4.1), (eO 6 2 (eA 2 1 j64) s13), (.v (.slice none 0 0))])), (6, .tail (s13.length * 2))] []) N (fun _ h => ⟨_, _, _, _, _, h, jr⟩) (fun p12 k s hI => ?_) fun p12 => ?_
  ·obtain ⟨s13, s14, s15, s16, s17, h, hj⟩ := hI
   cases k with
   | zero => cases h
   | succ k =>
    refine At.jr hj ?_ h
    refine At.c 1 ?_ ?_
    ·refine bi fun r18 hr18 => ?_
     refine bi fun r19 hr19 => ?_
     refine bi fun z20 hz20 => ?_
     refine At.d 0 (dE1 7 (fun _ => big_row hT (x := (.sl 2 1 [(.arr 2 1 [(j64 r18.2.2), (j64 r19.2.2)])]))) dE0) (dF 3 (j64 r18.2.2) [(2, .var (.st 3 [(eL 1 k8 r18.1), (j64 r18.2.1), (eB ((S_codec_Reader.mk s14 s15 s16).gmade))]))] [] (big_at (big_C [2] (mesh_decoder_uint_srzd_ok hr18))) (dF 5 (j64 r19.2.2) [(2, .var (.st 3 [(eL 1 k8 r19.1), (j64 r19.2.1), (eB ((S_codec_Reader.mk r18.1 r18.2.1 ((S_codec_Reader.mk s14 s15 s16).gmade)).gmade))]))] [] (big_at (big_C [2] (mesh_decoder_uint_srzd_ok hr19))) (dF 8 (eO 6 2 (eA 2 1 j64) z20) [(6, .tail (z20.length * 2))] [] (big_at (big_app hT (eA 2 1 j64) (id := 6) (k := 2) hz20)) dF0))) ?_
     exact fun h => At.k 2 ⟨_, _, _, _, _, h, jr⟩
    ·apply rt; exact At.x 0
  ·refine At.ownb 2 4 3 [2] ?_
   refine At.L 0 [2, 4, 7] 8 (fun p21 => ([], [(2, .var (.st 3 [(eL 1 k8 p21.2.1), (j64 p21.2.2.1), (eB p21.2.2.2)])), (4, .var (.st 3 [(eO 5 3 S_api_Point.enc p4.1), (eO 6 2 (eA 2 1 j64) p12.1), (eO 7 3 (eA 3 1 j64) p21.1)])), (7, .tail (p21.1.length * 3))], [])) (fun p21 J k => ∃ s22 s23 s24 s25 s26, p_mesh_Decode_L3 N r3 k s22 s23 s24 s25 s26 = some p21 ∧ J [2, 4, 7, 42] 8 [(43, (j64 s26))] [(2, .var (.st 3 [(eL 1 k8 s23), (j64 s24), (eB s25)])), (4, .var (.st 3 [(eO 5 3 S_api_Point.enc p4.1), (eO 6 2 (eA 2 1 j64) p12.1), (eO 7 3 (eA 3 1 j64) s22)])), (7, .tail (s22.length * 3))] []) N (fun _ h => ⟨_, _, _, _, _, h, jr⟩) (fun p21 k s hI => ?_) fun p21 => ?_
   ·obtain ⟨s22, s23, s24, s25, s26, h, hj⟩ := hI
    cases k with
    | zero => cases h
    | succ k =>
     refine At.jr hj ?_ h
     refine At.c 1 ?_ ?_
     ·refine bi fun r27 hr27 => ?_
      refine bi fun r28 hr28 => ?_
      refine bi fun r29 hr29 => ?_
      refine bi fun z30 hz30 => ?_
      refine At.d 0 (dE1 9 (fun _ => big_row hT (x := (.sl 3 1 [(.arr 3 1 [(j64 r27.2.2), (j64 r28.2.2), (j64 r29.2.2)])]))) dE0) (dF 3 (j64 r27.2.2) [(2, .var (.st 3 [(eL 1 k8 r27.1), (j64 r27.2.1), (eB ((S_codec_Reader.mk s23 s24 s25).gmade))]))] [] (big_at (big_C [2] (mesh_decoder_uint_srzd_ok hr27))) (dF 5 (j64 r28.2.2) [(2, .var (.st 3 [(eL 1 k8 r28.1), (j64 r28.2.1), (eB ((S_codec_Reader.mk r27.1 r27.2.1 ((S_codec_Reader.mk s23 s24 s25).gmade)).gmade))]))] [] (big_at (big_C [2] (mesh_decoder_uint_srzd_ok hr28))) (dF 7 (j64 r29.2.2) [(2, .var (.st 3 [(eL 1 k8 r29.1), (j64 r29.2.1), (eB ((S_codec_Reader.mk r28.1 r28.2.1 ((S_codec_Reader.mk r27.1 r27.2.1 ((S_codec_Reader.mk s23 s24 s25).gmade)).gmade)).gmade))]))] [] (big_at (big_C [2] (mesh_decoder_uint_srzd_ok hr29))) (dF 10 (eO 7 3 (eA 3 1 j64) z30) [(7, .tail (z30.length * 3))] [] (big_at (big_app hT (eA 3 1 j64) (id := 7) (k := 3) hz30)) dF0)))) ?_
      exact fun h => At.k 2 ⟨_, _, _, _, _, h, jr⟩
     ·apply rt; exact At.x 0
   ·refine At.b 2 (fun _ e => big_C [2] (codec_Reader_End_r_ok e)) fun r31 => ?_
    refine At.c 3 ?_ ?_
    ·apply rt; exact At.r 4
    ·refine At.b 1 (fun _ e => big_C [] (mesh_Check_ok e)) fun r32 => ?_
     refine At.c 3 ?_ ?_
     ·apply rt; exact At.r 4
     ·apply rt; exact At.r 3

def p_texture_Decode_L1 (N : Nat) (x3 : Int) : Nat → (List (Vector Int 3)) → (List Int) → Int → Bool → Int → Option ((List (Vector Int 3)) × (List Int) × Int × Bool)
 | 0, _, _, _, _, _ => none
 | k + 1, s5, s6, s7, s8, s9 =>
  cond (decide (s9 < x3)) (
   Option.bind (p_codec_Reader_Take_rd N 3 (S_codec_Reader.mk s6 s7 s8)) fun r10 =>
   letO (decide (((r10.2.2.length : Int)) < 3)) fun x11 =>
   cond x11 (
    some ((s5, r10.1, r10.2.1, (S_codec_Reader.mk s6 s7 s8).gmade))) (
    Option.bind (idx r10.2.2 0) fun e12 =>
    Option.bind (idx r10.2.2 1) fun e13 =>
    Option.bind (idx r10.2.2 2) fun e14 =>
    Option.bind (appO 24 s5 (([#v[I64 e12, I64 e13, I64 e14]] : List (Vector Int 3)))) fun z15 =>
    p_texture_Decode_L1 N x3 k z15 r10.1 r10.2.1 ((S_codec_Reader.mk s6 s7 s8).gmade) (I64 (s9 + 1)))) (
   some ((s5, s6, s7, s8)))

def p_texture_Decode (N : Nat) (a0 : (List Int)) : Option (S_api_Texture × Int) :=
 Option.bind (p_codec_New N a0) fun r1 =>
 Option.bind (p_codec_Reader_Num_rd N 1 (S_codec_Reader.mk r1 0 true)) fun r2 =>
 letO (I64 ((I64 r2.2.2) * (I64 r2.2.2))) fun x3 =>
 Option.bind (p_texture_Decode_L1 N x3 N [] r2.1 r2.2.1 ((S_codec_Reader.mk r1 0 true).gmade) 0) fun p4 =>
 Option.bind (p_codec_Reader_End_r N (S_codec_Reader.mk p4.2.1 p4.2.2.1 p4.2.2.2)) fun r16 =>
 cond (r16 != 0) (
  some ((S_api_Texture.mk 0 [], r16))) (
  Option.bind (p_texture_Check N (S_api_Texture.mk (I64 r2.2.2) p4.1)) fun r17 =>
  cond (r17 != 0) (
   some ((S_api_Texture.mk 0 [], r17))) (
   some ((S_api_Texture.mk (I64 r2.2.2) p4.1, 0))))

theorem texture_Decode_ok {N a0 r} (h : p_texture_Decode N a0 = some r) : FnM Tryz.prog 108 [] [(eL 1 k8 a0)] (.tup [(S_api_Texture.enc r.1), (j64 r.2)]) [] := by
 unfold p_texture_Decode at h
 refine At.f m_no hT hmo Tryz.func108 rfl h ?_
 refine At.b 3 (fun _ e => big_C [] (codec_New_ok e)) fun r1 => ?_
 refine At.b 2 (fun _ e => big_C [2] (codec_Reader_Num_rd_ok e)) fun r2 => ?_
 refine lx ?_; intro x3
 refine At.ownb 10 3 3 [1] ?_
 refine At.L 0 [2, 4, 5] 5 (fun p4 => ([], [(2, .var (.st 3 [(eL 1 k8 p4.2.1), (j64 p4.2.2.1), (eB p4.2.2.2)])), (3, .var (.st 2 [(j64 (I64 r2.2.2)), (eO 4 3 (eA 3 1 j64) p4.1)])), (4, .tail (p4.1.length * 3))], [])) (fun p4 J k => ∃ s5 s6 s7 s8 s9, p_texture_Decode_L1 N x3 k s5 s6 s7 s8 s9 = some p4 ∧ J [2, 4, 5, 19] 5 [(20, (j64 s9))] [(2, .var (.st 3 [(eL 1 k8 s6), (j64 s7), (eB s8)])), (3, .var (.st 2 [(j64 (I64 r2.2.2)), (eO 4 3 (eA 3 1 j64) s5)])), (4, .tail (s5.length * 3))] []) N (fun _ h => ⟨_, _, _, _, _, h, jr⟩) (fun p4 k s hI => ?_) fun p4 => ?_
 ·obtain ⟨s5, s6, s7, s8, s9, h, hj⟩ := hI
  cases k with
  | zero => cases h
  | succ k =>
   refine At.jr hj ?_ h
   refine At.c 1 ?_ ?_
   ·refine At.b 1 (fun _ e => big_C [2] (codec_Reader_Take_rd_ok e)) fun r10 => ?_
    refine lx ?_; intro x11
    refine At.c 4 ?_ ?_
    ·apply rt; exact At.x 0
    ·refine bi fun e12 he12 => ?_
     refine bi fun e13 he13 => ?_
     refine bi fun e14 he14 => ?_
     refine bi fun z15 hz15 => ?_
     refine At.d 0 (dE1 3 (fun _ => big_idx hT k8 he12) (dE1 7 (fun _ => big_idx hT k8 he13) (dE1 11 (fun _ => big_idx hT k8 he14) (dE1 15 (fun _ => big_row hT (x := (.sl 3 1 [(.arr 3 1 [(j64 (I64 e12)), (j64 (I64 e13)), (j64 (I64 e14))])]))) dE0)))) (dF 16 (eO 4 3 (eA 3 1 j64) z15) [(4, .tail (z15.length * 3))] [] (big_at (big_app hT (eA 3 1 j64) (id := 4) (k := 3) hz15)) dF0) ?_
     exact fun h => At.k 2 ⟨_, _, _, _, _, h, jr⟩
   ·apply rt; exact At.x 0
 ·refine At.b 1 (fun _ e => big_C [2] (codec_Reader_End_r_ok e)) fun r16 => ?_
  refine At.c 3 ?_ ?_
  ·apply rt; exact At.r 4
  ·refine At.b 1 (fun _ e => big_C [] (texture_Check_ok e)) fun r17 => ?_
   refine At.c 3 ?_ ?_
   ·apply rt; exact At.r 4
   ·apply rt; exact At.r 3

def p_asset_decoder_uint_srzd (N : Nat) (a0 : Int) (a1 : S_codec_Reader) : Option ((List Int) × Int × Int) :=
 Option.bind (p_codec_Reader_Num_rd N a0 a1) fun r1 =>
 some ((r1.1, r1.2.1, I64 r1.2.2))

theorem asset_decoder_uint_srzd_ok {N a0 a1 r} (h : p_asset_decoder_uint_srzd N a0 a1 = some r) : FnM Tryz.prog 109 [.var (S_codec_Reader.enc a1)] [(.st 1 [(.ref 0 [] 0)]), (j64 a0)] (j64 r.2.2) [.var (.st 3 [(eL 1 k8 r.1), (j64 r.2.1), (eB a1.gmade)])] := by
 unfold p_asset_decoder_uint_srzd at h
 refine At.f m_no hT hmo Tryz.func109 rfl h ?_
 refine At.b 5 (fun _ e => big_C [0] (codec_Reader_Num_rd_ok e)) fun r1 => ?_
 apply rt; exact At.r 2

def p_asset_decoder_three_srzd (N : Nat) (a0 : Int) (a1 : S_codec_Reader) : Option ((List Int) × Int × Bool × (Vector Int 3)) :=
 Option.bind (p_asset_decoder_uint_srzd N a0 a1) fun r1 =>
 Option.bind (p_asset_decoder_uint_srzd N a0 (S_codec_Reader.mk r1.1 r1.2.1 a1.gmade)) fun r2 =>
 Option.bind (p_asset_decoder_uint_srzd N a0 (S_codec_Reader.mk r2.1 r2.2.1 ((S_codec_Reader.mk r1.1 r1.2.1 a1.gmade).gmade))) fun r3 =>
 some ((r3.1, r3.2.1, (S_codec_Reader.mk r2.1 r2.2.1 ((S_codec_Reader.mk r1.1 r1.2.1 a1.gmade).gmade)).gmade, #v[r1.2.2, r2.2.2, r3.2.2]))

theorem asset_decoder_three_srzd_ok {N a0 a1 r} (h : p_asset_decoder_three_srzd N a0 a1 = some r) : FnM Tryz.prog 110 [.var (S_codec_Reader.enc a1)] [(.st 1 [(.ref 0 [] 0)]), (j64 a0)] (eA 3 1 j64 r.2.2.2) [.var (.st 3 [(eL 1 k8 r.1), (j64 r.2.1), (eB r.2.2.1)])] := by
 unfold p_asset_decoder_three_srzd at h
 refine At.f m_no hT hmo Tryz.func110 rfl h ?_
 refine bi fun r1 hr1 => ?_
 refine bi fun r2 hr2 => ?_
 refine bi fun r3 hr3 => ?_
 refine At.d 2 dE0 (dF 2 (j64 r1.2.2) [(0, .var (.st 3 [(eL 1 k8 r1.1), (j64 r1.2.1), (eB a1.gmade)]))] [] (big_at (big_C [0] (asset_decoder_uint_srzd_ok hr1))) (dF 5 (j64 r2.2.2) [(0, .var (.st 3 [(eL 1 k8 r2.1), (j64 r2.2.1), (eB ((S_codec_Reader.mk r1.1 r1.2.1 a1.gmade).gmade))]))] [] (big_at (big_C [0] (asset_decoder_uint_srzd_ok hr2))) (dF 8 (j64 r3.2.2) [(0, .var (.st 3 [(eL 1 k8 r3.1), (j64 r3.2.1), (eB ((S_codec_Reader.mk r2.1 r2.2.1 ((S_codec_Reader.mk r1.1 r1.2.1 a1.gmade).gmade)).gmade))]))] [] (big_at (big_C [0] (asset_decoder_uint_srzd_ok hr3))) dF0))) ?_
 apply rt; exact At.r 0

def p_asset_decoder_point_srz (N : Nat) (a0 : S_codec_Reader) : Option ((List Int) × Int × Bool × S_api_Point) :=
 Option.bind (p_codec_Reader_Int_rd N 2 a0) fun r1 =>
 Option.bind (p_codec_Reader_Int_rd N 2 (S_codec_Reader.mk r1.1 r1.2.1 a0.gmade)) fun r2 =>
 Option.bind (p_codec_Reader_Int_rd N 2 (S_codec_Reader.mk r2.1 r2.2.1 ((S_codec_Reader.mk r1.1 r1.2.1 a0.gmade).gmade))) fun r3 =>
 some ((r3.1, r3.2.1, (S_codec_Reader.mk r2.1 r2.2.1 ((S_codec_Reader.mk r1.1 r1.2.1 a0.gmade).gmade)).gmade, S_api_Point.mk r1.2.2 r2.2.2 r3.2.2))

theorem asset_decoder_point_srz_ok {N a0 r} (h : p_asset_decoder_point_srz N a0 = some r) : FnM Tryz.prog 112 [.var (S_codec_Reader.enc a0)] [(.st 1 [(.ref 0 [] 0)])] (S_api_Point.enc r.2.2.2) [.var (.st 3 [(eL 1 k8 r.1), (j64 r.2.1), (eB r.2.2.1)])] := by
 unfold p_asset_decoder_point_srz at h
 refine At.f m_no hT hmo Tryz.func112 rfl h ?_
 refine bi fun r1 hr1 => ?_
 refine bi fun r2 hr2 => ?_
 refine bi fun r3 hr3 => ?_
 refine At.d 2 dE0 (dF 2 (j64 r1.2.2) [(0, .var (.st 3 [(eL 1 k8 r1.1), (j64 r1.2.1), (eB a0.gmade)]))] [] (big_at (big_C [0] (codec_Reader_Int_rd_ok hr1))) (dF 5 (j64 r2.2.2) [(0, .var (.st 3 [(eL 1 k8 r2.1), (j64 r2.2.1), (eB ((S_codec_Reader.mk r1.1 r1.2.1 a0.gmade).gmade))]))] [] (big_at (big_C [0] (codec_Reader_Int_rd_ok hr2))) (dF 8 (j64 r3.2.2) [(0, .var (.st 3 [(eL 1 k8 r3.1), (j64 r3.2.1), (eB ((S_codec_Reader.mk r2.1 r2.2.1 ((S_codec_Reader.mk r1.1 r1.2.1 a0.gmade).gmade)).gmade))]))] [] (big_at (big_C [0] (codec_Reader_Int_rd_ok hr3))) dF0))) ?_
 apply rt; exact At.r 0

def p_asset_Decode (N : Nat) (a0 : Int) (a1 : (List Int)) : Option (S_api_Asset × Int) :=
 Option.bind (Option.bind (p_codec_New N a1) fun r2 =>
 cond (a0 == 1) (
  Option.bind (p_mesh_Decode N a1) fun r3 =>
  some ((r2, r3.1.gVerts, r3.1.gUvs, r3.1.gTris, 0, [], 0, #v[0, 0, 0], 0, 0, #v[0, 0, 0], 0, 0, 0, 0, 0, 0, 0, 0, 0, S_codec_Reader.mk r2 0 true, r3.2))) (
  cond (a0 == 2) (
   Option.bind (p_texture_Decode N a1) fun r4 =>
   some ((r2, [], [], [], r4.1.gSide, r4.1.gTexels, 0, #v[0, 0, 0], 0, 0, #v[0, 0, 0], 0, 0, 0, 0, 0, 0, 0, 0, 0, S_codec_Reader.mk r2 0 true, r4.2))) (
   cond (a0 == 3) (
    Option.bind (p_asset_decoder_uint_srzd N 1 (S_codec_Reader.mk r2 0 true)) fun r5 =>
    Option.bind (p_asset_decoder_three_srzd N 2 (S_codec_Reader.mk r5.1 r5.2.1 ((S_codec_Reader.mk r2 0 true).gmade))) fun r6 =>
    Option.bind (p_asset_decoder_uint_srzd N 2 (S_codec_Reader.mk r6.1 r6.2.1 r6.2.2.1)) fun r7 =>
    Option.bind (p_codec_Reader_End_r N (S_codec_Reader.mk r7.1 r7.2.1 ((S_codec_Reader.mk r6.1 r6.2.1 r6.2.2.1).gmade))) fun r8 =>
    some ((r2, [], [], [], 0, [], r5.2.2, r6.2.2.2, r7.2.2, 0, #v[0, 0, 0], 0, 0, 0, 0, 0, 0, 0, 0, 0, (S_codec_Reader.mk r7.1 r7.2.1 ((S_codec_Reader.mk r6.1 r6.2.1 r6.2.2.1).gmade)), r8))) (
    cond (a0 == 4) (
     Option.bind (p_asset_decoder_uint_srzd N 1 (S_codec_Reader.mk r2 0 true)) fun r9 =>
     Option.bind (p_asset_decoder_three_srzd N 4 (S_codec_Reader.mk r9.1 r9.2.1 ((S_codec_Reader.mk r2 0 true).gmade))) fun r10 =>
     Option.bind (p_asset_decoder_point_srz N (S_codec_Reader.mk r10.1 r10.2.1 r10.2.2.1)) fun r11 =>
     Option.bind (p_asset_decoder_point_srz N (S_codec_Reader.mk r11.1 r11.2.1 r11.2.2.1)) fun r12 =>
     Option.bind (p_asset_decoder_point_srz N (S_codec_Reader.mk r12.1 r12.2.1 r12.2.2.1)) fun r13 =>
     Option.bind (p_codec_Reader_End_r N (S_codec_Reader.mk r13.1 r13.2.1 r13.2.2.1)) fun r14 =>
     some ((r2, [], [], [], 0, [], 0, #v[0, 0, 0], 0, r9.2.2, r10.2.2.2, r11.2.2.2.gX, r11.2.2.2.gY, r11.2.2.2.gZ, r12.2.2.2.gX, r12.2.2.2.gY, r12.2.2.2.gZ, r13.2.2.2.gX, r13.2.2.2.gY, r13.2.2.2.gZ, (S_codec_Reader.mk r13.1 r13.2.1 r13.2.2.1), r14))) (
     some ((r2, [], [], [], 0, [], 0, #v[0, 0, 0], 0, 0, #v[0, 0, 0], 0, 0, 0, 0, 0, 0, 0, 0, 0, S_codec_Reader.mk r2 0 true, 0))))))) fun p1 =>
 letO p1.2.2.2.2.2.2.2.2.2.2.2.2.2.2.2.2.2.2.2.2.2 fun x15 =>
 cond (x15 != 0) (
  letO p1.2.2.2.2.2.2.2.2.2.2.2.2.2.2.2.2.2.2.2.2.2 fun x16 =>
  some ((S_api_Asset.mk 0 (S_api_Mesh.mk [] [] []) (S_api_Texture.mk 0 []) (S_api_Material.mk 0 (#v[0, 0, 0]) 0) (S_api_Light.mk 0 (#v[0, 0, 0]) (S_api_Point.mk 0 0 0) (S_api_Point.mk 0 0 0) (S_api_Point.mk 0 0 0)), x16))) (
  Option.bind (p_asset_Check N (S_api_Asset.mk a0 (S_api_Mesh.mk p1.2.1 p1.2.2.1 p1.2.2.2.1) (S_api_Texture.mk p1.2.2.2.2.1 p1.2.2.2.2.2.1) (S_api_Material.mk p1.2.2.2.2.2.2.1 p1.2.2.2.2.2.2.2.1 p1.2.2.2.2.2.2.2.2.1) (S_api_Light.mk p1.2.2.2.2.2.2.2.2.2.1 p1.2.2.2.2.2.2.2.2.2.2.1 (S_api_Point.mk p1.2.2.2.2.2.2.2.2.2.2.2.1 p1.2.2.2.2.2.2.2.2.2.2.2.2.1 p1.2.2.2.2.2.2.2.2.2.2.2.2.2.1) (S_api_Point.mk p1.2.2.2.2.2.2.2.2.2.2.2.2.2.2.1 p1.2.2.2.2.2.2.2.2.2.2.2.2.2.2.2.1 p1.2.2.2.2.2.2.2.2.2.2.2.2.2.2.2.2.1) (S_api_Point.mk p1.2.2.2.2.2.2.2.2.2.2.2.2.2.2.2.2.2.1 p1.2.2.2.2.2.2.2.2.2.2.2.2.2.2.2.2.2.2.1 p1.2.2.2.2.2.2.2.2.2.2.2.2.2.2.2.2.2.2.2.1)))) fun r17 =>
  cond (r17 != 0) (
   some ((S_api_Asset.mk 0 (S_api_Mesh.mk [] [] []) (S_api_Texture.mk 0 []) (S_api_Material.mk 0 (#v[0, 0, 0]) 0) (S_api_Light.mk 0 (#v[0, 0, 0]) (S_api_Point.mk 0 0 0) (S_api_Point.mk 0 0 0) (S_api_Point.mk 0 0 0)), r17))) (
   some ((S_api_Asset.mk a0 (S_api_Mesh.mk p1.2.1 p1.2.2.1 p1.2.2.2.1) (S_api_Texture.mk p1.2.2.2.2.1 p1.2.2.2.2.2.1) (S_api_Material.mk p1.2.2.2.2.2.2.1 p1.2.2.2.2.2.2.2.1 p1.2.2.2.2.2.2.2.2.1) (S_api_Light.mk p1.2.2.2.2.2.2.2.2.2.1 p1.2.2.2.2.2.2.2.2.2.2.1 (S_api_Point.mk p1.2.2.2.2.2.2.2.2.2.2.2.1 p1.2.2.2.2.2.2.2.2.2.2.2.2.1 p1.2.2.2.2.2.2.2.2.2.2.2.2.2.1) (S_api_Point.mk p1.2.2.2.2.2.2.2.2.2.2.2.2.2.2.1 p1.2.2.2.2.2.2.2.2.2.2.2.2.2.2.2.1 p1.2.2.2.2.2.2.2.2.2.2.2.2.2.2.2.2.1) (S_api_Point.mk p1.2.2.2.2.2.2.2.2.2.2.2.2.2.2.2.2.2.1 p1.2.2.2.2.2.2.2.2.2.2.2.2.2.2.2.2.2.2.1 p1.2.2.2.2.2.2.2.2.2.2.2.2.2.2.2.2.2.2.2.1)), 0))))

theorem asset_Decode_ok {N a0 a1 r} (h : p_asset_Decode N a0 a1 = some r) : FnM Tryz.prog 73 [] [(j64 a0), (eL 1 k8 a1)] (.tup [(S_api_Asset.enc r.1), (j64 r.2)]) [] := by
 unfold p_asset_Decode at h
 refine At.f m_no hT hmo Tryz.func73 rfl h ?_
 refine At.J 7 1 [4, 6] 2 (fun p1 => ([(7, (j64 p1.2.2.2.2.2.2.2.2.2.2.2.2.2.2.2.2.2.2.2.2.2))], [(1, .var (.st 24 [(j64 a0), (.st 3 [(eL 3 S_api_Point.enc p1.2.1), (eL 2 (eA 2 1 j64) p1.2.2.1), (eL 3 (eA 3 1 j64) p1.2.2.2.1)]), (.st 2 [(j64 p1.2.2.2.2.1), (eL 3 (eA 3 1 j64) p1.2.2.2.2.2.1)]), (.st 5 [(j64 p1.2.2.2.2.2.2.1), (eA 3 1 j64 p1.2.2.2.2.2.2.2.1), (j64 p1.2.2.2.2.2.2.2.2.1)]), (.st 13 [(j64 p1.2.2.2.2.2.2.2.2.2.1), (eA 3 1 j64 p1.2.2.2.2.2.2.2.2.2.2.1), (.st 3 [(j64 p1.2.2.2.2.2.2.2.2.2.2.2.1), (j64 p1.2.2.2.2.2.2.2.2.2.2.2.2.1), (j64 p1.2.2.2.2.2.2.2.2.2.2.2.2.2.1)]), (.st 3 [(j64 p1.2.2.2.2.2.2.2.2.2.2.2.2.2.2.1), (j64 p1.2.2.2.2.2.2.2.2.2.2.2.2.2.2.2.1), (j64 p1.2.2.2.2.2.2.2.2.2.2.2.2.2.2.2.2.1)]), (.st 3 [(j64 p1.2.2.2.2.2.2.2.2.2.2.2.2.2.2.2.2.2.1), (j64 p1.2.2.2.2.2.2.2.2.2.2.2.2.2.2.2.2.2.2.1), (j64 p1.2.2.2.2.2.2.2.2.2.2.2.2.2.2.2.2.2.2.2.1)])])]))], [.tail (p1.1.length * 1), .var (S_codec_Reader.enc p1.2.2.2.2.2.2.2.2.2.2.2.2.2.2.2.2.2.2.2.2.1), .var (.st 1 [(.ref 3 [] 0)])])) (fun p1 => ?_) fun p1 => ?_
 ·refine At.b 1 (fun _ e => big_C [] (codec_New_ok e)) fun r2 => ?_
  refine At.c 6 ?_ ?_
  ·refine At.b 1 (fun _ e => big_C [] (mesh_Decode_ok e)) fun r3 => ?_
   apply rt; exact At.jn 6
  ·refine At.c 2 ?_ ?_
   ·refine At.b 1 (fun _ e => big_C [] (texture_Decode_ok e)) fun r4 => ?_
    apply rt; exact At.jn 6
   ·refine At.c 2 ?_ ?_
    ·refine bi fun r5 hr5 => ?_
     refine bi fun r6 hr6 => ?_
     refine bi fun r7 hr7 => ?_
     refine At.d 0 dE0 (dF 1 (j64 r5.2.2) [(3, .var (.st 3 [(eL 1 k8 r5.1), (j64 r5.2.1), (eB ((S_codec_Reader.mk r2 0 true).gmade))]))] [] (big_at (big_C [3] (asset_decoder_uint_srzd_ok hr5))) (dF 3 (eA 3 1 j64 r6.2.2.2) [(3, .var (.st 3 [(eL 1 k8 r6.1), (j64 r6.2.1), (eB r6.2.2.1)]))] [] (big_at (big_C [3] (asset_decoder_three_srzd_ok hr6))) (dF 5 (j64 r7.2.2) [(3, .var (.st 3 [(eL 1 k8 r7.1), (j64 r7.2.1), (eB ((S_codec_Reader.mk r6.1 r6.2.1 r6.2.2.1).gmade))]))] [] (big_at (big_C [3] (asset_decoder_uint_srzd_ok hr7))) dF0))) ?_
     refine At.b 2 (fun _ e => big_C [3] (codec_Reader_End_r_ok e)) fun r8 => ?_
     apply rt; exact At.jn 1
    ·refine At.c 2 ?_ ?_
     ·refine bi fun r9 hr9 => ?_
      refine bi fun r10 hr10 => ?_
      refine bi fun r11 hr11 => ?_
      refine bi fun r12 hr12 => ?_
      refine bi fun r13 hr13 => ?_
      refine At.d 0 dE0 (dF 1 (j64 r9.2.2) [(3, .var (.st 3 [(eL 1 k8 r9.1), (j64 r9.2.1), (eB ((S_codec_Reader.mk r2 0 true).gmade))]))] [] (big_at (big_C [3] (asset_decoder_uint_srzd_ok hr9))) (dF 3 (eA 3 1 j64 r10.2.2.2) [(3, .var (.st 3 [(eL 1 k8 r10.1), (j64 r10.2.1), (eB r10.2.2.1)]))] [] (big_at (big_C [3] (asset_decoder_three_srzd_ok hr10))) (dF 5 (S_api_Point.enc r11.2.2.2) [(3, .var (.st 3 [(eL 1 k8 r11.1), (j64 r11.2.1), (eB r11.2.2.1)]))] [] (big_at (big_C [3] (asset_decoder_point_srz_ok hr11))) (dF 7 (S_api_Point.enc r12.2.2.2) [(3, .var (.st 3 [(eL 1 k8 r12.1), (j64 r12.2.1), (eB r12.2.2.1)]))] [] (big_at (big_C [3] (asset_decoder_point_srz_ok hr12))) (dF 9 (S_api_Point.enc r13.2.2.2) [(3, .var (.st 3 [(eL 1 k8 r13.1), (j64 r13.2.1), (eB r13.2.2.1)]))] [] (big_at (big_C [3] (asset_decoder_point_srz_ok hr13))) dF0))))) ?_
      refine At.b 2 (fun _ e => big_C [3] (codec_Reader_End_r_ok e)) fun r14 => ?_
      apply rt; exact At.jn 1
     ·apply rt; exact At.jn 0
 ·refine lx ?_; intro x15
  refine At.c 2 ?_ ?_
  ·refine lx ?_; intro x16
   apply rt; exact At.r 4
  ·refine At.b 1 (fun _ e => big_C [] (asset_Check_ok e)) fun r17 => ?_
   refine At.c 3 ?_ ?_
   ·apply rt; exact At.r 4
   ·apply rt; exact At.r 3

def m_bundle_Open : Nat → Bool := imL [2]

def p_bundle_Open_L1 (N : Nat) (r1 : S_api_Manifest × Int) (v4 : (Vector Int 8)) (a0 : (Vector Int 32)) (s5 : (List Int)) : Nat → (List Int) → (List Int) → Int → Bool → Int → Option (Sum ((List Int) × (List Int) × Int × Bool) (S_api_Manifest × S_api_Asset × Int))
 | 0, _, _, _, _, _ => none
 | k + 1, s9, s10, s11, s12, s13 =>
  letO (decide (s13 < r1.1.gChunks)) fun x14 =>
  cond x14 (
   Option.bind (p_bundle_Nonce N v4 (I64 (s13 + 1))) fun r15 =>
   letO (I64 (r1.1.gSize - ((s9.length : Int)))) fun x16 =>
   Option.bind (p_bundle_chunk_ddrddd N a0 r15 s5 s13 (imin 256 x16) (S_codec_Reader.mk s10 s11 s12)) fun r17 =>
   cond (r17.2.2 != 0) (
    Option.bind (p_bundle_Open_1 N r17.2.2) fun r18 =>
    some (Sum.inr ((r18.1, r18.2.1, r18.2.2)))) (
    Option.bind (appO 1 s9 r17.2.1) fun z19 =>
    p_bundle_Open_L1 N r1 v4 a0 s5 k z19 r17.1.gb r17.1.ge r17.1.gmade (I64 (s13 + 1)))) (
   some (Sum.inl ((s9, s10, s11, s12))))

def p_bundle_Open (N : Nat) (a0 : (Vector Int 32)) (a1 : (List Int)) : Option (S_api_Manifest × S_api_Asset × Int) :=
 Option.bind (p_bundle_Peek N a0 a1) fun r1 =>
 cond (r1.2 != 0) (
  Option.bind (p_bundle_Open_1 N r1.2) fun r2 =>
  some ((r2.1, r2.2.1, r2.2.2))) (
  Option.bind (slcO a1 4 12) fun s3 =>
  Option.bind (vecO 8 s3) fun v4 =>
  Option.bind (slcO a1 47 63) fun s5 =>
  Option.bind (slcO a1 63 ((a1.length : Int))) fun s6 =>
  Option.bind (p_codec_New N s6) fun r7 =>
  Option.bind (p_bundle_Open_L1 N r1 v4 a0 s5 N [] r7 0 true 0) fun o => sumC o (fun p8 =>
   Option.bind (p_codec_Reader_Left_r N (S_codec_Reader.mk p8.2.1 p8.2.2.1 p8.2.2.2)) fun r20 =>
   cond (decide (r20 > 0)) (
    Option.bind (p_bundle_Open_1 N 7) fun r21 =>
    some ((r21.1, r21.2.1, r21.2.2))) (
    Option.bind (p_asset_Decode N r1.1.gKind p8.1) fun r22 =>
    cond (r22.2 != 0) (
     Option.bind (p_bundle_Open_1 N r22.2) fun r23 =>
     some ((r23.1, r23.2.1, r23.2.2))) (
     some ((r1.1, r22.1, 0))))) (fun r => some r))

theorem bundle_Open_ok {N a0 a1 r} (h : p_bundle_Open N a0 a1 = some r) : FnM Tryz.prog 41 [] [(eA 32 1 k8 a0), (eL 1 k8 a1)] (.tup [(S_api_Manifest.enc r.1), (S_api_Asset.enc r.2.1), (j64 r.2.2)]) [] := by
 unfold p_bundle_Open at h
 refine At.f m_bundle_Open hT hmo Tryz.func41 rfl h ?_
 refine At.b 7 (fun _ e => big_C [] (bundle_Peek_ok e)) fun r1 => ?_
 refine At.c 8 ?_ ?_
 ·refine At.b 2 (fun _ e => big_C [] (bundle_Open_1_ok e)) fun r2 => ?_
  apply rt; exact At.r 6
 ·refine At.b 1 (fun _ e => big_slc hT (k := 1) k8 e) fun s3 => ?_
  refine At.b 0 (fun v4 e => big_s2a hT k8 s3 v4 e rfl (by kernel_rfl) (by kernel_rfl)) fun v4 => ?_
  refine At.b 4 (fun _ e => big_slc hT (k := 1) k8 e) fun s5 => ?_
  refine At.b 2 (fun _ e => big_slc hT (k := 1) k8 e) fun s6 => ?_
  refine At.b 0 (fun _ e => big_C [] (codec_New_ok e)) fun r7 => ?_
  refine At.ownn 5 13 1 ?_
  refine At.LS 0 [4, 5, 7, 8, 12] 7 (fun p8 => ([(13, (eO 6 1 k8 p8.1))], [(5, .var (.st 3 [(eL 1 k8 p8.2.1), (j64 p8.2.2.1), (eB p8.2.2.2)])), (6, .tail (p8.1.length * 1))], [])) (fun op8 J k => ∃ s9 s10 s11 s12 s13, p_bundle_Open_L1 N r1 v4 a0 s5 k s9 s10 s11 s12 s13 = some op8 ∧ J [2, 4, 5, 7, 8, 10, 11, 12, 42] 7 [(13, (eO 6 1 k8 s9)), (43, (j64 s13))] [(5, .var (.st 3 [(eL 1 k8 s10), (j64 s11), (eB s12)])), (6, .tail (s9.length * 1))] []) N (fun _ h => ⟨_, _, _, _, _, h, jr⟩) (fun op8 g8 k s hI => ?_) fun p8 => ?_
  ·obtain ⟨s9, s10, s11, s12, s13, h, hj⟩ := hI
   cases k with
   | zero => cases h
   | succ k =>
    refine At.jr hj ?_ h
    refine lx ?_; intro x14
    refine At.c 1 ?_ ?_
    ·refine bi fun r15 hr15 => ?_
     refine lx ?_; intro x16
     refine bi fun r17 hr17 => ?_
     refine At.d 2 (dE2 4 (eA 12 1 k8 r15) (fun _ => big_C0 (bundle_Nonce_ok hr15)) dE0) (dF 14 (.tup [(eL 1 k8 r17.2.1), (j64 r17.2.2)]) [(5, .var (S_codec_Reader.enc r17.1))] [] (big_at (big_C [5] (bundle_chunk_ddrddd_ok hr17))) dF0) ?_
     refine At.c 2 ?_ ?_
     ·refine At.b 2 (fun _ e => big_C [] (bundle_Open_1_ok e)) fun r18 => ?_
      intro e; apply rtS1 g8 e; exact At.r 6
     ·refine At.b 2 (fun _ e => big_app hT k8 (id := 6) (k := 1) e) fun z19 => ?_
      exact fun h => At.k 3 ⟨_, _, _, _, _, h, jr⟩
    ·apply rt; exact At.xs 0
  ·refine At.b 1 (fun _ e => big_C [5] (codec_Reader_Left_r_ok e)) fun r20 => ?_
   refine At.c 1 ?_ ?_
   ·refine At.b 1 (fun _ e => big_C [] (bundle_Open_1_ok e)) fun r21 => ?_
    apply rt; exact At.r 6
   ·refine At.b 3 (fun _ e => big_C [] (asset_Decode_ok e)) fun r22 => ?_
    refine At.c 8 ?_ ?_
    ·refine At.b 2 (fun _ e => big_C [] (bundle_Open_1_ok e)) fun r23 => ?_
     apply rt; exact At.r 6
    ·refine At.d 0 dE0 dF0 ?_
     apply rt; exact At.r 0

end Go.UK

