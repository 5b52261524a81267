/- A part of the proof: what the functions of the program compute. -/
import Derived.Test.YtljnaeghnleipaaB10
namespace Go.UK
open Go Go.Proofs
set_option maxRecDepth 20000
set_option maxHeartbeats 4000000
set_option linter.all false

attribute [local irreducible] owp awl aw FnM NatFn opS Stab TOK Big
def p_codec_Reader_Left_r (N : Nat) (a0 : S_codec_Reader) : Option (Int) :=
 Option.bind (p_codec_Reader_none_r N a0) fun r1 =>
 letO (cond r1 true (a0.ge != 0)) fun x2 =>
 cond x2 (some 0) (some ((a0.gb.length : Int)))

theorem codec_Reader_Left_r_ok {N : Nat} {a0 : S_codec_Reader} {r : Int} (h : p_codec_Reader_Left_r N a0 = some r) : FnM Try.prog 27 [.var (S_codec_Reader.enc a0)] [(.ref 0 [] 0)] (j64 r) [.var (S_codec_Reader.enc a0)] := by
 unfold p_codec_Reader_Left_r at h
 refine fnM_of_aw (m := 17) (lo := 1) (rs := [.tmp 2]) hT Try.func27 rfl (by kernel_rfl) rfl ?_
 refine aw_sregU hT m_no [] (by kernel_rfl) ?_
 refine aw_seq ?_
 refine aw_sreg ?_
 refine awl_u hT m_no [] 1 (by kernel_rfl) ?_
 obtain ⟨r1, hr1, h⟩ := obind h
 refine awl_big (big_call [0] (codec_Reader_none_r_ok hr1) codec_Reader_none_r_ok_c) (by kernel_rfl) ?_
 obtain ⟨x2, hx2, h⟩ := letE h
 refine awl_u hT m_no [] 7 (by kernel_rfl) ?_
 refine awl_nms [(11, (eB x2))] (by subst hx2; kernel_rfl) ?_
 refine awl_nil ?_
 refine aw_condH h (by kernel_rfl) (fun _ h => ?_) (fun _ h => ?_)
 ·refine aw_sregU hT m_no [] (by kernel_rfl) ?_
  refine aw_ret (tn_r ?_)
  cases h
  exact fin_r
 ·refine aw_skip (tn_n ?_)
  refine aw_sregU hT m_no [] (by kernel_rfl) ?_
  refine aw_ret ?_
  cases h
  exact fin_r

theorem codec_Reader_Left_r_ok_c : callable Try.prog 27 := ⟨_, Try.func27, by decide, rfl⟩

def p_mesh_decoder_uint_srzd (N : Nat) (a0 : Int) (a1 : S_codec_Reader) : Option ((List Int) × Int × Int) :=
 Option.bind (p_codec_Reader_Num_rd N a0 a1) fun r1 =>
 some ((r1.1, r1.2.1, I64 r1.2.2))

theorem mesh_decoder_uint_srzd_ok {N : Nat} {a0 : Int} {a1 : S_codec_Reader} {r : (List Int) × Int × Int} (h : p_mesh_decoder_uint_srzd N a0 a1 = some r) : FnM Try.prog 64 [.var (S_codec_Reader.enc a1)] [(.st 1 [(.ref 0 [] 0)]), (j64 a0)] (j64 r.2.2) [.var (.st 3 [(eL 1 k8 r.1), (j64 r.2.1), (eB a1.gmade)])] := by
 unfold p_mesh_decoder_uint_srzd at h
 refine fnM_of_aw (m := 10) (lo := 1) (rs := [.tmp 4]) hT Try.func64 rfl (by kernel_rfl) rfl ?_
 refine aw_sregU hT m_no [] (by kernel_rfl) ?_
 refine aw_sreg ?_
 refine awl_u hT m_no [] 3 (by kernel_rfl) ?_
 obtain ⟨r1, hr1, h⟩ := obind h
 refine awl_big (big_call [0] (codec_Reader_Num_rd_ok hr1) codec_Reader_Num_rd_ok_c) (by kernel_rfl) ?_
 refine awl_u hT m_no [] 2 (by kernel_rfl) ?_
 refine awl_nil ?_
 refine aw_ret ?_
 cases h
 exact fin_r

theorem mesh_decoder_uint_srzd_ok_c : callable Try.prog 64 := ⟨_, Try.func64, by decide, rfl⟩

def p_codec_Reader_Int_rd (N : Nat) (a0 : Int) (a1 : S_codec_Reader) : Option ((List Int) × Int × Int) :=
 Option.bind (p_codec_Reader_Num_rd N a0 a1) fun r1 =>
 letO (cond (decide (a0 < 1)) true (decide (a0 > 8))) fun x2 =>
 cond x2 (
  some ((r1.1, r1.2.1, 0))) (
  letO (I64 (64 - (I64 (8 * a0)))) fun x4 =>
  Option.bind (shlO .i64 (I64 r1.2.2) x4) fun x5 =>
  letO (I64 (64 - (I64 (8 * a0)))) fun x6 =>
  Option.bind (shrO .i64 x5 x6) fun x7 =>
  some ((r1.1, r1.2.1, x7)))

theorem codec_Reader_Int_rd_ok {N : Nat} {a0 : Int} {a1 : S_codec_Reader} {r : (List Int) × Int × Int} (h : p_codec_Reader_Int_rd N a0 a1 = some r) : FnM Try.prog 68 [.var (S_codec_Reader.enc a1)] [(.ref 0 [] 0), (j64 a0)] (j64 r.2.2) [.var (.st 3 [(eL 1 k8 r.1), (j64 r.2.1), (eB a1.gmade)])] := by
 unfold p_codec_Reader_Int_rd at h
 refine fnM_of_aw (m := 25) (lo := 1) (rs := [.tmp 4]) hT Try.func68 rfl (by kernel_rfl) rfl ?_
 refine aw_sregU hT m_no [] (by kernel_rfl) ?_
 refine aw_sreg ?_
 refine awl_u hT m_no [] 2 (by kernel_rfl) ?_
 obtain ⟨r1, hr1, h⟩ := obind h
 refine awl_big (big_call [0] (codec_Reader_Num_rd_ok hr1) codec_Reader_Num_rd_ok_c) (by kernel_rfl) ?_
 refine awl_u hT m_no [] 1 (by kernel_rfl) ?_
 refine awl_nil ?_
 refine aw_seq ?_
 obtain ⟨x2, hx2, h⟩ := letE h
 refine aw_sregU hT m_no [] (by kernel_rfl) ?_
 refine aw_nms [(14, (eB x2))] (by subst hx2; kernel_rfl) ?_
 refine aw_condH h (by kernel_rfl) (fun _ h => ?_) (fun _ h => ?_)
 ·refine aw_sregU hT m_no [] (by kernel_rfl) ?_
  refine aw_ret (tn_r ?_)
  cases h
  exact fin_r
 ·refine aw_skip (tn_n ?_)
  refine aw_sreg ?_
  obtain ⟨x4, hx4, h⟩ := letE h
  refine awl_u hT m_no [] 5 (by kernel_rfl) ?_
  refine awl_nms [(19, (j64 x4))] (by subst hx4; kernel_rfl) ?_
  obtain ⟨x5, hx5, h⟩ := obind h
  refine awl_big (big_shl hT (k' := .i64) hx5 (by kernel_rfl) (by kernel_rfl)) (by kernel_rfl) ?_
  obtain ⟨x6, hx6, h⟩ := letE h
  refine awl_u hT m_no [] 3 (by kernel_rfl) ?_
  refine awl_nms [(23, (j64 x6))] (by subst hx6; kernel_rfl) ?_
  obtain ⟨x7, hx7, h⟩ := obind h
  refine awl_big (big_shr hT (k' := .i64) hx7 (by kernel_rfl) (by kernel_rfl)) (by kernel_rfl) ?_
  refine awl_u hT m_no [] 1 (by kernel_rfl) ?_
  refine awl_nil ?_
  refine aw_ret ?_
  cases h
  exact fin_r

theorem codec_Reader_Int_rd_ok_c : callable Try.prog 68 := ⟨_, Try.func68, by decide, rfl⟩

def p_mesh_decoder_point_srz (N : Nat) (a0 : S_codec_Reader) : Option ((List Int) × Int × Bool × S_api_Point) :=
 Option.bind (p_codec_Reader_Int_rd N 2 a0) fun r1 =>
 Option.bind (p_codec_Reader_Int_rd N 2 (S_codec_Reader.mk r1.1 r1.2.1 a0.gmade)) fun r2 =>
 Option.bind (p_codec_Reader_Int_rd N 2 (S_codec_Reader.mk r2.1 r2.2.1 ((S_codec_Reader.mk r1.1 r1.2.1 a0.gmade).gmade))) fun r3 =>
 some ((r3.1, r3.2.1, (S_codec_Reader.mk r2.1 r2.2.1 ((S_codec_Reader.mk r1.1 r1.2.1 a0.gmade).gmade)).gmade, S_api_Point.mk r1.2.2 r2.2.2 r3.2.2))

theorem mesh_decoder_point_srz_ok {N : Nat} {a0 : S_codec_Reader} {r : (List Int) × Int × Bool × S_api_Point} (h : p_mesh_decoder_point_srz N a0 = some r) : FnM Try.prog 65 [.var (S_codec_Reader.enc a0)] [(.st 1 [(.ref 0 [] 0)])] (S_api_Point.enc r.2.2.2) [.var (.st 3 [(eL 1 k8 r.1), (j64 r.2.1), (eB r.2.2.1)])] := by
 unfold p_mesh_decoder_point_srz at h
 refine fnM_of_aw (m := 13) (lo := 1) (rs := [.cell 2 41]) hT Try.func65 rfl (by kernel_rfl) rfl ?_
 refine aw_sregU hT m_no [] (by kernel_rfl) ?_
 obtain ⟨r1, hr1, h⟩ := obind h
 obtain ⟨r2, hr2, h⟩ := obind h
 obtain ⟨r3, hr3, h⟩ := obind h
 refine aw_sdrawV hT hmo m_no [] [(2, fun _ => ((j64 r1.2.2), [.var (.st 3 [(eL 1 k8 r1.1), (j64 r1.2.1), (eB a0.gmade)]), .var (.st 1 [(.ref 0 [] 0)]), .var (.st 3 [(j64 0), (j64 0), (j64 0)])])), (5, fun _ => ((j64 r2.2.2), [.var (.st 3 [(eL 1 k8 r2.1), (j64 r2.2.1), (eB ((S_codec_Reader.mk r1.1 r1.2.1 a0.gmade).gmade))]), .var (.st 1 [(.ref 0 [] 0)]), .var (.st 3 [(j64 0), (j64 0), (j64 0)])])), (8, fun _ => ((j64 r3.2.2), [.var (.st 3 [(eL 1 k8 r3.1), (j64 r3.2.1), (eB ((S_codec_Reader.mk r2.1 r2.2.1 ((S_codec_Reader.mk r1.1 r1.2.1 a0.gmade).gmade)).gmade))]), .var (.st 1 [(.ref 0 [] 0)]), .var (.st 3 [(j64 0), (j64 0), (j64 0)])]))] (by kernel_rfl) (by kernel_rfl) (by kernel_rfl) trivial ⟨big_at (big_call [0] (codec_Reader_Int_rd_ok hr1) codec_Reader_Int_rd_ok_c), big_at (big_call [0] (codec_Reader_Int_rd_ok hr2) codec_Reader_Int_rd_ok_c), big_at (big_call [0] (codec_Reader_Int_rd_ok hr3) codec_Reader_Int_rd_ok_c), trivial⟩ ?_
 refine aw_ret ?_
 cases h
 exact fin_r

theorem mesh_decoder_point_srz_ok_c : callable Try.prog 65 := ⟨_, Try.func65, by decide, rfl⟩

def p_mesh_Decode_L1 (N : Nat) (r2 : (List Int) × Int × Int) : Nat → (List S_api_Point) → (List Int) → Int → Bool → Int → Option ((List S_api_Point) × (List Int) × Int × Bool)
 | 0, _, _, _, _, _ => none
 | k + 1, s5, s6, s7, s8, s9 =>
  cond (decide (s9 < r2.2.2)) (
   Option.bind (p_mesh_decoder_point_srz N (S_codec_Reader.mk s6 s7 s8)) fun r10 =>
   Option.bind (appO 24 s5 (([r10.2.2.2] : List S_api_Point))) fun z11 =>
   p_mesh_Decode_L1 N r2 k z11 r10.1 r10.2.1 r10.2.2.1 (I64 (s9 + 1))) (
   some ((s5, s6, s7, s8)))

def p_mesh_Decode_L2 (N : Nat) (r2 : (List Int) × Int × Int) : Nat → (List (Vector Int 2)) → (List Int) → Int → Bool → Int → Option ((List (Vector Int 2)) × (List Int) × Int × Bool)
 | 0, _, _, _, _, _ => none
 | k + 1, s13, s14, s15, s16, s17 =>
  cond (decide (s17 < r2.2.2)) (
   Option.bind (p_mesh_decoder_uint_srzd N 2 (S_codec_Reader.mk s14 s15 s16)) fun r18 =>
   Option.bind (p_mesh_decoder_uint_srzd N 2 (S_codec_Reader.mk r18.1 r18.2.1 ((S_codec_Reader.mk s14 s15 s16).gmade))) fun r19 =>
   Option.bind (appO 16 s13 (([#v[r18.2.2, r19.2.2]] : List (Vector Int 2)))) fun z20 =>
   p_mesh_Decode_L2 N r2 k z20 r19.1 r19.2.1 ((S_codec_Reader.mk r18.1 r18.2.1 ((S_codec_Reader.mk s14 s15 s16).gmade)).gmade) (I64 (s17 + 1))) (
   some ((s13, s14, s15, s16)))

def p_mesh_Decode_L3 (N : Nat) (r3 : (List Int) × Int × Int) : Nat → (List (Vector Int 3)) → (List Int) → Int → Bool → Int → Option ((List (Vector Int 3)) × (List Int) × Int × Bool)
 | 0, _, _, _, _, _ => none
 | k + 1, s22, s23, s24, s25, s26 =>
  cond (decide (s26 < r3.2.2)) (
   Option.bind (p_mesh_decoder_uint_srzd N 1 (S_codec_Reader.mk s23 s24 s25)) fun r27 =>
   Option.bind (p_mesh_decoder_uint_srzd N 1 (S_codec_Reader.mk r27.1 r27.2.1 ((S_codec_Reader.mk s23 s24 s25).gmade))) fun r28 =>
   Option.bind (p_mesh_decoder_uint_srzd N 1 (S_codec_Reader.mk r28.1 r28.2.1 ((S_codec_Reader.mk r27.1 r27.2.1 ((S_codec_Reader.mk s23 s24 s25).gmade)).gmade))) fun r29 =>
   Option.bind (appO 24 s22 (([#v[r27.2.2, r28.2.2, r29.2.2]] : List (Vector Int 3)))) fun z30 =>
   p_mesh_Decode_L3 N r3 k z30 r29.1 r29.2.1 ((S_codec_Reader.mk r28.1 r28.2.1 ((S_codec_Reader.mk r27.1 r27.2.1 ((S_codec_Reader.mk s23 s24 s25).gmade)).gmade)).gmade) (I64 (s26 + 1))) (
   some ((s22, s23, s24, s25)))

def p_mesh_Decode (N : Nat) (a0 : (List Int)) : Option (S_api_Mesh × Int) :=
 Option.bind (p_codec_New N a0) fun r1 =>
 Option.bind (p_mesh_decoder_uint_srzd N 1 (S_codec_Reader.mk r1 0 true)) fun r2 =>
 Option.bind (p_mesh_decoder_uint_srzd N 1 (S_codec_Reader.mk r2.1 r2.2.1 ((S_codec_Reader.mk r1 0 true).gmade))) fun r3 =>
 Option.bind (p_mesh_Decode_L1 N r2 N [] r3.1 r3.2.1 ((S_codec_Reader.mk r2.1 r2.2.1 ((S_codec_Reader.mk r1 0 true).gmade)).gmade) 0) fun p4 =>
 Option.bind (p_mesh_Decode_L2 N r2 N [] p4.2.1 p4.2.2.1 p4.2.2.2 0) fun p12 =>
 Option.bind (p_mesh_Decode_L3 N r3 N [] p12.2.1 p12.2.2.1 p12.2.2.2 0) fun p21 =>
 Option.bind (p_codec_Reader_End_r N (S_codec_Reader.mk p21.2.1 p21.2.2.1 p21.2.2.2)) fun r31 =>
 cond (r31 != 0) (
  some ((S_api_Mesh.mk [] [] [], r31))) (
  Option.bind (p_mesh_Check N (S_api_Mesh.mk p4.1 p12.1 p21.1)) fun r32 =>
  cond (r32 != 0) (
   some ((S_api_Mesh.mk [] [] [], r32))) (
   some ((S_api_Mesh.mk p4.1 p12.1 p21.1, 0))))

theorem mesh_Decode_ok {N : Nat} {a0 : (List Int)} {r : S_api_Mesh × Int} (h : p_mesh_Decode N a0 = some r) : FnM Try.prog 46 [] [(eL 1 k8 a0)] (.tup [(S_api_Mesh.enc r.1), (j64 r.2)]) [] := by
 unfold p_mesh_Decode at h
 refine fnM_of_aw (m := 72) (lo := 0) (rs := [.cell 2 34, .tmp 3]) hT Try.func46 rfl (by kernel_rfl) rfl ?_
 refine aw_sregU hT m_no [] (by kernel_rfl) ?_
 refine aw_sreg ?_
 refine awl_u hT m_no [] 1 (by kernel_rfl) ?_
 obtain ⟨r1, hr1, h⟩ := obind h
 refine awl_big (big_call [] (codec_New_ok hr1) codec_New_ok_c) (by kernel_rfl) ?_
 refine awl_u hT m_no [] 3 (by kernel_rfl) ?_
 refine awl_nil ?_
 obtain ⟨r2, hr2, h⟩ := obind h
 obtain ⟨r3, hr3, h⟩ := obind h
 refine aw_sdrawV hT hmo m_no [] [(1, fun _ => ((j64 r2.2.2), [.var cv_4, .tail (r1.length * 1), .var (.st 3 [(eL 1 k8 r2.1), (j64 r2.2.1), (eB ((S_codec_Reader.mk r1 0 true).gmade))]), .var (.st 1 [(.ref 2 [] 0)])])), (3, fun _ => ((j64 r3.2.2), [.var cv_4, .tail (r1.length * 1), .var (.st 3 [(eL 1 k8 r3.1), (j64 r3.2.1), (eB ((S_codec_Reader.mk r2.1 r2.2.1 ((S_codec_Reader.mk r1 0 true).gmade)).gmade))]), .var (.st 1 [(.ref 2 [] 0)])]))] (by kernel_rfl) (by kernel_rfl) (by kernel_rfl) trivial ⟨big_at (big_call [2] (mesh_decoder_uint_srzd_ok hr2) mesh_decoder_uint_srzd_ok_c), big_at (big_call [2] (mesh_decoder_uint_srzd_ok hr3) mesh_decoder_uint_srzd_ok_c), trivial⟩ ?_
 refine aw_sregU hT m_no [] (by kernel_rfl) ?_
 refine aw_seq ?_
 refine aw_sregU hT m_no [] (by kernel_rfl) ?_
 refine aw_own_box 4 3 [0] ?_
 obtain ⟨p4, h, g4⟩ := obind h
 refine aw_joinTK ⟨[en 2 (.ref 0 [] 0), en 4 (.ref 3 [] 0), en 5 (j64 r2.2.2), en 6 (j64 r3.2.2), en 7 (.ref 4 [] 0)], [.var cv_4, .tail (r1.length * 1), .var (.st 3 [(eL 1 k8 p4.2.1), (j64 p4.2.2.1), (eB p4.2.2.2)]), .var (.st 1 [(.ref 2 [] 0)]), .var (.st 3 [(eO 5 3 S_api_Point.enc p4.1), (.v (.slice none 0 0)), (.v (.slice none 0 0))]), .tail (p4.1.length * 3)]⟩ ?_ ?_
 ·refine aw_block (aw_loop (fun k s => ∃ s5 s6 s7 s8 s9, p_mesh_Decode_L1 N r2 k s5 s6 s7 s8 s9 = some p4 ∧ JR (Fr.f 72 0) ⟨[en 2 (.ref 0 [] 0), en 4 (.ref 3 [] 0), en 5 (j64 r2.2.2), en 6 (j64 r3.2.2), en 7 (.ref 4 [] 0), en 17 (j64 r2.2.2), en 18 (j64 s9)], [.var cv_4, .tail (r1.length * 1), .var (.st 3 [(eL 1 k8 s6), (j64 s7), (eB s8)]), .var (.st 1 [(.ref 2 [] 0)]), .var (.st 3 [(eO 5 3 S_api_Point.enc s5), (.v (.slice none 0 0)), (.v (.slice none 0 0))]), .tail (s5.length * 3)]⟩ s) (fun k s hI => ?_) N _ ⟨_, _, _, _, _, h, jr⟩)
  obtain ⟨s5, s6, s7, s8, s9, h, hj⟩ := hI
  cases k with
  | zero => cases h
  | succ k =>
   refine aw_jr hj ?_
   refine aw_sregU hT m_no [] (by kernel_rfl) ?_
   refine aw_seq ?_
   refine aw_condH h (by kernel_rfl) (fun _ h => ?_) (fun _ h => ?_)
   ·refine aw_skip (tn_n ?_)
    refine aw_seq ?_
    refine aw_block ?_
    obtain ⟨r10, hr10, h⟩ := obind h
    obtain ⟨z11, hz11, h⟩ := obind h
    refine aw_drawM hT hmo m_no [(4, (.sl 3 1 [(S_api_Point.enc r10.2.2.2)]))] [(3, fun _ => ((S_api_Point.enc r10.2.2.2), [.var cv_4, .tail (r1.length * 1), .var (.st 3 [(eL 1 k8 r10.1), (j64 r10.2.1), (eB r10.2.2.1)]), .var (.st 1 [(.ref 2 [] 0)]), .var (.st 3 [(eO 5 3 S_api_Point.enc s5), (.v (.slice none 0 0)), (.v (.slice none 0 0))]), .tail (s5.length * 3)])), (5, fun _ => ((eO 5 3 S_api_Point.enc z11), [.var cv_4, .tail (r1.length * 1), .var (.st 3 [(eL 1 k8 r10.1), (j64 r10.2.1), (eB r10.2.2.1)]), .var (.st 1 [(.ref 2 [] 0)]), .var (.st 3 [(eO 5 3 S_api_Point.enc s5), (.v (.slice none 0 0)), (.v (.slice none 0 0))]), .tail (z11.length * 3)]))] (by kernel_rfl) (by kernel_rfl) (by kernel_rfl) ⟨fun _ => big_row hT (x := (.sl 3 1 [(S_api_Point.enc r10.2.2.2)])), trivial⟩ ⟨big_at (big_call [2] (mesh_decoder_point_srz_ok hr10) mesh_decoder_point_srz_ok_c), big_at (big_app hT S_api_Point.enc (id := 5) (k := 3) hz11), trivial⟩ (inB_n (tn_n ?_))
    refine aw_regU hT m_no [] (by kernel_rfl) (tn_n ?_)
    exact ⟨k, Nat.lt_succ_self k, _, _, _, _, _, h, jr⟩
   ·refine aw_exit (tn_x (tn_x (inB_e (tn_n ?_))))
    cases h
    exact jr
 ·have h := g4
  refine (tn_n ?_)
  refine aw_seq ?_
  refine aw_sregU hT m_no [] (by kernel_rfl) ?_
  refine aw_own_box 4 2 [1] ?_
  obtain ⟨p12, h, g12⟩ := obind h
  refine aw_joinTK ⟨[en 2 (.ref 0 [] 0), en 4 (.ref 3 [] 0), en 6 (j64 r3.2.2), en 7 (.ref 4 [] 0)], [.var cv_4, .tail (r1.length * 1), .var (.st 3 [(eL 1 k8 p12.2.1), (j64 p12.2.2.1), (eB p12.2.2.2)]), .var (.st 1 [(.ref 2 [] 0)]), .var (.st 3 [(eO 5 3 S_api_Point.enc p4.1), (eO 6 2 (eA 2 1 j64) p12.1), (.v (.slice none 0 0))]), .tail (p4.1.length * 3), .tail (p12.1.length * 2)]⟩ ?_ ?_
  ·refine aw_block (aw_loop (fun k s => ∃ s13 s14 s15 s16 s17, p_mesh_Decode_L2 N r2 k s13 s14 s15 s16 s17 = some p12 ∧ JR (Fr.f 72 0) ⟨[en 2 (.ref 0 [] 0), en 4 (.ref 3 [] 0), en 6 (j64 r3.2.2), en 7 (.ref 4 [] 0), en 28 (j64 r2.2.2), en 29 (j64 s17)], [.var cv_4, .tail (r1.length * 1), .var (.st 3 [(eL 1 k8 s14), (j64 s15), (eB s16)]), .var (.st 1 [(.ref 2 [] 0)]), .var (.st 3 [(eO 5 3 S_api_Point.enc p4.1), (eO 6 2 (eA 2 1 j64) s13), (.v (.slice none 0 0))]), .tail (p4.1.length * 3), .tail (s13.length * 2)]⟩ s) (fun k s hI => ?_) N _ ⟨_, _, _, _, _, h, jr⟩)
   obtain ⟨s13, s14, s15, s16, s17, h, hj⟩ := hI
   cases k with
   | zero => cases h
   | succ k =>
    refine aw_jr hj ?_
    refine aw_sregU hT m_no [] (by kernel_rfl) ?_
    refine aw_seq ?_
    refine aw_condH h (by kernel_rfl) (fun _ h => ?_) (fun _ h => ?_)
    ·refine aw_skip (tn_n ?_)
     refine aw_seq ?_
     refine aw_block ?_
     obtain ⟨r18, hr18, h⟩ := obind h
     obtain ⟨r19, hr19, h⟩ := obind h
     obtain ⟨z20, hz20, h⟩ := obind h
     refine aw_drawM hT hmo m_no [(7, (.sl 2 1 [(.arr 2 1 [(j64 r18.2.2), (j64 r19.2.2)])]))] [(3, fun _ => ((j64 r18.2.2), [.var cv_4, .tail (r1.length * 1), .var (.st 3 [(eL 1 k8 r18.1), (j64 r18.2.1), (eB ((S_codec_Reader.mk s14 s15 s16).gmade))]), .var (.st 1 [(.ref 2 [] 0)]), .var (.st 3 [(eO 5 3 S_api_Point.enc p4.1), (eO 6 2 (eA 2 1 j64) s13), (.v (.slice none 0 0))]), .tail (p4.1.length * 3), .tail (s13.length * 2)])), (5, fun _ => ((j64 r19.2.2), [.var cv_4, .tail (r1.length * 1), .var (.st 3 [(eL 1 k8 r19.1), (j64 r19.2.1), (eB ((S_codec_Reader.mk r18.1 r18.2.1 ((S_codec_Reader.mk s14 s15 s16).gmade)).gmade))]), .var (.st 1 [(.ref 2 [] 0)]), .var (.st 3 [(eO 5 3 S_api_Point.enc p4.1), (eO 6 2 (eA 2 1 j64) s13), (.v (.slice none 0 0))]), .tail (p4.1.length * 3), .tail (s13.length * 2)])), (8, fun _ => ((eO 6 2 (eA 2 1 j64) z20), [.var cv_4, .tail (r1.length * 1), .var (.st 3 [(eL 1 k8 r19.1), (j64 r19.2.1), (eB ((S_codec_Reader.mk r18.1 r18.2.1 ((S_codec_Reader.mk s14 s15 s16).gmade)).gmade))]), .var (.st 1 [(.ref 2 [] 0)]), .var (.st 3 [(eO 5 3 S_api_Point.enc p4.1), (eO 6 2 (eA 2 1 j64) s13), (.v (.slice none 0 0))]), .tail (p4.1.length * 3), .tail (z20.length * 2)]))] (by kernel_rfl) (by kernel_rfl) (by kernel_rfl) ⟨fun _ => big_row hT (x := (.sl 2 1 [(.arr 2 1 [(j64 r18.2.2), (j64 r19.2.2)])])), trivial⟩ ⟨big_at (big_call [2] (mesh_decoder_uint_srzd_ok hr18) mesh_decoder_uint_srzd_ok_c), big_at (big_call [2] (mesh_decoder_uint_srzd_ok hr19) mesh_decoder_uint_srzd_ok_c), big_at (big_app hT (eA 2 1 j64) (id := 6) (k := 2) hz20), trivial⟩ (inB_n (tn_n ?_))
     refine aw_regU hT m_no [] (by kernel_rfl) (tn_n ?_)
     exact ⟨k, Nat.lt_succ_self k, _, _, _, _, _, h, jr⟩
    ·refine aw_exit (tn_x (tn_x (inB_e (tn_n ?_))))
     cases h
     exact jr
  ·have h := g12
   refine (tn_n ?_)
   refine aw_seq ?_
   refine aw_sregU hT m_no [] (by kernel_rfl) ?_
   refine aw_own_box 4 3 [2] ?_
   obtain ⟨p21, h, g21⟩ := obind h
   refine aw_joinTK ⟨[en 2 (.ref 0 [] 0), en 4 (.ref 3 [] 0), en 7 (.ref 4 [] 0)], [.var cv_4, .tail (r1.length * 1), .var (.st 3 [(eL 1 k8 p21.2.1), (j64 p21.2.2.1), (eB p21.2.2.2)]), .var (.st 1 [(.ref 2 [] 0)]), .var (.st 3 [(eO 5 3 S_api_Point.enc p4.1), (eO 6 2 (eA 2 1 j64) p12.1), (eO 7 3 (eA 3 1 j64) p21.1)]), .tail (p4.1.length * 3), .tail (p12.1.length * 2), .tail (p21.1.length * 3)]⟩ ?_ ?_
   ·refine aw_block (aw_loop (fun k s => ∃ s22 s23 s24 s25 s26, p_mesh_Decode_L3 N r3 k s22 s23 s24 s25 s26 = some p21 ∧ JR (Fr.f 72 0) ⟨[en 2 (.ref 0 [] 0), en 4 (.ref 3 [] 0), en 7 (.ref 4 [] 0), en 42 (j64 r3.2.2), en 43 (j64 s26)], [.var cv_4, .tail (r1.length * 1), .var (.st 3 [(eL 1 k8 s23), (j64 s24), (eB s25)]), .var (.st 1 [(.ref 2 [] 0)]), .var (.st 3 [(eO 5 3 S_api_Point.enc p4.1), (eO 6 2 (eA 2 1 j64) p12.1), (eO 7 3 (eA 3 1 j64) s22)]), .tail (p4.1.length * 3), .tail (p12.1.length * 2), .tail (s22.length * 3)]⟩ s) (fun k s hI => ?_) N _ ⟨_, _, _, _, _, h, jr⟩)
    obtain ⟨s22, s23, s24, s25, s26, h, hj⟩ := hI
    cases k with
    | zero => cases h
    | succ k =>
     refine aw_jr hj ?_
     refine aw_sregU hT m_no [] (by kernel_rfl) ?_
     refine aw_seq ?_
     refine aw_condH h (by kernel_rfl) (fun _ h => ?_) (fun _ h => ?_)
     ·refine aw_skip (tn_n ?_)
      refine aw_seq ?_
      refine aw_block ?_
      obtain ⟨r27, hr27, h⟩ := obind h
      obtain ⟨r28, hr28, h⟩ := obind h
      obtain ⟨r29, hr29, h⟩ := obind h
      obtain ⟨z30, hz30, h⟩ := obind h
      refine aw_drawM hT hmo m_no [(9, (.sl 3 1 [(.arr 3 1 [(j64 r27.2.2), (j64 r28.2.2), (j64 r29.2.2)])]))] [(3, fun _ => ((j64 r27.2.2), [.var cv_4, .tail (r1.length * 1), .var (.st 3 [(eL 1 k8 r27.1), (j64 r27.2.1), (eB ((S_codec_Reader.mk s23 s24 s25).gmade))]), .var (.st 1 [(.ref 2 [] 0)]), .var (.st 3 [(eO 5 3 S_api_Point.enc p4.1), (eO 6 2 (eA 2 1 j64) p12.1), (eO 7 3 (eA 3 1 j64) s22)]), .tail (p4.1.length * 3), .tail (p12.1.length * 2), .tail (s22.length * 3)])), (5, fun _ => ((j64 r28.2.2), [.var cv_4, .tail (r1.length * 1), .var (.st 3 [(eL 1 k8 r28.1), (j64 r28.2.1), (eB ((S_codec_Reader.mk r27.1 r27.2.1 ((S_codec_Reader.mk s23 s24 s25).gmade)).gmade))]), .var (.st 1 [(.ref 2 [] 0)]), .var (.st 3 [(eO 5 3 S_api_Point.enc p4.1), (eO 6 2 (eA 2 1 j64) p12.1), (eO 7 3 (eA 3 1 j64) s22)]), .tail (p4.1.length * 3), .tail (p12.1.length * 2), .tail (s22.length * 3)])), (7, fun _ => ((j64 r29.2.2), [.var cv_4, .tail (r1.length * 1), .var (.st 3 [(eL 1 k8 r29.1), (j64 r29.2.1), (eB ((S_codec_Reader.mk r28.1 r28.2.1 ((S_codec_Reader.mk r27.1 r27.2.1 ((S_codec_Reader.mk s23 s24 s25).gmade)).gmade)).gmade))]), .var (.st 1 [(.ref 2 [] 0)]), .var (.st 3 [(eO 5 3 S_api_Point.enc p4.1), (eO 6 2 (eA 2 1 j64) p12.1), (eO 7 3 (eA 3 1 j64) s22)]), .tail (p4.1.length * 3), .tail (p12.1.length * 2), .tail (s22.length * 3)])), (10, fun _ => ((eO 7 3 (eA 3 1 j64) z30), [.var cv_4, .tail (r1.length * 1), .var (.st 3 [(eL 1 k8 r29.1), (j64 r29.2.1), (eB ((S_codec_Reader.mk r28.1 r28.2.1 ((S_codec_Reader.mk r27.1 r27.2.1 ((S_codec_Reader.mk s23 s24 s25).gmade)).gmade)).gmade))]), .var (.st 1 [(.ref 2 [] 0)]), .var (.st 3 [(eO 5 3 S_api_Point.enc p4.1), (eO 6 2 (eA 2 1 j64) p12.1), (eO 7 3 (eA 3 1 j64) s22)]), .tail (p4.1.length * 3), .tail (p12.1.length * 2), .tail (z30.length * 3)]))] (by kernel_rfl) (by kernel_rfl) (by kernel_rfl) ⟨fun _ => big_row hT (x := (.sl 3 1 [(.arr 3 1 [(j64 r27.2.2), (j64 r28.2.2), (j64 r29.2.2)])])), trivial⟩ ⟨big_at (big_call [2] (mesh_decoder_uint_srzd_ok hr27) mesh_decoder_uint_srzd_ok_c), big_at (big_call [2] (mesh_decoder_uint_srzd_ok hr28) mesh_decoder_uint_srzd_ok_c), big_at (big_call [2] (mesh_decoder_uint_srzd_ok hr29) mesh_decoder_uint_srzd_ok_c), big_at (big_app hT (eA 3 1 j64) (id := 7) (k := 3) hz30), trivial⟩ (inB_n (tn_n ?_))
      refine aw_regU hT m_no [] (by kernel_rfl) (tn_n ?_)
      exact ⟨k, Nat.lt_succ_self k, _, _, _, _, _, h, jr⟩
     ·refine aw_exit (tn_x (tn_x (inB_e (tn_n ?_))))
      cases h
      exact jr
   ·have h := g21
    refine (tn_n ?_)
    refine aw_seq ?_
    refine aw_sreg ?_
    refine awl_u hT m_no [] 2 (by kernel_rfl) ?_
    obtain ⟨r31, hr31, h⟩ := obind h
    refine awl_big (big_call [2] (codec_Reader_End_r_ok hr31) codec_Reader_End_r_ok_c) (by kernel_rfl) ?_
    refine awl_u hT m_no [] 1 (by kernel_rfl) ?_
    refine awl_nil ?_
    refine aw_sregU hT m_no [] (by kernel_rfl) ?_
    refine aw_condH h (by kernel_rfl) (fun _ h => ?_) (fun _ h => ?_)
    ·refine aw_sregU hT m_no [] (by kernel_rfl) ?_
     refine aw_ret (tn_r ?_)
     cases h
     exact fin_r
    ·refine aw_skip (tn_n ?_)
     refine aw_seq ?_
     refine aw_sreg ?_
     refine awl_u hT m_no [] 1 (by kernel_rfl) ?_
     obtain ⟨r32, hr32, h⟩ := obind h
     refine awl_big (big_call [] (mesh_Check_ok hr32) mesh_Check_ok_c) (by kernel_rfl) ?_
     refine awl_u hT m_no [] 1 (by kernel_rfl) ?_
     refine awl_nil ?_
     refine aw_sregU hT m_no [] (by kernel_rfl) ?_
     refine aw_condH h (by kernel_rfl) (fun _ h => ?_) (fun _ h => ?_)
     ·refine aw_sregU hT m_no [] (by kernel_rfl) ?_
      refine aw_ret (tn_r ?_)
      cases h
      exact fin_r
     ·refine aw_skip (tn_n ?_)
      refine aw_sregU hT m_no [] (by kernel_rfl) ?_
      refine aw_ret ?_
      cases h
      exact fin_r

theorem mesh_Decode_ok_c : callable Try.prog 46 := ⟨_, Try.func46, by decide, rfl⟩

def p_texture_Decode_L1 (N : Nat) (x3 : Int) : Nat → (List (Vector Int 3)) → (List Int) → Int → Bool → Int → Option ((List (Vector Int 3)) × (List Int) × Int × Bool)
 | 0, _, _, _, _, _ => none
 | k + 1, s5, s6, s7, s8, s9 =>
  cond (decide (s9 < x3)) (
   Option.bind (p_codec_Reader_Take_rd N 3 (S_codec_Reader.mk s6 s7 s8)) fun r10 =>
   letO (decide (((r10.2.2.length : Int)) < 3)) fun x11 =>
   cond x11 (
    some ((s5, r10.1, r10.2.1, (S_codec_Reader.mk s6 s7 s8).gmade))) (
    Option.bind (idx r10.2.2 0) fun e12 =>
    Option.bind (idx r10.2.2 1) fun e13 =>
    Option.bind (idx r10.2.2 2) fun e14 =>
    Option.bind (appO 24 s5 (([#v[I64 e12, I64 e13, I64 e14]] : List (Vector Int 3)))) fun z15 =>
    p_texture_Decode_L1 N x3 k z15 r10.1 r10.2.1 ((S_codec_Reader.mk s6 s7 s8).gmade) (I64 (s9 + 1)))) (
   some ((s5, s6, s7, s8)))

def p_texture_Decode (N : Nat) (a0 : (List Int)) : Option (S_api_Texture × Int) :=
 Option.bind (p_codec_New N a0) fun r1 =>
 Option.bind (p_codec_Reader_Num_rd N 1 (S_codec_Reader.mk r1 0 true)) fun r2 =>
 letO (I64 ((I64 r2.2.2) * (I64 r2.2.2))) fun x3 =>
 Option.bind (p_texture_Decode_L1 N x3 N [] r2.1 r2.2.1 ((S_codec_Reader.mk r1 0 true).gmade) 0) fun p4 =>
 Option.bind (p_codec_Reader_End_r N (S_codec_Reader.mk p4.2.1 p4.2.2.1 p4.2.2.2)) fun r16 =>
 cond (r16 != 0) (
  some ((S_api_Texture.mk 0 [], r16))) (
  Option.bind (p_texture_Check N (S_api_Texture.mk (I64 r2.2.2) p4.1)) fun r17 =>
  cond (r17 != 0) (
   some ((S_api_Texture.mk 0 [], r17))) (
   some ((S_api_Texture.mk (I64 r2.2.2) p4.1, 0))))

theorem texture_Decode_ok {N : Nat} {a0 : (List Int)} {r : S_api_Texture × Int} (h : p_texture_Decode N a0 = some r) : FnM Try.prog 47 [] [(eL 1 k8 a0)] (.tup [(S_api_Texture.enc r.1), (j64 r.2)]) [] := by
 unfold p_texture_Decode at h
 refine fnM_of_aw (m := 59) (lo := 0) (rs := [.cell 2 36, .tmp 3]) hT Try.func47 rfl (by kernel_rfl) rfl ?_
 refine aw_sregU hT m_no [] (by kernel_rfl) ?_
 refine aw_sreg ?_
 refine awl_u hT m_no [] 1 (by kernel_rfl) ?_
 obtain ⟨r1, hr1, h⟩ := obind h
 refine awl_big (big_call [] (codec_New_ok hr1) codec_New_ok_c) (by kernel_rfl) ?_
 refine awl_u hT m_no [] 1 (by kernel_rfl) ?_
 refine awl_nil ?_
 refine aw_sreg ?_
 refine awl_u hT m_no [] 1 (by kernel_rfl) ?_
 obtain ⟨r2, hr2, h⟩ := obind h
 refine awl_big (big_call [2] (codec_Reader_Num_rd_ok hr2) codec_Reader_Num_rd_ok_c) (by kernel_rfl) ?_
 refine awl_u hT m_no [] 4 (by kernel_rfl) ?_
 refine awl_nil ?_
 refine aw_seq ?_
 obtain ⟨x3, hx3, h⟩ := letE h
 refine aw_sregU hT m_no [] (by kernel_rfl) ?_
 refine aw_nms [(19, (j64 x3))] (by subst hx3; kernel_rfl) ?_
 refine aw_own_box 3 3 [1] ?_
 obtain ⟨p4, h, g4⟩ := obind h
 refine aw_joinTK ⟨[en 2 (.ref 0 [] 0), en 4 (.ref 2 [] 0), en 5 (.ref 3 [] 0)], [.var (.st 2 [(j64 0), (.v (.slice none 0 0))]), .tail (r1.length * 1), .var (.st 3 [(eL 1 k8 p4.2.1), (j64 p4.2.2.1), (eB p4.2.2.2)]), .var (.st 2 [(j64 (I64 r2.2.2)), (eO 4 3 (eA 3 1 j64) p4.1)]), .tail (p4.1.length * 3)]⟩ ?_ ?_
 ·refine aw_block (aw_loop (fun k s => ∃ s5 s6 s7 s8 s9, p_texture_Decode_L1 N x3 k s5 s6 s7 s8 s9 = some p4 ∧ JR (Fr.f 59 0) ⟨[en 2 (.ref 0 [] 0), en 4 (.ref 2 [] 0), en 5 (.ref 3 [] 0), en 19 (j64 x3), en 20 (j64 s9)], [.var (.st 2 [(j64 0), (.v (.slice none 0 0))]), .tail (r1.length * 1), .var (.st 3 [(eL 1 k8 s6), (j64 s7), (eB s8)]), .var (.st 2 [(j64 (I64 r2.2.2)), (eO 4 3 (eA 3 1 j64) s5)]), .tail (s5.length * 3)]⟩ s) (fun k s hI => ?_) N _ ⟨_, _, _, _, _, h, jr⟩)
  obtain ⟨s5, s6, s7, s8, s9, h, hj⟩ := hI
  cases k with
  | zero => cases h
  | succ k =>
   refine aw_jr hj ?_
   refine aw_sregU hT m_no [] (by kernel_rfl) ?_
   refine aw_seq ?_
   refine aw_condH h (by kernel_rfl) (fun _ h => ?_) (fun _ h => ?_)
   ·refine aw_skip (tn_n ?_)
    refine aw_seq ?_
    refine aw_block ?_
    refine aw_sreg ?_
    refine awl_u hT m_no [] 1 (by kernel_rfl) ?_
    obtain ⟨r10, hr10, h⟩ := obind h
    refine awl_big (big_call [2] (codec_Reader_Take_rd_ok hr10) codec_Reader_Take_rd_ok_c) (by kernel_rfl) ?_
    refine awl_u hT m_no [] 1 (by kernel_rfl) ?_
    refine awl_nil ?_
    refine aw_seq ?_
    obtain ⟨x11, hx11, h⟩ := letE h
    refine aw_sregU hT m_no [] (by kernel_rfl) ?_
    refine aw_nms [(26, (eB x11))] (by subst hx11; kernel_rfl) ?_
    refine aw_condH h (by kernel_rfl) (fun _ h => ?_) (fun _ h => ?_)
    ·refine aw_exit (tn_x (inB_x (by kernel_rfl) (tn_x (tn_x (inB_e (tn_n ?_))))))
     cases h
     exact jr
    ·refine aw_skip (tn_n ?_)
     obtain ⟨e12, he12, h⟩ := obind h
     obtain ⟨e13, he13, h⟩ := obind h
     obtain ⟨e14, he14, h⟩ := obind h
     obtain ⟨z15, hz15, h⟩ := obind h
     refine aw_drawM hT hmo m_no [(3, (.im (k8 e12))), (7, (.im (k8 e13))), (11, (.im (k8 e14))), (15, (.sl 3 1 [(.arr 3 1 [(j64 (I64 e12)), (j64 (I64 e13)), (j64 (I64 e14))])]))] [(16, fun _ => ((eO 4 3 (eA 3 1 j64) z15), [.var (.st 2 [(j64 0), (.v (.slice none 0 0))]), .tail (r1.length * 1), .var (.st 3 [(eL 1 k8 r10.1), (j64 r10.2.1), (eB ((S_codec_Reader.mk s6 s7 s8).gmade))]), .var (.st 2 [(j64 (I64 r2.2.2)), (eO 4 3 (eA 3 1 j64) s5)]), .tail (z15.length * 3)]))] (by kernel_rfl) (by kernel_rfl) (by kernel_rfl) ⟨fun _ => big_idx hT k8 he12, fun _ => big_idx hT k8 he13, fun _ => big_idx hT k8 he14, fun _ => big_row hT (x := (.sl 3 1 [(.arr 3 1 [(j64 (I64 e12)), (j64 (I64 e13)), (j64 (I64 e14))])])), trivial⟩ ⟨big_at (big_app hT (eA 3 1 j64) (id := 4) (k := 3) hz15), trivial⟩ (inB_n (tn_n ?_))
     refine aw_regU hT m_no [] (by kernel_rfl) (tn_n ?_)
     exact ⟨k, Nat.lt_succ_self k, _, _, _, _, _, h, jr⟩
   ·refine aw_exit (tn_x (tn_x (inB_e (tn_n ?_))))
    cases h
    exact jr
 ·have h := g4
  refine (tn_n ?_)
  refine aw_seq ?_
  refine aw_sreg ?_
  refine awl_u hT m_no [] 1 (by kernel_rfl) ?_
  obtain ⟨r16, hr16, h⟩ := obind h
  refine awl_big (big_call [2] (codec_Reader_End_r_ok hr16) codec_Reader_End_r_ok_c) (by kernel_rfl) ?_
  refine awl_u hT m_no [] 1 (by kernel_rfl) ?_
  refine awl_nil ?_
  refine aw_sregU hT m_no [] (by kernel_rfl) ?_
  refine aw_condH h (by kernel_rfl) (fun _ h => ?_) (fun _ h => ?_)
  ·refine aw_sregU hT m_no [] (by kernel_rfl) ?_
   refine aw_ret (tn_r ?_)
   cases h
   exact fin_r
  ·refine aw_skip (tn_n ?_)
   refine aw_seq ?_
   refine aw_sreg ?_
   refine awl_u hT m_no [] 1 (by kernel_rfl) ?_
   obtain ⟨r17, hr17, h⟩ := obind h
   refine awl_big (big_call [] (texture_Check_ok hr17) texture_Check_ok_c) (by kernel_rfl) ?_
   refine awl_u hT m_no [] 1 (by kernel_rfl) ?_
   refine awl_nil ?_
   refine aw_sregU hT m_no [] (by kernel_rfl) ?_
   refine aw_condH h (by kernel_rfl) (fun _ h => ?_) (fun _ h => ?_)
   ·refine aw_sregU hT m_no [] (by kernel_rfl) ?_
    refine aw_ret (tn_r ?_)
    cases h
    exact fin_r
   ·refine aw_skip (tn_n ?_)
    refine aw_sregU hT m_no [] (by kernel_rfl) ?_
    refine aw_ret ?_
    cases h
    exact fin_r

theorem texture_Decode_ok_c : callable Try.prog 47 := ⟨_, Try.func47, by decide, rfl⟩

def p_asset_decoder_uint_srzd (N : Nat) (a0 : Int) (a1 : S_codec_Reader) : Option ((List Int) × Int × Int) :=
 Option.bind (p_codec_Reader_Num_rd N a0 a1) fun r1 =>
 some ((r1.1, r1.2.1, I64 r1.2.2))

theorem asset_decoder_uint_srzd_ok {N : Nat} {a0 : Int} {a1 : S_codec_Reader} {r : (List Int) × Int × Int} (h : p_asset_decoder_uint_srzd N a0 a1 = some r) : FnM Try.prog 48 [.var (S_codec_Reader.enc a1)] [(.st 1 [(.ref 0 [] 0)]), (j64 a0)] (j64 r.2.2) [.var (.st 3 [(eL 1 k8 r.1), (j64 r.2.1), (eB a1.gmade)])] := by
 unfold p_asset_decoder_uint_srzd at h
 refine fnM_of_aw (m := 10) (lo := 1) (rs := [.tmp 4]) hT Try.func48 rfl (by kernel_rfl) rfl ?_
 refine aw_sregU hT m_no [] (by kernel_rfl) ?_
 refine aw_sreg ?_
 refine awl_u hT m_no [] 3 (by kernel_rfl) ?_
 obtain ⟨r1, hr1, h⟩ := obind h
 refine awl_big (big_call [0] (codec_Reader_Num_rd_ok hr1) codec_Reader_Num_rd_ok_c) (by kernel_rfl) ?_
 refine awl_u hT m_no [] 2 (by kernel_rfl) ?_
 refine awl_nil ?_
 refine aw_ret ?_
 cases h
 exact fin_r

theorem asset_decoder_uint_srzd_ok_c : callable Try.prog 48 := ⟨_, Try.func48, by decide, rfl⟩

def p_asset_decoder_three_srzd (N : Nat) (a0 : Int) (a1 : S_codec_Reader) : Option ((List Int) × Int × Bool × (Vector Int 3)) :=
 Option.bind (p_asset_decoder_uint_srzd N a0 a1) fun r1 =>
 Option.bind (p_asset_decoder_uint_srzd N a0 (S_codec_Reader.mk r1.1 r1.2.1 a1.gmade)) fun r2 =>
 Option.bind (p_asset_decoder_uint_srzd N a0 (S_codec_Reader.mk r2.1 r2.2.1 ((S_codec_Reader.mk r1.1 r1.2.1 a1.gmade).gmade))) fun r3 =>
 some ((r3.1, r3.2.1, (S_codec_Reader.mk r2.1 r2.2.1 ((S_codec_Reader.mk r1.1 r1.2.1 a1.gmade).gmade)).gmade, #v[r1.2.2, r2.2.2, r3.2.2]))

theorem asset_decoder_three_srzd_ok {N : Nat} {a0 : Int} {a1 : S_codec_Reader} {r : (List Int) × Int × Bool × (Vector Int 3)} (h : p_asset_decoder_three_srzd N a0 a1 = some r) : FnM Try.prog 49 [.var (S_codec_Reader.enc a1)] [(.st 1 [(.ref 0 [] 0)]), (j64 a0)] (eA 3 1 j64 r.2.2.2) [.var (.st 3 [(eL 1 k8 r.1), (j64 r.2.1), (eB r.2.2.1)])] := by
 unfold p_asset_decoder_three_srzd at h
 refine fnM_of_aw (m := 15) (lo := 1) (rs := [.cell 4 37]) hT Try.func49 rfl (by kernel_rfl) rfl ?_
 refine aw_sregU hT m_no [] (by kernel_rfl) ?_
 obtain ⟨r1, hr1, h⟩ := obind h
 obtain ⟨r2, hr2, h⟩ := obind h
 obtain ⟨r3, hr3, h⟩ := obind h
 refine aw_sdrawV hT hmo m_no [] [(2, fun _ => ((j64 r1.2.2), [.var (.st 3 [(eL 1 k8 r1.1), (j64 r1.2.1), (eB a1.gmade)]), .var (.st 1 [(.ref 0 [] 0)]), .var (.arr 3 1 [(j64 0), (j64 0), (j64 0)])])), (5, fun _ => ((j64 r2.2.2), [.var (.st 3 [(eL 1 k8 r2.1), (j64 r2.2.1), (eB ((S_codec_Reader.mk r1.1 r1.2.1 a1.gmade).gmade))]), .var (.st 1 [(.ref 0 [] 0)]), .var (.arr 3 1 [(j64 0), (j64 0), (j64 0)])])), (8, fun _ => ((j64 r3.2.2), [.var (.st 3 [(eL 1 k8 r3.1), (j64 r3.2.1), (eB ((S_codec_Reader.mk r2.1 r2.2.1 ((S_codec_Reader.mk r1.1 r1.2.1 a1.gmade).gmade)).gmade))]), .var (.st 1 [(.ref 0 [] 0)]), .var (.arr 3 1 [(j64 0), (j64 0), (j64 0)])]))] (by kernel_rfl) (by kernel_rfl) (by kernel_rfl) trivial ⟨big_at (big_call [0] (asset_decoder_uint_srzd_ok hr1) asset_decoder_uint_srzd_ok_c), big_at (big_call [0] (asset_decoder_uint_srzd_ok hr2) asset_decoder_uint_srzd_ok_c), big_at (big_call [0] (asset_decoder_uint_srzd_ok hr3) asset_decoder_uint_srzd_ok_c), trivial⟩ ?_
 refine aw_ret ?_
 cases h
 exact fin_r

theorem asset_decoder_three_srzd_ok_c : callable Try.prog 49 := ⟨_, Try.func49, by decide, rfl⟩

def p_asset_decoder_point_srz (N : Nat) (a0 : S_codec_Reader) : Option ((List Int) × Int × Bool × S_api_Point) :=
 Option.bind (p_codec_Reader_Int_rd N 2 a0) fun r1 =>
 Option.bind (p_codec_Reader_Int_rd N 2 (S_codec_Reader.mk r1.1 r1.2.1 a0.gmade)) fun r2 =>
 Option.bind (p_codec_Reader_Int_rd N 2 (S_codec_Reader.mk r2.1 r2.2.1 ((S_codec_Reader.mk r1.1 r1.2.1 a0.gmade).gmade))) fun r3 =>
 some ((r3.1, r3.2.1, (S_codec_Reader.mk r2.1 r2.2.1 ((S_codec_Reader.mk r1.1 r1.2.1 a0.gmade).gmade)).gmade, S_api_Point.mk r1.2.2 r2.2.2 r3.2.2))

theorem asset_decoder_point_srz_ok {N : Nat} {a0 : S_codec_Reader} {r : (List Int) × Int × Bool × S_api_Point} (h : p_asset_decoder_point_srz N a0 = some r) : FnM Try.prog 51 [.var (S_codec_Reader.enc a0)] [(.st 1 [(.ref 0 [] 0)])] (S_api_Point.enc r.2.2.2) [.var (.st 3 [(eL 1 k8 r.1), (j64 r.2.1), (eB r.2.2.1)])] := by
 unfold p_asset_decoder_point_srz at h
 refine fnM_of_aw (m := 13) (lo := 1) (rs := [.cell 2 41]) hT Try.func51 rfl (by kernel_rfl) rfl ?_
 refine aw_sregU hT m_no [] (by kernel_rfl) ?_
 obtain ⟨r1, hr1, h⟩ := obind h
 obtain ⟨r2, hr2, h⟩ := obind h
 obtain ⟨r3, hr3, h⟩ := obind h
 refine aw_sdrawV hT hmo m_no [] [(2, fun _ => ((j64 r1.2.2), [.var (.st 3 [(eL 1 k8 r1.1), (j64 r1.2.1), (eB a0.gmade)]), .var (.st 1 [(.ref 0 [] 0)]), .var (.st 3 [(j64 0), (j64 0), (j64 0)])])), (5, fun _ => ((j64 r2.2.2), [.var (.st 3 [(eL 1 k8 r2.1), (j64 r2.2.1), (eB ((S_codec_Reader.mk r1.1 r1.2.1 a0.gmade).gmade))]), .var (.st 1 [(.ref 0 [] 0)]), .var (.st 3 [(j64 0), (j64 0), (j64 0)])])), (8, fun _ => ((j64 r3.2.2), [.var (.st 3 [(eL 1 k8 r3.1), (j64 r3.2.1), (eB ((S_codec_Reader.mk r2.1 r2.2.1 ((S_codec_Reader.mk r1.1 r1.2.1 a0.gmade).gmade)).gmade))]), .var (.st 1 [(.ref 0 [] 0)]), .var (.st 3 [(j64 0), (j64 0), (j64 0)])]))] (by kernel_rfl) (by kernel_rfl) (by kernel_rfl) trivial ⟨big_at (big_call [0] (codec_Reader_Int_rd_ok hr1) codec_Reader_Int_rd_ok_c), big_at (big_call [0] (codec_Reader_Int_rd_ok hr2) codec_Reader_Int_rd_ok_c), big_at (big_call [0] (codec_Reader_Int_rd_ok hr3) codec_Reader_Int_rd_ok_c), trivial⟩ ?_
 refine aw_ret ?_
 cases h
 exact fin_r

theorem asset_decoder_point_srz_ok_c : callable Try.prog 51 := ⟨_, Try.func51, by decide, rfl⟩

end Go.UK

