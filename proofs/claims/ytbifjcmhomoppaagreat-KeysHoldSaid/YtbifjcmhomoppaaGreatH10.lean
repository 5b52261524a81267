/- A part of the proof: what the functions of the program compute. -/
import Derived.Test.YtbifjcmhomoppaaGreatH9
namespace Go.UK
open Go Go.Proofs
set_option maxRecDepth 20000
set_option maxHeartbeats 4000000
set_option linter.all false

attribute [local irreducible] adv putPt dropPt setPt brPt litPt cutPt restPt popN unrPt stPt envPt boxPt opPt opP2t ksPt lPt owp awl aw FnM NatFn opS Stab TOK Big
def p_mesh_decoder_point_srz (N : Nat) (a0 : S_codec_Reader) : Option ((List Int) × Int × Bool × S_api_Point) :=
 Option.bind (p_codec_Reader_Int_rd N 2 a0) fun r1 =>
 Option.bind (p_codec_Reader_Int_rd N 2 (S_codec_Reader.mk r1.1 r1.2.1 a0.gmade)) fun r2 =>
 Option.bind (p_codec_Reader_Int_rd N 2 (S_codec_Reader.mk r2.1 r2.2.1 ((S_codec_Reader.mk r1.1 r1.2.1 a0.gmade).gmade))) fun r3 =>
 some ((r3.1, r3.2.1, (S_codec_Reader.mk r2.1 r2.2.1 ((S_codec_Reader.mk r1.1 r1.2.1 a0.gmade).gmade)).gmade, S_api_Point.mk r1.2.2 r2.2.2 r3.2.2))

theorem mesh_decoder_point_srz_ok {N : Nat} {a0 : S_codec_Reader} {r : (List Int) × Int × Bool × S_api_Point} (h : p_mesh_decoder_point_srz N a0 = some r) : FnM Tryz.prog 154 [.var (S_codec_Reader.enc a0)] [(.st 1 [(.ref 0 [] 0)])] (S_api_Point.enc r.2.2.2) [.var (.st 3 [(eL 1 k8 r.1), (j64 r.2.1), (eB r.2.2.1)])] := by
 unfold p_mesh_decoder_point_srz at h
 refine At.fn m_no hT hmo (m := 13) (lo := 1) (rs := [.cell 2 41]) Tryz.func154 rfl rfl h ?_
 refine bi fun r1 hr1 => ?_
 refine bi fun r2 hr2 => ?_
 refine bi fun r3 hr3 => ?_
 refine At.d 2 dE0 (dF1 2 (j64 r1.2.2) [.var (.st 3 [(eL 1 k8 r1.1), (j64 r1.2.1), (eB a0.gmade)]), .var (.st 1 [(.ref 0 [] 0)]), .var (.st 3 [(j64 0), (j64 0), (j64 0)])] (big_at (big_call [0] (codec_Reader_Int_rd_ok hr1) codec_Reader_Int_rd_ok_c)) (dF1 5 (j64 r2.2.2) [.var (.st 3 [(eL 1 k8 r2.1), (j64 r2.2.1), (eB ((S_codec_Reader.mk r1.1 r1.2.1 a0.gmade).gmade))]), .var (.st 1 [(.ref 0 [] 0)]), .var (.st 3 [(j64 0), (j64 0), (j64 0)])] (big_at (big_call [0] (codec_Reader_Int_rd_ok hr2) codec_Reader_Int_rd_ok_c)) (dF1 8 (j64 r3.2.2) [.var (.st 3 [(eL 1 k8 r3.1), (j64 r3.2.1), (eB ((S_codec_Reader.mk r2.1 r2.2.1 ((S_codec_Reader.mk r1.1 r1.2.1 a0.gmade).gmade)).gmade))]), .var (.st 1 [(.ref 0 [] 0)]), .var (.st 3 [(j64 0), (j64 0), (j64 0)])] (big_at (big_call [0] (codec_Reader_Int_rd_ok hr3) codec_Reader_Int_rd_ok_c)) dF0))) ?_
 apply rt; exact At.r 0

theorem mesh_decoder_point_srz_ok_c : callable Tryz.prog 154 := ⟨_, Tryz.func154, by decide, rfl⟩

def p_mesh_Decode_L1 (N : Nat) (r2 : (List Int) × Int × Int) : Nat → (List S_api_Point) → (List Int) → Int → Bool → Int → Option ((List S_api_Point) × (List Int) × Int × Bool)
 | 0, _, _, _, _, _ => none
 | k + 1, s5, s6, s7, s8, s9 =>
  cond (decide (s9 < r2.2.2)) (
   Option.bind (p_mesh_decoder_point_srz N (S_codec_Reader.mk s6 s7 s8)) fun r10 =>
   Option.bind (appO 24 s5 (([r10.2.2.2] : List S_api_Point))) fun z11 =>
   p_mesh_Decode_L1 N r2 k z11 r10.1 r10.2.1 r10.2.2.1 (I64 (s9 + 1))) (
   some ((s5, s6, s7, s8)))

def p_mesh_Decode_L2 (N : Nat) (r2 : (List Int) × Int × Int) : Nat → (List (Vector Int 2)) → (List Int) → Int → Bool → Int → Option ((List (Vector Int 2)) × (List Int) × Int × Bool)
 | 0, _, _, _, _, _ => none
 | k + 1, s13, s14, s15, s16, s17 =>
  cond (decide (s17 < r2.2.2)) (
   Option.bind (p_mesh_decoder_uint_srzd N 2 (S_codec_Reader.mk s14 s15 s16)) fun r18 =>
   Option.bind (p_mesh_decoder_uint_srzd N 2 (S_codec_Reader.mk r18.1 r18.2.1 ((S_codec_Reader.mk s14 s15 s16).gmade))) fun r19 =>
   Option.bind (appO 16 s13 (([#v[r18.2.2, r19.2.2]] : List (Vector Int 2)))) fun z20 =>
   p_mesh_Decode_L2 N r2 k z20 r19.1 r19.2.1 ((S_codec_Reader.mk r18.1 r18.2.1 ((S_codec_Reader.mk s14 s15 s16).gmade)).gmade) (I64 (s17 + 1))) (
   some ((s13, s14, s15, s16)))

def p_mesh_Decode_L3 (N : Nat) (r3 : (List Int) × Int × Int) : Nat → (List (Vector Int 3)) → (List Int) → Int → Bool → Int → Option ((List (Vector Int 3)) × (List Int) × Int × Bool)
 | 0, _, _, _, _, _ => none
 | k + 1, s22, s23, s24, s25, s26 =>
  cond (decide (s26 < r3.2.2)) (
   Option.bind (p_mesh_decoder_uint_srzd N 1 (S_codec_Reader.mk s23 s24 s25)) fun r27 =>
   Option.bind (p_mesh_decoder_uint_srzd N 1 (S_codec_Reader.mk r27.1 r27.2.1 ((S_codec_Reader.mk s23 s24 s25).gmade))) fun r28 =>
   Option.bind (p_mesh_decoder_uint_srzd N 1 (S_codec_Reader.mk r28.1 r28.2.1 ((S_codec_Reader.mk r27.1 r27.2.1 ((S_codec_Reader.mk s23 s24 s25).gmade)).gmade))) fun r29 =>
   Option.bind (appO 24 s22 (([#v[r27.2.2, r28.2.2, r29.2.2]] : List (Vector Int 3)))) fun z30 =>
   p_mesh_Decode_L3 N r3 k z30 r29.1 r29.2.1 ((S_codec_Reader.mk r28.1 r28.2.1 ((S_codec_Reader.mk r27.1 r27.2.1 ((S_codec_Reader.mk s23 s24 s25).gmade)).gmade)).gmade) (I64 (s26 + 1))) (
   some ((s22, s23, s24, s25)))

def p_mesh_Decode (N : Nat) (a0 : (List Int)) : Option (S_api_Mesh × Int) :=
 Option.bind (p_codec_New N a0) fun r1 =>
 Option.bind (p_mesh_decoder_uint_srzd N 1 (S_codec_Reader.mk r1 0 true)) fun r2 =>
 Option.bind (p_mesh_decoder_uint_srzd N 1 (S_codec_Reader.mk r2.1 r2.2.1 ((S_codec_Reader.mk r1 0 true).gmade))) fun r3 =>
 Option.bind (p_mesh_Decode_L1 N r2 N [] r3.1 r3.2.1 ((S_codec_Reader.mk r2.1 r2.2.1 ((S_codec_Reader.mk r1 0 true).gmade)).gmade) 0) fun p4 =>
 Option.bind (p_mesh_Decode_L2 N r2 N [] p4.2.1 p4.2.2.1 p4.2.2.2 0) fun p12 =>
 Option.bind (p_mesh_Decode_L3 N r3 N [] p12.2.1 p12.2.2.1 p12.2.2.2 0) fun p21 =>
 Option.bind (p_codec_Reader_End_r N (S_codec_Reader.mk p21.2.1 p21.2.2.1 p21.2.2.2)) fun r31 =>
 cond (r31 != 0) (
  some ((S_api_Mesh.mk [] [] [], r31))) (
  Option.bind (p_mesh_Check N (S_api_Mesh.mk p4.1 p12.1 p21.1)) fun r32 =>
  cond (r32 != 0) (
   some ((S_api_Mesh.mk [] [] [], r32))) (
   some ((S_api_Mesh.mk p4.1 p12.1 p21.1, 0))))

theorem mesh_Decode_ok {N : Nat} {a0 : (List Int)} {r : S_api_Mesh × Int} (h : p_mesh_Decode N a0 = some r) : FnM Tryz.prog 107 [] [(eL 1 k8 a0)] (.tup [(S_api_Mesh.enc r.1), (j64 r.2)]) [] := by
 unfold p_mesh_Decode at h
 refine At.fn m_no hT hmo (m := 72) (lo := 0) (rs := [.cell 2 34, .tmp 3]) Tryz.func107 rfl rfl h ?_
 refine At.b 3 (fun _ e => big_call [] (codec_New_ok e) codec_New_ok_c) fun r1 => ?_
 refine bi fun r2 hr2 => ?_
 refine bi fun r3 hr3 => ?_
 refine At.d 3 dE0 (dF1 1 (j64 r2.2.2) [.var cv_3, .tail (r1.length * 1), .var (.st 3 [(eL 1 k8 r2.1), (j64 r2.2.1), (eB ((S_codec_Reader.mk r1 0 true).gmade))]), .var (.st 1 [(.ref 2 [] 0)])] (big_at (big_call [2] (mesh_decoder_uint_srzd_ok hr2) mesh_decoder_uint_srzd_ok_c)) (dF1 3 (j64 r3.2.2) [.var cv_3, .tail (r1.length * 1), .var (.st 3 [(eL 1 k8 r3.1), (j64 r3.2.1), (eB ((S_codec_Reader.mk r2.1 r2.2.1 ((S_codec_Reader.mk r1 0 true).gmade)).gmade))]), .var (.st 1 [(.ref 2 [] 0)])] (big_at (big_call [2] (mesh_decoder_uint_srzd_ok hr3) mesh_decoder_uint_srzd_ok_c)) dF0)) ?_
 refine At.ownb 3 4 3 [0] ?_
 refine At.l 0 (fun p4 => ⟨[en 2 (.ref 0 [] 0), en 4 (.ref 3 [] 0), en 5 (j64 r2.2.2), en 6 (j64 r3.2.2), en 7 (.ref 4 [] 0)], [.var cv_3, .tail (r1.length * 1), .var (.st 3 [(eL 1 k8 p4.2.1), (j64 p4.2.2.1), (eB p4.2.2.2)]), .var (.st 1 [(.ref 2 [] 0)]), .var (.st 3 [(eO 5 3 S_api_Point.enc p4.1), (.v (.slice none 0 0)), (.v (.slice none 0 0))]), .tail (p4.1.length * 3)]⟩) (fun p4 J k s => ∃ s5 s6 s7 s8 s9, p_mesh_Decode_L1 N r2 k s5 s6 s7 s8 s9 = some p4 ∧ J ⟨[en 2 (.ref 0 [] 0), en 4 (.ref 3 [] 0), en 5 (j64 r2.2.2), en 6 (j64 r3.2.2), en 7 (.ref 4 [] 0), en 17 (j64 r2.2.2), en 18 (j64 s9)], [.var cv_3, .tail (r1.length * 1), .var (.st 3 [(eL 1 k8 s6), (j64 s7), (eB s8)]), .var (.st 1 [(.ref 2 [] 0)]), .var (.st 3 [(eO 5 3 S_api_Point.enc s5), (.v (.slice none 0 0)), (.v (.slice none 0 0))]), .tail (s5.length * 3)]⟩ s) N (fun _ h => ⟨_, _, _, _, _, h, jr⟩) (fun p4 k s hI => ?_) fun p4 => ?_
 ·obtain ⟨s5, s6, s7, s8, s9, h, hj⟩ := hI
  cases k with
  | zero => cases h
  | succ k =>
   refine At.jr hj ?_ h
   refine At.c 1 ?_ ?_
   ·refine bi fun r10 hr10 => ?_
    refine bi fun z11 hz11 => ?_
    refine At.d 0 (dE1 4 (fun _ => big_row hT (x := (.sl 3 1 [(S_api_Point.enc r10.2.2.2)]))) dE0) (dF1 3 (S_api_Point.enc r10.2.2.2) [.var cv_3, .tail (r1.length * 1), .var (.st 3 [(eL 1 k8 r10.1), (j64 r10.2.1), (eB r10.2.2.1)]), .var (.st 1 [(.ref 2 [] 0)]), .var (.st 3 [(eO 5 3 S_api_Point.enc s5), (.v (.slice none 0 0)), (.v (.slice none 0 0))]), .tail (s5.length * 3)] (big_at (big_call [2] (mesh_decoder_point_srz_ok hr10) mesh_decoder_point_srz_ok_c)) (dF1 5 (eO 5 3 S_api_Point.enc z11) [.var cv_3, .tail (r1.length * 1), .var (.st 3 [(eL 1 k8 r10.1), (j64 r10.2.1), (eB r10.2.2.1)]), .var (.st 1 [(.ref 2 [] 0)]), .var (.st 3 [(eO 5 3 S_api_Point.enc s5), (.v (.slice none 0 0)), (.v (.slice none 0 0))]), .tail (z11.length * 3)] (big_at (big_app hT S_api_Point.enc (id := 5) (k := 3) hz11)) dF0)) ?_
    exact fun h => At.k 2 ⟨_, _, _, _, _, h, jr⟩
   ·apply rt; exact At.x 0
 ·refine At.ownb 2 4 2 [1] ?_
  refine At.l 0 (fun p12 => ⟨[en 2 (.ref 0 [] 0), en 4 (.ref 3 [] 0), en 6 (j64 r3.2.2), en 7 (.ref 4 [] 0)], [.var cv_3, .tail (r1.length * 1), .var (.st 3 [(eL 1 k8 p12.2.1), (j64 p12.2.2.1), (eB p12.2.2.2)]), .var (.st 1 [(.ref 2 [] 0)]), .var (.st 3 [(eO 5 3 S_api_Point.enc p4.1), (eO 6 2 (eA 2 1 j64) p12.1), (.v (.slice none 0 0))]), .tail (p4.1.length * 3), .tail (p12.1.length * 2)]⟩) (fun p12 J k s => ∃ s13 s14 s15 s16 s17, p_mesh_Decode_L2 N r2 k s13 s14 s15 s16 s17 = some p12 ∧ J ⟨[en 2 (.ref 0 [] 0), en 4 (.ref 3 [] 0), en 6 (j64 r3.2.2), en 7 (.ref 4 [] 0), en 28 (j64 r2.2.2), en 29 (j64 s17)], [.var cv_3, .tail (r1.length * 1), .var (.st 3 [(eL 1 k8 s14), (j64 s15), (eB s16)]), .var (.st 1 [(.ref 2 [] 0)]), .var (.st 3 [(eO 5 3 S_api_Point.enc p4.1), (eO 6 2 (eA 2 1 j64) s13), (.v (.slice none 0 0))]), .tail (p4.1.length * 3), .tail (s13.length * 2)]⟩ s) N (fun _ h => ⟨_, _, _, _, _, h, jr⟩) (fun p12 k s hI => ?_) fun p12 => ?_
  ·obtain ⟨s13, s14, s15, s16, s17, h, hj⟩ := hI
   cases k with
   | zero => cases h
   | succ k =>
    refine At.jr hj ?_ h
    refine At.c 1 ?_ ?_
    ·refine bi fun r18 hr18 => ?_
     refine bi fun r19 hr19 => ?_
     refine bi fun z20 hz20 => ?_
     refine At.d 0 (dE1 7 (fun _ => big_row hT (x := (.sl 2 1 [(.arr 2 1 [(j64 r18.2.2), (j64 r19.2.2)])]))) dE0) (dF1 3 (j64 r18.2.2) [.var cv_3, .tail (r1.length * 1), .var (.st 3 [(eL 1 k8 r18.1), (j64 r18.2.1), (eB ((S_codec_Reader.mk s14 s15 s16).gmade))]), .var (.st 1 [(.ref 2 [] 0)]), .var (.st 3 [(eO 5 3 S_api_Point.enc p4.1), (eO 6 2 (eA 2 1 j64) s13), (.v (.slice none 0 0))]), .tail (p4.1.length * 3), .tail (s13.length * 2)] (big_at (big_call [2] (mesh_decoder_uint_srzd_ok hr18) mesh_decoder_uint_srzd_ok_c)) (dF1 5 (j64 r19.2.2) [.var cv_3, .tail (r1.length * 1), .var (.st 3 [(eL 1 k8 r19.1), (j64 r19.2.1), (eB ((S_codec_Reader.mk r18.1 r18.2.1 ((S_codec_Reader.mk s14 s15 s16).gmade)).gmade))]), .var (.st 1 [(.ref 2 [] 0)]), .var (.st 3 [(eO 5 3 S_api_Point.enc p4.1), (eO 6 2 (eA 2 1 j64) s13), (.v (.slice none 0 0))]), .tail (p4.1.length * 3), .tail (s13.length * 2)] (big_at (big_call [2] (mesh_decoder_uint_srzd_ok hr19) mesh_decoder_uint_srzd_ok_c)) (dF1 8 (eO 6 2 (eA 2 1 j64) z20) [.var cv_3, .tail (r1.length * 1), .var (.st 3 [(eL 1 k8 r19.1), (j64 r19.2.1), (eB ((S_codec_Reader.mk r18.1 r18.2.1 ((S_codec_Reader.mk s14 s15 s16).gmade)).gmade))]), .var (.st 1 [(.ref 2 [] 0)]), .var (.st 3 [(eO 5 3 S_api_Point.enc p4.1), (eO 6 2 (eA 2 1 j64) s13), (.v (.slice none 0 0))]), .tail (p4.1.length * 3), .tail (z20.length * 2)] (big_at (big_app hT (eA 2 1 j64) (id := 6) (k := 2) hz20)) dF0))) ?_
     exact fun h => At.k 2 ⟨_, _, _, _, _, h, jr⟩
    ·apply rt; exact At.x 0
  ·refine At.ownb 2 4 3 [2] ?_
   refine At.l 0 (fun p21 => ⟨[en 2 (.ref 0 [] 0), en 4 (.ref 3 [] 0), en 7 (.ref 4 [] 0)], [.var cv_3, .tail (r1.length * 1), .var (.st 3 [(eL 1 k8 p21.2.1), (j64 p21.2.2.1), (eB p21.2.2.2)]), .var (.st 1 [(.ref 2 [] 0)]), .var (.st 3 [(eO 5 3 S_api_Point.enc p4.1), (eO 6 2 (eA 2 1 j64) p12.1), (eO 7 3 (eA 3 1 j64) p21.1)]), .tail (p4.1.length * 3), .tail (p12.1.length * 2), .tail (p21.1.length * 3)]⟩) (fun p21 J k s => ∃ s22 s23 s24 s25 s26, p_mesh_Decode_L3 N r3 k s22 s23 s24 s25 s26 = some p21 ∧ J ⟨[en 2 (.ref 0 [] 0), en 4 (.ref 3 [] 0), en 7 (.ref 4 [] 0), en 42 (j64 r3.2.2), en 43 (j64 s26)], [.var cv_3, .tail (r1.length * 1), .var (.st 3 [(eL 1 k8 s23), (j64 s24), (eB s25)]), .var (.st 1 [(.ref 2 [] 0)]), .var (.st 3 [(eO 5 3 S_api_Point.enc p4.1), (eO 6 2 (eA 2 1 j64) p12.1), (eO 7 3 (eA 3 1 j64) s22)]), .tail (p4.1.length * 3), .tail (p12.1.length * 2), .tail (s22.length * 3)]⟩ s) N (fun _ h => ⟨_, _, _, _, _, h, jr⟩) (fun p21 k s hI => ?_) fun p21 => ?_
   ·obtain ⟨s22, s23, s24, s25, s26, h, hj⟩ := hI
    cases k with
    | zero => cases h
    | succ k =>
     refine At.jr hj ?_ h
     refine At.c 1 ?_ ?_
     ·refine bi fun r27 hr27 => ?_
      refine bi fun r28 hr28 => ?_
      refine bi fun r29 hr29 => ?_
      refine bi fun z30 hz30 => ?_
      refine At.d 0 (dE1 9 (fun _ => big_row hT (x := (.sl 3 1 [(.arr 3 1 [(j64 r27.2.2), (j64 r28.2.2), (j64 r29.2.2)])]))) dE0) (dF1 3 (j64 r27.2.2) [.var cv_3, .tail (r1.length * 1), .var (.st 3 [(eL 1 k8 r27.1), (j64 r27.2.1), (eB ((S_codec_Reader.mk s23 s24 s25).gmade))]), .var (.st 1 [(.ref 2 [] 0)]), .var (.st 3 [(eO 5 3 S_api_Point.enc p4.1), (eO 6 2 (eA 2 1 j64) p12.1), (eO 7 3 (eA 3 1 j64) s22)]), .tail (p4.1.length * 3), .tail (p12.1.length * 2), .tail (s22.length * 3)] (big_at (big_call [2] (mesh_decoder_uint_srzd_ok hr27) mesh_decoder_uint_srzd_ok_c)) (dF1 5 (j64 r28.2.2) [.var cv_3, .tail (r1.length * 1), .var (.st 3 [(eL 1 k8 r28.1), (j64 r28.2.1), (eB ((S_codec_Reader.mk r27.1 r27.2.1 ((S_codec_Reader.mk s23 s24 s25).gmade)).gmade))]), .var (.st 1 [(.ref 2 [] 0)]), .var (.st 3 [(eO 5 3 S_api_Point.enc p4.1), (eO 6 2 (eA 2 1 j64) p12.1), (eO 7 3 (eA 3 1 j64) s22)]), .tail (p4.1.length * 3), .tail (p12.1.length * 2), .tail (s22.length * 3)] (big_at (big_call [2] (mesh_decoder_uint_srzd_ok hr28) mesh_decoder_uint_srzd_ok_c)) (dF1 7 (j64 r29.2.2) [.var cv_3, .tail (r1.length * 1), .var (.st 3 [(eL 1 k8 r29.1), (j64 r29.2.1), (eB ((S_codec_Reader.mk r28.1 r28.2.1 ((S_codec_Reader.mk r27.1 r27.2.1 ((S_codec_Reader.mk s23 s24 s25).gmade)).gmade)).gmade))]), .var (.st 1 [(.ref 2 [] 0)]), .var (.st 3 [(eO 5 3 S_api_Point.enc p4.1), (eO 6 2 (eA 2 1 j64) p12.1), (eO 7 3 (eA 3 1 j64) s22)]), .tail (p4.1.length * 3), .tail (p12.1.length * 2), .tail (s22.length * 3)] (big_at (big_call [2] (mesh_decoder_uint_srzd_ok hr29) mesh_decoder_uint_srzd_ok_c)) (dF1 10 (eO 7 3 (eA 3 1 j64) z30) [.var cv_3, .tail (r1.length * 1), .var (.st 3 [(eL 1 k8 r29.1), (j64 r29.2.1), (eB ((S_codec_Reader.mk r28.1 r28.2.1 ((S_codec_Reader.mk r27.1 r27.2.1 ((S_codec_Reader.mk s23 s24 s25).gmade)).gmade)).gmade))]), .var (.st 1 [(.ref 2 [] 0)]), .var (.st 3 [(eO 5 3 S_api_Point.enc p4.1), (eO 6 2 (eA 2 1 j64) p12.1), (eO 7 3 (eA 3 1 j64) s22)]), .tail (p4.1.length * 3), .tail (p12.1.length * 2), .tail (z30.length * 3)] (big_at (big_app hT (eA 3 1 j64) (id := 7) (k := 3) hz30)) dF0)))) ?_
      exact fun h => At.k 2 ⟨_, _, _, _, _, h, jr⟩
     ·apply rt; exact At.x 0
   ·refine At.b 2 (fun _ e => big_call [2] (codec_Reader_End_r_ok e) codec_Reader_End_r_ok_c) fun r31 => ?_
    refine At.c 3 ?_ ?_
    ·apply rt; exact At.r 4
    ·refine At.b 1 (fun _ e => big_call [] (mesh_Check_ok e) mesh_Check_ok_c) fun r32 => ?_
     refine At.c 3 ?_ ?_
     ·apply rt; exact At.r 4
     ·apply rt; exact At.r 3

theorem mesh_Decode_ok_c : callable Tryz.prog 107 := ⟨_, Tryz.func107, by decide, rfl⟩

def p_texture_Decode_L1 (N : Nat) (x3 : Int) : Nat → (List (Vector Int 3)) → (List Int) → Int → Bool → Int → Option ((List (Vector Int 3)) × (List Int) × Int × Bool)
 | 0, _, _, _, _, _ => none
 | k + 1, s5, s6, s7, s8, s9 =>
  cond (decide (s9 < x3)) (
   Option.bind (p_codec_Reader_Take_rd N 3 (S_codec_Reader.mk s6 s7 s8)) fun r10 =>
   letO (decide (((r10.2.2.length : Int)) < 3)) fun x11 =>
   cond x11 (
    some ((s5, r10.1, r10.2.1, (S_codec_Reader.mk s6 s7 s8).gmade))) (
    Option.bind (idx r10.2.2 0) fun e12 =>
    Option.bind (idx r10.2.2 1) fun e13 =>
    Option.bind (idx r10.2.2 2) fun e14 =>
    Option.bind (appO 24 s5 (([#v[I64 e12, I64 e13, I64 e14]] : List (Vector Int 3)))) fun z15 =>
    p_texture_Decode_L1 N x3 k z15 r10.1 r10.2.1 ((S_codec_Reader.mk s6 s7 s8).gmade) (I64 (s9 + 1)))) (
   some ((s5, s6, s7, s8)))

def p_texture_Decode (N : Nat) (a0 : (List Int)) : Option (S_api_Texture × Int) :=
 Option.bind (p_codec_New N a0) fun r1 =>
 Option.bind (p_codec_Reader_Num_rd N 1 (S_codec_Reader.mk r1 0 true)) fun r2 =>
 letO (I64 ((I64 r2.2.2) * (I64 r2.2.2))) fun x3 =>
 Option.bind (p_texture_Decode_L1 N x3 N [] r2.1 r2.2.1 ((S_codec_Reader.mk r1 0 true).gmade) 0) fun p4 =>
 Option.bind (p_codec_Reader_End_r N (S_codec_Reader.mk p4.2.1 p4.2.2.1 p4.2.2.2)) fun r16 =>
 cond (r16 != 0) (
  some ((S_api_Texture.mk 0 [], r16))) (
  Option.bind (p_texture_Check N (S_api_Texture.mk (I64 r2.2.2) p4.1)) fun r17 =>
  cond (r17 != 0) (
   some ((S_api_Texture.mk 0 [], r17))) (
   some ((S_api_Texture.mk (I64 r2.2.2) p4.1, 0))))

theorem texture_Decode_ok {N : Nat} {a0 : (List Int)} {r : S_api_Texture × Int} (h : p_texture_Decode N a0 = some r) : FnM Tryz.prog 108 [] [(eL 1 k8 a0)] (.tup [(S_api_Texture.enc r.1), (j64 r.2)]) [] := by
 unfold p_texture_Decode at h
 refine At.fn m_no hT hmo (m := 59) (lo := 0) (rs := [.cell 2 36, .tmp 3]) Tryz.func108 rfl rfl h ?_
 refine At.b 3 (fun _ e => big_call [] (codec_New_ok e) codec_New_ok_c) fun r1 => ?_
 refine At.b 2 (fun _ e => big_call [2] (codec_Reader_Num_rd_ok e) codec_Reader_Num_rd_ok_c) fun r2 => ?_
 refine lx ?_; intro x3
 refine At.ownb 10 3 3 [1] ?_
 refine At.l 0 (fun p4 => ⟨[en 2 (.ref 0 [] 0), en 4 (.ref 2 [] 0), en 5 (.ref 3 [] 0)], [.var (.st 2 [(j64 0), (.v (.slice none 0 0))]), .tail (r1.length * 1), .var (.st 3 [(eL 1 k8 p4.2.1), (j64 p4.2.2.1), (eB p4.2.2.2)]), .var (.st 2 [(j64 (I64 r2.2.2)), (eO 4 3 (eA 3 1 j64) p4.1)]), .tail (p4.1.length * 3)]⟩) (fun p4 J k s => ∃ s5 s6 s7 s8 s9, p_texture_Decode_L1 N x3 k s5 s6 s7 s8 s9 = some p4 ∧ J ⟨[en 2 (.ref 0 [] 0), en 4 (.ref 2 [] 0), en 5 (.ref 3 [] 0), en 19 (j64 x3), en 20 (j64 s9)], [.var (.st 2 [(j64 0), (.v (.slice none 0 0))]), .tail (r1.length * 1), .var (.st 3 [(eL 1 k8 s6), (j64 s7), (eB s8)]), .var (.st 2 [(j64 (I64 r2.2.2)), (eO 4 3 (eA 3 1 j64) s5)]), .tail (s5.length * 3)]⟩ s) N (fun _ h => ⟨_, _, _, _, _, h, jr⟩) (fun p4 k s hI => ?_) fun p4 => ?_
 ·obtain ⟨s5, s6, s7, s8, s9, h, hj⟩ := hI
  cases k with
  | zero => cases h
  | succ k =>
   refine At.jr hj ?_ h
   refine At.c 1 ?_ ?_
   ·refine At.b 1 (fun _ e => big_call [2] (codec_Reader_Take_rd_ok e) codec_Reader_Take_rd_ok_c) fun r10 => ?_
    refine lx ?_; intro x11
    refine At.c 4 ?_ ?_
    ·apply rt; exact At.x 0
    ·refine bi fun e12 he12 => ?_
     refine bi fun e13 he13 => ?_
     refine bi fun e14 he14 => ?_
     refine bi fun z15 hz15 => ?_
     refine At.d 0 (dE1 3 (fun _ => big_idx hT k8 he12) (dE1 7 (fun _ => big_idx hT k8 he13) (dE1 11 (fun _ => big_idx hT k8 he14) (dE1 15 (fun _ => big_row hT (x := (.sl 3 1 [(.arr 3 1 [(j64 (I64 e12)), (j64 (I64 e13)), (j64 (I64 e14))])]))) dE0)))) (dF1 16 (eO 4 3 (eA 3 1 j64) z15) [.var (.st 2 [(j64 0), (.v (.slice none 0 0))]), .tail (r1.length * 1), .var (.st 3 [(eL 1 k8 r10.1), (j64 r10.2.1), (eB ((S_codec_Reader.mk s6 s7 s8).gmade))]), .var (.st 2 [(j64 (I64 r2.2.2)), (eO 4 3 (eA 3 1 j64) s5)]), .tail (z15.length * 3)] (big_at (big_app hT (eA 3 1 j64) (id := 4) (k := 3) hz15)) dF0) ?_
     exact fun h => At.k 2 ⟨_, _, _, _, _, h, jr⟩
   ·apply rt; exact At.x 0
 ·refine At.b 1 (fun _ e => big_call [2] (codec_Reader_End_r_ok e) codec_Reader_End_r_ok_c) fun r16 => ?_
  refine At.c 3 ?_ ?_
  ·apply rt; exact At.r 4
  ·refine At.b 1 (fun _ e => big_call [] (texture_Check_ok e) texture_Check_ok_c) fun r17 => ?_
   refine At.c 3 ?_ ?_
   ·apply rt; exact At.r 4
   ·apply rt; exact At.r 3

theorem texture_Decode_ok_c : callable Tryz.prog 108 := ⟨_, Tryz.func108, by decide, rfl⟩

def p_asset_decoder_uint_srzd (N : Nat) (a0 : Int) (a1 : S_codec_Reader) : Option ((List Int) × Int × Int) :=
 Option.bind (p_codec_Reader_Num_rd N a0 a1) fun r1 =>
 some ((r1.1, r1.2.1, I64 r1.2.2))

theorem asset_decoder_uint_srzd_ok {N : Nat} {a0 : Int} {a1 : S_codec_Reader} {r : (List Int) × Int × Int} (h : p_asset_decoder_uint_srzd N a0 a1 = some r) : FnM Tryz.prog 109 [.var (S_codec_Reader.enc a1)] [(.st 1 [(.ref 0 [] 0)]), (j64 a0)] (j64 r.2.2) [.var (.st 3 [(eL 1 k8 r.1), (j64 r.2.1), (eB a1.gmade)])] := by
 unfold p_asset_decoder_uint_srzd at h
 refine At.fn m_no hT hmo (m := 10) (lo := 1) (rs := [.tmp 4]) Tryz.func109 rfl rfl h ?_
 refine At.b 5 (fun _ e => big_call [0] (codec_Reader_Num_rd_ok e) codec_Reader_Num_rd_ok_c) fun r1 => ?_
 apply rt; exact At.r 2

theorem asset_decoder_uint_srzd_ok_c : callable Tryz.prog 109 := ⟨_, Tryz.func109, by decide, rfl⟩

def p_asset_decoder_three_srzd (N : Nat) (a0 : Int) (a1 : S_codec_Reader) : Option ((List Int) × Int × Bool × (Vector Int 3)) :=
 Option.bind (p_asset_decoder_uint_srzd N a0 a1) fun r1 =>
 Option.bind (p_asset_decoder_uint_srzd N a0 (S_codec_Reader.mk r1.1 r1.2.1 a1.gmade)) fun r2 =>
 Option.bind (p_asset_decoder_uint_srzd N a0 (S_codec_Reader.mk r2.1 r2.2.1 ((S_codec_Reader.mk r1.1 r1.2.1 a1.gmade).gmade))) fun r3 =>
 some ((r3.1, r3.2.1, (S_codec_Reader.mk r2.1 r2.2.1 ((S_codec_Reader.mk r1.1 r1.2.1 a1.gmade).gmade)).gmade, #v[r1.2.2, r2.2.2, r3.2.2]))

theorem asset_decoder_three_srzd_ok {N : Nat} {a0 : Int} {a1 : S_codec_Reader} {r : (List Int) × Int × Bool × (Vector Int 3)} (h : p_asset_decoder_three_srzd N a0 a1 = some r) : FnM Tryz.prog 110 [.var (S_codec_Reader.enc a1)] [(.st 1 [(.ref 0 [] 0)]), (j64 a0)] (eA 3 1 j64 r.2.2.2) [.var (.st 3 [(eL 1 k8 r.1), (j64 r.2.1), (eB r.2.2.1)])] := by
 unfold p_asset_decoder_three_srzd at h
 refine At.fn m_no hT hmo (m := 15) (lo := 1) (rs := [.cell 4 37]) Tryz.func110 rfl rfl h ?_
 refine bi fun r1 hr1 => ?_
 refine bi fun r2 hr2 => ?_
 refine bi fun r3 hr3 => ?_
 refine At.d 2 dE0 (dF1 2 (j64 r1.2.2) [.var (.st 3 [(eL 1 k8 r1.1), (j64 r1.2.1), (eB a1.gmade)]), .var (.st 1 [(.ref 0 [] 0)]), .var (.arr 3 1 [(j64 0), (j64 0), (j64 0)])] (big_at (big_call [0] (asset_decoder_uint_srzd_ok hr1) asset_decoder_uint_srzd_ok_c)) (dF1 5 (j64 r2.2.2) [.var (.st 3 [(eL 1 k8 r2.1), (j64 r2.2.1), (eB ((S_codec_Reader.mk r1.1 r1.2.1 a1.gmade).gmade))]), .var (.st 1 [(.ref 0 [] 0)]), .var (.arr 3 1 [(j64 0), (j64 0), (j64 0)])] (big_at (big_call [0] (asset_decoder_uint_srzd_ok hr2) asset_decoder_uint_srzd_ok_c)) (dF1 8 (j64 r3.2.2) [.var (.st 3 [(eL 1 k8 r3.1), (j64 r3.2.1), (eB ((S_codec_Reader.mk r2.1 r2.2.1 ((S_codec_Reader.mk r1.1 r1.2.1 a1.gmade).gmade)).gmade))]), .var (.st 1 [(.ref 0 [] 0)]), .var (.arr 3 1 [(j64 0), (j64 0), (j64 0)])] (big_at (big_call [0] (asset_decoder_uint_srzd_ok hr3) asset_decoder_uint_srzd_ok_c)) dF0))) ?_
 apply rt; exact At.r 0

theorem asset_decoder_three_srzd_ok_c : callable Tryz.prog 110 := ⟨_, Tryz.func110, by decide, rfl⟩

def p_asset_decoder_point_srz (N : Nat) (a0 : S_codec_Reader) : Option ((List Int) × Int × Bool × S_api_Point) :=
 Option.bind (p_codec_Reader_Int_rd N 2 a0) fun r1 =>
 Option.bind (p_codec_Reader_Int_rd N 2 (S_codec_Reader.mk r1.1 r1.2.1 a0.gmade)) fun r2 =>
 Option.bind (p_codec_Reader_Int_rd N 2 (S_codec_Reader.mk r2.1 r2.2.1 ((S_codec_Reader.mk r1.1 r1.2.1 a0.gmade).gmade))) fun r3 =>
 some ((r3.1, r3.2.1, (S_codec_Reader.mk r2.1 r2.2.1 ((S_codec_Reader.mk r1.1 r1.2.1 a0.gmade).gmade)).gmade, S_api_Point.mk r1.2.2 r2.2.2 r3.2.2))

theorem asset_decoder_point_srz_ok {N : Nat} {a0 : S_codec_Reader} {r : (List Int) × Int × Bool × S_api_Point} (h : p_asset_decoder_point_srz N a0 = some r) : FnM Tryz.prog 112 [.var (S_codec_Reader.enc a0)] [(.st 1 [(.ref 0 [] 0)])] (S_api_Point.enc r.2.2.2) [.var (.st 3 [(eL 1 k8 r.1), (j64 r.2.1), (eB r.2.2.1)])] := by
 unfold p_asset_decoder_point_srz at h
 refine At.fn m_no hT hmo (m := 13) (lo := 1) (rs := [.cell 2 41]) Tryz.func112 rfl rfl h ?_
 refine bi fun r1 hr1 => ?_
 refine bi fun r2 hr2 => ?_
 refine bi fun r3 hr3 => ?_
 refine At.d 2 dE0 (dF1 2 (j64 r1.2.2) [.var (.st 3 [(eL 1 k8 r1.1), (j64 r1.2.1), (eB a0.gmade)]), .var (.st 1 [(.ref 0 [] 0)]), .var (.st 3 [(j64 0), (j64 0), (j64 0)])] (big_at (big_call [0] (codec_Reader_Int_rd_ok hr1) codec_Reader_Int_rd_ok_c)) (dF1 5 (j64 r2.2.2) [.var (.st 3 [(eL 1 k8 r2.1), (j64 r2.2.1), (eB ((S_codec_Reader.mk r1.1 r1.2.1 a0.gmade).gmade))]), .var (.st 1 [(.ref 0 [] 0)]), .var (.st 3 [(j64 0), (j64 0), (j64 0)])] (big_at (big_call [0] (codec_Reader_Int_rd_ok hr2) codec_Reader_Int_rd_ok_c)) (dF1 8 (j64 r3.2.2) [.var (.st 3 [(eL 1 k8 r3.1), (j64 r3.2.1), (eB ((S_codec_Reader.mk r2.1 r2.2.1 ((S_codec_Reader.mk r1.1 r1.2.1 a0.gmade).gmade)).gmade))]), .var (.st 1 [(.ref 0 [] 0)]), .var (.st 3 [(j64 0), (j64 0), (j64 0)])] (big_at (big_call [0] (codec_Reader_Int_rd_ok hr3) codec_Reader_Int_rd_ok_c)) dF0))) ?_
 apply rt; exact At.r 0

theorem asset_decoder_point_srz_ok_c : callable Tryz.prog 112 := ⟨_, Tryz.func112, by decide, rfl⟩

def p_asset_Decode (N : Nat) (a0 : Int) (a1 : (List Int)) : Option (S_api_Asset × Int) :=
 Option.bind (Option.bind (p_codec_New N a1) fun r2 =>
 cond (a0 == 1) (
  Option.bind (p_mesh_Decode N a1) fun r3 =>
  some ((r2, r3.1.gVerts, r3.1.gUvs, r3.1.gTris, 0, [], 0, #v[0, 0, 0], 0, 0, #v[0, 0, 0], 0, 0, 0, 0, 0, 0, 0, 0, 0, S_codec_Reader.mk r2 0 true, r3.2))) (
  cond (a0 == 2) (
   Option.bind (p_texture_Decode N a1) fun r4 =>
   some ((r2, [], [], [], r4.1.gSide, r4.1.gTexels, 0, #v[0, 0, 0], 0, 0, #v[0, 0, 0], 0, 0, 0, 0, 0, 0, 0, 0, 0, S_codec_Reader.mk r2 0 true, r4.2))) (
   cond (a0 == 3) (
    Option.bind (p_asset_decoder_uint_srzd N 1 (S_codec_Reader.mk r2 0 true)) fun r5 =>
    Option.bind (p_asset_decoder_three_srzd N 2 (S_codec_Reader.mk r5.1 r5.2.1 ((S_codec_Reader.mk r2 0 true).gmade))) fun r6 =>
    Option.bind (p_asset_decoder_uint_srzd N 2 (S_codec_Reader.mk r6.1 r6.2.1 r6.2.2.1)) fun r7 =>
    Option.bind (p_codec_Reader_End_r N (S_codec_Reader.mk r7.1 r7.2.1 ((S_codec_Reader.mk r6.1 r6.2.1 r6.2.2.1).gmade))) fun r8 =>
    some ((r2, [], [], [], 0, [], r5.2.2, r6.2.2.2, r7.2.2, 0, #v[0, 0, 0], 0, 0, 0, 0, 0, 0, 0, 0, 0, (S_codec_Reader.mk r7.1 r7.2.1 ((S_codec_Reader.mk r6.1 r6.2.1 r6.2.2.1).gmade)), r8))) (
    cond (a0 == 4) (
     Option.bind (p_asset_decoder_uint_srzd N 1 (S_codec_Reader.mk r2 0 true)) fun r9 =>
     Option.bind (p_asset_decoder_three_srzd N 4 (S_codec_Reader.mk r9.1 r9.2.1 ((S_codec_Reader.mk r2 0 true).gmade))) fun r10 =>
     Option.bind (p_asset_decoder_point_srz N (S_codec_Reader.mk r10.1 r10.2.1 r10.2.2.1)) fun r11 =>
     Option.bind (p_asset_decoder_point_srz N (S_codec_Reader.mk r11.1 r11.2.1 r11.2.2.1)) fun r12 =>
     Option.bind (p_asset_decoder_point_srz N (S_codec_Reader.mk r12.1 r12.2.1 r12.2.2.1)) fun r13 =>
     Option.bind (p_codec_Reader_End_r N (S_codec_Reader.mk r13.1 r13.2.1 r13.2.2.1)) fun r14 =>
     some ((r2, [], [], [], 0, [], 0, #v[0, 0, 0], 0, r9.2.2, r10.2.2.2, r11.2.2.2.gX, r11.2.2.2.gY, r11.2.2.2.gZ, r12.2.2.2.gX, r12.2.2.2.gY, r12.2.2.2.gZ, r13.2.2.2.gX, r13.2.2.2.gY, r13.2.2.2.gZ, (S_codec_Reader.mk r13.1 r13.2.1 r13.2.2.1), r14))) (
     some ((r2, [], [], [], 0, [], 0, #v[0, 0, 0], 0, 0, #v[0, 0, 0], 0, 0, 0, 0, 0, 0, 0, 0, 0, S_codec_Reader.mk r2 0 true, 0))))))) fun p1 =>
 letO p1.2.2.2.2.2.2.2.2.2.2.2.2.2.2.2.2.2.2.2.2.2 fun x15 =>
 cond (x15 != 0) (
  letO p1.2.2.2.2.2.2.2.2.2.2.2.2.2.2.2.2.2.2.2.2.2 fun x16 =>
  some ((S_api_Asset.mk 0 (S_api_Mesh.mk [] [] []) (S_api_Texture.mk 0 []) (S_api_Material.mk 0 (#v[0, 0, 0]) 0) (S_api_Light.mk 0 (#v[0, 0, 0]) (S_api_Point.mk 0 0 0) (S_api_Point.mk 0 0 0) (S_api_Point.mk 0 0 0)), x16))) (
  Option.bind (p_asset_Check N (S_api_Asset.mk a0 (S_api_Mesh.mk p1.2.1 p1.2.2.1 p1.2.2.2.1) (S_api_Texture.mk p1.2.2.2.2.1 p1.2.2.2.2.2.1) (S_api_Material.mk p1.2.2.2.2.2.2.1 p1.2.2.2.2.2.2.2.1 p1.2.2.2.2.2.2.2.2.1) (S_api_Light.mk p1.2.2.2.2.2.2.2.2.2.1 p1.2.2.2.2.2.2.2.2.2.2.1 (S_api_Point.mk p1.2.2.2.2.2.2.2.2.2.2.2.1 p1.2.2.2.2.2.2.2.2.2.2.2.2.1 p1.2.2.2.2.2.2.2.2.2.2.2.2.2.1) (S_api_Point.mk p1.2.2.2.2.2.2.2.2.2.2.2.2.2.2.1 p1.2.2.2.2.2.2.2.2.2.2.2.2.2.2.2.1 p1.2.2.2.2.2.2.2.2.2.2.2.2.2.2.2.2.1) (S_api_Point.mk p1.2.2.2.2.2.2.2.2.2.2.2.2.2.2.2.2.2.1 p1.2.2.2.2.2.2.2.2.2.2.2.2.2.2.2.2.2.2.1 p1.2.2.2.2.2.2.2.2.2.2.2.2.2.2.2.2.2.2.2.1)))) fun r17 =>
  cond (r17 != 0) (
   some ((S_api_Asset.mk 0 (S_api_Mesh.mk [] [] []) (S_api_Texture.mk 0 []) (S_api_Material.mk 0 (#v[0, 0, 0]) 0) (S_api_Light.mk 0 (#v[0, 0, 0]) (S_api_Point.mk 0 0 0) (S_api_Point.mk 0 0 0) (S_api_Point.mk 0 0 0)), r17))) (
   some ((S_api_Asset.mk a0 (S_api_Mesh.mk p1.2.1 p1.2.2.1 p1.2.2.2.1) (S_api_Texture.mk p1.2.2.2.2.1 p1.2.2.2.2.2.1) (S_api_Material.mk p1.2.2.2.2.2.2.1 p1.2.2.2.2.2.2.2.1 p1.2.2.2.2.2.2.2.2.1) (S_api_Light.mk p1.2.2.2.2.2.2.2.2.2.1 p1.2.2.2.2.2.2.2.2.2.2.1 (S_api_Point.mk p1.2.2.2.2.2.2.2.2.2.2.2.1 p1.2.2.2.2.2.2.2.2.2.2.2.2.1 p1.2.2.2.2.2.2.2.2.2.2.2.2.2.1) (S_api_Point.mk p1.2.2.2.2.2.2.2.2.2.2.2.2.2.2.1 p1.2.2.2.2.2.2.2.2.2.2.2.2.2.2.2.1 p1.2.2.2.2.2.2.2.2.2.2.2.2.2.2.2.2.1) (S_api_Point.mk p1.2.2.2.2.2.2.2.2.2.2.2.2.2.2.2.2.2.1 p1.2.2.2.2.2.2.2.2.2.2.2.2.2.2.2.2.2.2.1 p1.2.2.2.2.2.2.2.2.2.2.2.2.2.2.2.2.2.2.2.1)), 0))))

theorem asset_Decode_ok {N : Nat} {a0 : Int} {a1 : (List Int)} {r : S_api_Asset × Int} (h : p_asset_Decode N a0 a1 = some r) : FnM Tryz.prog 73 [] [(j64 a0), (eL 1 k8 a1)] (.tup [(S_api_Asset.enc r.1), (j64 r.2)]) [] := by
 unfold p_asset_Decode at h
 refine At.fn m_no hT hmo (m := 73) (lo := 0) (rs := [.cell 4 45, .tmp 5]) Tryz.func73 rfl rfl h ?_
 refine At.j 7 1 (fun p1 => ⟨[en 4 (.ref 0 [] 0), en 6 (.ref 1 [] 0), en 7 (j64 p1.2.2.2.2.2.2.2.2.2.2.2.2.2.2.2.2.2.2.2.2.2)], [.var cv_4, .var (.st 24 [(j64 a0), (.st 3 [(eL 3 S_api_Point.enc p1.2.1), (eL 2 (eA 2 1 j64) p1.2.2.1), (eL 3 (eA 3 1 j64) p1.2.2.2.1)]), (.st 2 [(j64 p1.2.2.2.2.1), (eL 3 (eA 3 1 j64) p1.2.2.2.2.2.1)]), (.st 5 [(j64 p1.2.2.2.2.2.2.1), (eA 3 1 j64 p1.2.2.2.2.2.2.2.1), (j64 p1.2.2.2.2.2.2.2.2.1)]), (.st 13 [(j64 p1.2.2.2.2.2.2.2.2.2.1), (eA 3 1 j64 p1.2.2.2.2.2.2.2.2.2.2.1), (.st 3 [(j64 p1.2.2.2.2.2.2.2.2.2.2.2.1), (j64 p1.2.2.2.2.2.2.2.2.2.2.2.2.1), (j64 p1.2.2.2.2.2.2.2.2.2.2.2.2.2.1)]), (.st 3 [(j64 p1.2.2.2.2.2.2.2.2.2.2.2.2.2.2.1), (j64 p1.2.2.2.2.2.2.2.2.2.2.2.2.2.2.2.1), (j64 p1.2.2.2.2.2.2.2.2.2.2.2.2.2.2.2.2.1)]), (.st 3 [(j64 p1.2.2.2.2.2.2.2.2.2.2.2.2.2.2.2.2.2.1), (j64 p1.2.2.2.2.2.2.2.2.2.2.2.2.2.2.2.2.2.2.1), (j64 p1.2.2.2.2.2.2.2.2.2.2.2.2.2.2.2.2.2.2.2.1)])])]), .tail (p1.1.length * 1), .var (S_codec_Reader.enc p1.2.2.2.2.2.2.2.2.2.2.2.2.2.2.2.2.2.2.2.2.1), .var (.st 1 [(.ref 3 [] 0)])]⟩) (fun p1 => ?_) fun p1 => ?_
 ·refine At.b 1 (fun _ e => big_call [] (codec_New_ok e) codec_New_ok_c) fun r2 => ?_
  refine At.c 6 ?_ ?_
  ·refine At.b 1 (fun _ e => big_call [] (mesh_Decode_ok e) mesh_Decode_ok_c) fun r3 => ?_
   apply rt; exact At.jn 6
  ·refine At.c 2 ?_ ?_
   ·refine At.b 1 (fun _ e => big_call [] (texture_Decode_ok e) texture_Decode_ok_c) fun r4 => ?_
    apply rt; exact At.jn 6
   ·refine At.c 2 ?_ ?_
    ·refine bi fun r5 hr5 => ?_
     refine bi fun r6 hr6 => ?_
     refine bi fun r7 hr7 => ?_
     refine At.d 0 dE0 (dF1 1 (j64 r5.2.2) [.var cv_4, .var (.st 24 [(j64 a0), cv_3, (.st 2 [(j64 0), (.v (.slice none 0 0))]), cv_5, cv_6]), .tail (r2.length * 1), .var (.st 3 [(eL 1 k8 r5.1), (j64 r5.2.1), (eB ((S_codec_Reader.mk r2 0 true).gmade))]), .var (.st 1 [(.ref 3 [] 0)])] (big_at (big_call [3] (asset_decoder_uint_srzd_ok hr5) asset_decoder_uint_srzd_ok_c)) (dF1 3 (eA 3 1 j64 r6.2.2.2) [.var cv_4, .var (.st 24 [(j64 a0), cv_3, (.st 2 [(j64 0), (.v (.slice none 0 0))]), cv_5, cv_6]), .tail (r2.length * 1), .var (.st 3 [(eL 1 k8 r6.1), (j64 r6.2.1), (eB r6.2.2.1)]), .var (.st 1 [(.ref 3 [] 0)])] (big_at (big_call [3] (asset_decoder_three_srzd_ok hr6) asset_decoder_three_srzd_ok_c)) (dF1 5 (j64 r7.2.2) [.var cv_4, .var (.st 24 [(j64 a0), cv_3, (.st 2 [(j64 0), (.v (.slice none 0 0))]), cv_5, cv_6]), .tail (r2.length * 1), .var (.st 3 [(eL 1 k8 r7.1), (j64 r7.2.1), (eB ((S_codec_Reader.mk r6.1 r6.2.1 r6.2.2.1).gmade))]), .var (.st 1 [(.ref 3 [] 0)])] (big_at (big_call [3] (asset_decoder_uint_srzd_ok hr7) asset_decoder_uint_srzd_ok_c)) dF0))) ?_
     refine At.b 2 (fun _ e => big_call [3] (codec_Reader_End_r_ok e) codec_Reader_End_r_ok_c) fun r8 => ?_
     apply rt; exact At.jn 1
    ·refine At.c 2 ?_ ?_
     ·refine bi fun r9 hr9 => ?_
      refine bi fun r10 hr10 => ?_
      refine bi fun r11 hr11 => ?_
      refine bi fun r12 hr12 => ?_
      refine bi fun r13 hr13 => ?_
      refine At.d 0 dE0 (dF1 1 (j64 r9.2.2) [.var cv_4, .var (.st 24 [(j64 a0), cv_3, (.st 2 [(j64 0), (.v (.slice none 0 0))]), cv_5, cv_6]), .tail (r2.length * 1), .var (.st 3 [(eL 1 k8 r9.1), (j64 r9.2.1), (eB ((S_codec_Reader.mk r2 0 true).gmade))]), .var (.st 1 [(.ref 3 [] 0)])] (big_at (big_call [3] (asset_decoder_uint_srzd_ok hr9) asset_decoder_uint_srzd_ok_c)) (dF1 3 (eA 3 1 j64 r10.2.2.2) [.var cv_4, .var (.st 24 [(j64 a0), cv_3, (.st 2 [(j64 0), (.v (.slice none 0 0))]), cv_5, cv_6]), .tail (r2.length * 1), .var (.st 3 [(eL 1 k8 r10.1), (j64 r10.2.1), (eB r10.2.2.1)]), .var (.st 1 [(.ref 3 [] 0)])] (big_at (big_call [3] (asset_decoder_three_srzd_ok hr10) asset_decoder_three_srzd_ok_c)) (dF1 5 (S_api_Point.enc r11.2.2.2) [.var cv_4, .var (.st 24 [(j64 a0), cv_3, (.st 2 [(j64 0), (.v (.slice none 0 0))]), cv_5, cv_6]), .tail (r2.length * 1), .var (.st 3 [(eL 1 k8 r11.1), (j64 r11.2.1), (eB r11.2.2.1)]), .var (.st 1 [(.ref 3 [] 0)])] (big_at (big_call [3] (asset_decoder_point_srz_ok hr11) asset_decoder_point_srz_ok_c)) (dF1 7 (S_api_Point.enc r12.2.2.2) [.var cv_4, .var (.st 24 [(j64 a0), cv_3, (.st 2 [(j64 0), (.v (.slice none 0 0))]), cv_5, cv_6]), .tail (r2.length * 1), .var (.st 3 [(eL 1 k8 r12.1), (j64 r12.2.1), (eB r12.2.2.1)]), .var (.st 1 [(.ref 3 [] 0)])] (big_at (big_call [3] (asset_decoder_point_srz_ok hr12) asset_decoder_point_srz_ok_c)) (dF1 9 (S_api_Point.enc r13.2.2.2) [.var cv_4, .var (.st 24 [(j64 a0), cv_3, (.st 2 [(j64 0), (.v (.slice none 0 0))]), cv_5, cv_6]), .tail (r2.length * 1), .var (.st 3 [(eL 1 k8 r13.1), (j64 r13.2.1), (eB r13.2.2.1)]), .var (.st 1 [(.ref 3 [] 0)])] (big_at (big_call [3] (asset_decoder_point_srz_ok hr13) asset_decoder_point_srz_ok_c)) dF0))))) ?_
      refine At.b 2 (fun _ e => big_call [3] (codec_Reader_End_r_ok e) codec_Reader_End_r_ok_c) fun r14 => ?_
      apply rt; exact At.jn 1
     ·apply rt; exact At.jn 0
 ·refine lx ?_; intro x15
  refine At.c 2 ?_ ?_
  ·refine lx ?_; intro x16
   apply rt; exact At.r 4
  ·refine At.b 1 (fun _ e => big_call [] (asset_Check_ok e) asset_Check_ok_c) fun r17 => ?_
   refine At.c 3 ?_ ?_
   ·apply rt; exact At.r 4
   ·apply rt; exact At.r 3

theorem asset_Decode_ok_c : callable Tryz.prog 73 := ⟨_, Tryz.func73, by decide, rfl⟩

end Go.UK

