/- A part of the proof: what the functions of the program compute. -/
import Derived.Test.YtbifjcmhomoppaaGreatP9
namespace Go.UK
open Go Go.Proofs
set_option maxRecDepth 20000
set_option maxHeartbeats 40000000
set_option linter.all false

attribute [local irreducible] adv putPt dropPt setPt brPt litPt cutPt restPt popN stPt envPt boxPt opPt opP2t ksPt lPt owp awl aw FnM NatFn opS Stab TOK Big
def p_keys_Ring_Open_rd (N : Nat) (b1 : (List (Int × S_keys_span))) (a1 : (List Int)) (a2 : (Vector Int 32)) : Option (Int × S_api_Manifest × S_api_Asset × Int) :=
 Option.bind (p_keys_Ring_none_r N b1 a2) fun r1 =>
 letO (decide (((a1.length : Int)) < 10)) fun x2 =>
 cond x2 (
  some ((0, S_api_Manifest.mk 0 0 0 (Vector.replicate 8 0) 0 0 0 0, S_api_Asset.mk 0 (S_api_Mesh.mk [] [] []) (S_api_Texture.mk 0 []) (S_api_Material.mk 0 (#v[0, 0, 0]) 0) (S_api_Light.mk 0 (#v[0, 0, 0]) (S_api_Point.mk 0 0 0) (S_api_Point.mk 0 0 0) (S_api_Point.mk 0 0 0)), 4))) (
  Option.bind (slcO a1 0 4) fun s3 =>
  letO (!(ByteArray.toList (strO s3) == ByteArray.toList (ByteArray.mk #[85, 77, 75, 49]))) fun x4 =>
  cond x4 (
   some ((0, S_api_Manifest.mk 0 0 0 (Vector.replicate 8 0) 0 0 0 0, S_api_Asset.mk 0 (S_api_Mesh.mk [] [] []) (S_api_Texture.mk 0 []) (S_api_Material.mk 0 (#v[0, 0, 0]) 0) (S_api_Light.mk 0 (#v[0, 0, 0]) (S_api_Point.mk 0 0 0) (S_api_Point.mk 0 0 0) (S_api_Point.mk 0 0 0)), 5))) (
   Option.bind (slcO a1 4 10) fun s5 =>
   Option.bind (p_codec_New N s5) fun r6 =>
   Option.bind (p_codec_Reader_Num_rd N 2 (S_codec_Reader.mk r6 0 true)) fun r7 =>
   Option.bind (p_codec_Reader_Num_rd N 4 (S_codec_Reader.mk r7.1 r7.2.1 ((S_codec_Reader.mk r6 0 true).gmade))) fun r8 =>
   Option.bind (p_keys_Ring_find_rd N b1 (I64 r7.2.2) a2) fun r9 =>
   cond (r9.2 != 0) (
    some ((0, S_api_Manifest.mk 0 0 0 (Vector.replicate 8 0) 0 0 0 0, S_api_Asset.mk 0 (S_api_Mesh.mk [] [] []) (S_api_Texture.mk 0 []) (S_api_Material.mk 0 (#v[0, 0, 0]) 0) (S_api_Light.mk 0 (#v[0, 0, 0]) (S_api_Point.mk 0 0 0) (S_api_Point.mk 0 0 0) (S_api_Point.mk 0 0 0)), r9.2))) (
    letO (decide ((I64 r8.2.2) < r9.1.gfrom)) fun x10 =>
    letO (decide ((I64 r8.2.2) > r9.1.gto)) fun x11 =>
    cond (cond x10 true x11) (
     some ((0, S_api_Manifest.mk 0 0 0 (Vector.replicate 8 0) 0 0 0 0, S_api_Asset.mk 0 (S_api_Mesh.mk [] [] []) (S_api_Texture.mk 0 []) (S_api_Material.mk 0 (#v[0, 0, 0]) 0) (S_api_Light.mk 0 (#v[0, 0, 0]) (S_api_Point.mk 0 0 0) (S_api_Point.mk 0 0 0) (S_api_Point.mk 0 0 0)), 18))) (
     Option.bind (p_keys_Key N a2 (I64 r7.2.2) (I64 r8.2.2)) fun r12 =>
     Option.bind (slcO a1 10 ((a1.length : Int))) fun s13 =>
     Option.bind (p_bundle_Open N r12 s13) fun r14 =>
     cond (r14.2.2 != 0) (
      some ((0, r14.1, r14.2.1, r14.2.2))) (
      some ((I64 r7.2.2, r14.1, r14.2.1, 0)))))))

theorem keys_Ring_Open_rd_ok {N b1 a1 a2 r} (h : p_keys_Ring_Open_rd N b1 a1 a2 = some r) : FnM Tryz.prog 21 [.var (.st 33 [(eA 32 1 k8 a2), (.mp 1)]), .mp (eM .i64 S_keys_span.enc b1)] [(.ref 0 [] 0), (eL 1 k8 a1)] (.tup [(j64 r.1), (S_api_Manifest.enc r.2.1), (S_api_Asset.enc r.2.2.1), (j64 r.2.2.2)]) [.var (.st 33 [(eA 32 1 k8 a2), (.mp 1)]), .mp (eM .i64 S_keys_span.enc b1)] := by
 unfold p_keys_Ring_Open_rd at h
 refine At.f m_no hT hmo Tryz.func21 rfl h ?_
 refine At.b 5 (fun _ e => big_C [0, 1] (keys_Ring_none_r_ok e)) fun r1 => ?_
 refine lx ?_; intro x2
 refine At.c 6 ?_ ?_
 ·refine At.d 0 dE0 dF0 ?_
  apply rt; exact At.r 0
 ·refine At.b 1 (fun _ e => big_slc hT (k := 1) k8 e) fun s3 => ?_
  refine At.o 0 (big_b2s hT s3 (v := (eL 1 k8 s3)) (e := 5) (by kernel_rfl) (by kernel_rfl) (by kernel_rfl)) ?_
  refine lx ?_; intro x4
  refine At.c 2 ?_ ?_
  ·refine At.d 0 dE0 dF0 ?_
   apply rt; exact At.r 0
  ·refine At.b 1 (fun _ e => big_slc hT (k := 1) k8 e) fun s5 => ?_
   refine At.b 0 (fun _ e => big_C [] (codec_New_ok e)) fun r6 => ?_
   refine At.b 2 (fun _ e => big_C [5] (codec_Reader_Num_rd_ok e)) fun r7 => ?_
   refine At.b 2 (fun _ e => big_C [5] (codec_Reader_Num_rd_ok e)) fun r8 => ?_
   refine At.b 5 (fun _ e => big_C [0, 1] (keys_Ring_find_rd_ok e)) fun r9 => ?_
   refine At.c 8 ?_ ?_
   ·refine At.d 0 dE0 dF0 ?_
    apply rt; exact At.r 0
   ·refine lx ?_; intro x10
    refine lx ?_; intro x11
    refine At.c 10 ?_ ?_
    ·refine At.d 0 dE0 dF0 ?_
     apply rt; exact At.r 0
    ·refine bi fun r12 hr12 => ?_
     refine bi fun s13 hs13 => ?_
     refine bi fun r14 hr14 => ?_
     refine At.d 0 (dE2 6 (eA 32 1 k8 r12) (fun _ => big_C0 (keys_Key_ok hr12)) (dE1 8 (fun _ => big_slc hT (k := 1) k8 hs13) (dE2 9 (.tup [(S_api_Manifest.enc r14.1), (S_api_Asset.enc r14.2.1), (j64 r14.2.2)]) (fun _ => big_C0 (bundle_Open_ok hr14)) dE0))) dF0 ?_
     refine At.c 2 ?_ ?_
     ·refine At.d 0 dE0 dF0 ?_
      apply rt; exact At.r 0
     ·refine At.d 0 dE0 dF0 ?_
      apply rt; exact At.r 0

def p_umbralaw36_works (N : Nat) : Option (Bool) :=
 Option.bind (p_keys_New N ((Vector.replicate 32 0).setIfInBounds 0 1)) fun r1 =>
 Option.bind (p_keys_Ring_Add_rd N (([] : (List (Int × S_keys_span)))) 7 (((Vector.replicate 32 0).setIfInBounds 0 1))) fun r2 =>
 cond (r2.2 != 0) (
  some false) (
  Option.bind (p_umbralaw36_mat N ) fun r3 =>
  Option.bind (p_keys_Wrap N ((Vector.replicate 32 0).setIfInBounds 0 1) 7 1 (Vector.replicate 8 0) (S_api_Manifest.mk 0 3 0 (Vector.replicate 8 0) 0 0 0 0) r3) fun r4 =>
  Option.bind (p_keys_Ring_Open_rd N r2.1 r4.1 ((((Vector.replicate 32 0).setIfInBounds 0 1)))) fun r5 =>
  Option.bind (p_keys_Ring_Rotate_rd N r2.1 7 (((((Vector.replicate 32 0).setIfInBounds 0 1))))) fun r6 =>
  Option.bind (p_keys_Ring_Retire_rdd N r6.1 7 1 ((((((Vector.replicate 32 0).setIfInBounds 0 1)))))) fun r7 =>
  Option.bind (p_keys_Ring_Open_rd N r7.1 r4.1 (((((((Vector.replicate 32 0).setIfInBounds 0 1))))))) fun r8 =>
  letO (((r4.1.length : Int)) == 102) fun x9 =>
  letO (cond (r4.2 == 0) x9 false) fun x10 =>
  letO (cond x10 (r5.2.2.2 == 0) false) fun x11 =>
  letO (cond x11 (r5.1 == 7) false) fun x12 =>
  letO (cond x12 (r6.2.1 == 2) false) fun x13 =>
  letO (cond x13 (r6.2.2 == 0) false) fun x14 =>
  letO (cond x14 (r7.2 == 0) false) fun x15 =>
  letO (cond x15 (r8.2.2.2 == 18) false) fun x16 =>
  some x16)

theorem umbralaw36_works_ok {N r} (h : p_umbralaw36_works N = some r) : FnM Tryz.prog 13 [] [] (eB r) [] := by
 unfold p_umbralaw36_works at h
 refine At.f m_no hT hmo Tryz.func13 rfl h ?_
 refine At.b 2 (fun _ e => big_C [] (keys_New_ok e)) fun r1 => ?_
 refine At.o 2 (big_eqp hT (t := 68) (x := (.ref 1 [] 0)) (b := true) (by kernel_rfl) rfl rfl (by kernel_rfl)) ?_
 refine At.g [19] 2 ?_
 refine At.b 0 (fun _ e => big_C [1, 0] (keys_Ring_Add_rd_ok e)) fun r2 => ?_
 refine At.g [19] 2 ?_
 refine At.c 0 ?_ ?_
 ·apply rt; exact At.r 1
 ·refine At.b 3 (fun _ e => big_C [] (umbralaw36_mat_ok e)) fun r3 => ?_
  refine At.b 0 (fun _ e => big_C [] (keys_Wrap_ok e)) fun r4 => ?_
  refine At.b 7 (fun _ e => big_C [1, 0] (keys_Ring_Open_rd_ok e)) fun r5 => ?_
  refine At.b 12 (fun _ e => big_C [1, 0] (keys_Ring_Rotate_rd_ok e)) fun r6 => ?_
  refine At.b 6 (fun _ e => big_C [1, 0] (keys_Ring_Retire_rdd_ok e)) fun r7 => ?_
  refine At.b 3 (fun _ e => big_C [1, 0] (keys_Ring_Open_rd_ok e)) fun r8 => ?_
  refine lx ?_; intro x9
  refine lx ?_; intro x10
  refine lx ?_; intro x11
  refine lx ?_; intro x12
  refine lx ?_; intro x13
  refine lx ?_; intro x14
  refine lx ?_; intro x15
  refine lx ?_; intro x16
  apply rt; exact At.r 43

def m_umbralaw36_KeysPlays : Nat → Bool := imL [5]

def p_umbralaw36_KeysPlays_L2 (N : Nat) (p15 : (List (Int × S_keys_span)) × (List S_umbraref36_Span)) (s5 : (Vector Int 32)) (r29 : (List Int)) : Nat → Int → Option (Sum (Unit) (Bool))
 | 0, _ => none
 | k + 1, s32 =>
  letO (decide (s32 < ((p15.2.length : Int)))) fun x33 =>
  cond x33 (
   Option.bind (inRO s32 p15.2.length) fun _ =>
   Option.bind (p15.2[s32.toNat]?) fun e35 =>
   Option.bind (p_keys_Ring_Span_rd N p15.1 e35.gId s5) fun r36 =>
   Option.bind (Option.bind (idx r29 s32) fun e38 =>
   cond (e38 != e35.gId) (
    some true) (
    cond (r36.1 != e35.gFrom) (
     some true) (
     cond (r36.2.1 != e35.gTo) (
      some true) (
      some (r36.2.2 != 0))))) fun p37 =>
   cond p37 (
    some (Sum.inr false)) (
    p_umbralaw36_KeysPlays_L2 N p15 s5 r29 k (I64 (s32 + 1)))) (
   some (Sum.inl (())))

def p_umbralaw36_KeysPlays_L1 (N : Nat) (a0 : (List S_umbralaw36_Act)) : Nat → (List (Int × S_keys_span)) → (List S_umbraref36_Span) → (Vector Int 32) → (Vector Int 32) → Int → Option (Sum ((List (Int × S_keys_span)) × (List S_umbraref36_Span) × (Vector Int 32) × (Vector Int 32)) (Bool))
 | 0, _, _, _, _, _ => none
 | k + 1, s3, s4, s5, s6, s7 =>
  letO (decide (s7 < ((a0.length : Int)))) fun x8 =>
  letO (cond x8 (decide (s7 < 40)) false) fun x9 =>
  cond x9 (
   Option.bind (idx a0 s7) fun e10 =>
   Option.bind (cond (e10.gEpoch == 13) (
    Option.bind (p_keys_Ring_Copy_r N s3 s5) fun r12 =>
    Option.bind (p_keys_Ring_Add_rd N s3 1 s5) fun r13 =>
    Option.bind (p_keys_Ring_Rotate_rd N r13.1 1 s5) fun r14 =>
    some (())) (
    some (()))) fun p11 =>
   Option.bind (cond (e10.gKind == 0) (
    Option.bind (p_keys_Ring_Add_rd N s3 e10.gId s5) fun r17 =>
    Option.bind (p_umbraref36_Ring_Add_rd N s4 e10.gId s6) fun q =>
    sumC q (fun r18 =>
     cond (r17.2 != r18) (
      some (Sum.inr false)) (
      Option.bind (p_keys_Ring_Add_isdczd N (Vector.replicate 32 0) e10.gId) fun r20 =>
      cond (r20 != 1) (some (Sum.inr false)) (some (Sum.inl ((r17.1, s4)))))) (fun r19 =>
     cond (r17.2 != r19.2) (
      some (Sum.inr false)) (
      Option.bind (p_keys_Ring_Add_isdczd N (Vector.replicate 32 0) e10.gId) fun r21 =>
      cond (r21 != 1) (some (Sum.inr false)) (some (Sum.inl ((r17.1, r19.1))))))) (
    cond (e10.gKind == 1) (
     Option.bind (p_keys_Ring_Rotate_rd N s3 e10.gId s5) fun r22 =>
     Option.bind (p_umbraref36_Ring_Rotate_rd N s4 e10.gId s6) fun r23 =>
     letO (cond (r22.2.1 != r23.2.1) true (r22.2.2 != r23.2.2)) fun x24 =>
     cond x24 (some (Sum.inr false)) (some (Sum.inl ((r22.1, r23.1))))) (
     Option.bind (Option.bind (p_keys_Ring_Retire_rdd N s3 e10.gId e10.gEpoch s5) fun r26 =>
     Option.bind (p_umbraref36_Ring_Retire_rdd N s4 e10.gId e10.gEpoch s6) fun r27 =>
     cond (r26.2 != r27.2) (
      some ((r26.1, r27.1, true))) (
      Option.bind (p_keys_Ring_Retire_cdd N e10.gId e10.gEpoch) fun r28 =>
      some ((r26.1, r27.1, r28 != 1)))) fun p25 =>
     cond p25.2.2 (some (Sum.inr false)) (some (Sum.inl ((p25.1, p25.2.1))))))) fun o => sumC o (fun p15 =>
    Option.bind (p_keys_Ring_Ids_r N p15.1 s5) fun r29 =>
    letO (((r29.length : Int)) != ((p15.2.length : Int))) fun x30 =>
    cond x30 (
     some (Sum.inr false)) (
     Option.bind (p_umbralaw36_KeysPlays_L2 N p15 s5 r29 N 0) fun o => sumC o (fun p31 =>
      p_umbralaw36_KeysPlays_L1 N a0 k p15.1 p15.2 s5 s6 (I64 (s7 + 1))) (fun r => some (Sum.inr r)))) (fun r => some (Sum.inr r))) (
   some (Sum.inl ((s3, s4, s5, s6))))

def p_umbralaw36_KeysPlays (N : Nat) (a0 : (List S_umbralaw36_Act)) : Option (Bool) :=
 Option.bind (p_keys_New N (Vector.replicate 32 0)) fun r1 =>
 Option.bind (p_umbralaw36_KeysPlays_L1 N a0 N [] [] ((Vector.replicate 32 0)) (Vector.replicate 32 0) 0) fun o => sumC o (fun p2 =>
  Option.bind (p_keys_Ring_Span_rd N p2.1 0 p2.2.2.1) fun r39 =>
  Option.bind (p_keys_Ring_Open_isdczd N (Vector.replicate 32 0) []) fun r40 =>
  Option.bind (letO (cond (r39.2.2 == 11) (r40.2.2.2 == 1) false) fun x42 =>
  cond x42 (
   Option.bind (p_keys_Ring_Copy_c N ) fun r43 =>
   Option.bind (p_keys_Ring_Ids_isdcz N (Vector.replicate 32 0)) fun r44 =>
   letO (((r44.length : Int)) == 0) fun x45 =>
   cond x45 (
    Option.bind (p_umbralaw36_works N ) fun r46 =>
    some r46) (
    some false)) (
   some false)) fun p41 =>
  some p41) (fun r => some r)

theorem umbralaw36_KeysPlays_ok {N a0 r} (h : p_umbralaw36_KeysPlays N a0 = some r) : FnM Tryz.prog 6 [] [(eL 3 S_umbralaw36_Act.enc a0)] (eB r) [] := by
 unfold p_umbralaw36_KeysPlays at h
 refine At.f m_umbralaw36_KeysPlays hT hmo Tryz.func6 rfl h ?_
 refine At.b 2 (fun _ e => big_C [] (keys_New_ok e)) fun r1 => ?_
 refine At.grob 4 2 3 [1] ?_
 refine At.o 1 (big_eqp hT (t := 68) (x := (.ref 1 [] 0)) (b := true) (by kernel_rfl) rfl rfl (by kernel_rfl)) ?_
 refine At.LS 4 [3, 5, 6] 4 (fun p2 => ([], [(0, .mp (eM .i64 S_keys_span.enc p2.1)), (1, .var (.st 33 [(eA 32 1 k8 p2.2.2.1), (.mp 0)])), (2, .var (.st 33 [(eA 32 1 k8 p2.2.2.2), (.gro 3 3 p2.2.1.length .all)])), (3, .gro 3 (List.map S_umbraref36_Span.enc p2.2.1))], [])) (fun op2 J k => ∃ s3 s4 s5 s6 s7, p_umbralaw36_KeysPlays_L1 N a0 k s3 s4 s5 s6 s7 = some op2 ∧ J [0, 3, 4, 5, 6] 4 [(7, (j64 s7))] [(0, .mp (eM .i64 S_keys_span.enc s3)), (1, .var (.st 33 [(eA 32 1 k8 s5), (.mp 0)])), (2, .var (.st 33 [(eA 32 1 k8 s6), (.gro 3 3 s4.length .all)])), (3, .gro 3 (List.map S_umbraref36_Span.enc s4))] []) N (fun _ h => ⟨_, _, _, _, _, h, jr⟩) (fun op2 g2 k s hI => ?_) fun p2 => ?_
 ·obtain ⟨s3, s4, s5, s6, s7, h, hj⟩ := hI
  cases k with
  | zero => cases h
  | succ k =>
   refine At.jr hj ?_ h
   refine lx ?_; intro x8
   refine lx ?_; intro x9
   refine At.c 8 ?_ ?_
   ·refine At.b 2 (fun _ e => big_idx hT S_umbralaw36_Act.enc e) fun e10 => ?_
    refine At.J 3 1 [0, 3, 4, 5, 6, 7, 8] 5 (fun p11 => ([], [], [])) (fun p11 => ?_) fun p11 => ?_
    ·refine At.c 3 ?_ ?_
     ·refine At.b 1 (fun _ e => big_C [1, 0] (keys_Ring_Copy_r_ok e)) fun r12 => ?_
      refine At.o 2 (big_eqp hT (t := 68) (x := (.ref 6 [] 0)) (b := true) (by kernel_rfl) rfl rfl (by kernel_rfl)) ?_
      refine At.b 2 (fun _ e => big_C [6, 5] (keys_Ring_Add_rd_ok e)) fun r13 => ?_
      refine At.b 1 (fun _ e => big_C [6, 5] (keys_Ring_Rotate_rd_ok e)) fun r14 => ?_
      apply rt; exact At.jn 0
     ·apply rt; exact At.jn 0
    ·refine At.JS 0 1 [0, 3, 4, 5, 6, 7] 5 (fun p15 => ([], [(0, .mp (eM .i64 S_keys_span.enc p15.1)), (2, .var (.st 33 [(eA 32 1 k8 s6), (.gro 3 3 p15.2.length .all)])), (3, .gro 3 (List.map S_umbraref36_Span.enc p15.2))], [])) (fun op15 g15 => ?_) fun p15 => ?_
     ·refine At.c 4 ?_ ?_
      ·refine bi fun r17 hr17 => ?_
       refine sumI (fun r18 hr18 => ?_) (fun r19 hr19 => ?_)
       ·refine boI (fun hc9 => ?_) (fun hc9 => ?_)
        ·refine At.d 0 (dE1 9 (fun _ => big_lit hc9 rfl (plU_big hT (im := false) (by kernel_rfl))) dE0) (dF 3 (j64 r17.2) [(0, .mp (eM .i64 S_keys_span.enc r17.1))] [] (big_at (big_C [1, 0] (keys_Ring_Add_rd_ok hr17))) (dF 7 (j64 r18) [] [] (big_at (big_C [2, 3] (umbraref36_Ring_Add_rd_ok_0 hr18))) dF0)) ?_
         intro e; apply rtS2 g15 g2 e; exact At.r 2
        ·refine bi fun r20 hr20 => ?_
         refine At.d 0 (dE1 9 (fun _ => big_lit hc9 rfl (plU_big hT (im := false) (by kernel_rfl))) (dE2 12 (j64 r20) (fun _ => big_C0 (keys_Ring_Add_isdczd_ok hr20)) dE0)) (dF 3 (j64 r17.2) [(0, .mp (eM .i64 S_keys_span.enc r17.1))] [] (big_at (big_C [1, 0] (keys_Ring_Add_rd_ok hr17))) (dF 7 (j64 r18) [] [] (big_at (big_C [2, 3] (umbraref36_Ring_Add_rd_ok_0 hr18))) dF0)) ?_
         refine At.c 0 ?_ ?_
         ·intro e; apply rtS2 g15 g2 e; exact At.r 1
         ·apply rt; exact At.jsn 0
       ·refine boI (fun hc9 => ?_) (fun hc9 => ?_)
        ·refine At.d 0 (dE1 9 (fun _ => big_lit hc9 rfl (plU_big hT (im := false) (by kernel_rfl))) dE0) (dF 3 (j64 r17.2) [(0, .mp (eM .i64 S_keys_span.enc r17.1))] [] (big_at (big_C [1, 0] (keys_Ring_Add_rd_ok hr17))) (dF 7 (j64 r19.2) [(2, .var (.st 33 [(eA 32 1 k8 s6), (.gro 5 3 r19.1.length .all)]))] [.gro 3 (List.map S_umbraref36_Span.enc r19.1)] (big_at (big_C [2, 3] (umbraref36_Ring_Add_rd_ok_1 hr19))) dF0)) ?_
         intro e; apply rtS2 g15 g2 e; exact At.r 2
        ·refine bi fun r21 hr21 => ?_
         refine At.d 0 (dE1 9 (fun _ => big_lit hc9 rfl (plU_big hT (im := false) (by kernel_rfl))) (dE2 12 (j64 r21) (fun _ => big_C0 (keys_Ring_Add_isdczd_ok hr21)) dE0)) (dF 3 (j64 r17.2) [(0, .mp (eM .i64 S_keys_span.enc r17.1))] [] (big_at (big_C [1, 0] (keys_Ring_Add_rd_ok hr17))) (dF 7 (j64 r19.2) [(2, .var (.st 33 [(eA 32 1 k8 s6), (.gro 5 3 r19.1.length .all)]))] [.gro 3 (List.map S_umbraref36_Span.enc r19.1)] (big_at (big_C [2, 3] (umbraref36_Ring_Add_rd_ok_1 hr19))) dF0)) ?_
         refine At.c 0 ?_ ?_
         ·intro e; apply rtS2 g15 g2 e; exact At.r 1
         ·apply rt; exact At.jsw 0 (jr_sw 5 3 (by kernel_rfl) jr)
      ·refine At.c 2 ?_ ?_
       ·refine At.b 3 (fun _ e => big_C [1, 0] (keys_Ring_Rotate_rd_ok e)) fun r22 => ?_
        refine At.b 8 (fun _ e => big_C [2, 3] (umbraref36_Ring_Rotate_rd_ok e)) fun r23 => ?_
        refine lx ?_; intro x24
        refine At.c 13 ?_ ?_
        ·intro e; apply rtS2 g15 g2 e; exact At.r 1
        ·apply rt; exact At.jsn 0
       ·refine At.J 0 0 [0, 3, 4, 5, 6, 7] 5 (fun p25 => ([(81, (eB p25.2.2))], [(0, .mp (eM .i64 S_keys_span.enc p25.1)), (2, .var (.st 33 [(eA 32 1 k8 s6), (.gro 3 3 p25.2.1.length .all)])), (3, .gro 3 (List.map S_umbraref36_Span.enc p25.2.1))], [])) (fun p25 => ?_) fun p25 => ?_
        ·refine bi fun r26 hr26 => ?_
         refine bi fun r27 hr27 => ?_
         refine boI (fun hc13 => ?_) (fun hc13 => ?_)
         ·refine At.d 0 (dE1 13 (fun _ => big_lit hc13 rfl (plU_big hT (im := false) (by kernel_rfl))) dE0) (dF 5 (j64 r26.2) [(0, .mp (eM .i64 S_keys_span.enc r26.1))] [] (big_at (big_C [1, 0] (keys_Ring_Retire_rdd_ok hr26))) (dF 11 (j64 r27.2) [(2, .var (.st 33 [(eA 32 1 k8 s6), (.gro 3 3 r27.1.length .all)])), (3, .gro 3 (List.map S_umbraref36_Span.enc r27.1))] [] (big_at (big_C [2, 3] (umbraref36_Ring_Retire_rdd_ok hr27))) dF0)) ?_
          apply rt; exact At.jn 0
         ·refine bi fun r28 hr28 => ?_
          refine At.d 0 (dE1 13 (fun _ => big_lit hc13 rfl (plU_big hT (im := false) (by kernel_rfl))) (dE2 19 (j64 r28) (fun _ => big_C0 (keys_Ring_Retire_cdd_ok hr28)) dE0)) (dF 5 (j64 r26.2) [(0, .mp (eM .i64 S_keys_span.enc r26.1))] [] (big_at (big_C [1, 0] (keys_Ring_Retire_rdd_ok hr26))) (dF 11 (j64 r27.2) [(2, .var (.st 33 [(eA 32 1 k8 s6), (.gro 3 3 r27.1.length .all)])), (3, .gro 3 (List.map S_umbraref36_Span.enc r27.1))] [] (big_at (big_C [2, 3] (umbraref36_Ring_Retire_rdd_ok hr27))) dF0)) ?_
          apply rt; exact At.jn 0
        ·refine At.c 0 ?_ ?_
         ·intro e; apply rtS2 g15 g2 e; exact At.r 1
         ·apply rt; exact At.jsn 0
     ·refine At.b 1 (fun _ e => big_C [1, 0] (keys_Ring_Ids_r_ok e)) fun r29 => ?_
      refine lx ?_; intro x30
      refine At.c 9 ?_ ?_
      ·intro e; apply rtS1 g2 e; exact At.r 1
      ·refine At.LS 6 [0, 3, 4, 5, 6, 7] 5 (fun p31 => ([], [], [])) (fun op31 J k => ∃ s32, p_umbralaw36_KeysPlays_L2 N p15 s5 r29 k s32 = some op31 ∧ J [0, 3, 4, 5, 6, 7, 14, 136, 137] 5 [(138, (j64 s32))] [] []) N (fun _ h => ⟨_, h, jr⟩) (fun op31 g31 k s hI => ?_) fun p31 => ?_
       ·obtain ⟨s32, h, hj⟩ := hI
        cases k with
        | zero => cases h
        | succ k =>
         refine At.jr hj ?_ h
         refine lx ?_; intro x33
         refine At.c 1 ?_ ?_
         ·refine At.b 1 (fun _ e => big_gad hT (id := 3) (k := 3) (es := List.map S_umbraref36_Span.enc p15.2) e (by kernel_rfl) (by kernel_rfl) (by kernel_rfl) (List.length_map _)) fun u34 => ?_
          refine At.b 0 (fun _ e => big_gld hT S_umbraref36_Span.enc [] e (by kernel_rfl) (by kernel_rfl)) fun e35 => ?_
          refine At.b 6 (fun _ e => big_C [1, 0] (keys_Ring_Span_rd_ok e)) fun r36 => ?_
          refine At.J 7 0 [0, 3, 4, 5, 6, 7, 14, 136, 137, 138] 6 (fun p37 => ([(173, (eB p37))], [], [])) (fun p37 => ?_) fun p37 => ?_
          ·refine bi fun e38 he38 => ?_
           refine boI (fun hc7 => ?_) (fun hc7 => ?_)
           ·refine At.d 0 (dE1 2 (fun _ => big_idx hT j64 he38) (dE1 7 (fun _ => big_lit hc7 rfl (plU_big hT (im := false) (by kernel_rfl))) dE0)) dF0 ?_
            apply rt; exact At.jn 0
           ·refine boI (fun hc13 => ?_) (fun hc13 => ?_)
            ·refine At.d 0 (dE1 2 (fun _ => big_idx hT j64 he38) (dE1 7 (fun _ => big_lit hc7 rfl (plU_big hT (im := false) (by kernel_rfl))) (dE1 13 (fun _ => big_lit hc13 rfl (plU_big hT (im := false) (by kernel_rfl))) dE0))) dF0 ?_
             apply rt; exact At.jn 0
            ·refine boI (fun hc19 => ?_) (fun hc19 => ?_)
             ·refine At.d 0 (dE1 2 (fun _ => big_idx hT j64 he38) (dE1 7 (fun _ => big_lit hc7 rfl (plU_big hT (im := false) (by kernel_rfl))) (dE1 13 (fun _ => big_lit hc13 rfl (plU_big hT (im := false) (by kernel_rfl))) (dE1 19 (fun _ => big_lit hc19 rfl (plU_big hT (im := false) (by kernel_rfl))) dE0)))) dF0 ?_
              apply rt; exact At.jn 0
             ·refine At.d 0 (dE1 2 (fun _ => big_idx hT j64 he38) (dE1 7 (fun _ => big_lit hc7 rfl (plU_big hT (im := false) (by kernel_rfl))) (dE1 13 (fun _ => big_lit hc13 rfl (plU_big hT (im := false) (by kernel_rfl))) (dE1 19 (fun _ => big_lit hc19 rfl (plU_big hT (im := false) (by kernel_rfl))) dE0)))) dF0 ?_
              apply rt; exact At.jn 0
          ·refine At.c 0 ?_ ?_
           ·intro e; apply rtS2 g31 g2 e; exact At.r 1
           ·exact fun h => At.k 2 ⟨_, h, jr⟩
         ·apply rt; exact At.xs 0
       ·exact fun h => At.k 3 ⟨_, _, _, _, _, h, jr⟩
   ·apply rt; exact At.xs 0
 ·refine At.b 1 (fun _ e => big_C [1, 0] (keys_Ring_Span_rd_ok e)) fun r39 => ?_
  refine At.b 7 (fun _ e => big_C [] (keys_Ring_Open_isdczd_ok e)) fun r40 => ?_
  refine At.J 11 0 [] 6 (fun p41 => ([(2, (eB p41))], [], [])) (fun p41 => ?_) fun p41 => ?_
  ·refine lx ?_; intro x42
   refine At.s 193 7 ?_ ?_
   ·refine At.g [193] 1 ?_
    refine At.b 0 (fun _ e => big_C [] (keys_Ring_Copy_c_ok e)) fun r43 => ?_
    refine At.o 0 (big_eqp hT (t := 68) (x := (.v (.pointer none))) (b := false) (by kernel_rfl) rfl rfl (by kernel_rfl)) ?_
    refine At.g [193] 2 ?_
    refine At.b 0 (fun _ e => big_C [] (keys_Ring_Ids_isdcz_ok e)) fun r44 => ?_
    refine lx ?_; intro x45
    refine At.g [198] 4 ?_
    refine At.s 203 0 ?_ ?_
    ·refine At.b 0 (fun _ e => big_C [] (umbralaw36_works_ok e)) fun r46 => ?_
     refine At.g [203] 2 ?_
     apply rt; exact At.jn 0
    ·refine At.g [203] 3 ?_
     apply rt; exact At.jn 0
   ·refine At.g [193, 198, 203] 13 ?_
    apply rt; exact At.jn 0
  ·apply rt; exact At.r 0

end Go.UK

