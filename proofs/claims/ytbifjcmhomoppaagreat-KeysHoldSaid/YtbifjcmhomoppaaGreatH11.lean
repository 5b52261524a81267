/- A part of the proof: what the functions of the program compute. -/
import Derived.Test.YtbifjcmhomoppaaGreatH10
namespace Go.UK
open Go Go.Proofs
set_option maxRecDepth 20000
set_option maxHeartbeats 4000000
set_option linter.all false

attribute [local irreducible] adv putPt dropPt setPt brPt litPt cutPt restPt popN unrPt stPt envPt boxPt opPt opP2t ksPt lPt owp awl aw FnM NatFn opS Stab TOK Big
def m_bundle_Open : Nat → Bool := imL [2]

def p_bundle_Open_L1 (N : Nat) (r1 : S_api_Manifest × Int) (v4 : (Vector Int 8)) (a0 : (Vector Int 32)) (s5 : (List Int)) : Nat → (List Int) → (List Int) → Int → Bool → Int → Option (Sum ((List Int) × (List Int) × Int × Bool) (S_api_Manifest × S_api_Asset × Int))
 | 0, _, _, _, _, _ => none
 | k + 1, s9, s10, s11, s12, s13 =>
  letO (decide (s13 < r1.1.gChunks)) fun x14 =>
  cond x14 (
   Option.bind (p_bundle_Nonce N v4 (I64 (s13 + 1))) fun r15 =>
   letO (I64 (r1.1.gSize - ((s9.length : Int)))) fun x16 =>
   Option.bind (p_bundle_chunk_ddrddd N a0 r15 s5 s13 (imin 256 x16) (S_codec_Reader.mk s10 s11 s12)) fun r17 =>
   cond (r17.2.2 != 0) (
    Option.bind (p_bundle_Open_1 N r17.2.2) fun r18 =>
    some (Sum.inr ((r18.1, r18.2.1, r18.2.2)))) (
    Option.bind (appO 1 s9 r17.2.1) fun z19 =>
    p_bundle_Open_L1 N r1 v4 a0 s5 k z19 r17.1.gb r17.1.ge r17.1.gmade (I64 (s13 + 1)))) (
   some (Sum.inl ((s9, s10, s11, s12))))

def p_bundle_Open (N : Nat) (a0 : (Vector Int 32)) (a1 : (List Int)) : Option (S_api_Manifest × S_api_Asset × Int) :=
 Option.bind (p_bundle_Peek N a0 a1) fun r1 =>
 cond (r1.2 != 0) (
  Option.bind (p_bundle_Open_1 N r1.2) fun r2 =>
  some ((r2.1, r2.2.1, r2.2.2))) (
  Option.bind (slcO a1 4 12) fun s3 =>
  Option.bind (vecO 8 s3) fun v4 =>
  Option.bind (slcO a1 47 63) fun s5 =>
  Option.bind (slcO a1 63 ((a1.length : Int))) fun s6 =>
  Option.bind (p_codec_New N s6) fun r7 =>
  Option.bind (p_bundle_Open_L1 N r1 v4 a0 s5 N [] r7 0 true 0) fun o => sumC o (fun p8 =>
   Option.bind (p_codec_Reader_Left_r N (S_codec_Reader.mk p8.2.1 p8.2.2.1 p8.2.2.2)) fun r20 =>
   cond (decide (r20 > 0)) (
    Option.bind (p_bundle_Open_1 N 7) fun r21 =>
    some ((r21.1, r21.2.1, r21.2.2))) (
    Option.bind (p_asset_Decode N r1.1.gKind p8.1) fun r22 =>
    cond (r22.2 != 0) (
     Option.bind (p_bundle_Open_1 N r22.2) fun r23 =>
     some ((r23.1, r23.2.1, r23.2.2))) (
     some ((r1.1, r22.1, 0))))) (fun r => some r))

theorem bundle_Open_ok {N : Nat} {a0 : (Vector Int 32)} {a1 : (List Int)} {r : S_api_Manifest × S_api_Asset × Int} (h : p_bundle_Open N a0 a1 = some r) : FnM Tryz.prog 41 [] [(eA 32 1 k8 a0), (eL 1 k8 a1)] (.tup [(S_api_Manifest.enc r.1), (S_api_Asset.enc r.2.1), (j64 r.2.2)]) [] := by
 unfold p_bundle_Open at h
 refine At.fn m_bundle_Open hT hmo (m := 101) (lo := 0) (rs := [.cell 4 27, .cell 5 45, .tmp 6]) Tryz.func41 rfl rfl h ?_
 refine At.b 7 (fun _ e => big_call [] (bundle_Peek_ok e) bundle_Peek_ok_c) fun r1 => ?_
 refine At.c 8 ?_ ?_
 ·refine At.b 2 (fun _ e => big_call [] (bundle_Open_1_ok e) bundle_Open_1_ok_c) fun r2 => ?_
  apply rt; exact At.r 6
 ·refine At.b 1 (fun _ e => big_slc hT (k := 1) k8 e) fun s3 => ?_
  refine At.b 0 (fun v4 e => big_s2a hT k8 s3 v4 e rfl (by kernel_rfl) (by kernel_rfl)) fun v4 => ?_
  refine At.b 4 (fun _ e => big_slc hT (k := 1) k8 e) fun s5 => ?_
  refine At.b 2 (fun _ e => big_slc hT (k := 1) k8 e) fun s6 => ?_
  refine At.b 0 (fun _ e => big_call [] (codec_New_ok e) codec_New_ok_c) fun r7 => ?_
  refine At.ownn 5 13 1 ?_
  refine At.ls 0 (fun p8 => ⟨[en 4 (.ref 0 [] 0), en 5 (.ref 1 [] 0), en 7 (.fn (.func 69) [] []), en 8 (.ref 2 [] 0), en 12 (.ref 5 [] 0), en 13 (eO 6 1 k8 p8.1)], [.var cv_2, .var cv_4, .var (S_api_Manifest.enc r1.1), .var (eA 8 1 k8 v4), .tail (r7.length * 1), .var (.st 3 [(eL 1 k8 p8.2.1), (j64 p8.2.2.1), (eB p8.2.2.2)]), .tail (p8.1.length * 1)]⟩) (fun op8 J k s => ∃ s9 s10 s11 s12 s13, p_bundle_Open_L1 N r1 v4 a0 s5 k s9 s10 s11 s12 s13 = some op8 ∧ J ⟨[en 2 (.im (eA 32 1 k8 a0)), en 4 (.ref 0 [] 0), en 5 (.ref 1 [] 0), en 7 (.fn (.func 69) [] []), en 8 (.ref 2 [] 0), en 10 (.ref 3 [] 0), en 11 (eL 1 k8 s5), en 12 (.ref 5 [] 0), en 13 (eO 6 1 k8 s9), en 42 (j64 r1.1.gChunks), en 43 (j64 s13)], [.var cv_2, .var cv_4, .var (S_api_Manifest.enc r1.1), .var (eA 8 1 k8 v4), .tail (r7.length * 1), .var (.st 3 [(eL 1 k8 s10), (j64 s11), (eB s12)]), .tail (s9.length * 1)]⟩ s) N (fun _ h => ⟨_, _, _, _, _, h, jr⟩) (fun op8 g8 k s hI => ?_) fun p8 => ?_
  ·obtain ⟨s9, s10, s11, s12, s13, h, hj⟩ := hI
   cases k with
   | zero => cases h
   | succ k =>
    refine At.jr hj ?_ h
    refine lx ?_; intro x14
    refine At.c 1 ?_ ?_
    ·refine bi fun r15 hr15 => ?_
     refine lx ?_; intro x16
     refine bi fun r17 hr17 => ?_
     refine At.d 2 (dE2 4 (eA 12 1 k8 r15) (fun _ => big_call0 (bundle_Nonce_ok hr15) bundle_Nonce_ok_c (by kernel_rfl) (by kernel_rfl) (by kernel_rfl)) dE0) (dF1 14 (.tup [(eL 1 k8 r17.2.1), (j64 r17.2.2)]) [.var cv_2, .var cv_4, .var (S_api_Manifest.enc r1.1), .var (eA 8 1 k8 v4), .tail (r7.length * 1), .var (S_codec_Reader.enc r17.1), .tail (s9.length * 1)] (big_at (big_call [5] (bundle_chunk_ddrddd_ok hr17) bundle_chunk_ddrddd_ok_c)) dF0) ?_
     refine At.c 2 ?_ ?_
     ·refine At.b 2 (fun _ e => big_call [] (bundle_Open_1_ok e) bundle_Open_1_ok_c) fun r18 => ?_
      rintro ⟨⟩
      obtain rfl := sum_e g8
      exact At.r 6
     ·refine At.b 2 (fun _ e => big_app hT k8 (id := 6) (k := 1) e) fun z19 => ?_
      exact fun h => At.k 3 ⟨_, _, _, _, _, h, jr⟩
    ·apply rt; exact At.xs 0
  ·refine At.b 1 (fun _ e => big_call [5] (codec_Reader_Left_r_ok e) codec_Reader_Left_r_ok_c) fun r20 => ?_
   refine At.c 1 ?_ ?_
   ·refine At.b 1 (fun _ e => big_call [] (bundle_Open_1_ok e) bundle_Open_1_ok_c) fun r21 => ?_
    apply rt; exact At.r 6
   ·refine At.b 3 (fun _ e => big_call [] (asset_Decode_ok e) asset_Decode_ok_c) fun r22 => ?_
    refine At.c 8 ?_ ?_
    ·refine At.b 2 (fun _ e => big_call [] (bundle_Open_1_ok e) bundle_Open_1_ok_c) fun r23 => ?_
     apply rt; exact At.r 6
    ·refine At.d 0 dE0 dF0 ?_
     apply rt; exact At.r 0

theorem bundle_Open_ok_c : callable Tryz.prog 41 := ⟨_, Tryz.func41, by decide, rfl⟩

def p_keys_Ring_Open_rd (N : Nat) (b1 : (List (Int × S_keys_span))) (a1 : (List Int)) (a2 : (Vector Int 32)) : Option (Int × S_api_Manifest × S_api_Asset × Int) :=
 Option.bind (p_keys_Ring_none_r N b1 a2) fun r1 =>
 letO (decide (((a1.length : Int)) < 10)) fun x2 =>
 cond x2 (
  some ((0, S_api_Manifest.mk 0 0 0 (Vector.replicate 8 0) 0 0 0 0, S_api_Asset.mk 0 (S_api_Mesh.mk [] [] []) (S_api_Texture.mk 0 []) (S_api_Material.mk 0 (#v[0, 0, 0]) 0) (S_api_Light.mk 0 (#v[0, 0, 0]) (S_api_Point.mk 0 0 0) (S_api_Point.mk 0 0 0) (S_api_Point.mk 0 0 0)), 4))) (
  Option.bind (slcO a1 0 4) fun s3 =>
  letO (!(ByteArray.toList (strO s3) == ByteArray.toList (ByteArray.mk #[85, 77, 75, 49]))) fun x4 =>
  cond x4 (
   some ((0, S_api_Manifest.mk 0 0 0 (Vector.replicate 8 0) 0 0 0 0, S_api_Asset.mk 0 (S_api_Mesh.mk [] [] []) (S_api_Texture.mk 0 []) (S_api_Material.mk 0 (#v[0, 0, 0]) 0) (S_api_Light.mk 0 (#v[0, 0, 0]) (S_api_Point.mk 0 0 0) (S_api_Point.mk 0 0 0) (S_api_Point.mk 0 0 0)), 5))) (
   Option.bind (slcO a1 4 10) fun s5 =>
   Option.bind (p_codec_New N s5) fun r6 =>
   Option.bind (p_codec_Reader_Num_rd N 2 (S_codec_Reader.mk r6 0 true)) fun r7 =>
   Option.bind (p_codec_Reader_Num_rd N 4 (S_codec_Reader.mk r7.1 r7.2.1 ((S_codec_Reader.mk r6 0 true).gmade))) fun r8 =>
   Option.bind (p_keys_Ring_find_rd N b1 (I64 r7.2.2) a2) fun r9 =>
   cond (r9.2 != 0) (
    some ((0, S_api_Manifest.mk 0 0 0 (Vector.replicate 8 0) 0 0 0 0, S_api_Asset.mk 0 (S_api_Mesh.mk [] [] []) (S_api_Texture.mk 0 []) (S_api_Material.mk 0 (#v[0, 0, 0]) 0) (S_api_Light.mk 0 (#v[0, 0, 0]) (S_api_Point.mk 0 0 0) (S_api_Point.mk 0 0 0) (S_api_Point.mk 0 0 0)), r9.2))) (
    letO (decide ((I64 r8.2.2) < r9.1.gfrom)) fun x10 =>
    letO (decide ((I64 r8.2.2) > r9.1.gto)) fun x11 =>
    cond (cond x10 true x11) (
     some ((0, S_api_Manifest.mk 0 0 0 (Vector.replicate 8 0) 0 0 0 0, S_api_Asset.mk 0 (S_api_Mesh.mk [] [] []) (S_api_Texture.mk 0 []) (S_api_Material.mk 0 (#v[0, 0, 0]) 0) (S_api_Light.mk 0 (#v[0, 0, 0]) (S_api_Point.mk 0 0 0) (S_api_Point.mk 0 0 0) (S_api_Point.mk 0 0 0)), 18))) (
     Option.bind (p_keys_Key N a2 (I64 r7.2.2) (I64 r8.2.2)) fun r12 =>
     Option.bind (slcO a1 10 ((a1.length : Int))) fun s13 =>
     Option.bind (p_bundle_Open N r12 s13) fun r14 =>
     cond (r14.2.2 != 0) (
      some ((0, r14.1, r14.2.1, r14.2.2))) (
      some ((I64 r7.2.2, r14.1, r14.2.1, 0)))))))

theorem keys_Ring_Open_rd_ok {N : Nat} {b1 : (List (Int × S_keys_span))} {a1 : (List Int)} {a2 : (Vector Int 32)} {r : Int × S_api_Manifest × S_api_Asset × Int} (h : p_keys_Ring_Open_rd N b1 a1 a2 = some r) : FnM Tryz.prog 21 [.var (.st 33 [(eA 32 1 k8 a2), (.mp 1)]), .mp (eM .i64 S_keys_span.enc b1)] [(.ref 0 [] 0), (eL 1 k8 a1)] (.tup [(j64 r.1), (S_api_Manifest.enc r.2.1), (S_api_Asset.enc r.2.2.1), (j64 r.2.2.2)]) [.var (.st 33 [(eA 32 1 k8 a2), (.mp 1)]), .mp (eM .i64 S_keys_span.enc b1)] := by
 unfold p_keys_Ring_Open_rd at h
 refine At.fn m_no hT hmo (m := 84) (lo := 2) (rs := [.tmp 4, .cell 5 27, .cell 6 45, .tmp 7]) Tryz.func21 rfl rfl h ?_
 refine At.b 5 (fun _ e => big_call [0, 1] (keys_Ring_none_r_ok e) keys_Ring_none_r_ok_c) fun r1 => ?_
 refine lx ?_; intro x2
 refine At.c 6 ?_ ?_
 ·refine At.d 0 dE0 dF0 ?_
  apply rt; exact At.r 0
 ·refine At.b 1 (fun _ e => big_slc hT (k := 1) k8 e) fun s3 => ?_
  refine At.o 0 (big_b2s hT s3 (v := (eL 1 k8 s3)) (e := 5) (by kernel_rfl) (by kernel_rfl) (by kernel_rfl)) ?_
  refine lx ?_; intro x4
  refine At.c 2 ?_ ?_
  ·refine At.d 0 dE0 dF0 ?_
   apply rt; exact At.r 0
  ·refine At.b 1 (fun _ e => big_slc hT (k := 1) k8 e) fun s5 => ?_
   refine At.b 0 (fun _ e => big_call [] (codec_New_ok e) codec_New_ok_c) fun r6 => ?_
   refine At.b 2 (fun _ e => big_call [5] (codec_Reader_Num_rd_ok e) codec_Reader_Num_rd_ok_c) fun r7 => ?_
   refine At.b 2 (fun _ e => big_call [5] (codec_Reader_Num_rd_ok e) codec_Reader_Num_rd_ok_c) fun r8 => ?_
   refine At.b 5 (fun _ e => big_call [0, 1] (keys_Ring_find_rd_ok e) keys_Ring_find_rd_ok_c) fun r9 => ?_
   refine At.c 8 ?_ ?_
   ·refine At.d 0 dE0 dF0 ?_
    apply rt; exact At.r 0
   ·refine lx ?_; intro x10
    refine lx ?_; intro x11
    refine At.c 10 ?_ ?_
    ·refine At.d 0 dE0 dF0 ?_
     apply rt; exact At.r 0
    ·refine bi fun r12 hr12 => ?_
     refine bi fun s13 hs13 => ?_
     refine bi fun r14 hr14 => ?_
     refine At.d 0 (dE2 6 (eA 32 1 k8 r12) (fun _ => big_call0 (keys_Key_ok hr12) keys_Key_ok_c (by kernel_rfl) (by kernel_rfl) (by kernel_rfl)) (dE1 8 (fun _ => big_slc hT (k := 1) k8 hs13) (dE2 9 (.tup [(S_api_Manifest.enc r14.1), (S_api_Asset.enc r14.2.1), (j64 r14.2.2)]) (fun _ => big_call0 (bundle_Open_ok hr14) bundle_Open_ok_c (by kernel_rfl) (by kernel_rfl) (by kernel_rfl)) dE0))) dF0 ?_
     refine At.c 2 ?_ ?_
     ·refine At.d 0 dE0 dF0 ?_
      apply rt; exact At.r 0
     ·refine At.d 0 dE0 dF0 ?_
      apply rt; exact At.r 0

theorem keys_Ring_Open_rd_ok_c : callable Tryz.prog 21 := ⟨_, Tryz.func21, by decide, rfl⟩

def p_keys_Ring_Rotate_rd (N : Nat) (b1 : (List (Int × S_keys_span))) (a1 : Int) (a2 : (Vector Int 32)) : Option ((List (Int × S_keys_span)) × Int × Int) :=
 Option.bind (p_keys_Ring_find_rd N b1 a1 a2) fun r1 =>
 cond (r1.2 != 0) (
  some ((b1, 0, r1.2))) (
  cond (r1.1.gto == 65535) (
   some ((b1, 0, 3))) (
   some ((mput b1 a1 (S_keys_span.mk r1.1.gfrom (I64 (r1.1.gto + 1))), I64 (r1.1.gto + 1), 0))))

theorem keys_Ring_Rotate_rd_ok {N : Nat} {b1 : (List (Int × S_keys_span))} {a1 : Int} {a2 : (Vector Int 32)} {r : (List (Int × S_keys_span)) × Int × Int} (h : p_keys_Ring_Rotate_rd N b1 a1 a2 = some r) : FnM Tryz.prog 17 [.var (.st 33 [(eA 32 1 k8 a2), (.mp 1)]), .mp (eM .i64 S_keys_span.enc b1)] [(.ref 0 [] 0), (j64 a1)] (.tup [(j64 r.2.1), (j64 r.2.2)]) [.var (.st 33 [(eA 32 1 k8 a2), (.mp 1)]), .mp (eM .i64 S_keys_span.enc r.1)] := by
 unfold p_keys_Ring_Rotate_rd at h
 refine At.fn m_no hT hmo (m := 31) (lo := 2) (rs := [.tmp 4, .tmp 5]) Tryz.func17 rfl rfl h ?_
 refine At.b 4 (fun _ e => big_call [0, 1] (keys_Ring_find_rd_ok e) keys_Ring_find_rd_ok_c) fun r1 => ?_
 refine At.c 8 ?_ ?_
 ·apply rt; exact At.r 3
 ·refine At.c 3 ?_ ?_
  ·apply rt; exact At.r 2
  ·refine At.d 5 dE0 (dF1 6 (.v (.bool false)) [.var (.st 33 [(eA 32 1 k8 a2), (.mp 1)]), .mp (eM .i64 S_keys_span.enc (mput b1 a1 (S_keys_span.mk r1.1.gfrom (I64 (r1.1.gto + 1))))), .var (.st 2 [(j64 r1.1.gfrom), (j64 (I64 (r1.1.gto + 1)))])] (big_at (big_mpu (f := S_keys_span.enc) (id := 1) (k := a1) (v := (S_keys_span.mk r1.1.gfrom (I64 (r1.1.gto + 1)))) mpt_93 (fun _ => rfl) (b1 : List (Int × S_keys_span)) (by kernel_rfl) (by kernel_rfl) (by kernel_rfl))) dF0) ?_
   apply rt; exact At.r 4

theorem keys_Ring_Rotate_rd_ok_c : callable Tryz.prog 17 := ⟨_, Tryz.func17, by decide, rfl⟩

def p_keys_Ring_Retire_rdd (N : Nat) (b1 : (List (Int × S_keys_span))) (a1 : Int) (a2 : Int) (a3 : (Vector Int 32)) : Option ((List (Int × S_keys_span)) × Int) :=
 Option.bind (p_keys_Ring_find_rd N b1 a1 a3) fun r1 =>
 cond (r1.2 != 0) (
  some ((b1, r1.2))) (
  letO (decide (a2 < r1.1.gfrom)) fun x2 =>
  letO (cond x2 true (decide (a2 ≥ r1.1.gto))) fun x3 =>
  cond x3 (
   some ((b1, 2))) (
   some ((mput b1 a1 (S_keys_span.mk (I64 (a2 + 1)) r1.1.gto), 0))))

theorem keys_Ring_Retire_rdd_ok {N : Nat} {b1 : (List (Int × S_keys_span))} {a1 : Int} {a2 : Int} {a3 : (Vector Int 32)} {r : (List (Int × S_keys_span)) × Int} (h : p_keys_Ring_Retire_rdd N b1 a1 a2 a3 = some r) : FnM Tryz.prog 19 [.var (.st 33 [(eA 32 1 k8 a3), (.mp 1)]), .mp (eM .i64 S_keys_span.enc b1)] [(.ref 0 [] 0), (j64 a1), (j64 a2)] (j64 r.2) [.var (.st 33 [(eA 32 1 k8 a3), (.mp 1)]), .mp (eM .i64 S_keys_span.enc r.1)] := by
 unfold p_keys_Ring_Retire_rdd at h
 refine At.fn m_no hT hmo (m := 37) (lo := 2) (rs := [.tmp 6]) Tryz.func19 rfl rfl h ?_
 refine At.b 3 (fun _ e => big_call [0, 1] (keys_Ring_find_rd_ok e) keys_Ring_find_rd_ok_c) fun r1 => ?_
 refine At.c 8 ?_ ?_
 ·apply rt; exact At.r 2
 ·refine lx ?_; intro x2
  refine lx ?_; intro x3
  refine At.c 10 ?_ ?_
  ·apply rt; exact At.r 1
  ·refine At.d 4 dE0 (dF1 6 (.v (.bool false)) [.var (.st 33 [(eA 32 1 k8 a3), (.mp 1)]), .mp (eM .i64 S_keys_span.enc (mput b1 a1 (S_keys_span.mk (I64 (a2 + 1)) r1.1.gto))), .var (.st 2 [(j64 (I64 (a2 + 1))), (j64 r1.1.gto)])] (big_at (big_mpu (f := S_keys_span.enc) (id := 1) (k := a1) (v := (S_keys_span.mk (I64 (a2 + 1)) r1.1.gto)) mpt_93 (fun _ => rfl) (b1 : List (Int × S_keys_span)) (by kernel_rfl) (by kernel_rfl) (by kernel_rfl))) dF0) ?_
   apply rt; exact At.r 1

theorem keys_Ring_Retire_rdd_ok_c : callable Tryz.prog 19 := ⟨_, Tryz.func19, by decide, rfl⟩

def p_umbralaw36_works (N : Nat) : Option (Bool) :=
 Option.bind (p_keys_New N ((Vector.replicate 32 0).setIfInBounds 0 1)) fun r1 =>
 Option.bind (p_keys_Ring_Add_rd N (([] : (List (Int × S_keys_span)))) 7 (((Vector.replicate 32 0).setIfInBounds 0 1))) fun r2 =>
 cond (r2.2 != 0) (
  some false) (
  Option.bind (p_umbralaw36_mat N ) fun r3 =>
  Option.bind (p_keys_Wrap N ((Vector.replicate 32 0).setIfInBounds 0 1) 7 1 (Vector.replicate 8 0) (S_api_Manifest.mk 0 3 0 (Vector.replicate 8 0) 0 0 0 0) r3) fun r4 =>
  Option.bind (p_keys_Ring_Open_rd N r2.1 r4.1 ((((Vector.replicate 32 0).setIfInBounds 0 1)))) fun r5 =>
  Option.bind (p_keys_Ring_Rotate_rd N r2.1 7 (((((Vector.replicate 32 0).setIfInBounds 0 1))))) fun r6 =>
  Option.bind (p_keys_Ring_Retire_rdd N r6.1 7 1 ((((((Vector.replicate 32 0).setIfInBounds 0 1)))))) fun r7 =>
  Option.bind (p_keys_Ring_Open_rd N r7.1 r4.1 (((((((Vector.replicate 32 0).setIfInBounds 0 1))))))) fun r8 =>
  letO (((r4.1.length : Int)) == 102) fun x9 =>
  letO (cond (r4.2 == 0) x9 false) fun x10 =>
  letO (cond x10 (r5.2.2.2 == 0) false) fun x11 =>
  letO (cond x11 (r5.1 == 7) false) fun x12 =>
  letO (cond x12 (r6.2.1 == 2) false) fun x13 =>
  letO (cond x13 (r6.2.2 == 0) false) fun x14 =>
  letO (cond x14 (r7.2 == 0) false) fun x15 =>
  letO (cond x15 (r8.2.2.2 == 18) false) fun x16 =>
  some x16)

theorem umbralaw36_works_ok {N : Nat} {r : Bool} (h : p_umbralaw36_works N = some r) : FnM Tryz.prog 13 [] [] (eB r) [] := by
 unfold p_umbralaw36_works at h
 refine At.fn m_no hT hmo (m := 86) (lo := 0) (rs := [.tmp 0]) Tryz.func13 rfl rfl h ?_
 refine At.b 2 (fun _ e => big_call [] (keys_New_ok e) keys_New_ok_c) fun r1 => ?_
 refine At.o 2 (big_eqp hT (t := 68) (x := (.ref 1 [] 0)) (b := true) (by kernel_rfl) rfl rfl (by kernel_rfl)) ?_
 refine At.g [19] 2 ?_
 refine At.b 0 (fun _ e => big_call [1, 0] (keys_Ring_Add_rd_ok e) keys_Ring_Add_rd_ok_c) fun r2 => ?_
 refine At.g [19] 2 ?_
 refine At.c 0 ?_ ?_
 ·apply rt; exact At.r 1
 ·refine At.b 3 (fun _ e => big_call [] (umbralaw36_mat_ok e) umbralaw36_mat_ok_c) fun r3 => ?_
  refine At.b 0 (fun _ e => big_call [] (keys_Wrap_ok e) keys_Wrap_ok_c) fun r4 => ?_
  refine At.b 7 (fun _ e => big_call [1, 0] (keys_Ring_Open_rd_ok e) keys_Ring_Open_rd_ok_c) fun r5 => ?_
  refine At.b 12 (fun _ e => big_call [1, 0] (keys_Ring_Rotate_rd_ok e) keys_Ring_Rotate_rd_ok_c) fun r6 => ?_
  refine At.b 6 (fun _ e => big_call [1, 0] (keys_Ring_Retire_rdd_ok e) keys_Ring_Retire_rdd_ok_c) fun r7 => ?_
  refine At.b 3 (fun _ e => big_call [1, 0] (keys_Ring_Open_rd_ok e) keys_Ring_Open_rd_ok_c) fun r8 => ?_
  refine lx ?_; intro x9
  refine lx ?_; intro x10
  refine lx ?_; intro x11
  refine lx ?_; intro x12
  refine lx ?_; intro x13
  refine lx ?_; intro x14
  refine lx ?_; intro x15
  refine lx ?_; intro x16
  apply rt; exact At.r 43

theorem umbralaw36_works_ok_c : callable Tryz.prog 13 := ⟨_, Tryz.func13, by decide, rfl⟩

def p_keys_Ring_Span_rd (N : Nat) (b1 : (List (Int × S_keys_span))) (a1 : Int) (a2 : (Vector Int 32)) : Option (Int × Int × Int) :=
 Option.bind (p_keys_Ring_find_rd N b1 a1 a2) fun r1 =>
 some ((r1.1.gfrom, r1.1.gto, r1.2))

theorem keys_Ring_Span_rd_ok {N : Nat} {b1 : (List (Int × S_keys_span))} {a1 : Int} {a2 : (Vector Int 32)} {r : Int × Int × Int} (h : p_keys_Ring_Span_rd N b1 a1 a2 = some r) : FnM Tryz.prog 24 [.var (.st 33 [(eA 32 1 k8 a2), (.mp 1)]), .mp (eM .i64 S_keys_span.enc b1)] [(.ref 0 [] 0), (j64 a1)] (.tup [(j64 r.1), (j64 r.2.1), (j64 r.2.2)]) [.var (.st 33 [(eA 32 1 k8 a2), (.mp 1)]), .mp (eM .i64 S_keys_span.enc b1)] := by
 unfold p_keys_Ring_Span_rd at h
 refine At.fn m_no hT hmo (m := 19) (lo := 2) (rs := [.tmp 4, .tmp 5, .tmp 6]) Tryz.func24 rfl rfl h ?_
 refine At.b 5 (fun _ e => big_call [0, 1] (keys_Ring_find_rd_ok e) keys_Ring_find_rd_ok_c) fun r1 => ?_
 refine At.d 6 dE0 dF0 ?_
 apply rt; exact At.r 0

theorem keys_Ring_Span_rd_ok_c : callable Tryz.prog 24 := ⟨_, Tryz.func24, by decide, rfl⟩

def p_umbralaw36_KeysHold_L1 (N : Nat) (a2 : (List S_umbralaw36_Act)) (a0 : S_umbralaw36_Wrapped) (r8 : (List Int) × Int) (r1 : S_umbralaw18_Act) : Nat → (List (Int × S_keys_span)) → Bool → Int → Option (Sum ((List (Int × S_keys_span))) (Bool))
 | 0, _, _, _ => none
 | k + 1, s16, s17, s18 =>
  letO (decide (s18 < ((a2.length : Int)))) fun x19 =>
  letO (cond x19 (decide (s18 < 25)) false) fun x20 =>
  cond x20 (
   Option.bind (Option.bind (Option.bind (idx a2 s18) fun e23 =>
   cond (e23.gKind == 0) (
    Option.bind (p_keys_Ring_Add_rd N s16 e23.gId a0.gMaster) fun r24 =>
    some ((r24.1, e23))) (
    cond (e23.gKind == 1) (
     Option.bind (p_keys_Ring_Rotate_rd N s16 e23.gId a0.gMaster) fun r25 =>
     some ((r25.1, e23))) (
     Option.bind (p_keys_Ring_Retire_rdd N s16 e23.gId e23.gEpoch a0.gMaster) fun r26 =>
     some ((r26.1, e23))))) fun p22 =>
   letO ((I64 ((Int.tmod (I64 ((Int.tmod a0.gId 65535) + 65535)) 65535) + 1))) fun x27 =>
   Option.bind (p_keys_Ring_Span_rd N p22.1 x27 a0.gMaster) fun r28 =>
   letO (cond (r28.2.2 != 0) true (decide (r28.1 < 1))) fun x29 =>
   letO (decide (r28.1 > r28.2.1)) fun x30 =>
   cond (cond x29 true x30) (
    some (Sum.inr false)) (
    Option.bind (p_keys_Ring_Open_rd N p22.1 r8.1 a0.gMaster) fun r31 =>
    letO ((I64 ((Int.tmod (I64 ((Int.tmod a0.gEpoch 3) + 3)) 3) + 1))) fun x32 =>
    letO ((I64 ((Int.tmod (I64 ((Int.tmod a0.gEpoch 3) + 3)) 3) + 1))) fun x33 =>
    letO (cond (decide (x32 ≥ r28.1)) (decide (x33 ≤ r28.2.1)) false) fun x34 =>
    cond x34 (
     Option.bind (letO (cond s17 true (r31.2.2.2 != 0)) fun x36 =>
     letO ((I64 ((Int.tmod (I64 ((Int.tmod a0.gId 65535) + 65535)) 65535) + 1))) fun x37 =>
     letO (cond x36 true (r31.1 != x37)) fun x38 =>
     cond x38 (
      some true) (
      Option.bind (p_asset_Same N r1.gA r31.2.2.1) fun r39 =>
      some (!r39))) fun p35 =>
     cond p35 (
      some (Sum.inr false)) (
      some (Sum.inl ((p22.1, p22.2, r31.2.1, r31.2.2.1, s17))))) (
     letO ((I64 ((Int.tmod (I64 ((Int.tmod a0.gEpoch 3) + 3)) 3) + 1))) fun x40 =>
     letO (cond s17 true (decide (x40 < r28.1))) fun x41 =>
     letO (cond (r31.2.2.2 != 18) true (r31.1 != 0)) fun x42 =>
     cond x42 (
      some (Sum.inr false)) (
      some (Sum.inl ((p22.1, p22.2, r31.2.1, r31.2.2.1, x41))))))) fun o => sumC o (fun p21 =>
    p_umbralaw36_KeysHold_L1 N a2 a0 r8 r1 k p21.1 p21.2.2.2.2 (I64 (s18 + 1))) (fun r => some (Sum.inr r))) (
   some (Sum.inl s16))

def p_umbralaw36_KeysHold (N : Nat) (a0 : S_umbralaw36_Wrapped) (a1 : S_api_Asset) (a2 : (List S_umbralaw36_Act)) : Option (Bool) :=
 Option.bind (p_umbralaw18_Few N (S_umbralaw18_Act.mk 0 0 (S_api_Manifest.mk 0 0 0 (Vector.replicate 8 0) 0 0 0 0) a1 (S_api_Inst.mk 0 0 0 0 (S_api_Affine.mk (Vector.replicate 9 0) (S_api_Vec.mk 0 0 0))))) fun r1 =>
 letO (I64 ((Int.tmod a0.gId 65535) + 65535)) fun x2 =>
 letO (I64 ((Int.tmod x2 65535) + 1)) fun x3 =>
 letO (I64 ((Int.tmod a0.gEpoch 3) + 3)) fun x4 =>
 letO (I64 ((Int.tmod x4 3) + 1)) fun x5 =>
 letO ((I64 ((Int.tmod (I64 ((Int.tmod a0.gId 65535) + 65535)) 65535) + 1))) fun x6 =>
 letO ((I64 ((Int.tmod (I64 ((Int.tmod a0.gEpoch 3) + 3)) 3) + 1))) fun x7 =>
 Option.bind (p_keys_Wrap N a0.gMaster x6 x7 ((Vector.replicate 8 0).setIfInBounds 0 9) a0.gM r1.gA) fun r8 =>
 Option.bind (p_keys_New N a0.gMaster) fun r9 =>
 cond (r8.2 != 0) (
  Option.bind (letO (((r8.1.length : Int)) == 0) fun x11 =>
  cond x11 (
   Option.bind (p_umbralaw36_works N ) fun r12 =>
   some r12) (
   some false)) fun p10 =>
  some p10) (
  letO ((I64 ((Int.tmod (I64 ((Int.tmod a0.gId 65535) + 65535)) 65535) + 1))) fun x13 =>
  Option.bind (p_keys_Ring_Add_rd N (([] : (List (Int × S_keys_span)))) x13 a0.gMaster) fun r14 =>
  Option.bind (p_umbralaw36_KeysHold_L1 N a2 a0 r8 r1 N r14.1 false 0) fun o => sumC o (fun p15 =>
   Option.bind (p_umbralaw36_works N ) fun r43 =>
   some r43) (fun r => some r))

theorem umbralaw36_KeysHold_ok {N : Nat} {a0 : S_umbralaw36_Wrapped} {a1 : S_api_Asset} {a2 : (List S_umbralaw36_Act)} {r : Bool} (h : p_umbralaw36_KeysHold N a0 a1 a2 = some r) : FnM Tryz.prog 5 [] [(S_umbralaw36_Wrapped.enc a0), (S_api_Asset.enc a1), (eL 3 S_umbralaw36_Act.enc a2)] (eB r) [] := by
 unfold p_umbralaw36_KeysHold at h
 refine At.fn m_no hT hmo (m := 171) (lo := 0) (rs := [.tmp 6]) Tryz.func5 rfl rfl h ?_
 refine At.b 5 (fun _ e => big_call [] (umbralaw18_Few_ok e) umbralaw18_Few_ok_c) fun r1 => ?_
 refine lx ?_; intro x2
 refine lx ?_; intro x3
 refine lx ?_; intro x4
 refine lx ?_; intro x5
 refine lx ?_; intro x6
 refine lx ?_; intro x7
 refine At.b 28 (fun _ e => big_call [] (keys_Wrap_ok e) keys_Wrap_ok_c) fun r8 => ?_
 refine At.b 7 (fun _ e => big_call [] (keys_New_ok e) keys_New_ok_c) fun r9 => ?_
 refine At.o 2 (big_eqp hT (t := 68) (x := (.ref 3 [] 0)) (b := true) (by kernel_rfl) rfl rfl (by kernel_rfl)) ?_
 refine At.c 3 ?_ ?_
 ·refine At.j 0 0 (fun p10 => ⟨[en 6 (eB p10)], [.var (.st 49 [(eA 32 1 k8 a0.gMaster), (j64 ((I64 ((Int.tmod (I64 ((Int.tmod a0.gId 65535) + 65535)) 65535) + 1)))), (j64 ((I64 ((Int.tmod (I64 ((Int.tmod a0.gEpoch 3) + 3)) 3) + 1)))), (S_api_Manifest.enc a0.gM)]), .var (S_api_Asset.enc r1.gA), .mp (eM .i64 S_keys_span.enc []), .var (.st 33 [(eA 32 1 k8 a0.gMaster), (.mp 2)])]⟩) (fun p10 => ?_) fun p10 => ?_
  ·refine lx ?_; intro x11
   refine At.s 62 4 ?_ ?_
   ·refine At.b 0 (fun _ e => big_call [] (umbralaw36_works_ok e) umbralaw36_works_ok_c) fun r12 => ?_
    refine At.g [62] 2 ?_
    apply rt; exact At.jn 0
   ·refine At.g [62] 3 ?_
    apply rt; exact At.jn 0
  ·apply rt; exact At.r 0
 ·refine lx ?_; intro x13
  refine At.b 3 (fun _ e => big_call [3, 2] (keys_Ring_Add_rd_ok e) keys_Ring_Add_rd_ok_c) fun r14 => ?_
  refine At.ls 2 (fun p15 => ⟨[], [.var (.st 49 [(eA 32 1 k8 a0.gMaster), (j64 ((I64 ((Int.tmod (I64 ((Int.tmod a0.gId 65535) + 65535)) 65535) + 1)))), (j64 ((I64 ((Int.tmod (I64 ((Int.tmod a0.gEpoch 3) + 3)) 3) + 1)))), (S_api_Manifest.enc a0.gM)]), .var (S_api_Asset.enc r1.gA), .mp (eM .i64 S_keys_span.enc p15), .var (.st 33 [(eA 32 1 k8 a0.gMaster), (.mp 2)])]⟩) (fun op15 J k s => ∃ s16 s17 s18, p_umbralaw36_KeysHold_L1 N a2 a0 r8 r1 k s16 s17 s18 = some op15 ∧ J ⟨[en 2 (eL 3 S_umbralaw36_Act.enc a2), en 3 (.ref 0 [] 0), en 4 (.ref 1 [] 0), en 7 (eL 1 k8 r8.1), en 9 (.ref 3 [] 0), en 10 (eB s17), en 11 (j64 s18)], [.var (.st 49 [(eA 32 1 k8 a0.gMaster), (j64 ((I64 ((Int.tmod (I64 ((Int.tmod a0.gId 65535) + 65535)) 65535) + 1)))), (j64 ((I64 ((Int.tmod (I64 ((Int.tmod a0.gEpoch 3) + 3)) 3) + 1)))), (S_api_Manifest.enc a0.gM)]), .var (S_api_Asset.enc r1.gA), .mp (eM .i64 S_keys_span.enc s16), .var (.st 33 [(eA 32 1 k8 a0.gMaster), (.mp 2)])]⟩ s) N (fun _ h => ⟨_, _, _, h, jr⟩) (fun op15 g15 k s hI => ?_) fun p15 => ?_
  ·obtain ⟨s16, s17, s18, h, hj⟩ := hI
   cases k with
   | zero => cases h
   | succ k =>
    refine At.jr hj ?_ h
    refine lx ?_; intro x19
    refine lx ?_; intro x20
    refine At.c 8 ?_ ?_
    ·refine At.js 0 3 (fun p21 => ⟨[en 2 (eL 3 S_umbralaw36_Act.enc a2), en 3 (.ref 0 [] 0), en 4 (.ref 1 [] 0), en 7 (eL 1 k8 r8.1), en 9 (.ref 3 [] 0), en 10 (eB p21.2.2.2.2), en 11 (j64 s18)], [.var (.st 49 [(eA 32 1 k8 a0.gMaster), (j64 ((I64 ((Int.tmod (I64 ((Int.tmod a0.gId 65535) + 65535)) 65535) + 1)))), (j64 ((I64 ((Int.tmod (I64 ((Int.tmod a0.gEpoch 3) + 3)) 3) + 1)))), (S_api_Manifest.enc a0.gM)]), .var (S_api_Asset.enc r1.gA), .mp (eM .i64 S_keys_span.enc p21.1), .var (.st 33 [(eA 32 1 k8 a0.gMaster), (.mp 2)]), .var (S_umbralaw36_Act.enc p21.2.1), .var (S_api_Manifest.enc p21.2.2.1), .var (S_api_Asset.enc p21.2.2.2.1)]⟩) (fun op21 g21 => ?_) fun p21 => ?_
     ·refine At.j 0 1 (fun p22 => ⟨[en 2 (eL 3 S_umbralaw36_Act.enc a2), en 3 (.ref 0 [] 0), en 4 (.ref 1 [] 0), en 7 (eL 1 k8 r8.1), en 9 (.ref 3 [] 0), en 10 (eB s17), en 11 (j64 s18)], [.var (.st 49 [(eA 32 1 k8 a0.gMaster), (j64 ((I64 ((Int.tmod (I64 ((Int.tmod a0.gId 65535) + 65535)) 65535) + 1)))), (j64 ((I64 ((Int.tmod (I64 ((Int.tmod a0.gEpoch 3) + 3)) 3) + 1)))), (S_api_Manifest.enc a0.gM)]), .var (S_api_Asset.enc r1.gA), .mp (eM .i64 S_keys_span.enc p22.1), .var (.st 33 [(eA 32 1 k8 a0.gMaster), (.mp 2)]), .var (S_umbralaw36_Act.enc p22.2)]⟩) (fun p22 => ?_) fun p22 => ?_
      ·refine At.b 2 (fun _ e => big_idx hT S_umbralaw36_Act.enc e) fun e23 => ?_
       refine At.c 7 ?_ ?_
       ·refine At.b 3 (fun _ e => big_call [3, 2] (keys_Ring_Add_rd_ok e) keys_Ring_Add_rd_ok_c) fun r24 => ?_
        apply rt; exact At.jn 0
       ·refine At.c 2 ?_ ?_
        ·refine At.b 3 (fun _ e => big_call [3, 2] (keys_Ring_Rotate_rd_ok e) keys_Ring_Rotate_rd_ok_c) fun r25 => ?_
         apply rt; exact At.jn 0
        ·refine At.b 5 (fun _ e => big_call [3, 2] (keys_Ring_Retire_rdd_ok e) keys_Ring_Retire_rdd_ok_c) fun r26 => ?_
         apply rt; exact At.jn 0
      ·refine lx ?_; intro x27
       refine At.b 3 (fun _ e => big_call [3, 2] (keys_Ring_Span_rd_ok e) keys_Ring_Span_rd_ok_c) fun r28 => ?_
       refine lx ?_; intro x29
       refine lx ?_; intro x30
       refine At.c 18 ?_ ?_
       ·rintro ⟨⟩
        obtain rfl := sum_r g21
        obtain rfl := sum_e g15
        exact At.r 1
       ·refine At.b 2 (fun _ e => big_call [3, 2] (keys_Ring_Open_rd_ok e) keys_Ring_Open_rd_ok_c) fun r31 => ?_
        refine lx ?_; intro x32
        refine lx ?_; intro x33
        refine lx ?_; intro x34
        refine At.c 21 ?_ ?_
        ·refine At.j 0 0 (fun p35 => ⟨[en 2 (eL 3 S_umbralaw36_Act.enc a2), en 3 (.ref 0 [] 0), en 4 (.ref 1 [] 0), en 7 (eL 1 k8 r8.1), en 9 (.ref 3 [] 0), en 10 (eB s17), en 11 (j64 s18), en 156 (eB p35)], [.var (.st 49 [(eA 32 1 k8 a0.gMaster), (j64 ((I64 ((Int.tmod (I64 ((Int.tmod a0.gId 65535) + 65535)) 65535) + 1)))), (j64 ((I64 ((Int.tmod (I64 ((Int.tmod a0.gEpoch 3) + 3)) 3) + 1)))), (S_api_Manifest.enc a0.gM)]), .var (S_api_Asset.enc r1.gA), .mp (eM .i64 S_keys_span.enc p22.1), .var (.st 33 [(eA 32 1 k8 a0.gMaster), (.mp 2)]), .var (S_umbralaw36_Act.enc p22.2), .var (S_api_Manifest.enc r31.2.1), .var (S_api_Asset.enc r31.2.2.1)]⟩) (fun p35 => ?_) fun p35 => ?_
         ·refine lx ?_; intro x36
          refine lx ?_; intro x37
          refine lx ?_; intro x38
          refine At.s 151 12 ?_ ?_
          ·refine At.g [151] 5 ?_
           apply rt; exact At.jn 0
          ·refine At.g [151] 2 ?_
           refine At.b 0 (fun _ e => big_call [] (asset_Same_ok e) asset_Same_ok_c) fun r39 => ?_
           refine At.g [151] 2 ?_
           apply rt; exact At.jn 0
         ·refine At.c 0 ?_ ?_
          ·rintro ⟨⟩
           obtain rfl := sum_r g21
           obtain rfl := sum_e g15
           exact At.r 1
          ·apply rt; exact At.jsn 0
        ·refine lx ?_; intro x40
         refine lx ?_; intro x41
         refine lx ?_; intro x42
         refine At.c 14 ?_ ?_
         ·rintro ⟨⟩
          obtain rfl := sum_r g21
          obtain rfl := sum_e g15
          exact At.r 1
         ·apply rt; exact At.jsn 0
     ·exact fun h => At.k 3 ⟨_, _, _, h, jr⟩
    ·apply rt; exact At.xs 0
  ·refine At.b 0 (fun _ e => big_call [] (umbralaw36_works_ok e) umbralaw36_works_ok_c) fun r43 => ?_
   apply rt; exact At.r 1

end Go.UK

