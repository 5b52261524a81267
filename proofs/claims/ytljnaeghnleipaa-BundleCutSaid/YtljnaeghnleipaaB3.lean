/- A part of the proof: what the functions of the program compute. -/
import Derived.Test.YtljnaeghnleipaaB2
namespace Go.UK
open Go Go.Proofs
set_option maxRecDepth 20000
set_option maxHeartbeats 4000000
set_option linter.all false

attribute [local irreducible] owp awl aw FnM NatFn opS Stab TOK Big
def p_asset_alike_3_int_L1 (N : Nat) (a0 : (List (Vector Int 3))) (a1 : (List (Vector Int 3))) : Nat → Int → Option (Sum (Unit) (Bool))
 | 0, _ => none
 | k + 1, s3 =>
  letO (decide (s3 < ((a0.length : Int)))) fun x4 =>
  cond x4 (
   Option.bind (idx a0 s3) fun e5 =>
   Option.bind (idx a1 s3) fun e6 =>
   cond (!((eqV (fun a b => a == b)) e5 e6)) (
    some (Sum.inr false)) (
    p_asset_alike_3_int_L1 N a0 a1 k (I64 (s3 + 1)))) (
   some (Sum.inl (())))

def p_asset_alike_3_int (N : Nat) (a0 : (List (Vector Int 3))) (a1 : (List (Vector Int 3))) : Option (Bool) :=
 letO (((a0.length : Int)) != ((a1.length : Int))) fun x1 =>
 cond x1 (
  some false) (
  Option.bind (p_asset_alike_3_int_L1 N a0 a1 N 0) fun o => sumC o (fun p2 =>
   some true) (fun r => some r))

theorem asset_alike_3_int_ok {N : Nat} {a0 : (List (Vector Int 3))} {a1 : (List (Vector Int 3))} {r : Bool} (h : p_asset_alike_3_int N a0 a1 = some r) : FnM Try.prog 35 [] [(eL 3 (eA 3 1 j64) a0), (eL 3 (eA 3 1 j64) a1)] (eB r) [] := by
 unfold p_asset_alike_3_int at h
 refine fnM_of_aw (m := 26) (lo := 0) (rs := [.tmp 4]) hT Try.func35 rfl (by kernel_rfl) rfl ?_
 refine aw_sregU hT m_no [] (by kernel_rfl) ?_
 refine aw_seq ?_
 obtain ⟨x1, hx1, h⟩ := letE h
 refine aw_sregU hT m_no [] (by kernel_rfl) ?_
 refine aw_nms [(10, (eB x1))] (by subst hx1; kernel_rfl) ?_
 refine aw_condH h (by kernel_rfl) (fun _ h => ?_) (fun _ h => ?_)
 ·refine aw_sregU hT m_no [] (by kernel_rfl) ?_
  refine aw_ret (tn_r ?_)
  cases h
  exact fin_r
 ·refine aw_skip (tn_n ?_)
  refine aw_seq ?_
  refine aw_sregU hT m_no [] (by kernel_rfl) ?_
  obtain ⟨op2, h, g2⟩ := obind h
  refine aw_joinSK (fun p2 => ⟨[], []⟩) g2 ?_ (fun p2 h => ?_)
  ·refine aw_block (aw_loop (fun k s => ∃ s3, p_asset_alike_3_int_L1 N a0 a1 k s3 = some op2 ∧ JR (Fr.f 26 0) ⟨[en 0 (eL 3 (eA 3 1 j64) a0), en 1 (eL 3 (eA 3 1 j64) a1), en 12 (j64 ((a0.length : Int))), en 13 (j64 s3)], []⟩ s) (fun k s hI => ?_) N _ ⟨_, h, jr⟩)
   obtain ⟨s3, h, hj⟩ := hI
   cases k with
   | zero => cases h
   | succ k =>
    refine aw_jr hj ?_
    obtain ⟨x4, hx4, h⟩ := letE h
    refine aw_sregU hT m_no [] (by kernel_rfl) ?_
    refine aw_nms [(14, (eB x4))] (by subst hx4; kernel_rfl) ?_
    refine aw_seq ?_
    refine aw_condH h (by kernel_rfl) (fun _ h => ?_) (fun _ h => ?_)
    ·refine aw_skip (tn_n ?_)
     refine aw_seq ?_
     refine aw_block ?_
     refine aw_sregU hT m_no [] (by kernel_rfl) ?_
     obtain ⟨e5, he5, h⟩ := obind h
     obtain ⟨e6, he6, h⟩ := obind h
     refine aw_sdrawV hT hmo m_no [(2, (.im (eA 3 1 j64 e5))), (6, (.im (eA 3 1 j64 e6))), (8, (eB (!((eqV (fun a b => a == b)) e5 e6))))] [] (by kernel_rfl) (by kernel_rfl) (by kernel_rfl) ⟨fun _ => big_idx hT (eA 3 1 j64) he5, fun _ => big_idx hT (eA 3 1 j64) he6, fun _ => big_neq eqT_37 (e5 : (Vector Int 3)) (e6 : (Vector Int 3)) (by kernel_rfl) (by kernel_rfl) (fun _ => rfl) (fun _ => rfl) (by kernel_rfl) (by kernel_rfl), trivial⟩ trivial ?_
     refine aw_condH h (by kernel_rfl) (fun _ h => ?_) (fun _ h => ?_)
     ·refine aw_sregU hT m_no [] (by kernel_rfl) ?_
      cases h
      have h := g2
      refine aw_ret (inB_r (tn_r (tn_r (inB_r (tn_r (tn_r ?_))))))
      obtain rfl := sum_e h
      exact fin_r
     ·refine aw_skip (inB_n (tn_n ?_))
      refine aw_regU hT m_no [] (by kernel_rfl) (tn_n ?_)
      exact ⟨k, Nat.lt_succ_self k, _, h, jr⟩
    ·refine aw_exit (tn_x (tn_x (inB_e (tn_n ?_))))
     cases h
     exact ⟨_, rfl, jr⟩
  ·refine (tn_n ?_)
   refine aw_sregU hT m_no [] (by kernel_rfl) ?_
   refine aw_ret ?_
   cases h
   exact fin_r

theorem asset_alike_3_int_ok_c : callable Try.prog 35 := ⟨_, Try.func35, by decide, rfl⟩

def m_asset_Same : Nat → Bool := imL [2, 3]

def p_asset_Same (N : Nat) (a0 : S_api_Asset) (a1 : S_api_Asset) : Option (Bool) :=
 Option.bind (cond (a0.gKind != a1.gKind) (
  some true) (
  letO (!(S_api_Material.eq a0.gMaterial a1.gMaterial)) fun x2 =>
  cond x2 (
   some true) (
   letO (!(S_api_Light.eq a0.gLight a1.gLight)) fun x3 =>
   letO (a0.gTexture.gSide != a1.gTexture.gSide) fun x4 =>
   some (cond x3 true x4)))) fun p1 =>
 cond p1 (
  some false) (
  Option.bind (Option.bind (p_asset_alike_api_Point N a0.gMesh.gVerts a1.gMesh.gVerts) fun r6 =>
  cond r6 (
   Option.bind (p_asset_alike_2_int N a0.gMesh.gUvs a1.gMesh.gUvs) fun r7 =>
   cond r7 (
    Option.bind (p_asset_alike_3_int N a0.gMesh.gTris a1.gMesh.gTris) fun r8 =>
    cond r8 (
     Option.bind (p_asset_alike_3_int N a0.gTexture.gTexels a1.gTexture.gTexels) fun r9 =>
     some r9) (
     some false)) (
    some false)) (
   some false)) fun p5 =>
  some p5)

theorem asset_Same_ok {N : Nat} {a0 : S_api_Asset} {a1 : S_api_Asset} {r : Bool} (h : p_asset_Same N a0 a1 = some r) : FnM Try.prog 14 [] [(S_api_Asset.enc a0), (S_api_Asset.enc a1)] (eB r) [] := by
 unfold p_asset_Same at h
 refine fnM_of_aw (m := 67) (lo := 0) (rs := [.tmp 4]) hT Try.func14 rfl (by kernel_rfl) rfl ?_
 refine aw_sregU hT m_asset_Same [] (by kernel_rfl) ?_
 refine aw_seq ?_
 obtain ⟨p1, h, g1⟩ := obind h
 refine aw_joinT ⟨[en 2 (.im (S_api_Asset.enc a0)), en 3 (.im (S_api_Asset.enc a1)), en 32 (eB p1)], []⟩ ?_ ?_
 ·refine aw_region ?_
  refine awl_u hT m_asset_Same [] 6 (by kernel_rfl) ?_
  refine awl_split 10 h (by kernel_rfl) (fun h => ?_) (fun h => ?_)
  ·refine awl_u hT m_asset_Same [10, 17, 24] 22 (by kernel_rfl) ?_
   refine awl_nil (tn_n ?_)
   cases h
   exact jr
  ·refine awl_u hT m_asset_Same [10] 4 (by kernel_rfl) ?_
   refine awl_big (big_neq eqT_39 (a0.gMaterial : S_api_Material) (a1.gMaterial : S_api_Material) (by kernel_rfl) (by kernel_rfl) (fun _ => rfl) (fun _ => rfl) (by kernel_rfl) (by kernel_rfl)) (by kernel_rfl) ?_
   obtain ⟨x2, hx2, h⟩ := letE h
   refine awl_u hT m_asset_Same [10] 2 (by kernel_rfl) ?_
   refine awl_nms [(17, (eB x2))] (by subst hx2; kernel_rfl) ?_
   refine awl_split 17 h (by kernel_rfl) (fun h => ?_) (fun h => ?_)
   ·refine awl_u hT m_asset_Same [17, 24] 15 (by kernel_rfl) ?_
    refine awl_nil (tn_n ?_)
    cases h
    exact jr
   ·refine awl_u hT m_asset_Same [17] 4 (by kernel_rfl) ?_
    refine awl_big (big_neq eqT_43 (a0.gLight : S_api_Light) (a1.gLight : S_api_Light) (by kernel_rfl) (by kernel_rfl) (fun _ => rfl) (fun _ => rfl) (by kernel_rfl) (by kernel_rfl)) (by kernel_rfl) ?_
    obtain ⟨x3, hx3, h⟩ := letE h
    obtain ⟨x4, hx4, h⟩ := letE h
    refine awl_u hT m_asset_Same [17] 10 (by kernel_rfl) ?_
    refine awl_nms [(32, (eB (cond x3 true x4)))] (by subst hx4 hx3; kernel_rfl) ?_
    refine awl_nil (tn_n ?_)
    cases h
    exact jr
 ·have h := g1
  refine aw_condH h (by kernel_rfl) (fun _ h => ?_) (fun _ h => ?_)
  ·refine aw_sregU hT m_asset_Same [] (by kernel_rfl) ?_
   refine aw_ret (tn_r ?_)
   cases h
   exact fin_r
  ·refine aw_skip (tn_n ?_)
   obtain ⟨p5, h, g5⟩ := obind h
   refine aw_joinT ⟨[en 4 (eB p5)], []⟩ ?_ ?_
   ·refine aw_region ?_
    refine awl_u hT m_asset_Same [] 6 (by kernel_rfl) ?_
    obtain ⟨r6, hr6, h⟩ := obind h
    refine awl_big (big_call [] (asset_alike_api_Point_ok hr6) asset_alike_api_Point_ok_c) (by kernel_rfl) ?_
    refine awl_u hT m_asset_Same [] 1 (by kernel_rfl) ?_
    refine awl_split 40 h (by kernel_rfl) (fun h => ?_) (fun h => ?_)
    ·refine awl_u hT m_asset_Same [40] 6 (by kernel_rfl) ?_
     obtain ⟨r7, hr7, h⟩ := obind h
     refine awl_big (big_call [] (asset_alike_2_int_ok hr7) asset_alike_2_int_ok_c) (by kernel_rfl) ?_
     refine awl_u hT m_asset_Same [40] 2 (by kernel_rfl) ?_
     refine awl_split 49 h (by kernel_rfl) (fun h => ?_) (fun h => ?_)
     ·refine awl_u hT m_asset_Same [49] 6 (by kernel_rfl) ?_
      obtain ⟨r8, hr8, h⟩ := obind h
      refine awl_big (big_call [] (asset_alike_3_int_ok hr8) asset_alike_3_int_ok_c) (by kernel_rfl) ?_
      refine awl_u hT m_asset_Same [49] 2 (by kernel_rfl) ?_
      refine awl_split 58 h (by kernel_rfl) (fun h => ?_) (fun h => ?_)
      ·refine awl_u hT m_asset_Same [58] 6 (by kernel_rfl) ?_
       obtain ⟨r9, hr9, h⟩ := obind h
       refine awl_big (big_call [] (asset_alike_3_int_ok hr9) asset_alike_3_int_ok_c) (by kernel_rfl) ?_
       refine awl_u hT m_asset_Same [58] 2 (by kernel_rfl) ?_
       refine awl_nil (tn_n ?_)
       cases h
       exact jr
      ·refine awl_u hT m_asset_Same [58] 9 (by kernel_rfl) ?_
       refine awl_nil (tn_n ?_)
       cases h
       exact jr
     ·refine awl_u hT m_asset_Same [49, 58] 18 (by kernel_rfl) ?_
      refine awl_nil (tn_n ?_)
      cases h
      exact jr
    ·refine awl_u hT m_asset_Same [40, 49, 58] 27 (by kernel_rfl) ?_
     refine awl_nil (tn_n ?_)
     cases h
     exact jr
   ·have h := g5
    refine aw_ret ?_
    cases h
    exact fin_r

theorem asset_Same_ok_c : callable Try.prog 14 := ⟨_, Try.func14, by decide, rfl⟩

def p_slices_Clone_byte_byte (N : Nat) (a0 : (List Int)) : Option ((List Int)) :=
 Option.bind (appO 1 (([] : List Int)) a0) fun z1 =>
 some z1

theorem slices_Clone_byte_byte_ok {N : Nat} {a0 : (List Int)} {r : (List Int)} (h : p_slices_Clone_byte_byte N a0 = some r) : FnM Try.prog 42 [] [(eL 1 k8 a0)] (eO 0 1 k8 r) [.tail (r.length * 1)] := by
 unfold p_slices_Clone_byte_byte at h
 refine fnM_of_aw (m := 8) (lo := 0) (rs := [.tmp 2]) hT Try.func42 rfl (by kernel_rfl) rfl ?_
 refine aw_sregU hT m_no [] (by kernel_rfl) ?_
 refine aw_seq ?_
 refine aw_sreg ?_
 refine awl_u hT m_no [] 1 (by kernel_rfl) ?_
 refine awl_eqn hT (d := 4) (t := 47) (e := 5) (k := 1) (x := (eL 1 k8 a0)) (es := List.map k8 a0) rfl rfl (by kernel_rfl) rfl (by kernel_rfl) (by kernel_rfl) ?_ (fun he => ?_)
 ·refine awl_nil ?_
  refine aw_condB (b := false) (c := false) rfl (by kernel_rfl) ?_
  refine aw_skip (tn_n ?_)
  refine aw_sreg ?_
  refine awl_big (big_rowO hT k8 (k := 1) ([] : List Int) (by kernel_rfl) (by kernel_rfl)) (by kernel_rfl) ?_
  refine awl_u hT m_no [] 1 (by kernel_rfl) ?_
  obtain ⟨z1, hz1, h⟩ := obind h
  refine awl_big (big_app hT k8 (id := 0) (k := 1) hz1) (by kernel_rfl) ?_
  refine awl_u hT m_no [] 1 (by kernel_rfl) ?_
  refine awl_nil ?_
  refine aw_ret ?_
  cases h
  exact fin_r
 ·have h0 : a0 = [] := List.map_eq_nil_iff.1 he
  subst h0
  change some [] = _ at h
  refine awl_nil ?_
  refine aw_condB (b := true) (c := true) rfl (by kernel_rfl) ?_
  refine aw_sregU hT m_no [] (by kernel_rfl) ?_
  refine aw_own_nil 2 1 (by kernel_rfl) ?_
  refine aw_ret (tn_r ?_)
  cases h
  exact fin_r

theorem slices_Clone_byte_byte_ok_c : callable Try.prog 42 := ⟨_, Try.func42, by decide, rfl⟩

def p_codec_Put_L2 (N : Nat) (a1 : Int) (e7 : Int) : Nat → (List Int) → Int → Option ((List Int))
 | 0, _, _ => none
 | k + 1, s11, s12 =>
  cond (decide (s12 < a1)) (
   Option.bind (shrO .u64 e7 (I64 (8 * s12))) fun x13 =>
   Option.bind (appO 1 s11 (([U8 x13] : List Int))) fun z14 =>
   p_codec_Put_L2 N a1 e7 k z14 (I64 (s12 + 1))) (
   some s11)

def p_codec_Put_L1 (N : Nat) (a2 : (List Int)) (a1 : Int) : Nat → (List Int) → Int → Option (Sum ((List Int)) ((List Int) × Int))
 | 0, _, _ => none
 | k + 1, s4, s5 =>
  letO (decide (s5 < ((a2.length : Int)))) fun x6 =>
  cond x6 (
   Option.bind (idx a2 s5) fun e7 =>
   Option.bind (cond (decide (a1 < 8)) (
    Option.bind (shrO .u64 e7 (I64 (8 * a1))) fun x9 =>
    some (decide (x9 > 0))) (
    some false)) fun p8 =>
   cond p8 (
    some (Sum.inr (([], 3)))) (
    Option.bind (p_codec_Put_L2 N a1 e7 N s4 0) fun p10 =>
    p_codec_Put_L1 N a2 a1 k p10 (I64 (s5 + 1)))) (
   some (Sum.inl s4))

def p_codec_Put (N : Nat) (a0 : (List Int)) (a1 : Int) (a2 : (List Int)) : Option ((List Int) × Int) :=
 letO (cond (decide (a1 < 1)) true (decide (a1 > 8))) fun x1 =>
 cond x1 (
  some (([], 2))) (
  Option.bind (p_slices_Clone_byte_byte N a0) fun r2 =>
  Option.bind (p_codec_Put_L1 N a2 a1 N r2 0) fun o => sumC o (fun p3 =>
   some ((p3, 0))) (fun r => some r))

theorem codec_Put_ok {N : Nat} {a0 : (List Int)} {a1 : Int} {a2 : (List Int)} {r : (List Int) × Int} (h : p_codec_Put N a0 a1 a2 = some r) : FnM Try.prog 23 [] [(eL 1 k8 a0), (j64 a1), (eL 1 k64 a2)] (.tup [(eO 0 1 k8 r.1), (j64 r.2)]) [.tail (r.1.length * 1)] := by
 unfold p_codec_Put at h
 refine fnM_of_aw (m := 50) (lo := 0) (rs := [.tmp 6, .tmp 7]) hT Try.func23 rfl (by kernel_rfl) rfl ?_
 refine aw_sregU hT m_no [] (by kernel_rfl) ?_
 refine aw_seq ?_
 obtain ⟨x1, hx1, h⟩ := letE h
 refine aw_sregU hT m_no [] (by kernel_rfl) ?_
 refine aw_nms [(17, (eB x1))] (by subst hx1; kernel_rfl) ?_
 refine aw_condH h (by kernel_rfl) (fun _ h => ?_) (fun _ h => ?_)
 ·refine aw_sregU hT m_no [] (by kernel_rfl) ?_
  refine aw_own_nil 6 1 (by kernel_rfl) ?_
  refine aw_ret (tn_r ?_)
  cases h
  exact fin_r
 ·refine aw_skip (tn_n ?_)
  refine aw_sreg ?_
  refine awl_u hT m_no [] 1 (by kernel_rfl) ?_
  obtain ⟨r2, hr2, h⟩ := obind h
  refine awl_big (big_call [] (slices_Clone_byte_byte_ok hr2) slices_Clone_byte_byte_ok_c) (by kernel_rfl) ?_
  refine awl_u hT m_no [] 1 (by kernel_rfl) ?_
  refine awl_nil ?_
  refine aw_seq ?_
  refine aw_sregU hT m_no [] (by kernel_rfl) ?_
  obtain ⟨op3, h, g3⟩ := obind h
  refine aw_joinSK (fun p3 => ⟨[en 8 (eO 0 1 k8 p3)], [.tail (p3.length * 1)]⟩) g3 ?_ (fun p3 h => ?_)
  ·refine aw_block (aw_loop (fun k s => ∃ s4 s5, p_codec_Put_L1 N a2 a1 k s4 s5 = some op3 ∧ JR (Fr.f 50 0) ⟨[en 1 (j64 a1), en 8 (eO 0 1 k8 s4), en 20 (eL 1 k64 a2), en 21 (j64 ((a2.length : Int))), en 22 (j64 s5)], [.tail (s4.length * 1)]⟩ s) (fun k s hI => ?_) N _ ⟨_, _, h, jr⟩)
   obtain ⟨s4, s5, h, hj⟩ := hI
   cases k with
   | zero => cases h
   | succ k =>
    refine aw_jr hj ?_
    obtain ⟨x6, hx6, h⟩ := letE h
    refine aw_sregU hT m_no [] (by kernel_rfl) ?_
    refine aw_nms [(23, (eB x6))] (by subst hx6; kernel_rfl) ?_
    refine aw_seq ?_
    refine aw_condH h (by kernel_rfl) (fun _ h => ?_) (fun _ h => ?_)
    ·refine aw_skip (tn_n ?_)
     refine aw_seq ?_
     refine aw_block ?_
     refine aw_sreg ?_
     obtain ⟨e7, he7, h⟩ := obind h
     refine awl_big (big_idx hT k64 he7) (by kernel_rfl) ?_
     refine awl_u hT m_no [] 2 (by kernel_rfl) ?_
     refine awl_nil ?_
     refine aw_seq ?_
     obtain ⟨p8, h, g8⟩ := obind h
     refine aw_joinT ⟨[en 1 (j64 a1), en 8 (eO 0 1 k8 s4), en 10 (k64 e7), en 20 (eL 1 k64 a2), en 21 (j64 ((a2.length : Int))), en 22 (j64 s5), en 34 (eB p8)], [.tail (s4.length * 1)]⟩ ?_ ?_
     ·refine aw_region ?_
      refine awl_u hT m_no [] 3 (by kernel_rfl) ?_
      refine awl_split 28 h (by kernel_rfl) (fun h => ?_) (fun h => ?_)
      ·refine awl_u hT m_no [28] 3 (by kernel_rfl) ?_
       obtain ⟨x9, hx9, h⟩ := obind h
       refine awl_big (big_shr hT (k' := .i64) hx9 (by kernel_rfl) (by kernel_rfl)) (by kernel_rfl) ?_
       refine awl_u hT m_no [28] 2 (by kernel_rfl) ?_
       refine awl_nil (tn_n ?_)
       cases h
       exact jr
      ·refine awl_u hT m_no [28] 6 (by kernel_rfl) ?_
       refine awl_nil (tn_n ?_)
       cases h
       exact jr
     ·have h := g8
      refine aw_condH h (by kernel_rfl) (fun _ h => ?_) (fun _ h => ?_)
      ·refine aw_sregU hT m_no [] (by kernel_rfl) ?_
       refine aw_own_nil 6 1 (by kernel_rfl) ?_
       refine aw_sw 1 0 (by kernel_rfl) ?_
       cases h
       have h := g3
       refine aw_ret (tn_r (inB_r (tn_r (tn_r (inB_r (tn_r (tn_r ?_)))))))
       obtain rfl := sum_e h
       exact fin_r
      ·refine aw_skip (tn_n ?_)
       refine aw_sregU hT m_no [] (by kernel_rfl) ?_
       obtain ⟨p10, h, g10⟩ := obind h
       refine aw_joinTK ⟨[en 1 (j64 a1), en 8 (eO 0 1 k8 p10), en 20 (eL 1 k64 a2), en 21 (j64 ((a2.length : Int))), en 22 (j64 s5)], [.tail (p10.length * 1)]⟩ ?_ ?_
       ·refine aw_block (aw_loop (fun k s => ∃ s11 s12, p_codec_Put_L2 N a1 e7 k s11 s12 = some p10 ∧ JR (Fr.f 50 0) ⟨[en 1 (j64 a1), en 8 (eO 0 1 k8 s11), en 10 (k64 e7), en 20 (eL 1 k64 a2), en 21 (j64 ((a2.length : Int))), en 22 (j64 s5), en 35 (j64 a1), en 36 (j64 s12)], [.tail (s11.length * 1)]⟩ s) (fun k s hI => ?_) N _ ⟨_, _, h, jr⟩)
        obtain ⟨s11, s12, h, hj⟩ := hI
        cases k with
        | zero => cases h
        | succ k =>
         refine aw_jr hj ?_
         refine aw_sregU hT m_no [] (by kernel_rfl) ?_
         refine aw_seq ?_
         refine aw_condH h (by kernel_rfl) (fun _ h => ?_) (fun _ h => ?_)
         ·refine aw_skip (tn_n ?_)
          refine aw_seq ?_
          refine aw_block ?_
          refine aw_sregU hT m_no [] (by kernel_rfl) ?_
          refine aw_region ?_
          refine awl_u hT m_no [] 4 (by kernel_rfl) ?_
          obtain ⟨x13, hx13, h⟩ := obind h
          refine awl_big (big_shr hT (k' := .i64) hx13 (by kernel_rfl) (by kernel_rfl)) (by kernel_rfl) ?_
          refine awl_u hT m_no [] 1 (by kernel_rfl) ?_
          refine awl_big (big_row hT (x := (.sl 1 1 [(k8 (U8 x13))]))) (by kernel_rfl) ?_
          obtain ⟨z14, hz14, h⟩ := obind h
          refine awl_big (big_app hT k8 (id := 0) (k := 1) hz14) (by kernel_rfl) ?_
          refine awl_u hT m_no [] 1 (by kernel_rfl) ?_
          refine awl_nil (inB_n (tn_n ?_))
          refine aw_regU hT m_no [] (by kernel_rfl) (tn_n ?_)
          exact ⟨k, Nat.lt_succ_self k, _, _, h, jr⟩
         ·refine aw_exit (tn_x (tn_x (inB_e (tn_n ?_))))
          cases h
          exact jr
       ·have h := g10
        refine (inB_n (tn_n ?_))
        refine aw_regU hT m_no [] (by kernel_rfl) (tn_n ?_)
        exact ⟨k, Nat.lt_succ_self k, _, _, h, jr⟩
    ·refine aw_exit (tn_x (tn_x (inB_e (tn_n ?_))))
     cases h
     exact ⟨_, rfl, jr⟩
  ·refine (tn_n ?_)
   refine aw_sregU hT m_no [] (by kernel_rfl) ?_
   refine aw_ret ?_
   cases h
   exact fin_r

theorem codec_Put_ok_c : callable Try.prog 23 := ⟨_, Try.func23, by decide, rfl⟩

def p_codec_Signed_L1 (N : Nat) (a2 : (List Int)) (a1 : Int) : Nat → (List Int) → Int → Option (Sum ((List Int)) ((List Int) × Int))
 | 0, _, _ => none
 | k + 1, s3, s4 =>
  letO (decide (s4 < ((a2.length : Int)))) fun x5 =>
  cond x5 (
   Option.bind (idx a2 s4) fun e6 =>
   letO (I64 (64 - (I64 (8 * a1)))) fun x8 =>
   Option.bind (shlO .i64 e6 x8) fun x9 =>
   letO (I64 (64 - (I64 (8 * a1)))) fun x10 =>
   Option.bind (shrO .i64 x9 x10) fun x11 =>
   cond (x11 != e6) (
    some (Sum.inr (([], 3)))) (
    letO (I64 (64 - (I64 (8 * a1)))) fun x13 =>
    Option.bind (shlO .u64 (U64 e6) x13) fun x14 =>
    letO (I64 (64 - (I64 (8 * a1)))) fun x15 =>
    Option.bind (shrO .u64 x14 x15) fun x16 =>
    Option.bind (appO 8 s3 (([x16] : List Int))) fun z17 =>
    p_codec_Signed_L1 N a2 a1 k z17 (I64 (s4 + 1)))) (
   some (Sum.inl s3))

def p_codec_Signed (N : Nat) (a0 : (List Int)) (a1 : Int) (a2 : (List Int)) : Option ((List Int) × Int) :=
 letO (cond (decide (a1 < 1)) true (decide (a1 > 8))) fun x1 =>
 cond x1 (
  some (([], 2))) (
  Option.bind (p_codec_Signed_L1 N a2 a1 N [] 0) fun o => sumC o (fun p2 =>
   Option.bind (p_codec_Put N a0 a1 p2) fun r18 =>
   some ((r18.1, r18.2))) (fun r => some r))

theorem codec_Signed_ok {N : Nat} {a0 : (List Int)} {a1 : Int} {a2 : (List Int)} {r : (List Int) × Int} (h : p_codec_Signed N a0 a1 a2 = some r) : FnM Try.prog 59 [] [(eL 1 k8 a0), (j64 a1), (eL 1 j64 a2)] (.tup [(eO 0 1 k8 r.1), (j64 r.2)]) [.tail (r.1.length * 1)] := by
 unfold p_codec_Signed at h
 refine fnM_of_aw (m := 56) (lo := 0) (rs := [.tmp 6, .tmp 7]) hT Try.func59 rfl (by kernel_rfl) rfl ?_
 refine aw_sregU hT m_no [] (by kernel_rfl) ?_
 refine aw_seq ?_
 obtain ⟨x1, hx1, h⟩ := letE h
 refine aw_sregU hT m_no [] (by kernel_rfl) ?_
 refine aw_nms [(17, (eB x1))] (by subst hx1; kernel_rfl) ?_
 refine aw_condH h (by kernel_rfl) (fun _ h => ?_) (fun _ h => ?_)
 ·refine aw_sregU hT m_no [] (by kernel_rfl) ?_
  refine aw_own_nil 6 1 (by kernel_rfl) ?_
  refine aw_ret (tn_r ?_)
  cases h
  exact fin_r
 ·refine aw_skip (tn_n ?_)
  refine aw_sregU hT m_no [] (by kernel_rfl) ?_
  refine aw_seq ?_
  refine aw_sregU hT m_no [] (by kernel_rfl) ?_
  refine aw_own_nil 8 1 (by kernel_rfl) ?_
  obtain ⟨op2, h, g2⟩ := obind h
  refine aw_joinSK (fun p2 => ⟨[en 0 (eL 1 k8 a0), en 1 (j64 a1), en 8 (eO 0 1 k64 p2)], [.tail (p2.length * 1)]⟩) g2 ?_ (fun p2 h => ?_)
  ·refine aw_block (aw_loop (fun k s => ∃ s3 s4, p_codec_Signed_L1 N a2 a1 k s3 s4 = some op2 ∧ JR (Fr.f 56 0) ⟨[en 0 (eL 1 k8 a0), en 1 (j64 a1), en 8 (eO 0 1 k64 s3), en 18 (eL 1 j64 a2), en 19 (j64 ((a2.length : Int))), en 20 (j64 s4)], [.tail (s3.length * 1)]⟩ s) (fun k s hI => ?_) N _ ⟨_, _, h, jr⟩)
   obtain ⟨s3, s4, h, hj⟩ := hI
   cases k with
   | zero => cases h
   | succ k =>
    refine aw_jr hj ?_
    obtain ⟨x5, hx5, h⟩ := letE h
    refine aw_sregU hT m_no [] (by kernel_rfl) ?_
    refine aw_nms [(21, (eB x5))] (by subst hx5; kernel_rfl) ?_
    refine aw_seq ?_
    refine aw_condH h (by kernel_rfl) (fun _ h => ?_) (fun _ h => ?_)
    ·refine aw_skip (tn_n ?_)
     refine aw_seq ?_
     refine aw_block ?_
     refine aw_sreg ?_
     obtain ⟨e6, he6, h⟩ := obind h
     refine awl_big (big_idx hT j64 he6) (by kernel_rfl) ?_
     refine awl_u hT m_no [] 2 (by kernel_rfl) ?_
     refine awl_nil ?_
     refine aw_seq ?_
     refine aw_sreg ?_
     obtain ⟨x8, hx8, h⟩ := letE h
     refine awl_u hT m_no [] 4 (by kernel_rfl) ?_
     refine awl_nms [(27, (j64 x8))] (by subst hx8; kernel_rfl) ?_
     obtain ⟨x9, hx9, h⟩ := obind h
     refine awl_big (big_shl hT (k' := .i64) hx9 (by kernel_rfl) (by kernel_rfl)) (by kernel_rfl) ?_
     obtain ⟨x10, hx10, h⟩ := letE h
     refine awl_u hT m_no [] 3 (by kernel_rfl) ?_
     refine awl_nms [(31, (j64 x10))] (by subst hx10; kernel_rfl) ?_
     obtain ⟨x11, hx11, h⟩ := obind h
     refine awl_big (big_shr hT (k' := .i64) hx11 (by kernel_rfl) (by kernel_rfl)) (by kernel_rfl) ?_
     refine awl_u hT m_no [] 1 (by kernel_rfl) ?_
     refine awl_nil ?_
     refine aw_sregU hT m_no [] (by kernel_rfl) ?_
     refine aw_condH h (by kernel_rfl) (fun _ h => ?_) (fun _ h => ?_)
     ·refine aw_sregU hT m_no [] (by kernel_rfl) ?_
      refine aw_own_nil 6 1 (by kernel_rfl) ?_
      refine aw_sw 1 0 (by kernel_rfl) ?_
      cases h
      have h := g2
      refine aw_ret (tn_r (inB_r (tn_r (tn_r (inB_r (tn_r (tn_r ?_)))))))
      obtain rfl := sum_e h
      exact fin_r
     ·refine aw_skip (tn_n ?_)
      refine aw_region ?_
      obtain ⟨x13, hx13, h⟩ := letE h
      refine awl_u hT m_no [] 6 (by kernel_rfl) ?_
      refine awl_nms [(41, (j64 x13))] (by subst hx13; kernel_rfl) ?_
      obtain ⟨x14, hx14, h⟩ := obind h
      refine awl_big (big_shl hT (k' := .i64) hx14 (by kernel_rfl) (by kernel_rfl)) (by kernel_rfl) ?_
      first | refine awl_to ⟨[en 0 (eL 1 k8 a0), en 1 (j64 a1), en 18 (eL 1 j64 a2), en 19 (j64 ((a2.length : Int))), en 20 (j64 s4), en 36 (eO 0 1 k64 s3), en 42 (k64 x14)], [.tail (s3.length * 1)]⟩ (by kernel_rfl) ?_ | skip
      obtain ⟨x15, hx15, h⟩ := letE h
      refine awl_u hT m_no [] 3 (by kernel_rfl) ?_
      refine awl_nms [(45, (j64 x15))] (by subst hx15; kernel_rfl) ?_
      obtain ⟨x16, hx16, h⟩ := obind h
      refine awl_big (big_shr hT (k' := .i64) hx16 (by kernel_rfl) (by kernel_rfl)) (by kernel_rfl) ?_
      refine awl_big (big_row hT (x := (.sl 1 1 [(k64 x16)]))) (by kernel_rfl) ?_
      obtain ⟨z17, hz17, h⟩ := obind h
      refine awl_big (big_app hT k64 (id := 0) (k := 1) hz17) (by kernel_rfl) ?_
      refine awl_u hT m_no [] 1 (by kernel_rfl) ?_
      refine awl_nil (inB_n (tn_n ?_))
      refine aw_regU hT m_no [] (by kernel_rfl) (tn_n ?_)
      exact ⟨k, Nat.lt_succ_self k, _, _, h, jr⟩
    ·refine aw_exit (tn_x (tn_x (inB_e (tn_n ?_))))
     cases h
     exact ⟨_, rfl, jr⟩
  ·refine (tn_n ?_)
   refine aw_sreg ?_
   refine awl_u hT m_no [] 3 (by kernel_rfl) ?_
   obtain ⟨r18, hr18, h⟩ := obind h
   refine awl_big (big_call [] (codec_Put_ok hr18) codec_Put_ok_c) (by kernel_rfl) ?_
   refine awl_u hT m_no [] 4 (by kernel_rfl) ?_
   refine awl_nil ?_
   refine aw_sw 1 0 (by kernel_rfl) ?_
   refine aw_ret ?_
   cases h
   exact fin_r

theorem codec_Signed_ok_c : callable Try.prog 59 := ⟨_, Try.func59, by decide, rfl⟩

def m_mesh_Encode : Nat → Bool := imL [1]

def p_mesh_Encode_L1 (N : Nat) (x6 : Int) (a0 : S_api_Mesh) : Nat → (List Int) → Int → Option ((List Int))
 | 0, _, _ => none
 | k + 1, s8, s9 =>
  cond (decide (s9 < x6)) (
   Option.bind (idx a0.gVerts s9) fun e10 =>
   Option.bind (p_codec_Signed N s8 2 ([e10.gX, e10.gY, e10.gZ])) fun r11 =>
   p_mesh_Encode_L1 N x6 a0 k r11.1 (I64 (s9 + 1))) (
   some s8)

def p_mesh_Encode_L2 (N : Nat) (a0 : S_api_Mesh) : Nat → (List Int) → Int → Option ((List Int))
 | 0, _, _ => none
 | k + 1, s13, s14 =>
  letO (decide (s14 < ((a0.gUvs.length : Int)))) fun x15 =>
  cond x15 (
   Option.bind (idx a0.gUvs s14) fun e16 =>
   Option.bind (inRO 0 2) fun _ =>
   Option.bind (e16.toList[(Int.toNat 0)]?) fun e18 =>
   Option.bind (inRO 1 2) fun _ =>
   Option.bind (e16.toList[(Int.toNat 1)]?) fun e20 =>
   Option.bind (p_codec_Put N s13 2 ([U64 e18, U64 e20])) fun r21 =>
   p_mesh_Encode_L2 N a0 k r21.1 (I64 (s14 + 1))) (
   some s13)

def p_mesh_Encode_L3 (N : Nat) (x22 : Int) (a0 : S_api_Mesh) : Nat → (List Int) → Int → Option ((List Int))
 | 0, _, _ => none
 | k + 1, s24, s25 =>
  cond (decide (s25 < x22)) (
   Option.bind (idx a0.gTris s25) fun e26 =>
   Option.bind (inRO 0 3) fun _ =>
   Option.bind (e26.toList[(Int.toNat 0)]?) fun e28 =>
   Option.bind (inRO 1 3) fun _ =>
   Option.bind (e26.toList[(Int.toNat 1)]?) fun e30 =>
   Option.bind (inRO 2 3) fun _ =>
   Option.bind (e26.toList[(Int.toNat 2)]?) fun e32 =>
   Option.bind (appO 1 s24 (([U8 e28, U8 e30, U8 e32] : List Int))) fun z33 =>
   p_mesh_Encode_L3 N x22 a0 k z33 (I64 (s25 + 1))) (
   some s24)

def p_mesh_Encode (N : Nat) (a0 : S_api_Mesh) : Option ((List Int) × Int) :=
 Option.bind (p_mesh_Check N a0) fun r1 =>
 cond (r1 != 0) (
  some (([], r1))) (
  letO ((a0.gVerts.length : Int)) fun x4 =>
  letO ((a0.gTris.length : Int)) fun x5 =>
  letO ((a0.gVerts.length : Int)) fun x6 =>
  Option.bind (p_mesh_Encode_L1 N x6 a0 N (([U8 x4, U8 x5] : List Int)) 0) fun p7 =>
  Option.bind (p_mesh_Encode_L2 N a0 N p7 0) fun p12 =>
  letO ((a0.gTris.length : Int)) fun x22 =>
  Option.bind (p_mesh_Encode_L3 N x22 a0 N p12 0) fun p23 =>
  some ((p23, 0)))

theorem mesh_Encode_ok {N : Nat} {a0 : S_api_Mesh} {r : (List Int) × Int} (h : p_mesh_Encode N a0 = some r) : FnM Try.prog 57 [] [(S_api_Mesh.enc a0)] (.tup [(eL 1 k8 r.1), (j64 r.2)]) [] := by
 unfold p_mesh_Encode at h
 refine fnM_of_aw (m := 87) (lo := 0) (rs := [.tmp 2, .tmp 3]) hT Try.func57 rfl (by kernel_rfl) rfl ?_
 refine aw_sregU hT m_mesh_Encode [] (by kernel_rfl) ?_
 refine aw_seq ?_
 refine aw_sreg ?_
 refine awl_u hT m_mesh_Encode [] 1 (by kernel_rfl) ?_
 obtain ⟨r1, hr1, h⟩ := obind h
 refine awl_big (big_call [] (mesh_Check_ok hr1) mesh_Check_ok_c) (by kernel_rfl) ?_
 refine awl_u hT m_mesh_Encode [] 1 (by kernel_rfl) ?_
 refine awl_nil ?_
 refine aw_sregU hT m_mesh_Encode [] (by kernel_rfl) ?_
 refine aw_condH h (by kernel_rfl) (fun _ h => ?_) (fun _ h => ?_)
 ·refine aw_sregU hT m_mesh_Encode [] (by kernel_rfl) ?_
  refine aw_ret (tn_r ?_)
  cases h
  exact fin_r
 ·refine aw_skip (tn_n ?_)
  refine aw_sreg ?_
  obtain ⟨x4, hx4, h⟩ := letE h
  obtain ⟨x5, hx5, h⟩ := letE h
  refine awl_u hT m_mesh_Encode [] 8 (by kernel_rfl) ?_
  refine awl_nms [(20, (k8 (U8 x4))), (24, (k8 (U8 x5)))] (by subst hx5 hx4; kernel_rfl) ?_
  refine awl_big (big_rowO hT k8 (k := 1) ([U8 x4, U8 x5] : List Int) (by kernel_rfl) (by kernel_rfl)) (by kernel_rfl) ?_
  refine awl_u hT m_mesh_Encode [] 1 (by kernel_rfl) ?_
  refine awl_nil ?_
  refine aw_seq ?_
  obtain ⟨x6, hx6, h⟩ := letE h
  refine aw_sregU hT m_mesh_Encode [] (by kernel_rfl) ?_
  refine aw_nms [(28, (j64 x6))] (by subst hx6; kernel_rfl) ?_
  obtain ⟨p7, h, g7⟩ := obind h
  refine aw_joinTK ⟨[en 1 (.im (S_api_Mesh.enc a0)), en 5 (eO 0 1 k8 p7)], [.tail (p7.length * 1)]⟩ ?_ ?_
  ·refine aw_block (aw_loop (fun k s => ∃ s8 s9, p_mesh_Encode_L1 N x6 a0 k s8 s9 = some p7 ∧ JR (Fr.f 87 0) ⟨[en 1 (.im (S_api_Mesh.enc a0)), en 5 (eO 0 1 k8 s8), en 27 (eL 3 S_api_Point.enc a0.gVerts), en 28 (j64 x6), en 29 (j64 s9)], [.tail (s8.length * 1)]⟩ s) (fun k s hI => ?_) N _ ⟨_, _, h, jr⟩)
   obtain ⟨s8, s9, h, hj⟩ := hI
   cases k with
   | zero => cases h
   | succ k =>
    refine aw_jr hj ?_
    refine aw_sregU hT m_mesh_Encode [] (by kernel_rfl) ?_
    refine aw_seq ?_
    refine aw_condH h (by kernel_rfl) (fun _ h => ?_) (fun _ h => ?_)
    ·refine aw_skip (tn_n ?_)
     refine aw_seq ?_
     refine aw_block ?_
     refine aw_sreg ?_
     obtain ⟨e10, he10, h⟩ := obind h
     refine awl_big (big_idx hT S_api_Point.enc he10) (by kernel_rfl) ?_
     refine awl_u hT m_mesh_Encode [] 3 (by kernel_rfl) ?_
     refine awl_nil ?_
     refine aw_region ?_
     refine awl_u hT m_mesh_Encode [] 7 (by kernel_rfl) ?_
     refine awl_big (big_row hT (x := (.sl 1 3 [(j64 e10.gX), (j64 e10.gY), (j64 e10.gZ)]))) (by kernel_rfl) ?_
     obtain ⟨r11, hr11, h⟩ := obind h
     refine awl_big (big_call [] (codec_Signed_ok hr11) codec_Signed_ok_c) (by kernel_rfl) ?_
     refine awl_u hT m_mesh_Encode [] 4 (by kernel_rfl) ?_
     refine awl_nil (inB_n (tn_n ?_))
     refine aw_regU hT m_mesh_Encode [] (by kernel_rfl) (tn_n ?_)
     exact ⟨k, Nat.lt_succ_self k, _, _, h, jr_sw 2 0 (by kernel_rfl) (jr)⟩
    ·refine aw_exit (tn_x (tn_x (inB_e (tn_n ?_))))
     cases h
     exact jr
  ·have h := g7
   refine (tn_n ?_)
   refine aw_seq ?_
   refine aw_sregU hT m_mesh_Encode [] (by kernel_rfl) ?_
   obtain ⟨p12, h, g12⟩ := obind h
   refine aw_joinTK ⟨[en 1 (.im (S_api_Mesh.enc a0)), en 5 (eO 0 1 k8 p12)], [.tail (p12.length * 1)]⟩ ?_ ?_
   ·refine aw_block (aw_loop (fun k s => ∃ s13 s14, p_mesh_Encode_L2 N a0 k s13 s14 = some p12 ∧ JR (Fr.f 87 0) ⟨[en 1 (.im (S_api_Mesh.enc a0)), en 5 (eO 0 1 k8 s13), en 47 (eL 2 (eA 2 1 j64) a0.gUvs), en 48 (j64 ((a0.gUvs.length : Int))), en 49 (j64 s14)], [.tail (s13.length * 1)]⟩ s) (fun k s hI => ?_) N _ ⟨_, _, h, jr⟩)
    obtain ⟨s13, s14, h, hj⟩ := hI
    cases k with
    | zero => cases h
    | succ k =>
     refine aw_jr hj ?_
     obtain ⟨x15, hx15, h⟩ := letE h
     refine aw_sregU hT m_mesh_Encode [] (by kernel_rfl) ?_
     refine aw_nms [(50, (eB x15))] (by subst hx15; kernel_rfl) ?_
     refine aw_seq ?_
     refine aw_condH h (by kernel_rfl) (fun _ h => ?_) (fun _ h => ?_)
     ·refine aw_skip (tn_n ?_)
      refine aw_seq ?_
      refine aw_block ?_
      refine aw_sreg ?_
      obtain ⟨e16, he16, h⟩ := obind h
      refine awl_big (big_idx hT (eA 2 1 j64) he16) (by kernel_rfl) ?_
      refine awl_u hT m_mesh_Encode [] 3 (by kernel_rfl) ?_
      refine awl_nil ?_
      refine aw_region ?_
      refine awl_u hT m_mesh_Encode [] 1 (by kernel_rfl) ?_
      obtain ⟨u17, hu17, h⟩ := obind h
      refine awl_big (big_adR hT (k := 1) 1 [] 0 hu17) (by kernel_rfl) ?_
      obtain ⟨e18, he18, h⟩ := obind h
      refine awl_big (big_ldE hT j64 0 he18) (by kernel_rfl) ?_
      refine awl_u hT m_mesh_Encode [] 1 (by kernel_rfl) ?_
      obtain ⟨u19, hu19, h⟩ := obind h
      refine awl_big (big_adR hT (k := 1) 1 [] 0 hu19) (by kernel_rfl) ?_
      first | refine awl_to ⟨[en 1 (.im (S_api_Mesh.enc a0)), en 47 (eL 2 (eA 2 1 j64) a0.gUvs), en 48 (j64 ((a0.gUvs.length : Int))), en 49 (j64 s14), en 54 (eO 0 1 k8 s13), en 57 (k64 (U64 e18)), en 58 (.ref 1 [(Int.toNat 1)] (0 + (Int.toNat 1) * 1))], [.tail (s13.length * 1), .var (eA 2 1 j64 e16)]⟩ (by kernel_rfl) ?_ | skip
      obtain ⟨e20, he20, h⟩ := obind h
      refine awl_big (big_ldE hT j64 0 he20) (by kernel_rfl) ?_
      refine awl_u hT m_mesh_Encode [] 1 (by kernel_rfl) ?_
      refine awl_big (big_row hT (x := (.sl 1 2 [(k64 (U64 e18)), (k64 (U64 e20))]))) (by kernel_rfl) ?_
      obtain ⟨r21, hr21, h⟩ := obind h
      refine awl_big (big_call [] (codec_Put_ok hr21) codec_Put_ok_c) (by kernel_rfl) ?_
      refine awl_u hT m_mesh_Encode [] 4 (by kernel_rfl) ?_
      refine awl_nil (inB_n (tn_n ?_))
      refine aw_regU hT m_mesh_Encode [] (by kernel_rfl) (tn_n ?_)
      exact ⟨k, Nat.lt_succ_self k, _, _, h, jr_sw 2 0 (by kernel_rfl) (jr)⟩
     ·refine aw_exit (tn_x (tn_x (inB_e (tn_n ?_))))
      cases h
      exact jr
   ·have h := g12
    refine (tn_n ?_)
    refine aw_seq ?_
    obtain ⟨x22, hx22, h⟩ := letE h
    refine aw_sregU hT m_mesh_Encode [] (by kernel_rfl) ?_
    refine aw_nms [(68, (j64 x22))] (by subst hx22; kernel_rfl) ?_
    obtain ⟨p23, h, g23⟩ := obind h
    refine aw_joinTK ⟨[en 5 (eO 0 1 k8 p23)], [.tail (p23.length * 1)]⟩ ?_ ?_
    ·refine aw_block (aw_loop (fun k s => ∃ s24 s25, p_mesh_Encode_L3 N x22 a0 k s24 s25 = some p23 ∧ JR (Fr.f 87 0) ⟨[en 5 (eO 0 1 k8 s24), en 67 (eL 3 (eA 3 1 j64) a0.gTris), en 68 (j64 x22), en 69 (j64 s25)], [.tail (s24.length * 1)]⟩ s) (fun k s hI => ?_) N _ ⟨_, _, h, jr⟩)
     obtain ⟨s24, s25, h, hj⟩ := hI
     cases k with
     | zero => cases h
     | succ k =>
      refine aw_jr hj ?_
      refine aw_sregU hT m_mesh_Encode [] (by kernel_rfl) ?_
      refine aw_seq ?_
      refine aw_condH h (by kernel_rfl) (fun _ h => ?_) (fun _ h => ?_)
      ·refine aw_skip (tn_n ?_)
       refine aw_seq ?_
       refine aw_block ?_
       refine aw_sreg ?_
       obtain ⟨e26, he26, h⟩ := obind h
       refine awl_big (big_idx hT (eA 3 1 j64) he26) (by kernel_rfl) ?_
       refine awl_u hT m_mesh_Encode [] 3 (by kernel_rfl) ?_
       refine awl_nil ?_
       refine aw_region ?_
       refine awl_u hT m_mesh_Encode [] 1 (by kernel_rfl) ?_
       obtain ⟨u27, hu27, h⟩ := obind h
       refine awl_big (big_adR hT (k := 1) 1 [] 0 hu27) (by kernel_rfl) ?_
       first | refine awl_to ⟨[en 11 (.ref 1 [] 0), en 67 (eL 3 (eA 3 1 j64) a0.gTris), en 68 (j64 x22), en 69 (j64 s25), en 73 (eO 0 1 k8 s24), en 74 (.ref 1 [(Int.toNat 0)] (0 + (Int.toNat 0) * 1))], [.tail (s24.length * 1), .var (eA 3 1 j64 e26)]⟩ (by kernel_rfl) ?_ | skip
       obtain ⟨e28, he28, h⟩ := obind h
       refine awl_big (big_ldE hT j64 0 he28) (by kernel_rfl) ?_
       refine awl_u hT m_mesh_Encode [] 1 (by kernel_rfl) ?_
       obtain ⟨u29, hu29, h⟩ := obind h
       refine awl_big (big_adR hT (k := 1) 1 [] 0 hu29) (by kernel_rfl) ?_
       obtain ⟨e30, he30, h⟩ := obind h
       refine awl_big (big_ldE hT j64 0 he30) (by kernel_rfl) ?_
       refine awl_u hT m_mesh_Encode [] 1 (by kernel_rfl) ?_
       obtain ⟨u31, hu31, h⟩ := obind h
       refine awl_big (big_adR hT (k := 1) 1 [] 0 hu31) (by kernel_rfl) ?_
       first | refine awl_to ⟨[en 67 (eL 3 (eA 3 1 j64) a0.gTris), en 68 (j64 x22), en 69 (j64 s25), en 73 (eO 0 1 k8 s24), en 76 (k8 (U8 e28)), en 79 (k8 (U8 e30)), en 80 (.ref 1 [(Int.toNat 2)] (0 + (Int.toNat 2) * 1))], [.tail (s24.length * 1), .var (eA 3 1 j64 e26)]⟩ (by kernel_rfl) ?_ | skip
       obtain ⟨e32, he32, h⟩ := obind h
       refine awl_big (big_ldE hT j64 0 he32) (by kernel_rfl) ?_
       refine awl_u hT m_mesh_Encode [] 1 (by kernel_rfl) ?_
       refine awl_big (big_row hT (x := (.sl 1 3 [(k8 (U8 e28)), (k8 (U8 e30)), (k8 (U8 e32))]))) (by kernel_rfl) ?_
       obtain ⟨z33, hz33, h⟩ := obind h
       refine awl_big (big_app hT k8 (id := 0) (k := 1) hz33) (by kernel_rfl) ?_
       refine awl_u hT m_mesh_Encode [] 1 (by kernel_rfl) ?_
       refine awl_nil (inB_n (tn_n ?_))
       refine aw_regU hT m_mesh_Encode [] (by kernel_rfl) (tn_n ?_)
       exact ⟨k, Nat.lt_succ_self k, _, _, h, jr⟩
      ·refine aw_exit (tn_x (tn_x (inB_e (tn_n ?_))))
       cases h
       exact jr
    ·have h := g23
     refine (tn_n ?_)
     refine aw_sregU hT m_mesh_Encode [] (by kernel_rfl) ?_
     refine aw_ret ?_
     cases h
     exact fin_r

theorem mesh_Encode_ok_c : callable Try.prog 57 := ⟨_, Try.func57, by decide, rfl⟩

end Go.UK

