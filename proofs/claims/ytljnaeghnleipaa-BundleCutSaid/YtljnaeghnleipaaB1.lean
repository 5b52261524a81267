/- A part of the proof: what the functions of the program compute. -/
import Derived.Test.YtljnaeghnleipaaBT
namespace Go.UK
open Go Go.Proofs
set_option maxRecDepth 20000
set_option maxHeartbeats 4000000
set_option linter.all false

attribute [local irreducible] owp awl aw FnM NatFn opS Stab TOK Big
def m_umbralaw13_Few : Nat → Bool := imL [1]

def p_umbralaw13_Few (N : Nat) (a0 : S_api_Mesh) : Option (S_api_Mesh) :=
 letO ((a0.gVerts.length : Int)) fun x1 =>
 Option.bind (slcO a0.gVerts 0 (imin x1 70)) fun s2 =>
 letO (imin ((a0.gUvs.length : Int)) 70) fun x3 =>
 Option.bind (slcO a0.gUvs 0 x3) fun s4 =>
 letO ((a0.gTris.length : Int)) fun x5 =>
 Option.bind (slcO a0.gTris 0 (imin x5 70)) fun s6 =>
 some (S_api_Mesh.mk s2 s4 s6)

theorem umbralaw13_Few_ok {N : Nat} {a0 : S_api_Mesh} {r : S_api_Mesh} (h : p_umbralaw13_Few N a0 = some r) : FnM Try.prog 18 [] [(S_api_Mesh.enc a0)] (S_api_Mesh.enc r) [] := by
 unfold p_umbralaw13_Few at h
 refine fnM_of_aw (m := 25) (lo := 0) (rs := [.cell 2 34]) hT Try.func18 rfl (by kernel_rfl) rfl ?_
 refine aw_sregU hT m_umbralaw13_Few [] (by kernel_rfl) ?_
 obtain ⟨x1, hx1, h⟩ := letE h
 obtain ⟨s2, hs2, h⟩ := obind h
 obtain ⟨x3, hx3, h⟩ := letE h
 obtain ⟨s4, hs4, h⟩ := obind h
 obtain ⟨x5, hx5, h⟩ := letE h
 obtain ⟨s6, hs6, h⟩ := obind h
 refine aw_sdrawV hT hmo m_umbralaw13_Few [(6, (eL 3 S_api_Point.enc s2)), (13, (eL 2 (eA 2 1 j64) s4)), (20, (eL 3 (eA 3 1 j64) s6))] [] (by subst hx5 hx3 hx1; kernel_rfl) (by subst hx5 hx3 hx1; kernel_rfl) (by kernel_rfl) ⟨fun _ => big_slc hT (k := 3) S_api_Point.enc hs2 (by subst hx1; kernel_rfl) (by subst hx1; kernel_rfl), fun _ => big_slc hT (k := 2) (eA 2 1 j64) hs4 (by subst hx3 hx1; kernel_rfl) (by subst hx3 hx1; kernel_rfl), fun _ => big_slc hT (k := 3) (eA 3 1 j64) hs6 (by subst hx5 hx3 hx1; kernel_rfl) (by subst hx5 hx3 hx1; kernel_rfl), trivial⟩ trivial ?_
 refine aw_ret ?_
 cases h
 exact fin_r

theorem umbralaw13_Few_ok_c : callable Try.prog 18 := ⟨_, Try.func18, by decide, rfl⟩

def p_umbralaw16_few (N : Nat) (a0 : S_api_Asset) : Option (S_api_Asset) :=
 Option.bind (p_umbralaw13_Few N a0.gMesh) fun r1 =>
 letO ((a0.gTexture.gTexels.length : Int)) fun x3 =>
 Option.bind (slcO a0.gTexture.gTexels 0 (imin x3 260)) fun s4 =>
 some (S_api_Asset.mk a0.gKind r1 (S_api_Texture.mk a0.gTexture.gSide s4) a0.gMaterial a0.gLight)

theorem umbralaw16_few_ok {N : Nat} {a0 : S_api_Asset} {r : S_api_Asset} (h : p_umbralaw16_few N a0 = some r) : FnM Try.prog 7 [] [(S_api_Asset.enc a0)] (S_api_Asset.enc r) [] := by
 unfold p_umbralaw16_few at h
 refine fnM_of_aw (m := 19) (lo := 0) (rs := [.cell 2 45]) hT Try.func7 rfl (by kernel_rfl) rfl ?_
 refine aw_sregU hT m_no [] (by kernel_rfl) ?_
 refine aw_sreg ?_
 refine awl_u hT m_no [] 2 (by kernel_rfl) ?_
 obtain ⟨r1, hr1, h⟩ := obind h
 refine awl_big (big_call [] (umbralaw13_Few_ok hr1) umbralaw13_Few_ok_c) (by kernel_rfl) ?_
 refine awl_u hT m_no [] 2 (by kernel_rfl) ?_
 refine awl_nil ?_
 refine aw_sreg ?_
 obtain ⟨x3, hx3, h⟩ := letE h
 refine awl_u hT m_no [] 8 (by kernel_rfl) ?_
 refine awl_nms [(14, (j64 (imin x3 260)))] (by subst hx3; kernel_rfl) ?_
 obtain ⟨s4, hs4, h⟩ := obind h
 refine awl_big (big_slc hT (k := 3) (eA 3 1 j64) hs4) (by kernel_rfl) ?_
 refine awl_u hT m_no [] 3 (by kernel_rfl) ?_
 refine awl_nil ?_
 refine aw_sregU hT m_no [] (by kernel_rfl) ?_
 refine aw_ret ?_
 cases h
 exact fin_r

theorem umbralaw16_few_ok_c : callable Try.prog 7 := ⟨_, Try.func7, by decide, rfl⟩

def m_mesh_Check_1 : Nat → Bool := imL [1]

def p_mesh_Check_1 (N : Nat) (a0 : S_api_Point) : Option (Bool) :=
 Option.bind (letO (decide ((imax (imax a0.gX a0.gY) a0.gZ) > 4096)) fun x2 =>
 cond x2 (
  some true) (
  letO (decide ((imin (imin a0.gX a0.gY) a0.gZ) < (-4096))) fun x3 =>
  some x3)) fun p1 =>
 some p1

theorem mesh_Check_1_ok {N : Nat} {a0 : S_api_Point} {r : Bool} (h : p_mesh_Check_1 N a0 = some r) : FnM Try.prog 75 [] [(S_api_Point.enc a0)] (eB r) [] := by
 unfold p_mesh_Check_1 at h
 refine fnM_of_aw (m := 21) (lo := 0) (rs := [.tmp 2]) hT Try.func75 rfl (by kernel_rfl) rfl ?_
 refine aw_sregU hT m_mesh_Check_1 [] (by kernel_rfl) ?_
 obtain ⟨p1, h, g1⟩ := obind h
 refine aw_joinT ⟨[en 2 (eB p1)], []⟩ ?_ ?_
 ·refine aw_region ?_
  refine awl_u hT m_mesh_Check_1 [] 6 (by kernel_rfl) ?_
  refine awl_big (big_max3 (k := .i64) (i := a0.gX) (j := a0.gY) (l := a0.gZ) (by kernel_rfl) (by kernel_rfl)) (by kernel_rfl) ?_
  obtain ⟨x2, hx2, h⟩ := letE h
  refine awl_u hT m_mesh_Check_1 [] 2 (by kernel_rfl) ?_
  refine awl_nms [(11, (eB x2))] (by subst hx2; kernel_rfl) ?_
  refine awl_split 11 h (by kernel_rfl) (fun h => ?_) (fun h => ?_)
  ·refine awl_u hT m_mesh_Check_1 [11] 10 (by kernel_rfl) ?_
   refine awl_nil (tn_n ?_)
   cases h
   exact jr
  ·refine awl_u hT m_mesh_Check_1 [11] 6 (by kernel_rfl) ?_
   refine awl_big (big_min3 (k := .i64) (i := a0.gX) (j := a0.gY) (l := a0.gZ) (by kernel_rfl) (by kernel_rfl)) (by kernel_rfl) ?_
   obtain ⟨x3, hx3, h⟩ := letE h
   refine awl_u hT m_mesh_Check_1 [11] 3 (by kernel_rfl) ?_
   refine awl_nms [(2, (eB x3))] (by subst hx3; kernel_rfl) ?_
   refine awl_nil (tn_n ?_)
   cases h
   exact jr
 ·have h := g1
  refine aw_ret ?_
  cases h
  exact fin_r

theorem mesh_Check_1_ok_c : callable Try.prog 75 := ⟨_, Try.func75, by decide, rfl⟩

def p_slices_IndexFunc_api_Point_api_Point_Check_1_L1 (N : Nat) (a0 : (List S_api_Point)) : Nat → Int → Option (Sum (Unit) (Int))
 | 0, _ => none
 | k + 1, s2 =>
  letO (decide (s2 < ((a0.length : Int)))) fun x3 =>
  cond x3 (
   Option.bind (idx a0 s2) fun e4 =>
   Option.bind (p_mesh_Check_1 N e4) fun r5 =>
   cond r5 (
    some (Sum.inr s2)) (
    p_slices_IndexFunc_api_Point_api_Point_Check_1_L1 N a0 k (I64 (s2 + 1)))) (
   some (Sum.inl (())))

def p_slices_IndexFunc_api_Point_api_Point_Check_1 (N : Nat) (a0 : (List S_api_Point)) : Option (Int) :=
 Option.bind (p_slices_IndexFunc_api_Point_api_Point_Check_1_L1 N a0 N 0) fun o => sumC o (fun p1 =>
  some (-1)) (fun r => some r)

theorem slices_IndexFunc_api_Point_api_Point_Check_1_ok {N : Nat} {a0 : (List S_api_Point)} {r : Int} (h : p_slices_IndexFunc_api_Point_api_Point_Check_1 N a0 = some r) : FnM Try.prog 91 [] [(eL 3 S_api_Point.enc a0), (.fn (.func 75) [] [])] (j64 r) [] := by
 unfold p_slices_IndexFunc_api_Point_api_Point_Check_1 at h
 refine fnM_of_aw (m := 19) (lo := 0) (rs := [.tmp 4]) hT Try.func91 rfl (by kernel_rfl) rfl ?_
 refine aw_sregU hT m_no [] (by kernel_rfl) ?_
 refine aw_seq ?_
 refine aw_sregU hT m_no [] (by kernel_rfl) ?_
 obtain ⟨op1, h, g1⟩ := obind h
 refine aw_joinSK (fun p1 => ⟨[], []⟩) g1 ?_ (fun p1 h => ?_)
 ·refine aw_block (aw_loop (fun k s => ∃ s2, p_slices_IndexFunc_api_Point_api_Point_Check_1_L1 N a0 k s2 = some op1 ∧ JR (Fr.f 19 0) ⟨[en 0 (eL 3 S_api_Point.enc a0), en 1 (.fn (.func 75) [] []), en 7 (j64 ((a0.length : Int))), en 8 (j64 s2)], []⟩ s) (fun k s hI => ?_) N _ ⟨_, h, jr⟩)
  obtain ⟨s2, h, hj⟩ := hI
  cases k with
  | zero => cases h
  | succ k =>
   refine aw_jr hj ?_
   obtain ⟨x3, hx3, h⟩ := letE h
   refine aw_sregU hT m_no [] (by kernel_rfl) ?_
   refine aw_nms [(9, (eB x3))] (by subst hx3; kernel_rfl) ?_
   refine aw_seq ?_
   refine aw_condH h (by kernel_rfl) (fun _ h => ?_) (fun _ h => ?_)
   ·refine aw_skip (tn_n ?_)
    refine aw_seq ?_
    refine aw_block ?_
    refine aw_sregU hT m_no [] (by kernel_rfl) ?_
    refine aw_sreg ?_
    refine awl_u hT m_no [] 3 (by kernel_rfl) ?_
    obtain ⟨e4, he4, h⟩ := obind h
    refine awl_big (big_idx hT S_api_Point.enc he4) (by kernel_rfl) ?_
    refine awl_u hT m_no [] 1 (by kernel_rfl) ?_
    obtain ⟨r5, hr5, h⟩ := obind h
    refine awl_big (big_call [] (mesh_Check_1_ok hr5) mesh_Check_1_ok_c) (by kernel_rfl) ?_
    refine awl_nil ?_
    refine aw_condH h (by kernel_rfl) (fun _ h => ?_) (fun _ h => ?_)
    ·refine aw_sregU hT m_no [] (by kernel_rfl) ?_
     cases h
     have h := g1
     refine aw_ret (inB_r (tn_r (tn_r (inB_r (tn_r (tn_r ?_))))))
     obtain rfl := sum_e h
     exact fin_r
    ·refine aw_skip (inB_n (tn_n ?_))
     refine aw_regU hT m_no [] (by kernel_rfl) (tn_n ?_)
     exact ⟨k, Nat.lt_succ_self k, _, h, jr⟩
   ·refine aw_exit (tn_x (tn_x (inB_e (tn_n ?_))))
    cases h
    exact ⟨_, rfl, jr⟩
 ·refine (tn_n ?_)
  refine aw_sregU hT m_no [] (by kernel_rfl) ?_
  refine aw_ret ?_
  cases h
  exact fin_r

theorem slices_IndexFunc_api_Point_api_Point_Check_1_ok_c : callable Try.prog 91 := ⟨_, Try.func91, by decide, rfl⟩

def p_slices_ContainsFunc_api_Point_api_Point_Check_1 (N : Nat) (a0 : (List S_api_Point)) : Option (Bool) :=
 Option.bind (p_slices_IndexFunc_api_Point_api_Point_Check_1 N a0) fun r1 =>
 some (decide (r1 ≥ 0))

theorem slices_ContainsFunc_api_Point_api_Point_Check_1_ok {N : Nat} {a0 : (List S_api_Point)} {r : Bool} (h : p_slices_ContainsFunc_api_Point_api_Point_Check_1 N a0 = some r) : FnM Try.prog 78 [] [(eL 3 S_api_Point.enc a0), (.fn (.func 75) [] [])] (eB r) [] := by
 unfold p_slices_ContainsFunc_api_Point_api_Point_Check_1 at h
 refine fnM_of_aw (m := 9) (lo := 0) (rs := [.tmp 4]) hT Try.func78 rfl (by kernel_rfl) rfl ?_
 refine aw_sregU hT m_no [] (by kernel_rfl) ?_
 refine aw_sreg ?_
 refine awl_u hT m_no [] 2 (by kernel_rfl) ?_
 obtain ⟨r1, hr1, h⟩ := obind h
 refine awl_big (big_call [] (slices_IndexFunc_api_Point_api_Point_Check_1_ok hr1) slices_IndexFunc_api_Point_api_Point_Check_1_ok_c) (by kernel_rfl) ?_
 refine awl_u hT m_no [] 2 (by kernel_rfl) ?_
 refine awl_nil ?_
 refine aw_ret ?_
 cases h
 exact fin_r

theorem slices_ContainsFunc_api_Point_api_Point_Check_1_ok_c : callable Try.prog 78 := ⟨_, Try.func78, by decide, rfl⟩

def m_mesh_Check_2 : Nat → Bool := imL [1]

def p_mesh_Check_2 (N : Nat) (a0 : (Vector Int 2)) : Option (Bool) :=
 Option.bind (Option.bind (idx a0.toList 0) fun e2 =>
 Option.bind (idx a0.toList 1) fun e3 =>
 letO (decide ((imin e2 e3) < 0)) fun x4 =>
 cond x4 (
  some true) (
  Option.bind (idx a0.toList 0) fun e5 =>
  Option.bind (idx a0.toList 1) fun e6 =>
  letO (decide ((imax e5 e6) > 65535)) fun x7 =>
  some x7)) fun p1 =>
 some p1

theorem mesh_Check_2_ok {N : Nat} {a0 : (Vector Int 2)} {r : Bool} (h : p_mesh_Check_2 N a0 = some r) : FnM Try.prog 76 [] [(eA 2 1 j64 a0)] (eB r) [] := by
 unfold p_mesh_Check_2 at h
 refine fnM_of_aw (m := 17) (lo := 0) (rs := [.tmp 2]) hT Try.func76 rfl (by kernel_rfl) rfl ?_
 refine aw_sregU hT m_mesh_Check_2 [] (by kernel_rfl) ?_
 obtain ⟨p1, h, g1⟩ := obind h
 refine aw_joinT ⟨[en 2 (eB p1)], []⟩ ?_ ?_
 ·refine aw_region ?_
  obtain ⟨e2, he2, h⟩ := obind h
  refine awl_big (big_adI hT (N := 2) (k := 1) j64 a0 he2) (by kernel_rfl) ?_
  refine awl_u hT m_mesh_Check_2 [] 1 (by kernel_rfl) ?_
  obtain ⟨e3, he3, h⟩ := obind h
  refine awl_big (big_adI hT (N := 2) (k := 1) j64 a0 he3) (by kernel_rfl) ?_
  obtain ⟨x4, hx4, h⟩ := letE h
  refine awl_u hT m_mesh_Check_2 [] 4 (by kernel_rfl) ?_
  refine awl_nms [(9, (eB x4))] (by subst hx4; kernel_rfl) ?_
  refine awl_split 9 h (by kernel_rfl) (fun h => ?_) (fun h => ?_)
  ·refine awl_u hT m_mesh_Check_2 [9] 8 (by kernel_rfl) ?_
   refine awl_nil (tn_n ?_)
   cases h
   exact jr
  ·obtain ⟨e5, he5, h⟩ := obind h
   refine awl_big (big_adI hT (N := 2) (k := 1) j64 a0 he5) (by kernel_rfl) ?_
   refine awl_u hT m_mesh_Check_2 [9] 1 (by kernel_rfl) ?_
   obtain ⟨e6, he6, h⟩ := obind h
   refine awl_big (big_adI hT (N := 2) (k := 1) j64 a0 he6) (by kernel_rfl) ?_
   obtain ⟨x7, hx7, h⟩ := letE h
   refine awl_u hT m_mesh_Check_2 [9] 5 (by kernel_rfl) ?_
   refine awl_nms [(2, (eB x7))] (by subst hx7; kernel_rfl) ?_
   refine awl_nil (tn_n ?_)
   cases h
   exact jr
 ·have h := g1
  refine aw_ret ?_
  cases h
  exact fin_r

theorem mesh_Check_2_ok_c : callable Try.prog 76 := ⟨_, Try.func76, by decide, rfl⟩

def p_slices_IndexFunc_2_int_2_int_Check_2_L1 (N : Nat) (a0 : (List (Vector Int 2))) : Nat → Int → Option (Sum (Unit) (Int))
 | 0, _ => none
 | k + 1, s2 =>
  letO (decide (s2 < ((a0.length : Int)))) fun x3 =>
  cond x3 (
   Option.bind (idx a0 s2) fun e4 =>
   Option.bind (p_mesh_Check_2 N e4) fun r5 =>
   cond r5 (
    some (Sum.inr s2)) (
    p_slices_IndexFunc_2_int_2_int_Check_2_L1 N a0 k (I64 (s2 + 1)))) (
   some (Sum.inl (())))

def p_slices_IndexFunc_2_int_2_int_Check_2 (N : Nat) (a0 : (List (Vector Int 2))) : Option (Int) :=
 Option.bind (p_slices_IndexFunc_2_int_2_int_Check_2_L1 N a0 N 0) fun o => sumC o (fun p1 =>
  some (-1)) (fun r => some r)

theorem slices_IndexFunc_2_int_2_int_Check_2_ok {N : Nat} {a0 : (List (Vector Int 2))} {r : Int} (h : p_slices_IndexFunc_2_int_2_int_Check_2 N a0 = some r) : FnM Try.prog 92 [] [(eL 2 (eA 2 1 j64) a0), (.fn (.func 76) [] [])] (j64 r) [] := by
 unfold p_slices_IndexFunc_2_int_2_int_Check_2 at h
 refine fnM_of_aw (m := 19) (lo := 0) (rs := [.tmp 4]) hT Try.func92 rfl (by kernel_rfl) rfl ?_
 refine aw_sregU hT m_no [] (by kernel_rfl) ?_
 refine aw_seq ?_
 refine aw_sregU hT m_no [] (by kernel_rfl) ?_
 obtain ⟨op1, h, g1⟩ := obind h
 refine aw_joinSK (fun p1 => ⟨[], []⟩) g1 ?_ (fun p1 h => ?_)
 ·refine aw_block (aw_loop (fun k s => ∃ s2, p_slices_IndexFunc_2_int_2_int_Check_2_L1 N a0 k s2 = some op1 ∧ JR (Fr.f 19 0) ⟨[en 0 (eL 2 (eA 2 1 j64) a0), en 1 (.fn (.func 76) [] []), en 7 (j64 ((a0.length : Int))), en 8 (j64 s2)], []⟩ s) (fun k s hI => ?_) N _ ⟨_, h, jr⟩)
  obtain ⟨s2, h, hj⟩ := hI
  cases k with
  | zero => cases h
  | succ k =>
   refine aw_jr hj ?_
   obtain ⟨x3, hx3, h⟩ := letE h
   refine aw_sregU hT m_no [] (by kernel_rfl) ?_
   refine aw_nms [(9, (eB x3))] (by subst hx3; kernel_rfl) ?_
   refine aw_seq ?_
   refine aw_condH h (by kernel_rfl) (fun _ h => ?_) (fun _ h => ?_)
   ·refine aw_skip (tn_n ?_)
    refine aw_seq ?_
    refine aw_block ?_
    refine aw_sregU hT m_no [] (by kernel_rfl) ?_
    refine aw_sreg ?_
    refine awl_u hT m_no [] 3 (by kernel_rfl) ?_
    obtain ⟨e4, he4, h⟩ := obind h
    refine awl_big (big_idx hT (eA 2 1 j64) he4) (by kernel_rfl) ?_
    refine awl_u hT m_no [] 1 (by kernel_rfl) ?_
    obtain ⟨r5, hr5, h⟩ := obind h
    refine awl_big (big_call [] (mesh_Check_2_ok hr5) mesh_Check_2_ok_c) (by kernel_rfl) ?_
    refine awl_nil ?_
    refine aw_condH h (by kernel_rfl) (fun _ h => ?_) (fun _ h => ?_)
    ·refine aw_sregU hT m_no [] (by kernel_rfl) ?_
     cases h
     have h := g1
     refine aw_ret (inB_r (tn_r (tn_r (inB_r (tn_r (tn_r ?_))))))
     obtain rfl := sum_e h
     exact fin_r
    ·refine aw_skip (inB_n (tn_n ?_))
     refine aw_regU hT m_no [] (by kernel_rfl) (tn_n ?_)
     exact ⟨k, Nat.lt_succ_self k, _, h, jr⟩
   ·refine aw_exit (tn_x (tn_x (inB_e (tn_n ?_))))
    cases h
    exact ⟨_, rfl, jr⟩
 ·refine (tn_n ?_)
  refine aw_sregU hT m_no [] (by kernel_rfl) ?_
  refine aw_ret ?_
  cases h
  exact fin_r

theorem slices_IndexFunc_2_int_2_int_Check_2_ok_c : callable Try.prog 92 := ⟨_, Try.func92, by decide, rfl⟩

def p_slices_ContainsFunc_2_int_2_int_Check_2 (N : Nat) (a0 : (List (Vector Int 2))) : Option (Bool) :=
 Option.bind (p_slices_IndexFunc_2_int_2_int_Check_2 N a0) fun r1 =>
 some (decide (r1 ≥ 0))

theorem slices_ContainsFunc_2_int_2_int_Check_2_ok {N : Nat} {a0 : (List (Vector Int 2))} {r : Bool} (h : p_slices_ContainsFunc_2_int_2_int_Check_2 N a0 = some r) : FnM Try.prog 79 [] [(eL 2 (eA 2 1 j64) a0), (.fn (.func 76) [] [])] (eB r) [] := by
 unfold p_slices_ContainsFunc_2_int_2_int_Check_2 at h
 refine fnM_of_aw (m := 9) (lo := 0) (rs := [.tmp 4]) hT Try.func79 rfl (by kernel_rfl) rfl ?_
 refine aw_sregU hT m_no [] (by kernel_rfl) ?_
 refine aw_sreg ?_
 refine awl_u hT m_no [] 2 (by kernel_rfl) ?_
 obtain ⟨r1, hr1, h⟩ := obind h
 refine awl_big (big_call [] (slices_IndexFunc_2_int_2_int_Check_2_ok hr1) slices_IndexFunc_2_int_2_int_Check_2_ok_c) (by kernel_rfl) ?_
 refine awl_u hT m_no [] 2 (by kernel_rfl) ?_
 refine awl_nil ?_
 refine aw_ret ?_
 cases h
 exact fin_r

theorem slices_ContainsFunc_2_int_2_int_Check_2_ok_c : callable Try.prog 79 := ⟨_, Try.func79, by decide, rfl⟩

def m_mesh_Check_3_di : Nat → Bool := imL [2]

def p_mesh_Check_3_di (N : Nat) (a0 : (Vector Int 3)) (a1 : S_api_Mesh) : Option (Bool) :=
 Option.bind (Option.bind (idx a0.toList 0) fun e2 =>
 Option.bind (idx a0.toList 1) fun e3 =>
 Option.bind (idx a0.toList 2) fun e4 =>
 letO (decide ((imin (imin e2 e3) e4) < 0)) fun x5 =>
 cond x5 (
  some true) (
  Option.bind (idx a0.toList 0) fun e6 =>
  Option.bind (idx a0.toList 1) fun e7 =>
  Option.bind (idx a0.toList 2) fun e8 =>
  letO ((a1.gVerts.length : Int)) fun x9 =>
  letO (decide ((imax (imax e6 e7) e8) ≥ x9)) fun x10 =>
  cond x10 (
   some true) (
   Option.bind (idx a0.toList 0) fun e11 =>
   Option.bind (idx a0.toList 1) fun e12 =>
   cond (e11 == e12) (
    some true) (
    Option.bind (idx a0.toList 1) fun e13 =>
    Option.bind (idx a0.toList 2) fun e14 =>
    cond (e13 == e14) (
     some true) (
     Option.bind (idx a0.toList 2) fun e15 =>
     Option.bind (idx a0.toList 0) fun e16 =>
     some (e15 == e16)))))) fun p1 =>
 some p1

theorem mesh_Check_3_di_ok {N : Nat} {a0 : (Vector Int 3)} {a1 : S_api_Mesh} {r : Bool} (h : p_mesh_Check_3_di N a0 a1 = some r) : FnM Try.prog 77 [] [(eA 3 1 j64 a0), (.im (S_api_Mesh.enc a1))] (eB r) [] := by
 unfold p_mesh_Check_3_di at h
 refine fnM_of_aw (m := 46) (lo := 0) (rs := [.tmp 3]) hT Try.func77 rfl (by kernel_rfl) rfl ?_
 refine aw_sregU hT m_mesh_Check_3_di [] (by kernel_rfl) ?_
 obtain ⟨p1, h, g1⟩ := obind h
 refine aw_joinT ⟨[en 3 (eB p1)], []⟩ ?_ ?_
 ·refine aw_region ?_
  obtain ⟨e2, he2, h⟩ := obind h
  refine awl_big (big_adI hT (N := 3) (k := 1) j64 a0 he2) (by kernel_rfl) ?_
  first | refine awl_to ⟨[en 1 (.im (S_api_Mesh.enc a1)), en 2 (.im (eA 3 1 j64 a0)), en 4 (.im (j64 e2))], []⟩ (by kernel_rfl) ?_ | skip
  refine awl_u hT m_mesh_Check_3_di [] 1 (by kernel_rfl) ?_
  obtain ⟨e3, he3, h⟩ := obind h
  refine awl_big (big_adI hT (N := 3) (k := 1) j64 a0 he3) (by kernel_rfl) ?_
  refine awl_u hT m_mesh_Check_3_di [] 1 (by kernel_rfl) ?_
  obtain ⟨e4, he4, h⟩ := obind h
  refine awl_big (big_adI hT (N := 3) (k := 1) j64 a0 he4) (by kernel_rfl) ?_
  refine awl_u hT m_mesh_Check_3_di [] 1 (by kernel_rfl) ?_
  refine awl_big (big_min3 (k := .i64) (i := e2) (j := e3) (l := e4) (by kernel_rfl) (by kernel_rfl)) (by kernel_rfl) ?_
  obtain ⟨x5, hx5, h⟩ := letE h
  refine awl_u hT m_mesh_Check_3_di [] 2 (by kernel_rfl) ?_
  refine awl_nms [(12, (eB x5))] (by subst hx5; kernel_rfl) ?_
  refine awl_split 12 h (by kernel_rfl) (fun h => ?_) (fun h => ?_)
  ·refine awl_u hT m_mesh_Check_3_di [12, 25, 32, 39] 34 (by kernel_rfl) ?_
   refine awl_nil (tn_n ?_)
   cases h
   exact jr
  ·obtain ⟨e6, he6, h⟩ := obind h
   refine awl_big (big_adI hT (N := 3) (k := 1) j64 a0 he6) (by kernel_rfl) ?_
   first | refine awl_to ⟨[en 1 (.im (S_api_Mesh.enc a1)), en 2 (.im (eA 3 1 j64 a0)), en 12 (eB false), en 13 (.im (j64 e6))], []⟩ (by kernel_rfl) ?_ | skip
   refine awl_u hT m_mesh_Check_3_di [12] 1 (by kernel_rfl) ?_
   obtain ⟨e7, he7, h⟩ := obind h
   refine awl_big (big_adI hT (N := 3) (k := 1) j64 a0 he7) (by kernel_rfl) ?_
   refine awl_u hT m_mesh_Check_3_di [12] 1 (by kernel_rfl) ?_
   obtain ⟨e8, he8, h⟩ := obind h
   refine awl_big (big_adI hT (N := 3) (k := 1) j64 a0 he8) (by kernel_rfl) ?_
   refine awl_u hT m_mesh_Check_3_di [12] 1 (by kernel_rfl) ?_
   refine awl_big (big_max3 (k := .i64) (i := e6) (j := e7) (l := e8) (by kernel_rfl) (by kernel_rfl)) (by kernel_rfl) ?_
   obtain ⟨x9, hx9, h⟩ := letE h
   obtain ⟨x10, hx10, h⟩ := letE h
   refine awl_u hT m_mesh_Check_3_di [12] 6 (by kernel_rfl) ?_
   refine awl_nms [(25, (eB x10))] (by subst hx10 hx9; kernel_rfl) ?_
   refine awl_split 25 h (by kernel_rfl) (fun h => ?_) (fun h => ?_)
   ·refine awl_u hT m_mesh_Check_3_di [25, 32, 39] 21 (by kernel_rfl) ?_
    refine awl_nil (tn_n ?_)
    cases h
    exact jr
   ·obtain ⟨e11, he11, h⟩ := obind h
    refine awl_big (big_adI hT (N := 3) (k := 1) j64 a0 he11) (by kernel_rfl) ?_
    refine awl_u hT m_mesh_Check_3_di [25] 1 (by kernel_rfl) ?_
    obtain ⟨e12, he12, h⟩ := obind h
    refine awl_big (big_adI hT (N := 3) (k := 1) j64 a0 he12) (by kernel_rfl) ?_
    refine awl_u hT m_mesh_Check_3_di [25] 4 (by kernel_rfl) ?_
    refine awl_split 32 h (by kernel_rfl) (fun h => ?_) (fun h => ?_)
    ·refine awl_u hT m_mesh_Check_3_di [32, 39] 14 (by kernel_rfl) ?_
     refine awl_nil (tn_n ?_)
     cases h
     exact jr
    ·obtain ⟨e13, he13, h⟩ := obind h
     refine awl_big (big_adI hT (N := 3) (k := 1) j64 a0 he13) (by kernel_rfl) ?_
     refine awl_u hT m_mesh_Check_3_di [32] 1 (by kernel_rfl) ?_
     obtain ⟨e14, he14, h⟩ := obind h
     refine awl_big (big_adI hT (N := 3) (k := 1) j64 a0 he14) (by kernel_rfl) ?_
     refine awl_u hT m_mesh_Check_3_di [32] 4 (by kernel_rfl) ?_
     refine awl_split 39 h (by kernel_rfl) (fun h => ?_) (fun h => ?_)
     ·refine awl_u hT m_mesh_Check_3_di [39] 7 (by kernel_rfl) ?_
      refine awl_nil (tn_n ?_)
      cases h
      exact jr
     ·obtain ⟨e15, he15, h⟩ := obind h
      refine awl_big (big_adI hT (N := 3) (k := 1) j64 a0 he15) (by kernel_rfl) ?_
      refine awl_u hT m_mesh_Check_3_di [39] 1 (by kernel_rfl) ?_
      obtain ⟨e16, he16, h⟩ := obind h
      refine awl_big (big_adI hT (N := 3) (k := 1) j64 a0 he16) (by kernel_rfl) ?_
      refine awl_u hT m_mesh_Check_3_di [39] 4 (by kernel_rfl) ?_
      refine awl_nil (tn_n ?_)
      cases h
      exact jr
 ·have h := g1
  refine aw_ret ?_
  cases h
  exact fin_r

theorem mesh_Check_3_di_ok_c : callable Try.prog 77 := ⟨_, Try.func77, by decide, rfl⟩

def p_slices_IndexFunc_3_int_3_int_Check_3_L1 (N : Nat) (a0 : (List (Vector Int 3))) (a1 : S_api_Mesh) : Nat → Int → Option (Sum (Unit) (Int))
 | 0, _ => none
 | k + 1, s2 =>
  letO (decide (s2 < ((a0.length : Int)))) fun x3 =>
  cond x3 (
   Option.bind (idx a0 s2) fun e4 =>
   Option.bind (p_mesh_Check_3_di N e4 a1) fun r5 =>
   cond r5 (
    some (Sum.inr s2)) (
    p_slices_IndexFunc_3_int_3_int_Check_3_L1 N a0 a1 k (I64 (s2 + 1)))) (
   some (Sum.inl (())))

def p_slices_IndexFunc_3_int_3_int_Check_3 (N : Nat) (a0 : (List (Vector Int 3))) (a1 : S_api_Mesh) : Option (Int) :=
 Option.bind (p_slices_IndexFunc_3_int_3_int_Check_3_L1 N a0 a1 N 0) fun o => sumC o (fun p1 =>
  some (-1)) (fun r => some r)

theorem slices_IndexFunc_3_int_3_int_Check_3_ok {N : Nat} {a0 : (List (Vector Int 3))} {a1 : S_api_Mesh} {r : Int} (h : p_slices_IndexFunc_3_int_3_int_Check_3 N a0 a1 = some r) : FnM Try.prog 93 [] [(eL 3 (eA 3 1 j64) a0), (.fn (.func 77) [] [(.im (S_api_Mesh.enc a1))])] (j64 r) [] := by
 unfold p_slices_IndexFunc_3_int_3_int_Check_3 at h
 refine fnM_of_aw (m := 19) (lo := 0) (rs := [.tmp 4]) hT Try.func93 rfl (by kernel_rfl) rfl ?_
 refine aw_sregU hT m_no [] (by kernel_rfl) ?_
 refine aw_seq ?_
 refine aw_sregU hT m_no [] (by kernel_rfl) ?_
 obtain ⟨op1, h, g1⟩ := obind h
 refine aw_joinSK (fun p1 => ⟨[], []⟩) g1 ?_ (fun p1 h => ?_)
 ·refine aw_block (aw_loop (fun k s => ∃ s2, p_slices_IndexFunc_3_int_3_int_Check_3_L1 N a0 a1 k s2 = some op1 ∧ JR (Fr.f 19 0) ⟨[en 0 (eL 3 (eA 3 1 j64) a0), en 1 (.fn (.func 77) [] [(.im (S_api_Mesh.enc a1))]), en 7 (j64 ((a0.length : Int))), en 8 (j64 s2)], []⟩ s) (fun k s hI => ?_) N _ ⟨_, h, jr⟩)
  obtain ⟨s2, h, hj⟩ := hI
  cases k with
  | zero => cases h
  | succ k =>
   refine aw_jr hj ?_
   obtain ⟨x3, hx3, h⟩ := letE h
   refine aw_sregU hT m_no [] (by kernel_rfl) ?_
   refine aw_nms [(9, (eB x3))] (by subst hx3; kernel_rfl) ?_
   refine aw_seq ?_
   refine aw_condH h (by kernel_rfl) (fun _ h => ?_) (fun _ h => ?_)
   ·refine aw_skip (tn_n ?_)
    refine aw_seq ?_
    refine aw_block ?_
    refine aw_sregU hT m_no [] (by kernel_rfl) ?_
    refine aw_sreg ?_
    refine awl_u hT m_no [] 3 (by kernel_rfl) ?_
    obtain ⟨e4, he4, h⟩ := obind h
    refine awl_big (big_idx hT (eA 3 1 j64) he4) (by kernel_rfl) ?_
    refine awl_u hT m_no [] 1 (by kernel_rfl) ?_
    obtain ⟨r5, hr5, h⟩ := obind h
    refine awl_big (big_call [] (mesh_Check_3_di_ok hr5) mesh_Check_3_di_ok_c) (by kernel_rfl) ?_
    refine awl_nil ?_
    refine aw_condH h (by kernel_rfl) (fun _ h => ?_) (fun _ h => ?_)
    ·refine aw_sregU hT m_no [] (by kernel_rfl) ?_
     cases h
     have h := g1
     refine aw_ret (inB_r (tn_r (tn_r (inB_r (tn_r (tn_r ?_))))))
     obtain rfl := sum_e h
     exact fin_r
    ·refine aw_skip (inB_n (tn_n ?_))
     refine aw_regU hT m_no [] (by kernel_rfl) (tn_n ?_)
     exact ⟨k, Nat.lt_succ_self k, _, h, jr⟩
   ·refine aw_exit (tn_x (tn_x (inB_e (tn_n ?_))))
    cases h
    exact ⟨_, rfl, jr⟩
 ·refine (tn_n ?_)
  refine aw_sregU hT m_no [] (by kernel_rfl) ?_
  refine aw_ret ?_
  cases h
  exact fin_r

theorem slices_IndexFunc_3_int_3_int_Check_3_ok_c : callable Try.prog 93 := ⟨_, Try.func93, by decide, rfl⟩

def p_slices_ContainsFunc_3_int_3_int_Check_3 (N : Nat) (a0 : (List (Vector Int 3))) (a1 : S_api_Mesh) : Option (Bool) :=
 Option.bind (p_slices_IndexFunc_3_int_3_int_Check_3 N a0 a1) fun r1 =>
 some (decide (r1 ≥ 0))

theorem slices_ContainsFunc_3_int_3_int_Check_3_ok {N : Nat} {a0 : (List (Vector Int 3))} {a1 : S_api_Mesh} {r : Bool} (h : p_slices_ContainsFunc_3_int_3_int_Check_3 N a0 a1 = some r) : FnM Try.prog 80 [] [(eL 3 (eA 3 1 j64) a0), (.fn (.func 77) [] [(.im (S_api_Mesh.enc a1))])] (eB r) [] := by
 unfold p_slices_ContainsFunc_3_int_3_int_Check_3 at h
 refine fnM_of_aw (m := 9) (lo := 0) (rs := [.tmp 4]) hT Try.func80 rfl (by kernel_rfl) rfl ?_
 refine aw_sregU hT m_no [] (by kernel_rfl) ?_
 refine aw_sreg ?_
 refine awl_u hT m_no [] 2 (by kernel_rfl) ?_
 obtain ⟨r1, hr1, h⟩ := obind h
 refine awl_big (big_call [] (slices_IndexFunc_3_int_3_int_Check_3_ok hr1) slices_IndexFunc_3_int_3_int_Check_3_ok_c) (by kernel_rfl) ?_
 refine awl_u hT m_no [] 2 (by kernel_rfl) ?_
 refine awl_nil ?_
 refine aw_ret ?_
 cases h
 exact fin_r

theorem slices_ContainsFunc_3_int_3_int_Check_3_ok_c : callable Try.prog 80 := ⟨_, Try.func80, by decide, rfl⟩

def m_mesh_Check : Nat → Bool := imL [1]

def p_mesh_Check (N : Nat) (a0 : S_api_Mesh) : Option (Int) :=
 letO ((a0.gVerts.length : Int)) fun x1 =>
 letO ((a0.gTris.length : Int)) fun x2 =>
 letO (cond (decide (x1 > 64)) true (decide (x2 > 64))) fun x3 =>
 cond x3 (
  some 3) (
  letO ((a0.gVerts.length : Int)) fun x4 =>
  letO ((a0.gTris.length : Int)) fun x5 =>
  letO (cond (x4 == 0) true (x5 == 0)) fun x6 =>
  letO ((a0.gVerts.length : Int)) fun x7 =>
  letO (((a0.gUvs.length : Int)) != x7) fun x8 =>
  cond (cond x6 true x8) (
   some 5) (
   Option.bind (p_slices_ContainsFunc_api_Point_api_Point_Check_1 N a0.gVerts) fun r9 =>
   cond r9 (
    some 8) (
    Option.bind (Option.bind (p_slices_ContainsFunc_2_int_2_int_Check_2 N a0.gUvs) fun r11 =>
    cond r11 (
     some true) (
     Option.bind (p_slices_ContainsFunc_3_int_3_int_Check_3 N a0.gTris a0) fun r12 =>
     some r12)) fun p10 =>
    cond p10 (some 5) (some 0))))

theorem mesh_Check_ok {N : Nat} {a0 : S_api_Mesh} {r : Int} (h : p_mesh_Check N a0 = some r) : FnM Try.prog 66 [] [(S_api_Mesh.enc a0)] (j64 r) [] := by
 unfold p_mesh_Check at h
 refine fnM_of_aw (m := 54) (lo := 0) (rs := [.tmp 2]) hT Try.func66 rfl (by kernel_rfl) rfl ?_
 refine aw_sregU hT m_mesh_Check [] (by kernel_rfl) ?_
 refine aw_sregU hT m_mesh_Check [] (by kernel_rfl) ?_
 refine aw_sregU hT m_mesh_Check [] (by kernel_rfl) ?_
 refine aw_sreg ?_
 refine awl_big (big_mkf (x := (.fn (.func 77) [] [(.im (S_api_Mesh.enc a0))])) (by kernel_rfl) (by kernel_rfl)) (by kernel_rfl) ?_
 refine awl_u hT m_mesh_Check [] 1 (by kernel_rfl) ?_
 refine awl_nil ?_
 refine aw_seq ?_
 refine aw_block ?_
 obtain ⟨x1, hx1, h⟩ := letE h
 obtain ⟨x2, hx2, h⟩ := letE h
 obtain ⟨x3, hx3, h⟩ := letE h
 refine aw_sregU hT m_mesh_Check [] (by kernel_rfl) ?_
 refine aw_nms [(7, (eB x3))] (by subst hx3 hx2 hx1; kernel_rfl) ?_
 refine aw_condH h (by kernel_rfl) (fun _ h => ?_) (fun _ h => ?_)
 ·refine aw_sregU hT m_mesh_Check [] (by kernel_rfl) ?_
  refine aw_ret (inB_r (tn_r ?_))
  cases h
  exact fin_r
 ·obtain ⟨x4, hx4, h⟩ := letE h
  obtain ⟨x5, hx5, h⟩ := letE h
  obtain ⟨x6, hx6, h⟩ := letE h
  obtain ⟨x7, hx7, h⟩ := letE h
  obtain ⟨x8, hx8, h⟩ := letE h
  refine aw_sregU hT m_mesh_Check [] (by kernel_rfl) ?_
  refine aw_nms [(18, (eB (cond x6 true x8)))] (by subst hx8 hx7 hx6 hx5 hx4; kernel_rfl) ?_
  refine aw_condH h (by kernel_rfl) (fun _ h => ?_) (fun _ h => ?_)
  ·refine aw_sregU hT m_mesh_Check [] (by kernel_rfl) ?_
   refine aw_ret (inB_r (tn_r ?_))
   cases h
   exact fin_r
  ·refine aw_sreg ?_
   refine awl_u hT m_mesh_Check [] 3 (by kernel_rfl) ?_
   obtain ⟨r9, hr9, h⟩ := obind h
   refine awl_big (big_call [] (slices_ContainsFunc_api_Point_api_Point_Check_1_ok hr9) slices_ContainsFunc_api_Point_api_Point_Check_1_ok_c) (by kernel_rfl) ?_
   refine awl_u hT m_mesh_Check [] 1 (by kernel_rfl) ?_
   refine awl_nil ?_
   refine aw_condH h (by kernel_rfl) (fun _ h => ?_) (fun _ h => ?_)
   ·refine aw_sregU hT m_mesh_Check [] (by kernel_rfl) ?_
    refine aw_ret (inB_r (tn_r ?_))
    cases h
    exact fin_r
   ·obtain ⟨p10, h, g10⟩ := obind h
    refine aw_joinT ⟨[en 43 (eB p10)], []⟩ ?_ ?_
    ·refine aw_region ?_
     refine awl_u hT m_mesh_Check [] 3 (by kernel_rfl) ?_
     obtain ⟨r11, hr11, h⟩ := obind h
     refine awl_big (big_call [] (slices_ContainsFunc_2_int_2_int_Check_2_ok hr11) slices_ContainsFunc_2_int_2_int_Check_2_ok_c) (by kernel_rfl) ?_
     refine awl_u hT m_mesh_Check [] 1 (by kernel_rfl) ?_
     refine awl_split 48 h (by kernel_rfl) (fun h => ?_) (fun h => ?_)
     ·refine awl_u hT m_mesh_Check [48] 6 (by kernel_rfl) ?_
      refine awl_nil (tn_n ?_)
      cases h
      exact jr
     ·refine awl_u hT m_mesh_Check [48] 3 (by kernel_rfl) ?_
      obtain ⟨r12, hr12, h⟩ := obind h
      refine awl_big (big_call [] (slices_ContainsFunc_3_int_3_int_Check_3_ok hr12) slices_ContainsFunc_3_int_3_int_Check_3_ok_c) (by kernel_rfl) ?_
      refine awl_u hT m_mesh_Check [48] 2 (by kernel_rfl) ?_
      refine awl_nil (tn_n ?_)
      cases h
      exact jr
    ·have h := g10
     refine aw_condH h (by kernel_rfl) (fun _ h => ?_) (fun _ h => ?_)
     ·refine aw_sregU hT m_mesh_Check [] (by kernel_rfl) ?_
      refine aw_ret (inB_r (tn_r ?_))
      cases h
      exact fin_r
     ·refine aw_skip (inB_n (tn_n ?_))
      refine aw_sregU hT m_mesh_Check [] (by kernel_rfl) ?_
      refine aw_ret ?_
      cases h
      exact fin_r

theorem mesh_Check_ok_c : callable Try.prog 66 := ⟨_, Try.func66, by decide, rfl⟩

def p_slices_Index_int_int_L1 (N : Nat) (a0 : (List Int)) (a1 : Int) : Nat → Int → Option (Sum (Unit) (Int))
 | 0, _ => none
 | k + 1, s2 =>
  letO (decide (s2 < ((a0.length : Int)))) fun x3 =>
  cond x3 (
   Option.bind (idx a0 s2) fun e4 =>
   cond (a1 == e4) (
    some (Sum.inr s2)) (
    p_slices_Index_int_int_L1 N a0 a1 k (I64 (s2 + 1)))) (
   some (Sum.inl (())))

def p_slices_Index_int_int (N : Nat) (a0 : (List Int)) (a1 : Int) : Option (Int) :=
 Option.bind (p_slices_Index_int_int_L1 N a0 a1 N 0) fun o => sumC o (fun p1 =>
  some (-1)) (fun r => some r)

theorem slices_Index_int_int_ok {N : Nat} {a0 : (List Int)} {a1 : Int} {r : Int} (h : p_slices_Index_int_int N a0 a1 = some r) : FnM Try.prog 94 [] [(eL 1 j64 a0), (j64 a1)] (j64 r) [] := by
 unfold p_slices_Index_int_int at h
 refine fnM_of_aw (m := 19) (lo := 0) (rs := [.tmp 4]) hT Try.func94 rfl (by kernel_rfl) rfl ?_
 refine aw_sregU hT m_no [] (by kernel_rfl) ?_
 refine aw_seq ?_
 refine aw_sregU hT m_no [] (by kernel_rfl) ?_
 obtain ⟨op1, h, g1⟩ := obind h
 refine aw_joinSK (fun p1 => ⟨[], []⟩) g1 ?_ (fun p1 h => ?_)
 ·refine aw_block (aw_loop (fun k s => ∃ s2, p_slices_Index_int_int_L1 N a0 a1 k s2 = some op1 ∧ JR (Fr.f 19 0) ⟨[en 0 (eL 1 j64 a0), en 1 (j64 a1), en 7 (j64 ((a0.length : Int))), en 8 (j64 s2)], []⟩ s) (fun k s hI => ?_) N _ ⟨_, h, jr⟩)
  obtain ⟨s2, h, hj⟩ := hI
  cases k with
  | zero => cases h
  | succ k =>
   refine aw_jr hj ?_
   obtain ⟨x3, hx3, h⟩ := letE h
   refine aw_sregU hT m_no [] (by kernel_rfl) ?_
   refine aw_nms [(9, (eB x3))] (by subst hx3; kernel_rfl) ?_
   refine aw_seq ?_
   refine aw_condH h (by kernel_rfl) (fun _ h => ?_) (fun _ h => ?_)
   ·refine aw_skip (tn_n ?_)
    refine aw_seq ?_
    refine aw_block ?_
    refine aw_sregU hT m_no [] (by kernel_rfl) ?_
    refine aw_sreg ?_
    refine awl_u hT m_no [] 3 (by kernel_rfl) ?_
    obtain ⟨e4, he4, h⟩ := obind h
    refine awl_big (big_idx hT j64 he4) (by kernel_rfl) ?_
    refine awl_u hT m_no [] 2 (by kernel_rfl) ?_
    refine awl_nil ?_
    refine aw_condH h (by kernel_rfl) (fun _ h => ?_) (fun _ h => ?_)
    ·refine aw_sregU hT m_no [] (by kernel_rfl) ?_
     cases h
     have h := g1
     refine aw_ret (inB_r (tn_r (tn_r (inB_r (tn_r (tn_r ?_))))))
     obtain rfl := sum_e h
     exact fin_r
    ·refine aw_skip (inB_n (tn_n ?_))
     refine aw_regU hT m_no [] (by kernel_rfl) (tn_n ?_)
     exact ⟨k, Nat.lt_succ_self k, _, h, jr⟩
   ·refine aw_exit (tn_x (tn_x (inB_e (tn_n ?_))))
    cases h
    exact ⟨_, rfl, jr⟩
 ·refine (tn_n ?_)
  refine aw_sregU hT m_no [] (by kernel_rfl) ?_
  refine aw_ret ?_
  cases h
  exact fin_r

theorem slices_Index_int_int_ok_c : callable Try.prog 94 := ⟨_, Try.func94, by decide, rfl⟩

def p_slices_Contains_int_int (N : Nat) (a0 : (List Int)) (a1 : Int) : Option (Bool) :=
 Option.bind (p_slices_Index_int_int N a0 a1) fun r1 =>
 some (decide (r1 ≥ 0))

theorem slices_Contains_int_int_ok {N : Nat} {a0 : (List Int)} {a1 : Int} {r : Bool} (h : p_slices_Contains_int_int N a0 a1 = some r) : FnM Try.prog 81 [] [(eL 1 j64 a0), (j64 a1)] (eB r) [] := by
 unfold p_slices_Contains_int_int at h
 refine fnM_of_aw (m := 9) (lo := 0) (rs := [.tmp 4]) hT Try.func81 rfl (by kernel_rfl) rfl ?_
 refine aw_sregU hT m_no [] (by kernel_rfl) ?_
 refine aw_sreg ?_
 refine awl_u hT m_no [] 2 (by kernel_rfl) ?_
 obtain ⟨r1, hr1, h⟩ := obind h
 refine awl_big (big_call [] (slices_Index_int_int_ok hr1) slices_Index_int_int_ok_c) (by kernel_rfl) ?_
 refine awl_u hT m_no [] 2 (by kernel_rfl) ?_
 refine awl_nil ?_
 refine aw_ret ?_
 cases h
 exact fin_r

theorem slices_Contains_int_int_ok_c : callable Try.prog 81 := ⟨_, Try.func81, by decide, rfl⟩

def m_texture_Check : Nat → Bool := imL [1]

def p_texture_Check_L1 (N : Nat) (x5 : Int) (a0 : S_api_Texture) : Nat → Int → Option (Sum (Unit) (Int))
 | 0, _ => none
 | k + 1, s7 =>
  cond (decide (s7 < x5)) (
   Option.bind (idx a0.gTexels s7) fun e8 =>
   Option.bind (Option.bind (inRO 0 3) fun _ =>
   Option.bind (e8.toList[(Int.toNat 0)]?) fun e11 =>
   Option.bind (inRO 1 3) fun _ =>
   Option.bind (e8.toList[(Int.toNat 1)]?) fun e13 =>
   Option.bind (inRO 2 3) fun _ =>
   Option.bind (e8.toList[(Int.toNat 2)]?) fun e15 =>
   letO (decide ((imin (imin e11 e13) e15) < 0)) fun x16 =>
   cond x16 (
    some true) (
    Option.bind (inRO 0 3) fun _ =>
    Option.bind (e8.toList[(Int.toNat 0)]?) fun e18 =>
    Option.bind (inRO 1 3) fun _ =>
    Option.bind (e8.toList[(Int.toNat 1)]?) fun e20 =>
    Option.bind (inRO 2 3) fun _ =>
    Option.bind (e8.toList[(Int.toNat 2)]?) fun e22 =>
    letO (decide ((imax (imax e18 e20) e22) > 255)) fun x23 =>
    some x23)) fun p9 =>
   cond p9 (some (Sum.inr 5)) (p_texture_Check_L1 N x5 a0 k (I64 (s7 + 1)))) (
   some (Sum.inl (())))

def p_texture_Check (N : Nat) (a0 : S_api_Texture) : Option (Int) :=
 Option.bind (p_slices_Contains_int_int N ([1, 2, 4, 8, 16]) a0.gSide) fun r1 =>
 letO ((a0.gTexels.length : Int)) fun x2 =>
 letO (I64 (a0.gSide * a0.gSide)) fun x3 =>
 letO (cond (!r1) true (x2 != x3)) fun x4 =>
 cond x4 (
  some 5) (
  letO ((a0.gTexels.length : Int)) fun x5 =>
  Option.bind (p_texture_Check_L1 N x5 a0 N 0) fun o => sumC o (fun p6 =>
   some 0) (fun r => some r))

theorem texture_Check_ok {N : Nat} {a0 : S_api_Texture} {r : Int} (h : p_texture_Check N a0 = some r) : FnM Try.prog 67 [] [(S_api_Texture.enc a0)] (j64 r) [] := by
 unfold p_texture_Check at h
 refine fnM_of_aw (m := 47) (lo := 0) (rs := [.tmp 2]) hT Try.func67 rfl (by kernel_rfl) rfl ?_
 refine aw_sregU hT m_texture_Check [] (by kernel_rfl) ?_
 refine aw_seq ?_
 refine aw_sreg ?_
 refine awl_big (big_row hT (x := (.sl 1 5 [(j64 1), (j64 2), (j64 4), (j64 8), (j64 16)]))) (by kernel_rfl) ?_
 refine awl_u hT m_texture_Check [] 2 (by kernel_rfl) ?_
 obtain ⟨r1, hr1, h⟩ := obind h
 refine awl_big (big_call [] (slices_Contains_int_int_ok hr1) slices_Contains_int_int_ok_c) (by kernel_rfl) ?_
 obtain ⟨x2, hx2, h⟩ := letE h
 obtain ⟨x3, hx3, h⟩ := letE h
 obtain ⟨x4, hx4, h⟩ := letE h
 refine awl_u hT m_texture_Check [] 12 (by kernel_rfl) ?_
 refine awl_nms [(20, (eB x4))] (by subst hx4 hx3 hx2; kernel_rfl) ?_
 refine awl_nil ?_
 refine aw_condH h (by kernel_rfl) (fun _ h => ?_) (fun _ h => ?_)
 ·refine aw_sregU hT m_texture_Check [] (by kernel_rfl) ?_
  refine aw_ret (tn_r ?_)
  cases h
  exact fin_r
 ·refine aw_skip (tn_n ?_)
  refine aw_seq ?_
  obtain ⟨x5, hx5, h⟩ := letE h
  refine aw_sregU hT m_texture_Check [] (by kernel_rfl) ?_
  refine aw_nms [(23, (j64 x5))] (by subst hx5; kernel_rfl) ?_
  obtain ⟨op6, h, g6⟩ := obind h
  refine aw_joinSK (fun p6 => ⟨[], []⟩) g6 ?_ (fun p6 h => ?_)
  ·refine aw_block (aw_loop (fun k s => ∃ s7, p_texture_Check_L1 N x5 a0 k s7 = some op6 ∧ JR (Fr.f 47 0) ⟨[en 22 (eL 3 (eA 3 1 j64) a0.gTexels), en 23 (j64 x5), en 24 (j64 s7)], []⟩ s) (fun k s hI => ?_) N _ ⟨_, h, jr⟩)
   obtain ⟨s7, h, hj⟩ := hI
   cases k with
   | zero => cases h
   | succ k =>
    refine aw_jr hj ?_
    refine aw_sregU hT m_texture_Check [] (by kernel_rfl) ?_
    refine aw_seq ?_
    refine aw_condH h (by kernel_rfl) (fun _ h => ?_) (fun _ h => ?_)
    ·refine aw_skip (tn_n ?_)
     refine aw_seq ?_
     refine aw_block ?_
     refine aw_sreg ?_
     obtain ⟨e8, he8, h⟩ := obind h
     refine awl_big (big_idx hT (eA 3 1 j64) he8) (by kernel_rfl) ?_
     refine awl_u hT m_texture_Check [] 3 (by kernel_rfl) ?_
     refine awl_nil ?_
     obtain ⟨p9, h, g9⟩ := obind h
     refine aw_joinT ⟨[en 22 (eL 3 (eA 3 1 j64) a0.gTexels), en 23 (j64 x5), en 24 (j64 s7), en 45 (eB p9)], [.var (eA 3 1 j64 e8)]⟩ ?_ ?_
     ·refine aw_region ?_
      obtain ⟨u10, hu10, h⟩ := obind h
      refine awl_big (big_adR hT (k := 1) 0 [] 0 hu10) (by kernel_rfl) ?_
      obtain ⟨e11, he11, h⟩ := obind h
      refine awl_big (big_ldE hT j64 0 he11) (by kernel_rfl) ?_
      obtain ⟨u12, hu12, h⟩ := obind h
      refine awl_big (big_adR hT (k := 1) 0 [] 0 hu12) (by kernel_rfl) ?_
      obtain ⟨e13, he13, h⟩ := obind h
      refine awl_big (big_ldE hT j64 0 he13) (by kernel_rfl) ?_
      first | refine awl_to ⟨[en 4 (.ref 0 [] 0), en 22 (eL 3 (eA 3 1 j64) a0.gTexels), en 23 (j64 x5), en 24 (j64 s7), en 29 (j64 e11), en 31 (j64 e13)], [.var (eA 3 1 j64 e8)]⟩ (by kernel_rfl) ?_ | skip
      obtain ⟨u14, hu14, h⟩ := obind h
      refine awl_big (big_adR hT (k := 1) 0 [] 0 hu14) (by kernel_rfl) ?_
      obtain ⟨e15, he15, h⟩ := obind h
      refine awl_big (big_ldE hT j64 0 he15) (by kernel_rfl) ?_
      refine awl_big (big_min3 (k := .i64) (i := e11) (j := e13) (l := e15) (by kernel_rfl) (by kernel_rfl)) (by kernel_rfl) ?_
      obtain ⟨x16, hx16, h⟩ := letE h
      refine awl_u hT m_texture_Check [] 2 (by kernel_rfl) ?_
      refine awl_nms [(36, (eB x16))] (by subst hx16; kernel_rfl) ?_
      refine awl_split 36 h (by kernel_rfl) (fun h => ?_) (fun h => ?_)
      ·refine awl_u hT m_texture_Check [36] 9 (by kernel_rfl) ?_
       refine awl_nil (tn_n ?_)
       cases h
       exact jr
      ·obtain ⟨u17, hu17, h⟩ := obind h
       refine awl_big (big_adR hT (k := 1) 0 [] 0 hu17) (by kernel_rfl) ?_
       obtain ⟨e18, he18, h⟩ := obind h
       refine awl_big (big_ldE hT j64 0 he18) (by kernel_rfl) ?_
       obtain ⟨u19, hu19, h⟩ := obind h
       refine awl_big (big_adR hT (k := 1) 0 [] 0 hu19) (by kernel_rfl) ?_
       obtain ⟨e20, he20, h⟩ := obind h
       refine awl_big (big_ldE hT j64 0 he20) (by kernel_rfl) ?_
       first | refine awl_to ⟨[en 4 (.ref 0 [] 0), en 22 (eL 3 (eA 3 1 j64) a0.gTexels), en 23 (j64 x5), en 24 (j64 s7), en 36 (eB false), en 38 (j64 e18), en 40 (j64 e20)], [.var (eA 3 1 j64 e8)]⟩ (by kernel_rfl) ?_ | skip
       obtain ⟨u21, hu21, h⟩ := obind h
       refine awl_big (big_adR hT (k := 1) 0 [] 0 hu21) (by kernel_rfl) ?_
       obtain ⟨e22, he22, h⟩ := obind h
       refine awl_big (big_ldE hT j64 0 he22) (by kernel_rfl) ?_
       refine awl_big (big_max3 (k := .i64) (i := e18) (j := e20) (l := e22) (by kernel_rfl) (by kernel_rfl)) (by kernel_rfl) ?_
       obtain ⟨x23, hx23, h⟩ := letE h
       refine awl_u hT m_texture_Check [36] 2 (by kernel_rfl) ?_
       refine awl_nms [(45, (eB x23))] (by subst hx23; kernel_rfl) ?_
       refine awl_nil (tn_n ?_)
       cases h
       exact jr
     ·have h := g9
      refine aw_condH h (by kernel_rfl) (fun _ h => ?_) (fun _ h => ?_)
      ·refine aw_sregU hT m_texture_Check [] (by kernel_rfl) ?_
       cases h
       have h := g6
       refine aw_ret (inB_r (tn_r (tn_r (inB_r (tn_r (tn_r ?_))))))
       obtain rfl := sum_e h
       exact fin_r
      ·refine aw_skip (inB_n (tn_n ?_))
       refine aw_regU hT m_texture_Check [] (by kernel_rfl) (tn_n ?_)
       exact ⟨k, Nat.lt_succ_self k, _, h, jr⟩
    ·refine aw_exit (tn_x (tn_x (inB_e (tn_n ?_))))
     cases h
     exact ⟨_, rfl, jr⟩
  ·refine (tn_n ?_)
   refine aw_sregU hT m_texture_Check [] (by kernel_rfl) ?_
   refine aw_ret ?_
   cases h
   exact fin_r

theorem texture_Check_ok_c : callable Try.prog 67 := ⟨_, Try.func67, by decide, rfl⟩

end Go.UK

