/- A part of the proof: what the functions of the program compute. -/
import Derived.Test.YtljnaeghnleipaaB1
namespace Go.UK
open Go Go.Proofs
set_option maxRecDepth 20000
set_option maxHeartbeats 4000000
set_option linter.all false

attribute [local irreducible] owp awl aw FnM NatFn opS Stab TOK Big
def p_asset_outside_1_di (N : Nat) (a0 : Int) (a1 : Int) : Option (Bool) :=
 letO (cond (decide (a0 < 0)) true (decide (a0 > a1))) fun x1 =>
 some x1

theorem asset_outside_1_di_ok {N : Nat} {a0 : Int} {a1 : Int} {r : Bool} (h : p_asset_outside_1_di N a0 a1 = some r) : FnM Try.prog 96 [] [(j64 a0), (.im (j64 a1))] (eB r) [] := by
 unfold p_asset_outside_1_di at h
 refine fnM_of_aw (m := 11) (lo := 0) (rs := [.tmp 3]) hT Try.func96 rfl (by kernel_rfl) rfl ?_
 refine aw_sregU hT m_no [] (by kernel_rfl) ?_
 obtain ⟨x1, hx1, h⟩ := letE h
 refine aw_sregU hT m_no [] (by kernel_rfl) ?_
 refine aw_nms [(3, (eB x1))] (by subst hx1; kernel_rfl) ?_
 refine aw_ret ?_
 cases h
 exact fin_r

theorem asset_outside_1_di_ok_c : callable Try.prog 96 := ⟨_, Try.func96, by decide, rfl⟩

def p_slices_IndexFunc_int_int_outside_1_L1 (N : Nat) (a0 : (List Int)) (a1 : Int) : Nat → Int → Option (Sum (Unit) (Int))
 | 0, _ => none
 | k + 1, s2 =>
  letO (decide (s2 < ((a0.length : Int)))) fun x3 =>
  cond x3 (
   Option.bind (idx a0 s2) fun e4 =>
   Option.bind (p_asset_outside_1_di N e4 a1) fun r5 =>
   cond r5 (
    some (Sum.inr s2)) (
    p_slices_IndexFunc_int_int_outside_1_L1 N a0 a1 k (I64 (s2 + 1)))) (
   some (Sum.inl (())))

def p_slices_IndexFunc_int_int_outside_1 (N : Nat) (a0 : (List Int)) (a1 : Int) : Option (Int) :=
 Option.bind (p_slices_IndexFunc_int_int_outside_1_L1 N a0 a1 N 0) fun o => sumC o (fun p1 =>
  some (-1)) (fun r => some r)

theorem slices_IndexFunc_int_int_outside_1_ok {N : Nat} {a0 : (List Int)} {a1 : Int} {r : Int} (h : p_slices_IndexFunc_int_int_outside_1 N a0 a1 = some r) : FnM Try.prog 102 [] [(eL 1 j64 a0), (.fn (.func 96) [] [(.im (j64 a1))])] (j64 r) [] := by
 unfold p_slices_IndexFunc_int_int_outside_1 at h
 refine fnM_of_aw (m := 19) (lo := 0) (rs := [.tmp 4]) hT Try.func102 rfl (by kernel_rfl) rfl ?_
 refine aw_sregU hT m_no [] (by kernel_rfl) ?_
 refine aw_seq ?_
 refine aw_sregU hT m_no [] (by kernel_rfl) ?_
 obtain ⟨op1, h, g1⟩ := obind h
 refine aw_joinSK (fun p1 => ⟨[], []⟩) g1 ?_ (fun p1 h => ?_)
 ·refine aw_block (aw_loop (fun k s => ∃ s2, p_slices_IndexFunc_int_int_outside_1_L1 N a0 a1 k s2 = some op1 ∧ JR (Fr.f 19 0) ⟨[en 0 (eL 1 j64 a0), en 1 (.fn (.func 96) [] [(.im (j64 a1))]), en 7 (j64 ((a0.length : Int))), en 8 (j64 s2)], []⟩ s) (fun k s hI => ?_) N _ ⟨_, h, jr⟩)
  obtain ⟨s2, h, hj⟩ := hI
  cases k with
  | zero => cases h
  | succ k =>
   refine aw_jr hj ?_
   obtain ⟨x3, hx3, h⟩ := letE h
   refine aw_sregU hT m_no [] (by kernel_rfl) ?_
   refine aw_nms [(9, (eB x3))] (by subst hx3; kernel_rfl) ?_
   refine aw_seq ?_
   refine aw_condH h (by kernel_rfl) (fun _ h => ?_) (fun _ h => ?_)
   ·refine aw_skip (tn_n ?_)
    refine aw_seq ?_
    refine aw_block ?_
    refine aw_sregU hT m_no [] (by kernel_rfl) ?_
    refine aw_sreg ?_
    refine awl_u hT m_no [] 3 (by kernel_rfl) ?_
    obtain ⟨e4, he4, h⟩ := obind h
    refine awl_big (big_idx hT j64 he4) (by kernel_rfl) ?_
    refine awl_u hT m_no [] 1 (by kernel_rfl) ?_
    obtain ⟨r5, hr5, h⟩ := obind h
    refine awl_big (big_call [] (asset_outside_1_di_ok hr5) asset_outside_1_di_ok_c) (by kernel_rfl) ?_
    refine awl_nil ?_
    refine aw_condH h (by kernel_rfl) (fun _ h => ?_) (fun _ h => ?_)
    ·refine aw_sregU hT m_no [] (by kernel_rfl) ?_
     cases h
     have h := g1
     refine aw_ret (inB_r (tn_r (tn_r (inB_r (tn_r (tn_r ?_))))))
     obtain rfl := sum_e h
     exact fin_r
    ·refine aw_skip (inB_n (tn_n ?_))
     refine aw_regU hT m_no [] (by kernel_rfl) (tn_n ?_)
     exact ⟨k, Nat.lt_succ_self k, _, h, jr⟩
   ·refine aw_exit (tn_x (tn_x (inB_e (tn_n ?_))))
    cases h
    exact ⟨_, rfl, jr⟩
 ·refine (tn_n ?_)
  refine aw_sregU hT m_no [] (by kernel_rfl) ?_
  refine aw_ret ?_
  cases h
  exact fin_r

theorem slices_IndexFunc_int_int_outside_1_ok_c : callable Try.prog 102 := ⟨_, Try.func102, by decide, rfl⟩

def p_slices_ContainsFunc_int_int_outside_1 (N : Nat) (a0 : (List Int)) (a1 : Int) : Option (Bool) :=
 Option.bind (p_slices_IndexFunc_int_int_outside_1 N a0 a1) fun r1 =>
 some (decide (r1 ≥ 0))

theorem slices_ContainsFunc_int_int_outside_1_ok {N : Nat} {a0 : (List Int)} {a1 : Int} {r : Bool} (h : p_slices_ContainsFunc_int_int_outside_1 N a0 a1 = some r) : FnM Try.prog 95 [] [(eL 1 j64 a0), (.fn (.func 96) [] [(.im (j64 a1))])] (eB r) [] := by
 unfold p_slices_ContainsFunc_int_int_outside_1 at h
 refine fnM_of_aw (m := 9) (lo := 0) (rs := [.tmp 4]) hT Try.func95 rfl (by kernel_rfl) rfl ?_
 refine aw_sregU hT m_no [] (by kernel_rfl) ?_
 refine aw_sreg ?_
 refine awl_u hT m_no [] 2 (by kernel_rfl) ?_
 obtain ⟨r1, hr1, h⟩ := obind h
 refine awl_big (big_call [] (slices_IndexFunc_int_int_outside_1_ok hr1) slices_IndexFunc_int_int_outside_1_ok_c) (by kernel_rfl) ?_
 refine awl_u hT m_no [] 2 (by kernel_rfl) ?_
 refine awl_nil ?_
 refine aw_ret ?_
 cases h
 exact fin_r

theorem slices_ContainsFunc_int_int_outside_1_ok_c : callable Try.prog 95 := ⟨_, Try.func95, by decide, rfl⟩

def m_asset_outside : Nat → Bool := imL [2]

def p_asset_outside (N : Nat) (a0 : Int) (a1 : (List Int)) : Option (Bool) :=
 Option.bind (p_slices_ContainsFunc_int_int_outside_1 N a1 a0) fun r1 =>
 some r1

theorem asset_outside_ok {N : Nat} {a0 : Int} {a1 : (List Int)} {r : Bool} (h : p_asset_outside N a0 a1 = some r) : FnM Try.prog 82 [] [(j64 a0), (eL 1 j64 a1)] (eB r) [] := by
 unfold p_asset_outside at h
 refine fnM_of_aw (m := 8) (lo := 0) (rs := [.tmp 4]) hT Try.func82 rfl (by kernel_rfl) rfl ?_
 refine aw_sregU hT m_asset_outside [] (by kernel_rfl) ?_
 refine aw_sreg ?_
 refine awl_u hT m_asset_outside [] 1 (by kernel_rfl) ?_
 refine awl_big (big_mkf (x := (.fn (.func 96) [] [(.im (j64 a0))])) (by kernel_rfl) (by kernel_rfl)) (by kernel_rfl) ?_
 obtain ⟨r1, hr1, h⟩ := obind h
 refine awl_big (big_call [] (slices_ContainsFunc_int_int_outside_1_ok hr1) slices_ContainsFunc_int_int_outside_1_ok_c) (by kernel_rfl) ?_
 refine awl_u hT m_asset_outside [] 1 (by kernel_rfl) ?_
 refine awl_nil ?_
 refine aw_ret ?_
 cases h
 exact fin_r

theorem asset_outside_ok_c : callable Try.prog 82 := ⟨_, Try.func82, by decide, rfl⟩

def m_asset_Material : Nat → Bool := imL [1]

def p_asset_Material (N : Nat) (a0 : S_api_Material) : Option (Int) :=
 Option.bind (Option.bind (p_asset_outside N 4 ([a0.gKind])) fun r2 =>
 cond r2 (
  some true) (
  Option.bind (idx a0.gColor.toList 0) fun e3 =>
  Option.bind (idx a0.gColor.toList 1) fun e4 =>
  Option.bind (idx a0.gColor.toList 2) fun e5 =>
  Option.bind (p_asset_outside N 65535 ([e3, e4, e5, a0.gRough])) fun r6 =>
  some r6)) fun p1 =>
 cond p1 (some 5) (some 0)

theorem asset_Material_ok {N : Nat} {a0 : S_api_Material} {r : Int} (h : p_asset_Material N a0 = some r) : FnM Try.prog 69 [] [(S_api_Material.enc a0)] (j64 r) [] := by
 unfold p_asset_Material at h
 refine fnM_of_aw (m := 22) (lo := 0) (rs := [.tmp 2]) hT Try.func69 rfl (by kernel_rfl) rfl ?_
 refine aw_sregU hT m_asset_Material [] (by kernel_rfl) ?_
 refine aw_seq ?_
 obtain ⟨p1, h, g1⟩ := obind h
 refine aw_joinT ⟨[en 21 (eB p1)], []⟩ ?_ ?_
 ·refine aw_region ?_
  refine awl_u hT m_asset_Material [] 2 (by kernel_rfl) ?_
  refine awl_big (big_row hT (x := (.sl 1 1 [(j64 a0.gKind)]))) (by kernel_rfl) ?_
  obtain ⟨r2, hr2, h⟩ := obind h
  refine awl_big (big_call [] (asset_outside_ok hr2) asset_outside_ok_c) (by kernel_rfl) ?_
  refine awl_u hT m_asset_Material [] 1 (by kernel_rfl) ?_
  refine awl_split 7 h (by kernel_rfl) (fun h => ?_) (fun h => ?_)
  ·refine awl_u hT m_asset_Material [7] 14 (by kernel_rfl) ?_
   refine awl_nil (tn_n ?_)
   cases h
   exact jr
  ·refine awl_u hT m_asset_Material [7] 1 (by kernel_rfl) ?_
   obtain ⟨e3, he3, h⟩ := obind h
   refine awl_big (big_adI hT (N := 3) (k := 1) j64 a0.gColor he3) (by kernel_rfl) ?_
   refine awl_u hT m_asset_Material [7] 2 (by kernel_rfl) ?_
   obtain ⟨e4, he4, h⟩ := obind h
   refine awl_big (big_adI hT (N := 3) (k := 1) j64 a0.gColor he4) (by kernel_rfl) ?_
   first | refine awl_to ⟨[en 1 (.im (S_api_Material.enc a0)), en 7 (eB false), en 10 (j64 e3), en 12 (.im (j64 e4))], []⟩ (by kernel_rfl) ?_ | skip
   refine awl_u hT m_asset_Material [7] 2 (by kernel_rfl) ?_
   obtain ⟨e5, he5, h⟩ := obind h
   refine awl_big (big_adI hT (N := 3) (k := 1) j64 a0.gColor he5) (by kernel_rfl) ?_
   refine awl_u hT m_asset_Material [7] 3 (by kernel_rfl) ?_
   refine awl_big (big_row hT (x := (.sl 1 4 [(j64 e3), (j64 e4), (j64 e5), (j64 a0.gRough)]))) (by kernel_rfl) ?_
   obtain ⟨r6, hr6, h⟩ := obind h
   refine awl_big (big_call [] (asset_outside_ok hr6) asset_outside_ok_c) (by kernel_rfl) ?_
   refine awl_u hT m_asset_Material [7] 1 (by kernel_rfl) ?_
   refine awl_nil (tn_n ?_)
   cases h
   exact jr
 ·have h := g1
  refine aw_condH h (by kernel_rfl) (fun _ h => ?_) (fun _ h => ?_)
  ·refine aw_sregU hT m_asset_Material [] (by kernel_rfl) ?_
   refine aw_ret (tn_r ?_)
   cases h
   exact fin_r
  ·refine aw_skip (tn_n ?_)
   refine aw_sregU hT m_asset_Material [] (by kernel_rfl) ?_
   refine aw_ret ?_
   cases h
   exact fin_r

theorem asset_Material_ok_c : callable Try.prog 69 := ⟨_, Try.func69, by decide, rfl⟩

def m_asset_Light_1 : Nat → Bool := imL [1]

def p_asset_Light_1 (N : Nat) (a0 : S_api_Point) : Option (Bool) :=
 Option.bind (letO (decide ((imax (imax a0.gX a0.gY) a0.gZ) > 4096)) fun x2 =>
 cond x2 (
  some true) (
  letO (decide ((imin (imin a0.gX a0.gY) a0.gZ) < (-4096))) fun x3 =>
  some x3)) fun p1 =>
 some p1

theorem asset_Light_1_ok {N : Nat} {a0 : S_api_Point} {r : Bool} (h : p_asset_Light_1 N a0 = some r) : FnM Try.prog 83 [] [(S_api_Point.enc a0)] (eB r) [] := by
 unfold p_asset_Light_1 at h
 refine fnM_of_aw (m := 21) (lo := 0) (rs := [.tmp 2]) hT Try.func83 rfl (by kernel_rfl) rfl ?_
 refine aw_sregU hT m_asset_Light_1 [] (by kernel_rfl) ?_
 obtain ⟨p1, h, g1⟩ := obind h
 refine aw_joinT ⟨[en 2 (eB p1)], []⟩ ?_ ?_
 ·refine aw_region ?_
  refine awl_u hT m_asset_Light_1 [] 6 (by kernel_rfl) ?_
  refine awl_big (big_max3 (k := .i64) (i := a0.gX) (j := a0.gY) (l := a0.gZ) (by kernel_rfl) (by kernel_rfl)) (by kernel_rfl) ?_
  obtain ⟨x2, hx2, h⟩ := letE h
  refine awl_u hT m_asset_Light_1 [] 2 (by kernel_rfl) ?_
  refine awl_nms [(11, (eB x2))] (by subst hx2; kernel_rfl) ?_
  refine awl_split 11 h (by kernel_rfl) (fun h => ?_) (fun h => ?_)
  ·refine awl_u hT m_asset_Light_1 [11] 10 (by kernel_rfl) ?_
   refine awl_nil (tn_n ?_)
   cases h
   exact jr
  ·refine awl_u hT m_asset_Light_1 [11] 6 (by kernel_rfl) ?_
   refine awl_big (big_min3 (k := .i64) (i := a0.gX) (j := a0.gY) (l := a0.gZ) (by kernel_rfl) (by kernel_rfl)) (by kernel_rfl) ?_
   obtain ⟨x3, hx3, h⟩ := letE h
   refine awl_u hT m_asset_Light_1 [11] 3 (by kernel_rfl) ?_
   refine awl_nms [(2, (eB x3))] (by subst hx3; kernel_rfl) ?_
   refine awl_nil (tn_n ?_)
   cases h
   exact jr
 ·have h := g1
  refine aw_ret ?_
  cases h
  exact fin_r

theorem asset_Light_1_ok_c : callable Try.prog 83 := ⟨_, Try.func83, by decide, rfl⟩

def m_asset_Light : Nat → Bool := imL [1]

def p_asset_Light (N : Nat) (a0 : S_api_Light) : Option (Int) :=
 Option.bind (Option.bind (p_asset_outside N 2 ([a0.gKind])) fun r2 =>
 cond r2 (
  some true) (
  Option.bind (slcO a0.gColor.toList 0 3) fun s3 =>
  Option.bind (p_asset_outside N 1048576 s3) fun r4 =>
  some r4)) fun p1 =>
 cond p1 (
  some 5) (
  Option.bind (Option.bind (p_asset_Light_1 N a0.gAt) fun r6 =>
  cond r6 (
   some true) (
   Option.bind (p_asset_Light_1 N a0.gU) fun r7 =>
   cond r7 (
    some true) (
    Option.bind (p_asset_Light_1 N a0.gV) fun r8 =>
    some r8))) fun p5 =>
  cond p5 (
   some 8) (
   Option.bind (cond (a0.gKind == 2) (
    cond (!(S_api_Point.eq a0.gAt (S_api_Point.mk 0 0 0))) (
     some (Sum.inr 5)) (
     Option.bind (letO (!(S_api_Point.eq a0.gU (S_api_Point.mk 0 0 0))) fun x11 =>
     cond x11 (
      some true) (
      some (!(S_api_Point.eq a0.gV (S_api_Point.mk 0 0 0))))) fun p10 =>
     cond p10 (some (Sum.inr 5)) (some (Sum.inl (()))))) (
    cond (a0.gKind == 0) (
     Option.bind (letO (!(S_api_Point.eq a0.gU (S_api_Point.mk 0 0 0))) fun x13 =>
     cond x13 (
      some true) (
      some (!(S_api_Point.eq a0.gV (S_api_Point.mk 0 0 0))))) fun p12 =>
     cond p12 (some (Sum.inr 5)) (some (Sum.inl (())))) (
     some (Sum.inl (()))))) fun o => sumC o (fun p9 =>
    some 0) (fun r => some r)))

theorem asset_Light_ok {N : Nat} {a0 : S_api_Light} {r : Int} (h : p_asset_Light N a0 = some r) : FnM Try.prog 70 [] [(S_api_Light.enc a0)] (j64 r) [] := by
 unfold p_asset_Light at h
 refine fnM_of_aw (m := 53) (lo := 0) (rs := [.tmp 2]) hT Try.func70 rfl (by kernel_rfl) rfl ?_
 refine aw_sregU hT m_asset_Light [] (by kernel_rfl) ?_
 refine aw_sregU hT m_asset_Light [] (by kernel_rfl) ?_
 refine aw_sregU hT m_asset_Light [] (by kernel_rfl) ?_
 refine aw_seq ?_
 refine aw_block ?_
 obtain ⟨p1, h, g1⟩ := obind h
 refine aw_joinT ⟨[en 1 (.im (S_api_Light.enc a0)), en 3 (.fn (.func 83) [] []), en 4 (.ref 0 [] 0), en 6 (eB p1)], [.var (.st 3 [(j64 0), (j64 0), (j64 0)])]⟩ ?_ ?_
 ·refine aw_region ?_
  refine awl_u hT m_asset_Light [] 2 (by kernel_rfl) ?_
  refine awl_big (big_row hT (x := (.sl 1 1 [(j64 a0.gKind)]))) (by kernel_rfl) ?_
  obtain ⟨r2, hr2, h⟩ := obind h
  refine awl_big (big_call [] (asset_outside_ok hr2) asset_outside_ok_c) (by kernel_rfl) ?_
  refine awl_u hT m_asset_Light [] 1 (by kernel_rfl) ?_
  refine awl_split 11 h (by kernel_rfl) (fun h => ?_) (fun h => ?_)
  ·refine awl_u hT m_asset_Light [11] 5 (by kernel_rfl) ?_
   refine awl_nil (tn_n ?_)
   cases h
   exact jr
  ·refine awl_u hT m_asset_Light [11] 1 (by kernel_rfl) ?_
   obtain ⟨s3, hs3, h⟩ := obind h
   refine awl_big (big_slI hT (N := 3) (k := 1) j64 a0.gColor hs3) (by kernel_rfl) ?_
   obtain ⟨r4, hr4, h⟩ := obind h
   refine awl_big (big_call [] (asset_outside_ok hr4) asset_outside_ok_c) (by kernel_rfl) ?_
   refine awl_u hT m_asset_Light [11] 2 (by kernel_rfl) ?_
   refine awl_nil (tn_n ?_)
   cases h
   exact jr
 ·have h := g1
  refine aw_condH h (by kernel_rfl) (fun _ h => ?_) (fun _ h => ?_)
  ·refine aw_sregU hT m_asset_Light [] (by kernel_rfl) ?_
   refine aw_ret (inB_r (tn_r ?_))
   cases h
   exact fin_r
  ·obtain ⟨p5, h, g5⟩ := obind h
   refine aw_joinT ⟨[en 1 (.im (S_api_Light.enc a0)), en 4 (.ref 0 [] 0), en 16 (eB p5)], [.var (.st 3 [(j64 0), (j64 0), (j64 0)])]⟩ ?_ ?_
   ·refine aw_region ?_
    refine awl_u hT m_asset_Light [] 3 (by kernel_rfl) ?_
    obtain ⟨r6, hr6, h⟩ := obind h
    refine awl_big (big_call [] (asset_Light_1_ok hr6) asset_Light_1_ok_c) (by kernel_rfl) ?_
    refine awl_u hT m_asset_Light [] 1 (by kernel_rfl) ?_
    refine awl_split 21 h (by kernel_rfl) (fun h => ?_) (fun h => ?_)
    ·refine awl_u hT m_asset_Light [21, 27] 12 (by kernel_rfl) ?_
     refine awl_nil (tn_n ?_)
     cases h
     exact jr
    ·refine awl_u hT m_asset_Light [21] 3 (by kernel_rfl) ?_
     obtain ⟨r7, hr7, h⟩ := obind h
     refine awl_big (big_call [] (asset_Light_1_ok hr7) asset_Light_1_ok_c) (by kernel_rfl) ?_
     refine awl_u hT m_asset_Light [21] 2 (by kernel_rfl) ?_
     refine awl_split 27 h (by kernel_rfl) (fun h => ?_) (fun h => ?_)
     ·refine awl_u hT m_asset_Light [27] 6 (by kernel_rfl) ?_
      refine awl_nil (tn_n ?_)
      cases h
      exact jr
     ·refine awl_u hT m_asset_Light [27] 3 (by kernel_rfl) ?_
      obtain ⟨r8, hr8, h⟩ := obind h
      refine awl_big (big_call [] (asset_Light_1_ok hr8) asset_Light_1_ok_c) (by kernel_rfl) ?_
      refine awl_u hT m_asset_Light [27] 2 (by kernel_rfl) ?_
      refine awl_nil (tn_n ?_)
      cases h
      exact jr
   ·have h := g5
    refine aw_condH h (by kernel_rfl) (fun _ h => ?_) (fun _ h => ?_)
    ·refine aw_sregU hT m_asset_Light [] (by kernel_rfl) ?_
     refine aw_ret (inB_r (tn_r ?_))
     cases h
     exact fin_r
    ·refine aw_skip (inB_n (tn_n ?_))
     obtain ⟨op9, h, g9⟩ := obind h
     refine aw_joinS (fun p9 => ⟨[], [.var (.st 3 [(j64 0), (j64 0), (j64 0)])]⟩) g9 ?_ (fun p9 h => ?_)
     ·refine aw_sregU hT m_asset_Light [] (by kernel_rfl) ?_
      refine aw_block ?_
      refine aw_seq ?_
      refine aw_block ?_
      refine aw_seq ?_
      refine aw_block ?_
      refine aw_seq ?_
      refine aw_seq ?_
      refine aw_sregU hT m_asset_Light [] (by kernel_rfl) ?_
      refine aw_condH h (by kernel_rfl) (fun _ h => ?_) (fun _ h => ?_)
      ·refine aw_exit (tn_x (tn_x (inB_e (tn_n ?_))))
       refine aw_sreg ?_
       refine awl_u hT m_asset_Light [] 3 (by kernel_rfl) ?_
       refine awl_big (big_neq eqT_41 (a0.gAt : S_api_Point) (S_api_Point.mk 0 0 0 : S_api_Point) (by kernel_rfl) (by kernel_rfl) (fun _ => rfl) (fun _ => rfl) (by kernel_rfl) (by kernel_rfl)) (by kernel_rfl) ?_
       refine awl_nil ?_
       refine aw_condH h (by kernel_rfl) (fun _ h => ?_) (fun _ h => ?_)
       ·refine aw_sregU hT m_asset_Light [] (by kernel_rfl) ?_
        cases h
        have h := g9
        refine aw_ret (inB_r (tn_r (inB_r (tn_r ?_))))
        obtain rfl := sum_e h
        exact fin_r
       ·refine aw_skip (inB_n (tn_n ?_))
        refine aw_seq ?_
        obtain ⟨p10, h, g10⟩ := obind h
        refine aw_joinT ⟨[en 52 (eB p10)], [.var (.st 3 [(j64 0), (j64 0), (j64 0)])]⟩ ?_ ?_
        ·refine aw_region ?_
         refine awl_u hT m_asset_Light [] 3 (by kernel_rfl) ?_
         refine awl_big (big_neq eqT_41 (a0.gU : S_api_Point) (S_api_Point.mk 0 0 0 : S_api_Point) (by kernel_rfl) (by kernel_rfl) (fun _ => rfl) (fun _ => rfl) (by kernel_rfl) (by kernel_rfl)) (by kernel_rfl) ?_
         obtain ⟨x11, hx11, h⟩ := letE h
         refine awl_u hT m_asset_Light [] 1 (by kernel_rfl) ?_
         refine awl_nms [(47, (eB x11))] (by subst hx11; kernel_rfl) ?_
         refine awl_split 47 h (by kernel_rfl) (fun h => ?_) (fun h => ?_)
         ·refine awl_u hT m_asset_Light [47] 5 (by kernel_rfl) ?_
          refine awl_nil (tn_n ?_)
          cases h
          exact jr
         ·refine awl_u hT m_asset_Light [47] 3 (by kernel_rfl) ?_
          refine awl_big (big_neq eqT_41 (a0.gV : S_api_Point) (S_api_Point.mk 0 0 0 : S_api_Point) (by kernel_rfl) (by kernel_rfl) (fun _ => rfl) (fun _ => rfl) (by kernel_rfl) (by kernel_rfl)) (by kernel_rfl) ?_
          refine awl_u hT m_asset_Light [47] 1 (by kernel_rfl) ?_
          refine awl_nil (tn_n ?_)
          cases h
          exact jr
        ·have h := g10
         refine aw_condH h (by kernel_rfl) (fun _ h => ?_) (fun _ h => ?_)
         ·refine aw_sregU hT m_asset_Light [] (by kernel_rfl) ?_
          cases h
          have h := g9
          refine aw_ret (tn_r (inB_r (tn_r ?_)))
          obtain rfl := sum_e h
          exact fin_r
         ·refine aw_skip (tn_n ?_)
          refine aw_exit (inB_e (tn_n ?_))
          cases h
          exact ⟨_, rfl, jr⟩
      ·refine aw_skip (tn_n ?_)
       refine aw_sregU hT m_asset_Light [] (by kernel_rfl) ?_
       refine aw_condH h (by kernel_rfl) (fun _ h => ?_) (fun _ h => ?_)
       ·refine aw_exit (tn_x (inB_x (by kernel_rfl) (tn_x (inB_e (tn_n ?_)))))
        refine aw_seq ?_
        obtain ⟨p12, h, g12⟩ := obind h
        refine aw_joinT ⟨[en 52 (eB p12)], [.var (.st 3 [(j64 0), (j64 0), (j64 0)])]⟩ ?_ ?_
        ·refine aw_region ?_
         refine awl_u hT m_asset_Light [] 3 (by kernel_rfl) ?_
         refine awl_big (big_neq eqT_41 (a0.gU : S_api_Point) (S_api_Point.mk 0 0 0 : S_api_Point) (by kernel_rfl) (by kernel_rfl) (fun _ => rfl) (fun _ => rfl) (by kernel_rfl) (by kernel_rfl)) (by kernel_rfl) ?_
         obtain ⟨x13, hx13, h⟩ := letE h
         refine awl_u hT m_asset_Light [] 1 (by kernel_rfl) ?_
         refine awl_nms [(47, (eB x13))] (by subst hx13; kernel_rfl) ?_
         refine awl_split 47 h (by kernel_rfl) (fun h => ?_) (fun h => ?_)
         ·refine awl_u hT m_asset_Light [47] 5 (by kernel_rfl) ?_
          refine awl_nil (tn_n ?_)
          cases h
          exact jr
         ·refine awl_u hT m_asset_Light [47] 3 (by kernel_rfl) ?_
          refine awl_big (big_neq eqT_41 (a0.gV : S_api_Point) (S_api_Point.mk 0 0 0 : S_api_Point) (by kernel_rfl) (by kernel_rfl) (fun _ => rfl) (fun _ => rfl) (by kernel_rfl) (by kernel_rfl)) (by kernel_rfl) ?_
          refine awl_u hT m_asset_Light [47] 1 (by kernel_rfl) ?_
          refine awl_nil (tn_n ?_)
          cases h
          exact jr
        ·have h := g12
         refine aw_condH h (by kernel_rfl) (fun _ h => ?_) (fun _ h => ?_)
         ·refine aw_sregU hT m_asset_Light [] (by kernel_rfl) ?_
          cases h
          have h := g9
          refine aw_ret (tn_r (inB_r (tn_r ?_)))
          obtain rfl := sum_e h
          exact fin_r
         ·refine aw_skip (tn_n ?_)
          refine aw_exit (inB_e (tn_n ?_))
          cases h
          exact ⟨_, rfl, jr⟩
       ·refine aw_skip (tn_n ?_)
        refine aw_exit (inB_x (by kernel_rfl) (tn_x (inB_x (by kernel_rfl) (tn_x (inB_e (tn_n ?_))))))
        cases h
        exact ⟨_, rfl, jr⟩
     ·refine aw_sregU hT m_asset_Light [] (by kernel_rfl) ?_
      refine aw_ret ?_
      cases h
      exact fin_r

theorem asset_Light_ok_c : callable Try.prog 70 := ⟨_, Try.func70, by decide, rfl⟩

def m_asset_own : Nat → Bool := imL [1]

def p_asset_own (N : Nat) (a0 : S_api_Asset) : Option (Int) :=
 cond (a0.gKind == 1) (
  Option.bind (p_mesh_Check N a0.gMesh) fun r1 =>
  some r1) (
  cond (a0.gKind == 2) (
   Option.bind (p_texture_Check N a0.gTexture) fun r2 =>
   some r2) (
   cond (a0.gKind == 3) (
    Option.bind (p_asset_Material N a0.gMaterial) fun r3 =>
    some r3) (
    cond (a0.gKind == 4) (
     Option.bind (p_asset_Light N a0.gLight) fun r4 =>
     some r4) (
     some 12))))

theorem asset_own_ok {N : Nat} {a0 : S_api_Asset} {r : Int} (h : p_asset_own N a0 = some r) : FnM Try.prog 54 [] [(S_api_Asset.enc a0)] (j64 r) [] := by
 unfold p_asset_own at h
 refine fnM_of_aw (m := 25) (lo := 0) (rs := [.tmp 2]) hT Try.func54 rfl (by kernel_rfl) rfl ?_
 refine aw_sregU hT m_asset_own [] (by kernel_rfl) ?_
 refine aw_seq ?_
 refine aw_sregU hT m_asset_own [] (by kernel_rfl) ?_
 refine aw_block ?_
 refine aw_sregU hT m_asset_own [] (by kernel_rfl) ?_
 refine aw_condH h (by kernel_rfl) (fun _ h => ?_) (fun _ h => ?_)
 ·refine aw_sreg ?_
  refine awl_u hT m_asset_own [] 2 (by kernel_rfl) ?_
  obtain ⟨r1, hr1, h⟩ := obind h
  refine awl_big (big_call [] (mesh_Check_ok hr1) mesh_Check_ok_c) (by kernel_rfl) ?_
  refine awl_u hT m_asset_own [] 1 (by kernel_rfl) ?_
  refine awl_nil ?_
  refine aw_ret (inB_r (tn_r ?_))
  cases h
  exact fin_r
 ·refine aw_sregU hT m_asset_own [] (by kernel_rfl) ?_
  refine aw_condH h (by kernel_rfl) (fun _ h => ?_) (fun _ h => ?_)
  ·refine aw_sreg ?_
   refine awl_u hT m_asset_own [] 2 (by kernel_rfl) ?_
   obtain ⟨r2, hr2, h⟩ := obind h
   refine awl_big (big_call [] (texture_Check_ok hr2) texture_Check_ok_c) (by kernel_rfl) ?_
   refine awl_u hT m_asset_own [] 1 (by kernel_rfl) ?_
   refine awl_nil ?_
   refine aw_ret (inB_r (tn_r ?_))
   cases h
   exact fin_r
  ·refine aw_sregU hT m_asset_own [] (by kernel_rfl) ?_
   refine aw_condH h (by kernel_rfl) (fun _ h => ?_) (fun _ h => ?_)
   ·refine aw_sreg ?_
    refine awl_u hT m_asset_own [] 2 (by kernel_rfl) ?_
    obtain ⟨r3, hr3, h⟩ := obind h
    refine awl_big (big_call [] (asset_Material_ok hr3) asset_Material_ok_c) (by kernel_rfl) ?_
    refine awl_u hT m_asset_own [] 1 (by kernel_rfl) ?_
    refine awl_nil ?_
    refine aw_ret (inB_r (tn_r ?_))
    cases h
    exact fin_r
   ·refine aw_sregU hT m_asset_own [] (by kernel_rfl) ?_
    refine aw_condH h (by kernel_rfl) (fun _ h => ?_) (fun _ h => ?_)
    ·refine aw_sreg ?_
     refine awl_u hT m_asset_own [] 2 (by kernel_rfl) ?_
     obtain ⟨r4, hr4, h⟩ := obind h
     refine awl_big (big_call [] (asset_Light_ok hr4) asset_Light_ok_c) (by kernel_rfl) ?_
     refine awl_u hT m_asset_own [] 1 (by kernel_rfl) ?_
     refine awl_nil ?_
     refine aw_ret (inB_r (tn_r ?_))
     cases h
     exact fin_r
    ·refine aw_skip (inB_n (tn_n ?_))
     refine aw_sregU hT m_asset_own [] (by kernel_rfl) ?_
     refine aw_ret ?_
     cases h
     exact fin_r

theorem asset_own_ok_c : callable Try.prog 54 := ⟨_, Try.func54, by decide, rfl⟩

def p_asset_bare (N : Nat) (a0 : S_api_Asset) : Option (S_api_Asset) :=
 Option.bind (cond (a0.gKind == 1) (
  some (([], [], [], a0.gTexture.gSide, a0.gTexture.gTexels, a0.gMaterial.gKind, a0.gMaterial.gColor, a0.gMaterial.gRough, a0.gLight.gKind, a0.gLight.gColor, a0.gLight.gAt.gX, a0.gLight.gAt.gY, a0.gLight.gAt.gZ, a0.gLight.gU.gX, a0.gLight.gU.gY, a0.gLight.gU.gZ, a0.gLight.gV.gX, a0.gLight.gV.gY, a0.gLight.gV.gZ))) (
  cond (a0.gKind == 2) (
   some ((a0.gMesh.gVerts, a0.gMesh.gUvs, a0.gMesh.gTris, 0, [], a0.gMaterial.gKind, a0.gMaterial.gColor, a0.gMaterial.gRough, a0.gLight.gKind, a0.gLight.gColor, a0.gLight.gAt.gX, a0.gLight.gAt.gY, a0.gLight.gAt.gZ, a0.gLight.gU.gX, a0.gLight.gU.gY, a0.gLight.gU.gZ, a0.gLight.gV.gX, a0.gLight.gV.gY, a0.gLight.gV.gZ))) (
   cond (a0.gKind == 3) (
    some ((a0.gMesh.gVerts, a0.gMesh.gUvs, a0.gMesh.gTris, a0.gTexture.gSide, a0.gTexture.gTexels, 0, #v[0, 0, 0], 0, a0.gLight.gKind, a0.gLight.gColor, a0.gLight.gAt.gX, a0.gLight.gAt.gY, a0.gLight.gAt.gZ, a0.gLight.gU.gX, a0.gLight.gU.gY, a0.gLight.gU.gZ, a0.gLight.gV.gX, a0.gLight.gV.gY, a0.gLight.gV.gZ))) (
    cond (a0.gKind == 4) (
     some ((a0.gMesh.gVerts, a0.gMesh.gUvs, a0.gMesh.gTris, a0.gTexture.gSide, a0.gTexture.gTexels, a0.gMaterial.gKind, a0.gMaterial.gColor, a0.gMaterial.gRough, 0, #v[0, 0, 0], 0, 0, 0, 0, 0, 0, 0, 0, 0))) (
     some ((a0.gMesh.gVerts, a0.gMesh.gUvs, a0.gMesh.gTris, a0.gTexture.gSide, a0.gTexture.gTexels, a0.gMaterial.gKind, a0.gMaterial.gColor, a0.gMaterial.gRough, a0.gLight.gKind, a0.gLight.gColor, a0.gLight.gAt.gX, a0.gLight.gAt.gY, a0.gLight.gAt.gZ, a0.gLight.gU.gX, a0.gLight.gU.gY, a0.gLight.gU.gZ, a0.gLight.gV.gX, a0.gLight.gV.gY, a0.gLight.gV.gZ))))))) fun p1 =>
 some (S_api_Asset.mk a0.gKind (S_api_Mesh.mk p1.1 p1.2.1 p1.2.2.1) (S_api_Texture.mk p1.2.2.2.1 p1.2.2.2.2.1) (S_api_Material.mk p1.2.2.2.2.2.1 p1.2.2.2.2.2.2.1 p1.2.2.2.2.2.2.2.1) (S_api_Light.mk p1.2.2.2.2.2.2.2.2.1 p1.2.2.2.2.2.2.2.2.2.1 (S_api_Point.mk p1.2.2.2.2.2.2.2.2.2.2.1 p1.2.2.2.2.2.2.2.2.2.2.2.1 p1.2.2.2.2.2.2.2.2.2.2.2.2.1) (S_api_Point.mk p1.2.2.2.2.2.2.2.2.2.2.2.2.2.1 p1.2.2.2.2.2.2.2.2.2.2.2.2.2.2.1 p1.2.2.2.2.2.2.2.2.2.2.2.2.2.2.2.1) (S_api_Point.mk p1.2.2.2.2.2.2.2.2.2.2.2.2.2.2.2.2.1 p1.2.2.2.2.2.2.2.2.2.2.2.2.2.2.2.2.2.1 p1.2.2.2.2.2.2.2.2.2.2.2.2.2.2.2.2.2.2)))

theorem asset_bare_ok {N : Nat} {a0 : S_api_Asset} {r : S_api_Asset} (h : p_asset_bare N a0 = some r) : FnM Try.prog 55 [] [(S_api_Asset.enc a0)] (S_api_Asset.enc r) [] := by
 unfold p_asset_bare at h
 refine fnM_of_aw (m := 22) (lo := 0) (rs := [.cell 2 45]) hT Try.func55 rfl (by kernel_rfl) rfl ?_
 refine aw_sregU hT m_no [] (by kernel_rfl) ?_
 obtain ⟨p1, h, g1⟩ := obind h
 refine aw_joinT ⟨[en 1 (.ref 0 [] 0), en 2 (.ref 1 [] 0)], [.var (.st 24 [(j64 a0.gKind), (.st 3 [(eL 3 S_api_Point.enc p1.1), (eL 2 (eA 2 1 j64) p1.2.1), (eL 3 (eA 3 1 j64) p1.2.2.1)]), (.st 2 [(j64 p1.2.2.2.1), (eL 3 (eA 3 1 j64) p1.2.2.2.2.1)]), (.st 5 [(j64 p1.2.2.2.2.2.1), (eA 3 1 j64 p1.2.2.2.2.2.2.1), (j64 p1.2.2.2.2.2.2.2.1)]), (.st 13 [(j64 p1.2.2.2.2.2.2.2.2.1), (eA 3 1 j64 p1.2.2.2.2.2.2.2.2.2.1), (.st 3 [(j64 p1.2.2.2.2.2.2.2.2.2.2.1), (j64 p1.2.2.2.2.2.2.2.2.2.2.2.1), (j64 p1.2.2.2.2.2.2.2.2.2.2.2.2.1)]), (.st 3 [(j64 p1.2.2.2.2.2.2.2.2.2.2.2.2.2.1), (j64 p1.2.2.2.2.2.2.2.2.2.2.2.2.2.2.1), (j64 p1.2.2.2.2.2.2.2.2.2.2.2.2.2.2.2.1)]), (.st 3 [(j64 p1.2.2.2.2.2.2.2.2.2.2.2.2.2.2.2.2.1), (j64 p1.2.2.2.2.2.2.2.2.2.2.2.2.2.2.2.2.2.1), (j64 p1.2.2.2.2.2.2.2.2.2.2.2.2.2.2.2.2.2.2)])])]), .var cv_3]⟩ ?_ ?_
 ·refine aw_sregU hT m_no [] (by kernel_rfl) ?_
  refine aw_block ?_
  refine aw_sregU hT m_no [] (by kernel_rfl) ?_
  refine aw_condH h (by kernel_rfl) (fun _ h => ?_) (fun _ h => ?_)
  ·refine aw_regU hT m_no [] (by kernel_rfl) (inB_n (tn_n ?_))
   cases h
   exact jr
  ·refine aw_sregU hT m_no [] (by kernel_rfl) ?_
   refine aw_condH h (by kernel_rfl) (fun _ h => ?_) (fun _ h => ?_)
   ·refine aw_regU hT m_no [] (by kernel_rfl) (inB_n (tn_n ?_))
    cases h
    exact jr
   ·refine aw_sregU hT m_no [] (by kernel_rfl) ?_
    refine aw_condH h (by kernel_rfl) (fun _ h => ?_) (fun _ h => ?_)
    ·refine aw_regU hT m_no [] (by kernel_rfl) (inB_n (tn_n ?_))
     cases h
     exact jr
    ·refine aw_sregU hT m_no [] (by kernel_rfl) ?_
     refine aw_condH h (by kernel_rfl) (fun _ h => ?_) (fun _ h => ?_)
     ·refine aw_regU hT m_no [] (by kernel_rfl) (inB_n (tn_n ?_))
      cases h
      exact jr
     ·refine aw_skip (inB_n (tn_n ?_))
      cases h
      exact jr
 ·have h := g1
  refine aw_sregU hT m_no [] (by kernel_rfl) ?_
  refine aw_ret ?_
  cases h
  exact fin_r

theorem asset_bare_ok_c : callable Try.prog 55 := ⟨_, Try.func55, by decide, rfl⟩

def p_asset_alike_api_Point_L1 (N : Nat) (a0 : (List S_api_Point)) (a1 : (List S_api_Point)) : Nat → Int → Option (Sum (Unit) (Bool))
 | 0, _ => none
 | k + 1, s3 =>
  letO (decide (s3 < ((a0.length : Int)))) fun x4 =>
  cond x4 (
   Option.bind (idx a0 s3) fun e5 =>
   Option.bind (idx a1 s3) fun e6 =>
   cond (!(S_api_Point.eq e5 e6)) (
    some (Sum.inr false)) (
    p_asset_alike_api_Point_L1 N a0 a1 k (I64 (s3 + 1)))) (
   some (Sum.inl (())))

def p_asset_alike_api_Point (N : Nat) (a0 : (List S_api_Point)) (a1 : (List S_api_Point)) : Option (Bool) :=
 letO (((a0.length : Int)) != ((a1.length : Int))) fun x1 =>
 cond x1 (
  some false) (
  Option.bind (p_asset_alike_api_Point_L1 N a0 a1 N 0) fun o => sumC o (fun p2 =>
   some true) (fun r => some r))

theorem asset_alike_api_Point_ok {N : Nat} {a0 : (List S_api_Point)} {a1 : (List S_api_Point)} {r : Bool} (h : p_asset_alike_api_Point N a0 a1 = some r) : FnM Try.prog 33 [] [(eL 3 S_api_Point.enc a0), (eL 3 S_api_Point.enc a1)] (eB r) [] := by
 unfold p_asset_alike_api_Point at h
 refine fnM_of_aw (m := 26) (lo := 0) (rs := [.tmp 4]) hT Try.func33 rfl (by kernel_rfl) rfl ?_
 refine aw_sregU hT m_no [] (by kernel_rfl) ?_
 refine aw_seq ?_
 obtain ⟨x1, hx1, h⟩ := letE h
 refine aw_sregU hT m_no [] (by kernel_rfl) ?_
 refine aw_nms [(10, (eB x1))] (by subst hx1; kernel_rfl) ?_
 refine aw_condH h (by kernel_rfl) (fun _ h => ?_) (fun _ h => ?_)
 ·refine aw_sregU hT m_no [] (by kernel_rfl) ?_
  refine aw_ret (tn_r ?_)
  cases h
  exact fin_r
 ·refine aw_skip (tn_n ?_)
  refine aw_seq ?_
  refine aw_sregU hT m_no [] (by kernel_rfl) ?_
  obtain ⟨op2, h, g2⟩ := obind h
  refine aw_joinSK (fun p2 => ⟨[], []⟩) g2 ?_ (fun p2 h => ?_)
  ·refine aw_block (aw_loop (fun k s => ∃ s3, p_asset_alike_api_Point_L1 N a0 a1 k s3 = some op2 ∧ JR (Fr.f 26 0) ⟨[en 0 (eL 3 S_api_Point.enc a0), en 1 (eL 3 S_api_Point.enc a1), en 12 (j64 ((a0.length : Int))), en 13 (j64 s3)], []⟩ s) (fun k s hI => ?_) N _ ⟨_, h, jr⟩)
   obtain ⟨s3, h, hj⟩ := hI
   cases k with
   | zero => cases h
   | succ k =>
    refine aw_jr hj ?_
    obtain ⟨x4, hx4, h⟩ := letE h
    refine aw_sregU hT m_no [] (by kernel_rfl) ?_
    refine aw_nms [(14, (eB x4))] (by subst hx4; kernel_rfl) ?_
    refine aw_seq ?_
    refine aw_condH h (by kernel_rfl) (fun _ h => ?_) (fun _ h => ?_)
    ·refine aw_skip (tn_n ?_)
     refine aw_seq ?_
     refine aw_block ?_
     refine aw_sregU hT m_no [] (by kernel_rfl) ?_
     obtain ⟨e5, he5, h⟩ := obind h
     obtain ⟨e6, he6, h⟩ := obind h
     refine aw_sdrawV hT hmo m_no [(2, (.im (S_api_Point.enc e5))), (6, (.im (S_api_Point.enc e6))), (8, (eB (!(S_api_Point.eq e5 e6))))] [] (by kernel_rfl) (by kernel_rfl) (by kernel_rfl) ⟨fun _ => big_idx hT S_api_Point.enc he5, fun _ => big_idx hT S_api_Point.enc he6, fun _ => big_neq eqT_41 (e5 : S_api_Point) (e6 : S_api_Point) (by kernel_rfl) (by kernel_rfl) (fun _ => rfl) (fun _ => rfl) (by kernel_rfl) (by kernel_rfl), trivial⟩ trivial ?_
     refine aw_condH h (by kernel_rfl) (fun _ h => ?_) (fun _ h => ?_)
     ·refine aw_sregU hT m_no [] (by kernel_rfl) ?_
      cases h
      have h := g2
      refine aw_ret (inB_r (tn_r (tn_r (inB_r (tn_r (tn_r ?_))))))
      obtain rfl := sum_e h
      exact fin_r
     ·refine aw_skip (inB_n (tn_n ?_))
      refine aw_regU hT m_no [] (by kernel_rfl) (tn_n ?_)
      exact ⟨k, Nat.lt_succ_self k, _, h, jr⟩
    ·refine aw_exit (tn_x (tn_x (inB_e (tn_n ?_))))
     cases h
     exact ⟨_, rfl, jr⟩
  ·refine (tn_n ?_)
   refine aw_sregU hT m_no [] (by kernel_rfl) ?_
   refine aw_ret ?_
   cases h
   exact fin_r

theorem asset_alike_api_Point_ok_c : callable Try.prog 33 := ⟨_, Try.func33, by decide, rfl⟩

def p_asset_alike_2_int_L1 (N : Nat) (a0 : (List (Vector Int 2))) (a1 : (List (Vector Int 2))) : Nat → Int → Option (Sum (Unit) (Bool))
 | 0, _ => none
 | k + 1, s3 =>
  letO (decide (s3 < ((a0.length : Int)))) fun x4 =>
  cond x4 (
   Option.bind (idx a0 s3) fun e5 =>
   Option.bind (idx a1 s3) fun e6 =>
   cond (!((eqV (fun a b => a == b)) e5 e6)) (
    some (Sum.inr false)) (
    p_asset_alike_2_int_L1 N a0 a1 k (I64 (s3 + 1)))) (
   some (Sum.inl (())))

def p_asset_alike_2_int (N : Nat) (a0 : (List (Vector Int 2))) (a1 : (List (Vector Int 2))) : Option (Bool) :=
 letO (((a0.length : Int)) != ((a1.length : Int))) fun x1 =>
 cond x1 (
  some false) (
  Option.bind (p_asset_alike_2_int_L1 N a0 a1 N 0) fun o => sumC o (fun p2 =>
   some true) (fun r => some r))

theorem asset_alike_2_int_ok {N : Nat} {a0 : (List (Vector Int 2))} {a1 : (List (Vector Int 2))} {r : Bool} (h : p_asset_alike_2_int N a0 a1 = some r) : FnM Try.prog 34 [] [(eL 2 (eA 2 1 j64) a0), (eL 2 (eA 2 1 j64) a1)] (eB r) [] := by
 unfold p_asset_alike_2_int at h
 refine fnM_of_aw (m := 26) (lo := 0) (rs := [.tmp 4]) hT Try.func34 rfl (by kernel_rfl) rfl ?_
 refine aw_sregU hT m_no [] (by kernel_rfl) ?_
 refine aw_seq ?_
 obtain ⟨x1, hx1, h⟩ := letE h
 refine aw_sregU hT m_no [] (by kernel_rfl) ?_
 refine aw_nms [(10, (eB x1))] (by subst hx1; kernel_rfl) ?_
 refine aw_condH h (by kernel_rfl) (fun _ h => ?_) (fun _ h => ?_)
 ·refine aw_sregU hT m_no [] (by kernel_rfl) ?_
  refine aw_ret (tn_r ?_)
  cases h
  exact fin_r
 ·refine aw_skip (tn_n ?_)
  refine aw_seq ?_
  refine aw_sregU hT m_no [] (by kernel_rfl) ?_
  obtain ⟨op2, h, g2⟩ := obind h
  refine aw_joinSK (fun p2 => ⟨[], []⟩) g2 ?_ (fun p2 h => ?_)
  ·refine aw_block (aw_loop (fun k s => ∃ s3, p_asset_alike_2_int_L1 N a0 a1 k s3 = some op2 ∧ JR (Fr.f 26 0) ⟨[en 0 (eL 2 (eA 2 1 j64) a0), en 1 (eL 2 (eA 2 1 j64) a1), en 12 (j64 ((a0.length : Int))), en 13 (j64 s3)], []⟩ s) (fun k s hI => ?_) N _ ⟨_, h, jr⟩)
   obtain ⟨s3, h, hj⟩ := hI
   cases k with
   | zero => cases h
   | succ k =>
    refine aw_jr hj ?_
    obtain ⟨x4, hx4, h⟩ := letE h
    refine aw_sregU hT m_no [] (by kernel_rfl) ?_
    refine aw_nms [(14, (eB x4))] (by subst hx4; kernel_rfl) ?_
    refine aw_seq ?_
    refine aw_condH h (by kernel_rfl) (fun _ h => ?_) (fun _ h => ?_)
    ·refine aw_skip (tn_n ?_)
     refine aw_seq ?_
     refine aw_block ?_
     refine aw_sregU hT m_no [] (by kernel_rfl) ?_
     obtain ⟨e5, he5, h⟩ := obind h
     obtain ⟨e6, he6, h⟩ := obind h
     refine aw_sdrawV hT hmo m_no [(2, (.im (eA 2 1 j64 e5))), (6, (.im (eA 2 1 j64 e6))), (8, (eB (!((eqV (fun a b => a == b)) e5 e6))))] [] (by kernel_rfl) (by kernel_rfl) (by kernel_rfl) ⟨fun _ => big_idx hT (eA 2 1 j64) he5, fun _ => big_idx hT (eA 2 1 j64) he6, fun _ => big_neq eqT_85 (e5 : (Vector Int 2)) (e6 : (Vector Int 2)) (by kernel_rfl) (by kernel_rfl) (fun _ => rfl) (fun _ => rfl) (by kernel_rfl) (by kernel_rfl), trivial⟩ trivial ?_
     refine aw_condH h (by kernel_rfl) (fun _ h => ?_) (fun _ h => ?_)
     ·refine aw_sregU hT m_no [] (by kernel_rfl) ?_
      cases h
      have h := g2
      refine aw_ret (inB_r (tn_r (tn_r (inB_r (tn_r (tn_r ?_))))))
      obtain rfl := sum_e h
      exact fin_r
     ·refine aw_skip (inB_n (tn_n ?_))
      refine aw_regU hT m_no [] (by kernel_rfl) (tn_n ?_)
      exact ⟨k, Nat.lt_succ_self k, _, h, jr⟩
    ·refine aw_exit (tn_x (tn_x (inB_e (tn_n ?_))))
     cases h
     exact ⟨_, rfl, jr⟩
  ·refine (tn_n ?_)
   refine aw_sregU hT m_no [] (by kernel_rfl) ?_
   refine aw_ret ?_
   cases h
   exact fin_r

theorem asset_alike_2_int_ok_c : callable Try.prog 34 := ⟨_, Try.func34, by decide, rfl⟩

end Go.UK

