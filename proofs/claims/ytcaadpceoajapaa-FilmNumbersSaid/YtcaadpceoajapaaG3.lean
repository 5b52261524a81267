/- A part of the proof: what the functions of the program compute. -/
import Derived.Test.YtcaadpceoajapaaG2
namespace Go.UK
open Go Go.Proofs
set_option maxRecDepth 20000
set_option linter.all false

attribute [local irreducible] owp awl aw Go.UK.Fn NatFn opS Stab TOK

/-! umbra/umbraref02.Of -/
def p_umbraref02_Of (N : Nat) (a0 : Int) : Option (Int) :=
  Option.bind (p_umbraref02_Size N a0) fun r1 =>
  letO (decide (r1 ≥ 4294967296)) fun x2 =>
  Option.bind (p_umbraref02_Near N (shl .u64 r1 32) (decide (a0 < 0)) x2) fun r3 =>
  some r3

theorem umbraref02_Of_ok (N : Nat) (a0 : Int) (r : Int) (h : p_umbraref02_Of N a0 = some r) : Fn Try.prog 90 [(eI .i64 a0)] (eI .i64 r) := by
  unfold p_umbraref02_Of at h
  refine fn_of_awR (n := ⟨13, 0⟩) (rs := [.tmp 2]) hT Try.func90 rfl rfl (by kernel_rfl) rfl ?_
  refine (show aw _ _ _ _ ⟨[(0, some (none, (eI .i64 a0)))], []⟩ from ?_)
  refine aw_sreg ?_
  refine awl_runD hT (fun _ => false) [] 1 [0] ⟨[(0, some (none, (eI .i64 a0)))], []⟩ (by kernel_rfl) ?_
  refine awl_nil ?_
  refine aw_sreg ?_
  refine awl_runD hT (fun _ => false) [] 1 [0, 4] ⟨[(0, some (none, (eI .i64 a0))), (4, some (none, (eI .i64 a0)))], []⟩ (by kernel_rfl) ?_
  obtain ⟨r1, hr1, h⟩ := obind h
  refine awl_op (by kernel_rfl) (owp_call (avs := [(eI .i64 a0)]) (pavs := [(eI .i64 a0)]) (ret := (eI .u64 r1)) rfl rfl (by kernel_rfl) (by kernel_rfl) umbraref02_Size_ok_c (pubL_cons (pub_v _) pubL_nil) (umbraref02_Size_ok N a0 r1 hr1) (pub_v _)) ?_
  refine awl_runD hT (fun _ => false) [] 1 [0, 3] ⟨[(0, some (none, (eI .i64 a0))), (3, some (none, (eI .u64 r1)))], []⟩ (by kernel_rfl) ?_
  refine awl_nil ?_
  refine aw_sreg ?_
  obtain ⟨x2, hx2, h⟩ := letO_ex h
  refine awl_runD hT (fun _ => false) [] 6 [7, 9, 11] ⟨[(7, some (none, (eI .u64 (shl .u64 r1 32)))), (9, some (none, (eB (decide (a0 < 0))))), (11, some (none, (eB x2)))], []⟩ (by subst hx2; kernel_rfl) ?_
  obtain ⟨r3, hr3, h⟩ := obind h
  refine awl_op (by kernel_rfl) (owp_call (avs := [(eI .u64 (shl .u64 r1 32)), (eB (decide (a0 < 0))), (eB x2)]) (pavs := [(eI .u64 (shl .u64 r1 32)), (eB (decide (a0 < 0))), (eB x2)]) (ret := (eI .i64 r3)) rfl rfl (by kernel_rfl) (by kernel_rfl) umbraref02_Near_ok_c (pubL_cons (pub_v _) (pubL_cons (pub_v _) (pubL_cons (pub_v _) pubL_nil))) (umbraref02_Near_ok N (shl .u64 r1 32) (decide (a0 < 0)) x2 r3 hr3) (pub_v _)) ?_
  refine awl_runD hT (fun _ => false) [] 1 [2] ⟨[(2, some (none, (eI .i64 r3)))], []⟩ (by kernel_rfl) ?_
  refine awl_nil ?_
  refine aw_ret ?_
  obtain rfl := Option.some.inj h
  exact ⟨Or.inl rfl, [(eI .i64 r3)], by kernel_rfl, (pub_v _)⟩

theorem umbraref02_Of_ok_c : callable Try.prog 90 := ⟨_, Try.func90, by decide, rfl⟩

/-! umbra/umbraref02.Two -/
def p_umbraref02_Two (N : Nat) (a0 : Int) (a1 : Int) : Option (Int) :=
  Option.bind (p_umbraref02_Size N a0) fun r1 =>
  Option.bind (p_umbraref02_Size N a1) fun r2 =>
  letO ((decide (a0 < 0)) == (decide (a1 < 0))) fun x3 =>
  cond x3 (
    letO (decide ((U64 (r1 + r2)) < r1)) fun x4 =>
    Option.bind (p_umbraref02_Near N (U64 (r1 + r2)) (decide (a0 < 0)) x4) fun r5 =>
    some r5) (
    some (I64 (a0 + a1)))

theorem umbraref02_Two_ok (N : Nat) (a0 : Int) (a1 : Int) (r : Int) (h : p_umbraref02_Two N a0 a1 = some r) : Fn Try.prog 92 [(eI .i64 a0), (eI .i64 a1)] (eI .i64 r) := by
  unfold p_umbraref02_Two at h
  refine fn_of_awR (n := ⟨30, 0⟩) (rs := [.tmp 4]) hT Try.func92 rfl rfl (by kernel_rfl) rfl ?_
  refine (show aw _ _ _ _ ⟨[(0, some (none, (eI .i64 a0))), (1, some (none, (eI .i64 a1)))], []⟩ from ?_)
  refine aw_sreg ?_
  refine awl_runD hT (fun _ => false) [] 1 [0, 1] ⟨[(0, some (none, (eI .i64 a0))), (1, some (none, (eI .i64 a1)))], []⟩ (by kernel_rfl) ?_
  refine awl_nil ?_
  refine aw_sreg ?_
  refine awl_runD hT (fun _ => false) [] 1 [0, 1, 7] ⟨[(0, some (none, (eI .i64 a0))), (1, some (none, (eI .i64 a1))), (7, some (none, (eI .i64 a0)))], []⟩ (by kernel_rfl) ?_
  obtain ⟨r1, hr1, h⟩ := obind h
  refine awl_op (by kernel_rfl) (owp_call (avs := [(eI .i64 a0)]) (pavs := [(eI .i64 a0)]) (ret := (eI .u64 r1)) rfl rfl (by kernel_rfl) (by kernel_rfl) umbraref02_Size_ok_c (pubL_cons (pub_v _) pubL_nil) (umbraref02_Size_ok N a0 r1 hr1) (pub_v _)) ?_
  refine awl_runD hT (fun _ => false) [] 1 [0, 1, 8, 9] ⟨[(0, some (none, (eI .i64 a0))), (1, some (none, (eI .i64 a1))), (8, some (none, (eI .u64 r1))), (9, some (none, (eI .i64 a1)))], []⟩ (by kernel_rfl) ?_
  obtain ⟨r2, hr2, h⟩ := obind h
  refine awl_op (by kernel_rfl) (owp_call (avs := [(eI .i64 a1)]) (pavs := [(eI .i64 a1)]) (ret := (eI .u64 r2)) rfl rfl (by kernel_rfl) (by kernel_rfl) umbraref02_Size_ok_c (pubL_cons (pub_v _) pubL_nil) (umbraref02_Size_ok N a1 r2 hr2) (pub_v _)) ?_
  refine awl_runD hT (fun _ => false) [] 2 [0, 1, 5, 6] ⟨[(0, some (none, (eI .i64 a0))), (1, some (none, (eI .i64 a1))), (5, some (none, (eI .u64 r1))), (6, some (none, (eI .u64 r2)))], []⟩ (by kernel_rfl) ?_
  refine awl_nil ?_
  refine aw_seq ?_
  refine aw_sreg ?_
  obtain ⟨x3, hx3, h⟩ := letO_ex h
  refine awl_runD hT (fun _ => false) [] 5 [0, 1, 5, 6, 15] ⟨[(0, some (none, (eI .i64 a0))), (1, some (none, (eI .i64 a1))), (5, some (none, (eI .u64 r1))), (6, some (none, (eI .u64 r2))), (15, some (none, (eB x3)))], []⟩ (by subst hx3; kernel_rfl) ?_
  refine awl_nil ?_
  refine aw_cond (b := x3) (by kernel_rfl) (fun hc => ?_) (fun hc => ?_)
  · have h := cond_t hc h
    refine aw_sreg ?_
    obtain ⟨x4, hx4, h⟩ := letO_ex h
    refine awl_runD hT (fun _ => false) [] 10 [18, 20, 25] ⟨[(18, some (none, (eI .u64 (U64 (r1 + r2))))), (20, some (none, (eB (decide (a0 < 0))))), (25, some (none, (eB x4)))], []⟩ (by subst hx4; kernel_rfl) ?_
    obtain ⟨r5, hr5, h⟩ := obind h
    refine awl_op (by kernel_rfl) (owp_call (avs := [(eI .u64 (U64 (r1 + r2))), (eB (decide (a0 < 0))), (eB x4)]) (pavs := [(eI .u64 (U64 (r1 + r2))), (eB (decide (a0 < 0))), (eB x4)]) (ret := (eI .i64 r5)) rfl rfl (by kernel_rfl) (by kernel_rfl) umbraref02_Near_ok_c (pubL_cons (pub_v _) (pubL_cons (pub_v _) (pubL_cons (pub_v _) pubL_nil))) (umbraref02_Near_ok N (U64 (r1 + r2)) (decide (a0 < 0)) x4 r5 hr5) (pub_v _)) ?_
    refine awl_runD hT (fun _ => false) [] 1 [4] ⟨[(4, some (none, (eI .i64 r5)))], []⟩ (by kernel_rfl) ?_
    refine awl_nil ?_
    refine aw_ret (tn_r ?_)
    obtain rfl := Option.some.inj h
    exact ⟨Or.inl rfl, [(eI .i64 r5)], by kernel_rfl, (pub_v _)⟩
  · have h := cond_f hc h
    refine aw_skip (tn_n ?_)
    refine aw_sreg ?_
    refine awl_runD hT (fun _ => false) [] 4 [4] ⟨[(4, some (none, (eI .i64 (I64 (a0 + a1)))))], []⟩ (by kernel_rfl) ?_
    refine awl_nil ?_
    refine aw_ret ?_
    obtain rfl := Option.some.inj h
    exact ⟨Or.inl rfl, [(eI .i64 (I64 (a0 + a1)))], by kernel_rfl, (pub_v _)⟩

theorem umbraref02_Two_ok_c : callable Try.prog 92 := ⟨_, Try.func92, by decide, rfl⟩

/-! umbra/umbraref02.Div -/
def p_umbraref02_Div (N : Nat) (a0 : Int) (a1 : Int) : Option (Int) :=
  letO (cond (a1 == 0) (a0 == 0) false) fun x1 =>
  cond x1 (
    some 0) (
    Option.bind (p_umbraref02_Size N a0) fun r2 =>
    Option.bind (p_umbraref02_Size N a1) fun r3 =>
    letO (!((decide (a0 < 0)) == (decide (a1 < 0)))) fun x4 =>
    letO (decide ((shr .u64 r2 32) ≥ r3)) fun x5 =>
    cond (cond (a1 == 0) true x5) (
      Option.bind (p_umbraref02_Near N 0 x4 true) fun r6 =>
      some r6) (
      Option.bind (p_math_bits_Div64 N (shr .u64 r2 32) (shl .u64 r2 32) r3) fun r7 =>
      Option.bind (letO (cond x4 (decide (r7.2 > 0)) false) fun x9 =>
      cond x9 (
        some ((U64 (r7.1 + 1), (U64 (r7.1 + 1)) == 0))) (
        some ((r7.1, false)))) fun p1_8 =>
      Option.bind (p_umbraref02_Near N p1_8.1 x4 p1_8.2) fun r10 =>
      some r10))

theorem umbraref02_Div_ok (N : Nat) (a0 : Int) (a1 : Int) (r : Int) (h : p_umbraref02_Div N a0 a1 = some r) : Fn Try.prog 91 [(eI .i64 a0), (eI .i64 a1)] (eI .i64 r) := by
  unfold p_umbraref02_Div at h
  refine fn_of_awR (n := ⟨58, 0⟩) (rs := [.tmp 4]) hT Try.func91 rfl rfl (by kernel_rfl) rfl ?_
  refine (show aw _ _ _ _ ⟨[(0, some (none, (eI .i64 a0))), (1, some (none, (eI .i64 a1)))], []⟩ from ?_)
  refine aw_sreg ?_
  refine awl_runD hT (fun _ => false) [] 1 [0, 1] ⟨[(0, some (none, (eI .i64 a0))), (1, some (none, (eI .i64 a1)))], []⟩ (by kernel_rfl) ?_
  refine awl_nil ?_
  refine aw_seq ?_
  refine aw_sreg ?_
  obtain ⟨x1, hx1, h⟩ := letO_ex h
  refine awl_runD hT (fun _ => false) [] 6 [0, 1, 16] ⟨[(0, some (none, (eI .i64 a0))), (1, some (none, (eI .i64 a1))), (16, some (none, (eB x1)))], []⟩ (by subst hx1; kernel_rfl) ?_
  refine awl_nil ?_
  refine aw_cond (b := x1) (by kernel_rfl) (fun hc => ?_) (fun hc => ?_)
  · have h := cond_t hc h
    refine aw_sreg ?_
    refine awl_runD hT (fun _ => false) [] 1 [4] ⟨[(4, some (none, (eI .i64 0)))], []⟩ (by kernel_rfl) ?_
    refine awl_nil ?_
    refine aw_ret (tn_r ?_)
    obtain rfl := Option.some.inj h
    exact ⟨Or.inl rfl, [(eI .i64 0)], by kernel_rfl, (pub_v _)⟩
  · have h := cond_f hc h
    refine aw_skip (tn_n ?_)
    refine aw_sreg ?_
    refine awl_runD hT (fun _ => false) [] 1 [0, 1, 17] ⟨[(0, some (none, (eI .i64 a0))), (1, some (none, (eI .i64 a1))), (17, some (none, (eI .i64 a0)))], []⟩ (by kernel_rfl) ?_
    obtain ⟨r2, hr2, h⟩ := obind h
    refine awl_op (by kernel_rfl) (owp_call (avs := [(eI .i64 a0)]) (pavs := [(eI .i64 a0)]) (ret := (eI .u64 r2)) rfl rfl (by kernel_rfl) (by kernel_rfl) umbraref02_Size_ok_c (pubL_cons (pub_v _) pubL_nil) (umbraref02_Size_ok N a0 r2 hr2) (pub_v _)) ?_
    refine awl_runD hT (fun _ => false) [] 1 [0, 1, 18, 19] ⟨[(0, some (none, (eI .i64 a0))), (1, some (none, (eI .i64 a1))), (18, some (none, (eI .u64 r2))), (19, some (none, (eI .i64 a1)))], []⟩ (by kernel_rfl) ?_
    obtain ⟨r3, hr3, h⟩ := obind h
    refine awl_op (by kernel_rfl) (owp_call (avs := [(eI .i64 a1)]) (pavs := [(eI .i64 a1)]) (ret := (eI .u64 r3)) rfl rfl (by kernel_rfl) (by kernel_rfl) umbraref02_Size_ok_c (pubL_cons (pub_v _) pubL_nil) (umbraref02_Size_ok N a1 r3 hr3) (pub_v _)) ?_
    refine awl_runD hT (fun _ => false) [] 2 [0, 1, 5, 6] ⟨[(0, some (none, (eI .i64 a0))), (1, some (none, (eI .i64 a1))), (5, some (none, (eI .u64 r2))), (6, some (none, (eI .u64 r3)))], []⟩ (by kernel_rfl) ?_
    refine awl_nil ?_
    refine aw_sreg ?_
    obtain ⟨x4, hx4, h⟩ := letO_ex h
    refine awl_runD hT (fun _ => false) [] 6 [1, 5, 6, 7] ⟨[(1, some (none, (eI .i64 a1))), (5, some (none, (eI .u64 r2))), (6, some (none, (eI .u64 r3))), (7, some (none, (eB x4)))], []⟩ (by subst hx4; kernel_rfl) ?_
    refine awl_nil ?_
    refine aw_seq ?_
    refine aw_sreg ?_
    obtain ⟨x5, hx5, h⟩ := letO_ex h
    refine awl_runD hT (fun _ => false) [] 8 [5, 6, 7, 33] ⟨[(5, some (none, (eI .u64 r2))), (6, some (none, (eI .u64 r3))), (7, some (none, (eB x4))), (33, some (none, (eB (cond (a1 == 0) true x5))))], []⟩ (by subst hx5; kernel_rfl) ?_
    refine awl_nil ?_
    refine aw_cond (b := cond (a1 == 0) true x5) (by kernel_rfl) (fun hc => ?_) (fun hc => ?_)
    · have h := cond_t hc h
      refine aw_sreg ?_
      refine awl_runD hT (fun _ => false) [] 1 [34] ⟨[(34, some (none, (eB x4)))], []⟩ (by kernel_rfl) ?_
      obtain ⟨r6, hr6, h⟩ := obind h
      refine awl_op (by kernel_rfl) (owp_call (avs := [(eI .u64 0), (eB x4), (eB true)]) (pavs := [(eI .u64 0), (eB x4), (eB true)]) (ret := (eI .i64 r6)) rfl rfl (by kernel_rfl) (by kernel_rfl) umbraref02_Near_ok_c (pubL_cons (pub_v _) (pubL_cons (pub_v _) (pubL_cons (pub_v _) pubL_nil))) (umbraref02_Near_ok N 0 x4 true r6 hr6) (pub_v _)) ?_
      refine awl_runD hT (fun _ => false) [] 1 [4] ⟨[(4, some (none, (eI .i64 r6)))], []⟩ (by kernel_rfl) ?_
      refine awl_nil ?_
      refine aw_ret (tn_r ?_)
      obtain rfl := Option.some.inj h
      exact ⟨Or.inl rfl, [(eI .i64 r6)], by kernel_rfl, (pub_v _)⟩
    · have h := cond_f hc h
      refine aw_skip (tn_n ?_)
      refine aw_sreg ?_
      refine awl_runD hT (fun _ => false) [] 5 [7, 38, 40, 41] ⟨[(7, some (none, (eB x4))), (38, some (none, (eI .u64 (shr .u64 r2 32)))), (40, some (none, (eI .u64 (shl .u64 r2 32)))), (41, some (none, (eI .u64 r3)))], []⟩ (by kernel_rfl) ?_
      obtain ⟨r7, hr7, h⟩ := obind h
      refine awl_op (by kernel_rfl) (owp_call (avs := [(eI .u64 (shr .u64 r2 32)), (eI .u64 (shl .u64 r2 32)), (eI .u64 r3)]) (pavs := [(eI .u64 (shr .u64 r2 32)), (eI .u64 (shl .u64 r2 32)), (eI .u64 r3)]) (ret := (.tup [(eI .u64 r7.1), (eI .u64 r7.2)])) rfl rfl (by kernel_rfl) (by kernel_rfl) math_bits_Div64_ok_c (pubL_cons (pub_v _) (pubL_cons (pub_v _) (pubL_cons (pub_v _) pubL_nil))) (math_bits_Div64_ok N (shr .u64 r2 32) (shl .u64 r2 32) r3 r7 hr7) ⟨_, rfl, (pubL_cons (pub_v _) (pubL_cons (pub_v _) pubL_nil))⟩) ?_
      refine awl_runD hT (fun _ => false) [] 5 [7, 8, 9] ⟨[(7, some (none, (eB x4))), (8, some (none, (eI .u64 r7.1))), (9, some (none, (eI .u64 r7.2)))], []⟩ (by kernel_rfl) ?_
      refine awl_nil ?_
      refine aw_sreg ?_
      refine awl_runD hT (fun _ => false) [] 1 [7, 8, 9, 10] ⟨[(7, some (none, (eB x4))), (8, some (none, (eI .u64 r7.1))), (9, some (none, (eI .u64 r7.2))), (10, some (none, (eB false)))], []⟩ (by kernel_rfl) ?_
      refine awl_nil ?_
      obtain ⟨p1_8, h, gp1_8⟩ := obind h
      refine aw_join (fun s => s = ⟨[(7, some (none, (eB x4))), (8, some (none, (eI .u64 p1_8.1))), (10, some (none, (eB p1_8.2)))], []⟩) ?_ ?_
      · refine aw_sreg ?_
        obtain ⟨x9, hx9, h⟩ := letO_ex h
        refine awl_runD hT (fun _ => false) [] 5 [7, 8, 10, 49] ⟨[(7, some (none, (eB x4))), (8, some (none, (eI .u64 r7.1))), (10, some (none, (eB false))), (49, some (none, (eB x9)))], []⟩ (by subst hx9; kernel_rfl) ?_
        refine awl_nil ?_
        refine aw_cond (b := x9) (by kernel_rfl) (fun hc => ?_) (fun hc => ?_)
        · have h := cond_t hc h
          refine aw_sreg ?_
          refine awl_runD hT (fun _ => false) [] 3 [7, 8] ⟨[(7, some (none, (eB x4))), (8, some (none, (eI .u64 (U64 (r7.1 + 1)))))], []⟩ (by kernel_rfl) ?_
          refine awl_nil ?_
          refine aw_region ?_
          refine awl_runD hT (fun _ => false) [] 3 [7, 8, 10] ⟨[(7, some (none, (eB x4))), (8, some (none, (eI .u64 (U64 (r7.1 + 1))))), (10, some (none, (eB ((U64 (r7.1 + 1)) == 0))))], []⟩ (by kernel_rfl) ?_
          refine awl_nil (tn_n ?_)
          obtain rfl := Option.some.inj h
          exact rfl
        · have h := cond_f hc h
          refine aw_conv (env' := [(7, some (none, (eB x4))), (8, some (none, (eI .u64 r7.1))), (10, some (none, (eB false)))]) (H' := []) (by kernel_rfl) trivial (envT_cons (x := (eB x4)) (by kernel_rfl) (PubA.t (pub_v _)) rfl rfl (envT_cons (x := (eI .u64 r7.1)) (by kernel_rfl) (PubA.t (pub_v _)) rfl rfl (envT_cons (x := (eB false)) (by kernel_rfl) (PubA.t (pub_v _)) rfl rfl envT_nil))) ?_
          refine aw_skip (tn_n ?_)
          obtain rfl := Option.some.inj h
          exact rfl
      · rintro s rfl
        have h := gp1_8
        refine aw_sreg ?_
        refine awl_runD hT (fun _ => false) [] 3 [54, 55, 56] ⟨[(54, some (none, (eI .u64 p1_8.1))), (55, some (none, (eB x4))), (56, some (none, (eB p1_8.2)))], []⟩ (by kernel_rfl) ?_
        obtain ⟨r10, hr10, h⟩ := obind h
        refine awl_op (by kernel_rfl) (owp_call (avs := [(eI .u64 p1_8.1), (eB x4), (eB p1_8.2)]) (pavs := [(eI .u64 p1_8.1), (eB x4), (eB p1_8.2)]) (ret := (eI .i64 r10)) rfl rfl (by kernel_rfl) (by kernel_rfl) umbraref02_Near_ok_c (pubL_cons (pub_v _) (pubL_cons (pub_v _) (pubL_cons (pub_v _) pubL_nil))) (umbraref02_Near_ok N p1_8.1 x4 p1_8.2 r10 hr10) (pub_v _)) ?_
        refine awl_runD hT (fun _ => false) [] 1 [4] ⟨[(4, some (none, (eI .i64 r10)))], []⟩ (by kernel_rfl) ?_
        refine awl_nil ?_
        refine aw_ret ?_
        obtain rfl := Option.some.inj h
        exact ⟨Or.inl rfl, [(eI .i64 r10)], by kernel_rfl, (pub_v _)⟩

theorem umbraref02_Div_ok_c : callable Try.prog 91 := ⟨_, Try.func91, by decide, rfl⟩

/-! umbra/umbraref02.Times -/
def p_umbraref02_Times (N : Nat) (a0 : Int) (a1 : Int) : Option (Int) :=
  Option.bind (p_umbraref02_Size N a0) fun r1 =>
  Option.bind (p_umbraref02_Size N a1) fun r2 =>
  Option.bind (p_math_bits_Mul64 N r1 r2) fun r3 =>
  letO (bor .u64 (shl .u64 r3.1 32) (shr .u64 r3.2 32)) fun x4 =>
  letO (decide (r3.1 ≥ 4294967296)) fun x5 =>
  letO (!((decide (a0 < 0)) == (decide (a1 < 0)))) fun x6 =>
  Option.bind (letO (band .u64 r3.2 4294967295) fun x8 =>
  letO (cond x6 (decide (x8 > 0)) false) fun x9 =>
  cond x9 (
    letO (cond x5 true ((U64 (x4 + 1)) == 0)) fun x10 =>
    some ((U64 (x4 + 1), x10))) (
    some ((x4, x5)))) fun p1_7 =>
  Option.bind (p_umbraref02_Near N p1_7.1 x6 p1_7.2) fun r11 =>
  some r11

theorem umbraref02_Times_ok (N : Nat) (a0 : Int) (a1 : Int) (r : Int) (h : p_umbraref02_Times N a0 a1 = some r) : Fn Try.prog 89 [(eI .i64 a0), (eI .i64 a1)] (eI .i64 r) := by
  unfold p_umbraref02_Times at h
  refine fn_of_awR (n := ⟨47, 0⟩) (rs := [.tmp 4]) hT Try.func89 rfl rfl (by kernel_rfl) rfl ?_
  refine (show aw _ _ _ _ ⟨[(0, some (none, (eI .i64 a0))), (1, some (none, (eI .i64 a1)))], []⟩ from ?_)
  refine aw_sreg ?_
  refine awl_runD hT (fun _ => false) [] 1 [0, 1] ⟨[(0, some (none, (eI .i64 a0))), (1, some (none, (eI .i64 a1)))], []⟩ (by kernel_rfl) ?_
  refine awl_nil ?_
  refine aw_sreg ?_
  refine awl_runD hT (fun _ => false) [] 1 [0, 1, 11] ⟨[(0, some (none, (eI .i64 a0))), (1, some (none, (eI .i64 a1))), (11, some (none, (eI .i64 a0)))], []⟩ (by kernel_rfl) ?_
  obtain ⟨r1, hr1, h⟩ := obind h
  refine awl_op (by kernel_rfl) (owp_call (avs := [(eI .i64 a0)]) (pavs := [(eI .i64 a0)]) (ret := (eI .u64 r1)) rfl rfl (by kernel_rfl) (by kernel_rfl) umbraref02_Size_ok_c (pubL_cons (pub_v _) pubL_nil) (umbraref02_Size_ok N a0 r1 hr1) (pub_v _)) ?_
  refine awl_runD hT (fun _ => false) [] 1 [0, 1, 12, 13] ⟨[(0, some (none, (eI .i64 a0))), (1, some (none, (eI .i64 a1))), (12, some (none, (eI .u64 r1))), (13, some (none, (eI .i64 a1)))], []⟩ (by kernel_rfl) ?_
  obtain ⟨r2, hr2, h⟩ := obind h
  refine awl_op (by kernel_rfl) (owp_call (avs := [(eI .i64 a1)]) (pavs := [(eI .i64 a1)]) (ret := (eI .u64 r2)) rfl rfl (by kernel_rfl) (by kernel_rfl) umbraref02_Size_ok_c (pubL_cons (pub_v _) pubL_nil) (umbraref02_Size_ok N a1 r2 hr2) (pub_v _)) ?_
  refine awl_runD hT (fun _ => false) [] 0 [0, 1, 12, 14] ⟨[(0, some (none, (eI .i64 a0))), (1, some (none, (eI .i64 a1))), (12, some (none, (eI .u64 r1))), (14, some (none, (eI .u64 r2)))], []⟩ (by kernel_rfl) ?_
  obtain ⟨r3, hr3, h⟩ := obind h
  refine awl_op (by kernel_rfl) (owp_call (avs := [(eI .u64 r1), (eI .u64 r2)]) (pavs := [(eI .u64 r1), (eI .u64 r2)]) (ret := (.tup [(eI .u64 r3.1), (eI .u64 r3.2)])) rfl rfl (by kernel_rfl) (by kernel_rfl) math_bits_Mul64_ok_c (pubL_cons (pub_v _) (pubL_cons (pub_v _) pubL_nil)) (math_bits_Mul64_ok N r1 r2 r3 hr3) ⟨_, rfl, (pubL_cons (pub_v _) (pubL_cons (pub_v _) pubL_nil))⟩) ?_
  refine awl_runD hT (fun _ => false) [] 5 [0, 1, 5, 6] ⟨[(0, some (none, (eI .i64 a0))), (1, some (none, (eI .i64 a1))), (5, some (none, (eI .u64 r3.1))), (6, some (none, (eI .u64 r3.2)))], []⟩ (by kernel_rfl) ?_
  refine awl_nil ?_
  refine aw_sreg ?_
  obtain ⟨x4, hx4, h⟩ := letO_ex h
  refine awl_runD hT (fun _ => false) [] 6 [0, 1, 5, 6, 7] ⟨[(0, some (none, (eI .i64 a0))), (1, some (none, (eI .i64 a1))), (5, some (none, (eI .u64 r3.1))), (6, some (none, (eI .u64 r3.2))), (7, some (none, (eI .u64 x4)))], []⟩ (by subst hx4; kernel_rfl) ?_
  refine awl_nil ?_
  refine aw_sreg ?_
  obtain ⟨x5, hx5, h⟩ := letO_ex h
  refine awl_runD hT (fun _ => false) [] 3 [0, 1, 6, 7, 8] ⟨[(0, some (none, (eI .i64 a0))), (1, some (none, (eI .i64 a1))), (6, some (none, (eI .u64 r3.2))), (7, some (none, (eI .u64 x4))), (8, some (none, (eB x5)))], []⟩ (by subst hx5; kernel_rfl) ?_
  refine awl_nil ?_
  refine aw_sreg ?_
  obtain ⟨x6, hx6, h⟩ := letO_ex h
  refine awl_runD hT (fun _ => false) [] 6 [6, 7, 8, 9] ⟨[(6, some (none, (eI .u64 r3.2))), (7, some (none, (eI .u64 x4))), (8, some (none, (eB x5))), (9, some (none, (eB x6)))], []⟩ (by subst hx6; kernel_rfl) ?_
  refine awl_nil ?_
  obtain ⟨p1_7, h, gp1_7⟩ := obind h
  refine aw_join (fun s => s = ⟨[(7, some (none, (eI .u64 p1_7.1))), (8, some (none, (eB p1_7.2))), (9, some (none, (eB x6)))], []⟩) ?_ ?_
  · refine aw_sreg ?_
    obtain ⟨x8, hx8, h⟩ := letO_ex h
    obtain ⟨x9, hx9, h⟩ := letO_ex h
    refine awl_runD hT (fun _ => false) [] 6 [7, 8, 9, 35] ⟨[(7, some (none, (eI .u64 x4))), (8, some (none, (eB x5))), (9, some (none, (eB x6))), (35, some (none, (eB x9)))], []⟩ (by subst hx9 hx8; kernel_rfl) ?_
    refine awl_nil ?_
    refine aw_cond (b := x9) (by kernel_rfl) (fun hc => ?_) (fun hc => ?_)
    · have h := cond_t hc h
      refine aw_sreg ?_
      refine awl_runD hT (fun _ => false) [] 3 [7, 8, 9] ⟨[(7, some (none, (eI .u64 (U64 (x4 + 1))))), (8, some (none, (eB x5))), (9, some (none, (eB x6)))], []⟩ (by kernel_rfl) ?_
      refine awl_nil ?_
      refine aw_region ?_
      obtain ⟨x10, hx10, h⟩ := letO_ex h
      refine awl_runD hT (fun _ => false) [] 6 [7, 8, 9] ⟨[(7, some (none, (eI .u64 (U64 (x4 + 1))))), (8, some (none, (eB x10))), (9, some (none, (eB x6)))], []⟩ (by subst hx10; kernel_rfl) ?_
      refine awl_nil (tn_n ?_)
      obtain rfl := Option.some.inj h
      exact rfl
    · have h := cond_f hc h
      refine aw_conv (env' := [(7, some (none, (eI .u64 x4))), (8, some (none, (eB x5))), (9, some (none, (eB x6)))]) (H' := []) (by kernel_rfl) trivial (envT_cons (x := (eI .u64 x4)) (by kernel_rfl) (PubA.t (pub_v _)) rfl rfl (envT_cons (x := (eB x5)) (by kernel_rfl) (PubA.t (pub_v _)) rfl rfl (envT_cons (x := (eB x6)) (by kernel_rfl) (PubA.t (pub_v _)) rfl rfl envT_nil))) ?_
      refine aw_skip (tn_n ?_)
      obtain rfl := Option.some.inj h
      exact rfl
  · rintro s rfl
    have h := gp1_7
    refine aw_sreg ?_
    refine awl_runD hT (fun _ => false) [] 3 [43, 44, 45] ⟨[(43, some (none, (eI .u64 p1_7.1))), (44, some (none, (eB x6))), (45, some (none, (eB p1_7.2)))], []⟩ (by kernel_rfl) ?_
    obtain ⟨r11, hr11, h⟩ := obind h
    refine awl_op (by kernel_rfl) (owp_call (avs := [(eI .u64 p1_7.1), (eB x6), (eB p1_7.2)]) (pavs := [(eI .u64 p1_7.1), (eB x6), (eB p1_7.2)]) (ret := (eI .i64 r11)) rfl rfl (by kernel_rfl) (by kernel_rfl) umbraref02_Near_ok_c (pubL_cons (pub_v _) (pubL_cons (pub_v _) (pubL_cons (pub_v _) pubL_nil))) (umbraref02_Near_ok N p1_7.1 x6 p1_7.2 r11 hr11) (pub_v _)) ?_
    refine awl_runD hT (fun _ => false) [] 1 [4] ⟨[(4, some (none, (eI .i64 r11)))], []⟩ (by kernel_rfl) ?_
    refine awl_nil ?_
    refine aw_ret ?_
    obtain rfl := Option.some.inj h
    exact ⟨Or.inl rfl, [(eI .i64 r11)], by kernel_rfl, (pub_v _)⟩

theorem umbraref02_Times_ok_c : callable Try.prog 89 := ⟨_, Try.func89, by decide, rfl⟩

/-! umbra/umbraref02.Floor -/
def p_umbraref02_Floor (N : Nat) (a0 : Int) : Option (Int) :=
  Option.bind (p_umbraref02_Size N a0) fun r1 =>
  cond (decide (a0 ≥ 0)) (
    some (I64 (shr .u64 r1 32))) (
    letO (band .u64 r1 4294967295) fun x2 =>
    cond (x2 == 0) (
      letO (I64 (0 - (I64 (shr .u64 r1 32)))) fun x3 =>
      some x3) (
      letO (I64 (0 - (I64 (shr .u64 r1 32)))) fun x4 =>
      some (I64 (x4 - 1))))

theorem umbraref02_Floor_ok (N : Nat) (a0 : Int) (r : Int) (h : p_umbraref02_Floor N a0 = some r) : Fn Try.prog 88 [(eI .i64 a0)] (eI .i64 r) := by
  unfold p_umbraref02_Floor at h
  refine fn_of_awR (n := ⟨23, 0⟩) (rs := [.tmp 2]) hT Try.func88 rfl rfl (by kernel_rfl) rfl ?_
  refine (show aw _ _ _ _ ⟨[(0, some (none, (eI .i64 a0)))], []⟩ from ?_)
  refine aw_sreg ?_
  refine awl_runD hT (fun _ => false) [] 1 [0] ⟨[(0, some (none, (eI .i64 a0)))], []⟩ (by kernel_rfl) ?_
  refine awl_nil ?_
  refine aw_sreg ?_
  refine awl_runD hT (fun _ => false) [] 1 [0, 4] ⟨[(0, some (none, (eI .i64 a0))), (4, some (none, (eI .i64 a0)))], []⟩ (by kernel_rfl) ?_
  obtain ⟨r1, hr1, h⟩ := obind h
  refine awl_op (by kernel_rfl) (owp_call (avs := [(eI .i64 a0)]) (pavs := [(eI .i64 a0)]) (ret := (eI .u64 r1)) rfl rfl (by kernel_rfl) (by kernel_rfl) umbraref02_Size_ok_c (pubL_cons (pub_v _) pubL_nil) (umbraref02_Size_ok N a0 r1 hr1) (pub_v _)) ?_
  refine awl_runD hT (fun _ => false) [] 1 [0, 3] ⟨[(0, some (none, (eI .i64 a0))), (3, some (none, (eI .u64 r1)))], []⟩ (by kernel_rfl) ?_
  refine awl_nil ?_
  refine aw_seq ?_
  refine aw_sreg ?_
  refine awl_runD hT (fun _ => false) [] 2 [3, 7] ⟨[(3, some (none, (eI .u64 r1))), (7, some (none, (eB (decide (a0 ≥ 0)))))], []⟩ (by kernel_rfl) ?_
  refine awl_nil ?_
  refine aw_cond (b := decide (a0 ≥ 0)) (by kernel_rfl) (fun hc => ?_) (fun hc => ?_)
  · have h := cond_t hc h
    refine aw_sreg ?_
    refine awl_runD hT (fun _ => false) [] 4 [2] ⟨[(2, some (none, (eI .i64 (I64 (shr .u64 r1 32)))))], []⟩ (by kernel_rfl) ?_
    refine awl_nil ?_
    refine aw_ret (tn_r ?_)
    obtain rfl := Option.some.inj h
    exact ⟨Or.inl rfl, [(eI .i64 (I64 (shr .u64 r1 32)))], by kernel_rfl, (pub_v _)⟩
  · have h := cond_f hc h
    refine aw_skip (tn_n ?_)
    refine aw_seq ?_
    refine aw_sreg ?_
    obtain ⟨x2, hx2, h⟩ := letO_ex h
    refine awl_runD hT (fun _ => false) [] 3 [3, 13] ⟨[(3, some (none, (eI .u64 r1))), (13, some (none, (eB (x2 == 0))))], []⟩ (by subst hx2; kernel_rfl) ?_
    refine awl_nil ?_
    refine aw_cond (b := x2 == 0) (by kernel_rfl) (fun hc => ?_) (fun hc => ?_)
    · have h := cond_t hc h
      refine aw_sreg ?_
      obtain ⟨x3, hx3, h⟩ := letO_ex h
      refine awl_runD hT (fun _ => false) [] 5 [2] ⟨[(2, some (none, (eI .i64 x3)))], []⟩ (by subst hx3; kernel_rfl) ?_
      refine awl_nil ?_
      refine aw_ret (tn_r ?_)
      obtain rfl := Option.some.inj h
      exact ⟨Or.inl rfl, [(eI .i64 x3)], by kernel_rfl, (pub_v _)⟩
    · have h := cond_f hc h
      refine aw_skip (tn_n ?_)
      refine aw_sreg ?_
      obtain ⟨x4, hx4, h⟩ := letO_ex h
      refine awl_runD hT (fun _ => false) [] 6 [2] ⟨[(2, some (none, (eI .i64 (I64 (x4 - 1)))))], []⟩ (by subst hx4; kernel_rfl) ?_
      refine awl_nil ?_
      refine aw_ret ?_
      obtain rfl := Option.some.inj h
      exact ⟨Or.inl rfl, [(eI .i64 (I64 (x4 - 1)))], by kernel_rfl, (pub_v _)⟩

theorem umbraref02_Floor_ok_c : callable Try.prog 88 := ⟨_, Try.func88, by decide, rfl⟩

/-! umbra/umbraref29.Tone -/
def p_umbraref29_Tone (N : Nat) (a0 : Int) : Option (Int) :=
  cond (decide (a0 ≤ 0)) (
    some 0) (
    Option.bind (p_umbraref02_Of N 65535) fun r1 =>
    Option.bind (p_umbraref02_Two N a0 4294967296) fun r2 =>
    Option.bind (p_umbraref02_Div N a0 r2) fun r3 =>
    Option.bind (p_umbraref02_Times N r1 r3) fun r4 =>
    Option.bind (p_umbraref02_Floor N r4) fun r5 =>
    some r5)

theorem umbraref29_Tone_ok (N : Nat) (a0 : Int) (r : Int) (h : p_umbraref29_Tone N a0 = some r) : Fn Try.prog 34 [(eI .i64 a0)] (eI .i64 r) := by
  unfold p_umbraref29_Tone at h
  refine fn_of_awR (n := ⟨12, 0⟩) (rs := [.tmp 2]) hT Try.func34 rfl rfl (by kernel_rfl) rfl ?_
  refine (show aw _ _ _ _ ⟨[(0, some (none, (eI .i64 a0)))], []⟩ from ?_)
  refine aw_sreg ?_
  refine awl_runD hT (fun _ => false) [] 1 [0] ⟨[(0, some (none, (eI .i64 a0)))], []⟩ (by kernel_rfl) ?_
  refine awl_nil ?_
  refine aw_seq ?_
  refine aw_sreg ?_
  refine awl_runD hT (fun _ => false) [] 2 [0, 4] ⟨[(0, some (none, (eI .i64 a0))), (4, some (none, (eB (decide (a0 ≤ 0)))))], []⟩ (by kernel_rfl) ?_
  refine awl_nil ?_
  refine aw_cond (b := decide (a0 ≤ 0)) (by kernel_rfl) (fun hc => ?_) (fun hc => ?_)
  · have h := cond_t hc h
    refine aw_sreg ?_
    refine awl_runD hT (fun _ => false) [] 1 [2] ⟨[(2, some (none, (eI .i64 0)))], []⟩ (by kernel_rfl) ?_
    refine awl_nil ?_
    refine aw_ret (tn_r ?_)
    obtain rfl := Option.some.inj h
    exact ⟨Or.inl rfl, [(eI .i64 0)], by kernel_rfl, (pub_v _)⟩
  · have h := cond_f hc h
    refine aw_skip (tn_n ?_)
    refine aw_sreg ?_
    obtain ⟨r1, hr1, h⟩ := obind h
    refine awl_op (by kernel_rfl) (owp_call (avs := [(eI .i64 65535)]) (pavs := [(eI .i64 65535)]) (ret := (eI .i64 r1)) rfl rfl (by kernel_rfl) (by kernel_rfl) umbraref02_Of_ok_c (pubL_cons (pub_v _) pubL_nil) (umbraref02_Of_ok N 65535 r1 hr1) (pub_v _)) ?_
    refine awl_runD hT (fun _ => false) [] 2 [5, 6, 7] ⟨[(5, some (none, (eI .i64 r1))), (6, some (none, (eI .i64 a0))), (7, some (none, (eI .i64 a0)))], []⟩ (by kernel_rfl) ?_
    obtain ⟨r2, hr2, h⟩ := obind h
    refine awl_op (by kernel_rfl) (owp_call (avs := [(eI .i64 a0), (eI .i64 4294967296)]) (pavs := [(eI .i64 a0), (eI .i64 4294967296)]) (ret := (eI .i64 r2)) rfl rfl (by kernel_rfl) (by kernel_rfl) umbraref02_Two_ok_c (pubL_cons (pub_v _) (pubL_cons (pub_v _) pubL_nil)) (umbraref02_Two_ok N a0 4294967296 r2 hr2) (pub_v _)) ?_
    refine awl_runD hT (fun _ => false) [] 0 [5, 6, 8] ⟨[(5, some (none, (eI .i64 r1))), (6, some (none, (eI .i64 a0))), (8, some (none, (eI .i64 r2)))], []⟩ (by kernel_rfl) ?_
    obtain ⟨r3, hr3, h⟩ := obind h
    refine awl_op (by kernel_rfl) (owp_call (avs := [(eI .i64 a0), (eI .i64 r2)]) (pavs := [(eI .i64 a0), (eI .i64 r2)]) (ret := (eI .i64 r3)) rfl rfl (by kernel_rfl) (by kernel_rfl) umbraref02_Div_ok_c (pubL_cons (pub_v _) (pubL_cons (pub_v _) pubL_nil)) (umbraref02_Div_ok N a0 r2 r3 hr3) (pub_v _)) ?_
    refine awl_runD hT (fun _ => false) [] 0 [5, 9] ⟨[(5, some (none, (eI .i64 r1))), (9, some (none, (eI .i64 r3)))], []⟩ (by kernel_rfl) ?_
    obtain ⟨r4, hr4, h⟩ := obind h
    refine awl_op (by kernel_rfl) (owp_call (avs := [(eI .i64 r1), (eI .i64 r3)]) (pavs := [(eI .i64 r1), (eI .i64 r3)]) (ret := (eI .i64 r4)) rfl rfl (by kernel_rfl) (by kernel_rfl) umbraref02_Times_ok_c (pubL_cons (pub_v _) (pubL_cons (pub_v _) pubL_nil)) (umbraref02_Times_ok N r1 r3 r4 hr4) (pub_v _)) ?_
    refine awl_runD hT (fun _ => false) [] 0 [10] ⟨[(10, some (none, (eI .i64 r4)))], []⟩ (by kernel_rfl) ?_
    obtain ⟨r5, hr5, h⟩ := obind h
    refine awl_op (by kernel_rfl) (owp_call (avs := [(eI .i64 r4)]) (pavs := [(eI .i64 r4)]) (ret := (eI .i64 r5)) rfl rfl (by kernel_rfl) (by kernel_rfl) umbraref02_Floor_ok_c (pubL_cons (pub_v _) pubL_nil) (umbraref02_Floor_ok N r4 r5 hr5) (pub_v _)) ?_
    refine awl_runD hT (fun _ => false) [] 1 [2] ⟨[(2, some (none, (eI .i64 r5)))], []⟩ (by kernel_rfl) ?_
    refine awl_nil ?_
    refine aw_ret ?_
    obtain rfl := Option.some.inj h
    exact ⟨Or.inl rfl, [(eI .i64 r5)], by kernel_rfl, (pub_v _)⟩

theorem umbraref29_Tone_ok_c : callable Try.prog 34 := ⟨_, Try.func34, by decide, rfl⟩

/-! umbra/film.Far -/
def p_film_Far (N : Nat) (a0 : Int) : Option (Int) :=
  Option.bind (p_fix_Floor N a0) fun r1 =>
  some (imin (imax r1 0) 65535)

theorem film_Far_ok (N : Nat) (a0 : Int) (r : Int) (h : p_film_Far N a0 = some r) : Fn Try.prog 35 [(eI .i64 a0)] (eI .i64 r) := by
  unfold p_film_Far at h
  refine fn_of_awR (n := ⟨7, 0⟩) (rs := [.tmp 2]) hT Try.func35 rfl rfl (by kernel_rfl) rfl ?_
  refine (show aw _ _ _ _ ⟨[(0, some (none, (eI .i64 a0)))], []⟩ from ?_)
  refine aw_sreg ?_
  refine awl_runD hT (fun _ => false) [] 1 [0] ⟨[(0, some (none, (eI .i64 a0)))], []⟩ (by kernel_rfl) ?_
  refine awl_nil ?_
  refine aw_sreg ?_
  refine awl_runD hT (fun _ => false) [] 1 [3] ⟨[(3, some (none, (eI .i64 a0)))], []⟩ (by kernel_rfl) ?_
  obtain ⟨r1, hr1, h⟩ := obind h
  refine awl_op (by kernel_rfl) (owp_call (avs := [(eI .i64 a0)]) (pavs := [(eI .i64 a0)]) (ret := (eI .i64 r1)) rfl rfl (by kernel_rfl) (by kernel_rfl) fix_Floor_ok_c (pubL_cons (pub_v _) pubL_nil) (fix_Floor_ok N a0 r1 hr1) (pub_v _)) ?_
  refine awl_runD hT (fun _ => false) [] 3 [2] ⟨[(2, some (none, (eI .i64 (imin (imax r1 0) 65535))))], []⟩ (by kernel_rfl) ?_
  refine awl_nil ?_
  refine aw_ret ?_
  obtain rfl := Option.some.inj h
  exact ⟨Or.inl rfl, [(eI .i64 (imin (imax r1 0) 65535))], by kernel_rfl, (pub_v _)⟩

theorem film_Far_ok_c : callable Try.prog 35 := ⟨_, Try.func35, by decide, rfl⟩

/-! umbra/umbraref29.Far -/
def p_umbraref29_Far (N : Nat) (a0 : Int) : Option (Int) :=
  Option.bind (p_umbraref02_Floor N a0) fun r1 =>
  cond (decide (r1 < 0)) (some 0) (cond (decide (r1 > 65535)) (some 65535) (some r1))

theorem umbraref29_Far_ok (N : Nat) (a0 : Int) (r : Int) (h : p_umbraref29_Far N a0 = some r) : Fn Try.prog 36 [(eI .i64 a0)] (eI .i64 r) := by
  unfold p_umbraref29_Far at h
  refine fn_of_awR (n := ⟨11, 0⟩) (rs := [.tmp 2]) hT Try.func36 rfl rfl (by kernel_rfl) rfl ?_
  refine (show aw _ _ _ _ ⟨[(0, some (none, (eI .i64 a0)))], []⟩ from ?_)
  refine aw_sreg ?_
  refine awl_runD hT (fun _ => false) [] 1 [0] ⟨[(0, some (none, (eI .i64 a0)))], []⟩ (by kernel_rfl) ?_
  refine awl_nil ?_
  refine aw_sreg ?_
  refine awl_runD hT (fun _ => false) [] 1 [4] ⟨[(4, some (none, (eI .i64 a0)))], []⟩ (by kernel_rfl) ?_
  obtain ⟨r1, hr1, h⟩ := obind h
  refine awl_op (by kernel_rfl) (owp_call (avs := [(eI .i64 a0)]) (pavs := [(eI .i64 a0)]) (ret := (eI .i64 r1)) rfl rfl (by kernel_rfl) (by kernel_rfl) umbraref02_Floor_ok_c (pubL_cons (pub_v _) pubL_nil) (umbraref02_Floor_ok N a0 r1 hr1) (pub_v _)) ?_
  refine awl_runD hT (fun _ => false) [] 1 [3] ⟨[(3, some (none, (eI .i64 r1)))], []⟩ (by kernel_rfl) ?_
  refine awl_nil ?_
  refine aw_seq ?_
  refine aw_sreg ?_
  refine awl_runD hT (fun _ => false) [] 2 [3, 7] ⟨[(3, some (none, (eI .i64 r1))), (7, some (none, (eB (decide (r1 < 0)))))], []⟩ (by kernel_rfl) ?_
  refine awl_nil ?_
  refine aw_cond (b := decide (r1 < 0)) (by kernel_rfl) (fun hc => ?_) (fun hc => ?_)
  · have h := cond_t hc h
    refine aw_sreg ?_
    refine awl_runD hT (fun _ => false) [] 1 [2] ⟨[(2, some (none, (eI .i64 0)))], []⟩ (by kernel_rfl) ?_
    refine awl_nil ?_
    refine aw_ret (tn_r ?_)
    obtain rfl := Option.some.inj h
    exact ⟨Or.inl rfl, [(eI .i64 0)], by kernel_rfl, (pub_v _)⟩
  · have h := cond_f hc h
    refine aw_skip (tn_n ?_)
    refine aw_seq ?_
    refine aw_sreg ?_
    refine awl_runD hT (fun _ => false) [] 2 [3, 9] ⟨[(3, some (none, (eI .i64 r1))), (9, some (none, (eB (decide (r1 > 65535)))))], []⟩ (by kernel_rfl) ?_
    refine awl_nil ?_
    refine aw_cond (b := decide (r1 > 65535)) (by kernel_rfl) (fun hc => ?_) (fun hc => ?_)
    · have h := cond_t hc h
      refine aw_sreg ?_
      refine awl_runD hT (fun _ => false) [] 1 [2] ⟨[(2, some (none, (eI .i64 65535)))], []⟩ (by kernel_rfl) ?_
      refine awl_nil ?_
      refine aw_ret (tn_r ?_)
      obtain rfl := Option.some.inj h
      exact ⟨Or.inl rfl, [(eI .i64 65535)], by kernel_rfl, (pub_v _)⟩
    · have h := cond_f hc h
      refine aw_skip (tn_n ?_)
      refine aw_sreg ?_
      refine awl_runD hT (fun _ => false) [] 2 [2] ⟨[(2, some (none, (eI .i64 r1)))], []⟩ (by kernel_rfl) ?_
      refine awl_nil ?_
      refine aw_ret ?_
      obtain rfl := Option.some.inj h
      exact ⟨Or.inl rfl, [(eI .i64 r1)], by kernel_rfl, (pub_v _)⟩

theorem umbraref29_Far_ok_c : callable Try.prog 36 := ⟨_, Try.func36, by decide, rfl⟩

/-! umbra/fix.Clamp -/
def p_fix_Clamp (N : Nat) (a0 : Int) (a1 : Int) (a2 : Int) : Option (Int) :=
  some (imin (imax a0 a1) a2)

theorem fix_Clamp_ok (N : Nat) (a0 : Int) (a1 : Int) (a2 : Int) (r : Int) (h : p_fix_Clamp N a0 a1 a2 = some r) : Fn Try.prog 93 [(eI .i64 a0), (eI .i64 a1), (eI .i64 a2)] (eI .i64 r) := by
  unfold p_fix_Clamp at h
  refine fn_of_awR (n := ⟨12, 0⟩) (rs := [.tmp 6]) hT Try.func93 rfl rfl (by kernel_rfl) rfl ?_
  refine (show aw _ _ _ _ ⟨[(0, some (none, (eI .i64 a0))), (1, some (none, (eI .i64 a1))), (2, some (none, (eI .i64 a2)))], []⟩ from ?_)
  refine aw_sreg ?_
  refine awl_runD hT (fun _ => false) [] 1 [0, 1, 2] ⟨[(0, some (none, (eI .i64 a0))), (1, some (none, (eI .i64 a1))), (2, some (none, (eI .i64 a2)))], []⟩ (by kernel_rfl) ?_
  refine awl_nil ?_
  refine aw_sreg ?_
  refine awl_runD hT (fun _ => false) [] 6 [6] ⟨[(6, some (none, (eI .i64 (imin (imax a0 a1) a2))))], []⟩ (by kernel_rfl) ?_
  refine awl_nil ?_
  refine aw_ret ?_
  obtain rfl := Option.some.inj h
  exact ⟨Or.inl rfl, [(eI .i64 (imin (imax a0 a1) a2))], by kernel_rfl, (pub_v _)⟩

theorem fix_Clamp_ok_c : callable Try.prog 93 := ⟨_, Try.func93, by decide, rfl⟩

/-! umbra/film.Side -/
def p_film_Side (N : Nat) (a0 : Int) : Option (Int) :=
  Option.bind (p_fix_Of N 32767) fun r1 =>
  Option.bind (p_fix_Clamp N a0 (-4294967296) 4294967296) fun r2 =>
  Option.bind (p_fix_Add N ([4294967296, r2])) fun r3 =>
  Option.bind (p_fix_Mul N ([r1, r3])) fun r4 =>
  Option.bind (p_fix_Floor N r4) fun r5 =>
  some r5

theorem film_Side_ok (N : Nat) (a0 : Int) (r : Int) (h : p_film_Side N a0 = some r) : Fn Try.prog 37 [(eI .i64 a0)] (eI .i64 r) := by
  unfold p_film_Side at h
  refine fn_of_awR (n := ⟨11, 0⟩) (rs := [.tmp 2]) hT Try.func37 rfl rfl (by kernel_rfl) rfl ?_
  refine (show aw _ _ _ _ ⟨[(0, some (none, (eI .i64 a0)))], []⟩ from ?_)
  refine aw_sreg ?_
  refine awl_runD hT (fun _ => false) [] 1 [0] ⟨[(0, some (none, (eI .i64 a0)))], []⟩ (by kernel_rfl) ?_
  refine awl_nil ?_
  refine aw_sreg ?_
  obtain ⟨r1, hr1, h⟩ := obind h
  refine awl_op (by kernel_rfl) (owp_call (avs := [(eI .i64 32767)]) (pavs := [(eI .i64 32767)]) (ret := (eI .i64 r1)) rfl rfl (by kernel_rfl) (by kernel_rfl) fix_Of_ok_c (pubL_cons (pub_v _) pubL_nil) (fix_Of_ok N 32767 r1 hr1) (pub_v _)) ?_
  refine awl_runD hT (fun _ => false) [] 1 [3, 4] ⟨[(3, some (none, (eI .i64 r1))), (4, some (none, (eI .i64 a0)))], []⟩ (by kernel_rfl) ?_
  obtain ⟨r2, hr2, h⟩ := obind h
  refine awl_op (by kernel_rfl) (owp_call (avs := [(eI .i64 a0), (eI .i64 (-4294967296)), (eI .i64 4294967296)]) (pavs := [(eI .i64 a0), (eI .i64 (-4294967296)), (eI .i64 4294967296)]) (ret := (eI .i64 r2)) rfl rfl (by kernel_rfl) (by kernel_rfl) fix_Clamp_ok_c (pubL_cons (pub_v _) (pubL_cons (pub_v _) (pubL_cons (pub_v _) pubL_nil))) (fix_Clamp_ok N a0 (-4294967296) 4294967296 r2 hr2) (pub_v _)) ?_
  refine awl_runD hT (fun _ => false) [] 0 [3, 5] ⟨[(3, some (none, (eI .i64 r1))), (5, some (none, (eI .i64 r2)))], []⟩ (by kernel_rfl) ?_
  refine awl_op (by kernel_rfl) (owp_buildSlice hT (l := [(0, (eI .i64 4294967296)), (1, (eI .i64 r2))]) (es := [(eI .i64 4294967296), (eI .i64 r2)]) (k := 1) rfl rfl (by kernel_rfl) (by kernel_rfl) (by kernel_rfl)) ?_
  refine awl_runD hT (fun _ => false) [] 0 [3, 6] ⟨[(3, some (none, (eI .i64 r1))), (6, some (none, (.sl 1 [(eI .i64 4294967296), (eI .i64 r2)])))], []⟩ (by kernel_rfl) ?_
  obtain ⟨r3, hr3, h⟩ := obind h
  refine awl_op (by kernel_rfl) (owp_call (avs := [(.sl 1 [(eI .i64 4294967296), (eI .i64 r2)])]) (pavs := [(eL 1 (eI .i64) ([4294967296, r2]))]) (ret := (eI .i64 r3)) rfl rfl (by kernel_rfl) (by kernel_rfl) fix_Add_ok_c (pubL_cons (pub_sl (pubL_cons (pub_v _) (pubL_cons (pub_v _) pubL_nil))) pubL_nil) (fix_Add_ok N ([4294967296, r2]) r3 hr3) (pub_v _)) ?_
  refine awl_runD hT (fun _ => false) [] 0 [3, 7] ⟨[(3, some (none, (eI .i64 r1))), (7, some (none, (eI .i64 r3)))], []⟩ (by kernel_rfl) ?_
  refine awl_op (by kernel_rfl) (owp_buildSlice hT (l := [(0, (eI .i64 r1)), (1, (eI .i64 r3))]) (es := [(eI .i64 r1), (eI .i64 r3)]) (k := 1) rfl rfl (by kernel_rfl) (by kernel_rfl) (by kernel_rfl)) ?_
  refine awl_runD hT (fun _ => false) [] 0 [8] ⟨[(8, some (none, (.sl 1 [(eI .i64 r1), (eI .i64 r3)])))], []⟩ (by kernel_rfl) ?_
  obtain ⟨r4, hr4, h⟩ := obind h
  refine awl_op (by kernel_rfl) (owp_call (avs := [(.sl 1 [(eI .i64 r1), (eI .i64 r3)])]) (pavs := [(eL 1 (eI .i64) ([r1, r3]))]) (ret := (eI .i64 r4)) rfl rfl (by kernel_rfl) (by kernel_rfl) fix_Mul_ok_c (pubL_cons (pub_sl (pubL_cons (pub_v _) (pubL_cons (pub_v _) pubL_nil))) pubL_nil) (fix_Mul_ok N ([r1, r3]) r4 hr4) (pub_v _)) ?_
  refine awl_runD hT (fun _ => false) [] 0 [9] ⟨[(9, some (none, (eI .i64 r4)))], []⟩ (by kernel_rfl) ?_
  obtain ⟨r5, hr5, h⟩ := obind h
  refine awl_op (by kernel_rfl) (owp_call (avs := [(eI .i64 r4)]) (pavs := [(eI .i64 r4)]) (ret := (eI .i64 r5)) rfl rfl (by kernel_rfl) (by kernel_rfl) fix_Floor_ok_c (pubL_cons (pub_v _) pubL_nil) (fix_Floor_ok N r4 r5 hr5) (pub_v _)) ?_
  refine awl_runD hT (fun _ => false) [] 1 [2] ⟨[(2, some (none, (eI .i64 r5)))], []⟩ (by kernel_rfl) ?_
  refine awl_nil ?_
  refine aw_ret ?_
  obtain rfl := Option.some.inj h
  exact ⟨Or.inl rfl, [(eI .i64 r5)], by kernel_rfl, (pub_v _)⟩

theorem film_Side_ok_c : callable Try.prog 37 := ⟨_, Try.func37, by decide, rfl⟩

/-! umbra/umbraref02.Clamp -/
def p_umbraref02_Clamp (N : Nat) (a0 : Int) (a1 : Int) (a2 : Int) : Option (Int) :=
  Option.bind (cond (decide (a0 < a1)) (some a1) (some a0)) fun p1_1 =>
  Option.bind (cond (decide (p1_1 > a2)) (some a2) (some p1_1)) fun p2_2 =>
  some p2_2

theorem umbraref02_Clamp_ok (N : Nat) (a0 : Int) (a1 : Int) (a2 : Int) (r : Int) (h : p_umbraref02_Clamp N a0 a1 a2 = some r) : Fn Try.prog 94 [(eI .i64 a0), (eI .i64 a1), (eI .i64 a2)] (eI .i64 r) := by
  unfold p_umbraref02_Clamp at h
  refine fn_of_awR (n := ⟨16, 0⟩) (rs := [.tmp 6]) hT Try.func94 rfl rfl (by kernel_rfl) rfl ?_
  refine (show aw _ _ _ _ ⟨[(0, some (none, (eI .i64 a0))), (1, some (none, (eI .i64 a1))), (2, some (none, (eI .i64 a2)))], []⟩ from ?_)
  refine aw_sreg ?_
  refine awl_runD hT (fun _ => false) [] 1 [0, 1, 2] ⟨[(0, some (none, (eI .i64 a0))), (1, some (none, (eI .i64 a1))), (2, some (none, (eI .i64 a2)))], []⟩ (by kernel_rfl) ?_
  refine awl_nil ?_
  obtain ⟨p1_1, h, gp1_1⟩ := obind h
  refine aw_join (fun s => s = ⟨[(0, some (none, (eI .i64 p1_1))), (2, some (none, (eI .i64 a2)))], []⟩) ?_ ?_
  · refine aw_sreg ?_
    refine awl_runD hT (fun _ => false) [] 3 [0, 1, 2, 9] ⟨[(0, some (none, (eI .i64 a0))), (1, some (none, (eI .i64 a1))), (2, some (none, (eI .i64 a2))), (9, some (none, (eB (decide (a0 < a1)))))], []⟩ (by kernel_rfl) ?_
    refine awl_nil ?_
    refine aw_cond (b := decide (a0 < a1)) (by kernel_rfl) (fun hc => ?_) (fun hc => ?_)
    · have h := cond_t hc h
      refine aw_region ?_
      refine awl_runD hT (fun _ => false) [] 2 [0, 2] ⟨[(0, some (none, (eI .i64 a1))), (2, some (none, (eI .i64 a2)))], []⟩ (by kernel_rfl) ?_
      refine awl_nil (tn_n ?_)
      obtain rfl := Option.some.inj h
      exact rfl
    · have h := cond_f hc h
      refine aw_conv (env' := [(0, some (none, (eI .i64 a0))), (2, some (none, (eI .i64 a2)))]) (H' := []) (by kernel_rfl) trivial (envT_cons (x := (eI .i64 a0)) (by kernel_rfl) (PubA.t (pub_v _)) rfl rfl (envT_cons (x := (eI .i64 a2)) (by kernel_rfl) (PubA.t (pub_v _)) rfl rfl envT_nil)) ?_
      refine aw_skip (tn_n ?_)
      obtain rfl := Option.some.inj h
      exact rfl
  · rintro s rfl
    have h := gp1_1
    obtain ⟨p2_2, h, gp2_2⟩ := obind h
    refine aw_join (fun s => s = ⟨[(0, some (none, (eI .i64 p2_2)))], []⟩) ?_ ?_
    · refine aw_sreg ?_
      refine awl_runD hT (fun _ => false) [] 3 [0, 2, 13] ⟨[(0, some (none, (eI .i64 p1_1))), (2, some (none, (eI .i64 a2))), (13, some (none, (eB (decide (p1_1 > a2)))))], []⟩ (by kernel_rfl) ?_
      refine awl_nil ?_
      refine aw_cond (b := decide (p1_1 > a2)) (by kernel_rfl) (fun hc => ?_) (fun hc => ?_)
      · have h := cond_t hc h
        refine aw_region ?_
        refine awl_runD hT (fun _ => false) [] 2 [0] ⟨[(0, some (none, (eI .i64 a2)))], []⟩ (by kernel_rfl) ?_
        refine awl_nil (tn_n ?_)
        obtain rfl := Option.some.inj h
        exact rfl
      · have h := cond_f hc h
        refine aw_conv (env' := [(0, some (none, (eI .i64 p1_1)))]) (H' := []) (by kernel_rfl) trivial (envT_cons (x := (eI .i64 p1_1)) (by kernel_rfl) (PubA.t (pub_v _)) rfl rfl envT_nil) ?_
        refine aw_skip (tn_n ?_)
        obtain rfl := Option.some.inj h
        exact rfl
    · rintro s rfl
      have h := gp2_2
      refine aw_sreg ?_
      refine awl_runD hT (fun _ => false) [] 2 [6] ⟨[(6, some (none, (eI .i64 p2_2)))], []⟩ (by kernel_rfl) ?_
      refine awl_nil ?_
      refine aw_ret ?_
      obtain rfl := Option.some.inj h
      exact ⟨Or.inl rfl, [(eI .i64 p2_2)], by kernel_rfl, (pub_v _)⟩

theorem umbraref02_Clamp_ok_c : callable Try.prog 94 := ⟨_, Try.func94, by decide, rfl⟩

/-! umbra/umbraref29.Side -/
def p_umbraref29_Side (N : Nat) (a0 : Int) : Option (Int) :=
  Option.bind (p_umbraref02_Clamp N a0 (-4294967296) 4294967296) fun r1 =>
  Option.bind (p_umbraref02_Of N 32767) fun r2 =>
  Option.bind (p_umbraref02_Two N 4294967296 r1) fun r3 =>
  Option.bind (p_umbraref02_Times N r2 r3) fun r4 =>
  Option.bind (p_umbraref02_Floor N r4) fun r5 =>
  some r5

theorem umbraref29_Side_ok (N : Nat) (a0 : Int) (r : Int) (h : p_umbraref29_Side N a0 = some r) : Fn Try.prog 38 [(eI .i64 a0)] (eI .i64 r) := by
  unfold p_umbraref29_Side at h
  refine fn_of_awR (n := ⟨10, 0⟩) (rs := [.tmp 2]) hT Try.func38 rfl rfl (by kernel_rfl) rfl ?_
  refine (show aw _ _ _ _ ⟨[(0, some (none, (eI .i64 a0)))], []⟩ from ?_)
  refine aw_sreg ?_
  refine awl_runD hT (fun _ => false) [] 1 [0] ⟨[(0, some (none, (eI .i64 a0)))], []⟩ (by kernel_rfl) ?_
  refine awl_nil ?_
  refine aw_sreg ?_
  refine awl_runD hT (fun _ => false) [] 1 [3] ⟨[(3, some (none, (eI .i64 a0)))], []⟩ (by kernel_rfl) ?_
  obtain ⟨r1, hr1, h⟩ := obind h
  refine awl_op (by kernel_rfl) (owp_call (avs := [(eI .i64 a0), (eI .i64 (-4294967296)), (eI .i64 4294967296)]) (pavs := [(eI .i64 a0), (eI .i64 (-4294967296)), (eI .i64 4294967296)]) (ret := (eI .i64 r1)) rfl rfl (by kernel_rfl) (by kernel_rfl) umbraref02_Clamp_ok_c (pubL_cons (pub_v _) (pubL_cons (pub_v _) (pubL_cons (pub_v _) pubL_nil))) (umbraref02_Clamp_ok N a0 (-4294967296) 4294967296 r1 hr1) (pub_v _)) ?_
  refine awl_runD hT (fun _ => false) [] 1 [0] ⟨[(0, some (none, (eI .i64 r1)))], []⟩ (by kernel_rfl) ?_
  refine awl_nil ?_
  refine aw_sreg ?_
  obtain ⟨r2, hr2, h⟩ := obind h
  refine awl_op (by kernel_rfl) (owp_call (avs := [(eI .i64 32767)]) (pavs := [(eI .i64 32767)]) (ret := (eI .i64 r2)) rfl rfl (by kernel_rfl) (by kernel_rfl) umbraref02_Of_ok_c (pubL_cons (pub_v _) pubL_nil) (umbraref02_Of_ok N 32767 r2 hr2) (pub_v _)) ?_
  refine awl_runD hT (fun _ => false) [] 1 [5, 6] ⟨[(5, some (none, (eI .i64 r2))), (6, some (none, (eI .i64 r1)))], []⟩ (by kernel_rfl) ?_
  obtain ⟨r3, hr3, h⟩ := obind h
  refine awl_op (by kernel_rfl) (owp_call (avs := [(eI .i64 4294967296), (eI .i64 r1)]) (pavs := [(eI .i64 4294967296), (eI .i64 r1)]) (ret := (eI .i64 r3)) rfl rfl (by kernel_rfl) (by kernel_rfl) umbraref02_Two_ok_c (pubL_cons (pub_v _) (pubL_cons (pub_v _) pubL_nil)) (umbraref02_Two_ok N 4294967296 r1 r3 hr3) (pub_v _)) ?_
  refine awl_runD hT (fun _ => false) [] 0 [5, 7] ⟨[(5, some (none, (eI .i64 r2))), (7, some (none, (eI .i64 r3)))], []⟩ (by kernel_rfl) ?_
  obtain ⟨r4, hr4, h⟩ := obind h
  refine awl_op (by kernel_rfl) (owp_call (avs := [(eI .i64 r2), (eI .i64 r3)]) (pavs := [(eI .i64 r2), (eI .i64 r3)]) (ret := (eI .i64 r4)) rfl rfl (by kernel_rfl) (by kernel_rfl) umbraref02_Times_ok_c (pubL_cons (pub_v _) (pubL_cons (pub_v _) pubL_nil)) (umbraref02_Times_ok N r2 r3 r4 hr4) (pub_v _)) ?_
  refine awl_runD hT (fun _ => false) [] 0 [8] ⟨[(8, some (none, (eI .i64 r4)))], []⟩ (by kernel_rfl) ?_
  obtain ⟨r5, hr5, h⟩ := obind h
  refine awl_op (by kernel_rfl) (owp_call (avs := [(eI .i64 r4)]) (pavs := [(eI .i64 r4)]) (ret := (eI .i64 r5)) rfl rfl (by kernel_rfl) (by kernel_rfl) umbraref02_Floor_ok_c (pubL_cons (pub_v _) pubL_nil) (umbraref02_Floor_ok N r4 r5 hr5) (pub_v _)) ?_
  refine awl_runD hT (fun _ => false) [] 1 [2] ⟨[(2, some (none, (eI .i64 r5)))], []⟩ (by kernel_rfl) ?_
  refine awl_nil ?_
  refine aw_ret ?_
  obtain rfl := Option.some.inj h
  exact ⟨Or.inl rfl, [(eI .i64 r5)], by kernel_rfl, (pub_v _)⟩

theorem umbraref29_Side_ok_c : callable Try.prog 38 := ⟨_, Try.func38, by decide, rfl⟩

/-! umbra/umbralaw29.works -/
def p_umbralaw29_works (N : Nat) : Option (Bool) :=
  Option.bind (p_film_Tone N 4294967296) fun r1 =>
  letO (r1 == 32767) fun x2 =>
  Option.bind (cond x2 (
    Option.bind (p_film_Side N 0) fun r4 =>
    some (r4 == 32767)) (
    some false)) fun y3 =>
  letO y3 fun x5 =>
  Option.bind (cond x5 (
    Option.bind (p_film_Far N 300647710720000) fun r7 =>
    some (r7 == 65535)) (
    some false)) fun y6 =>
  some y6

theorem umbralaw29_works_ok (N : Nat) (r : Bool) (h : p_umbralaw29_works N = some r) : Fn Try.prog 39 [] (eB r) := by
  unfold p_umbralaw29_works at h
  refine fn_of_awR (n := ⟨11, 0⟩) (rs := [.tmp 0]) hT Try.func39 rfl rfl (by kernel_rfl) rfl ?_
  refine (show aw _ _ _ _ ⟨[], []⟩ from ?_)
  refine aw_sreg ?_
  refine awl_runD hT (fun _ => false) [] 1 [] ⟨[], []⟩ (by kernel_rfl) ?_
  refine awl_nil ?_
  refine aw_sreg ?_
  obtain ⟨r1, hr1, h⟩ := obind h
  refine awl_op (by kernel_rfl) (owp_call (avs := [(eI .i64 4294967296)]) (pavs := [(eI .i64 4294967296)]) (ret := (eI .i64 r1)) rfl rfl (by kernel_rfl) (by kernel_rfl) film_Tone_ok_c (pubL_cons (pub_v _) pubL_nil) (film_Tone_ok N 4294967296 r1 hr1) (pub_v _)) ?_
  refine awl_runD hT (fun _ => false) [] 2 [3] ⟨[(3, some (none, (eB (r1 == 32767))))], []⟩ (by kernel_rfl) ?_
  obtain ⟨x2, hx2, h⟩ := letO_ex h
  refine awl_runD hT (fun _ => false) [] 0 [3] ⟨[(3, some (none, (eB x2)))], []⟩ (by subst hx2; kernel_rfl) ?_
  obtain ⟨y3, h, gy3⟩ := obind h
  refine awl_take 3 (fun s => s = ⟨[(6, some (none, (eB y3)))], []⟩) ?_ ?_
  · refine boolC x2 (fun hc => ?_) (fun hc => ?_)
    · have h := cond_t hc h
      refine awl_runD hT (fun _ => false) [] 0 [3] ⟨[(3, some (none, (eB true)))], []⟩ (by subst hc; kernel_rfl) ?_
      obtain ⟨r4, hr4, h⟩ := obind h
      refine awl_op (by kernel_rfl) (owp_call (avs := [(eI .i64 0)]) (pavs := [(eI .i64 0)]) (ret := (eI .i64 r4)) rfl rfl (by kernel_rfl) (by kernel_rfl) film_Side_ok_c (pubL_cons (pub_v _) pubL_nil) (film_Side_ok N 0 r4 hr4) (pub_v _)) ?_
      refine awl_runD hT (fun _ => false) [3] 2 [6] ⟨[(6, some (none, (eB (r4 == 32767))))], []⟩ (by kernel_rfl) ?_
      refine awl_nil ?_
      obtain rfl := Option.some.inj h
      exact rfl
    · have h := cond_f hc h
      refine awl_runD hT (fun _ => false) [] 0 [3] ⟨[(3, some (none, (eB false)))], []⟩ (by subst hc; kernel_rfl) ?_
      refine awl_runD hT (fun _ => false) [3] 3 [6] ⟨[(6, some (none, (eB false)))], []⟩ (by kernel_rfl) ?_
      refine awl_nil ?_
      obtain rfl := Option.some.inj h
      exact rfl
  · rintro s rfl
    have h := gy3
    refine awl_runD hT (fun _ => false) [] 1 [7] ⟨[(7, some (none, (eB y3)))], []⟩ (by kernel_rfl) ?_
    obtain ⟨x5, hx5, h⟩ := letO_ex h
    refine awl_runD hT (fun _ => false) [] 0 [7] ⟨[(7, some (none, (eB x5)))], []⟩ (by subst hx5; kernel_rfl) ?_
    obtain ⟨y6, h, gy6⟩ := obind h
    refine awl_take 3 (fun s => s = ⟨[(10, some (none, (eB y6)))], []⟩) ?_ ?_
    · refine boolC x5 (fun hc => ?_) (fun hc => ?_)
      · have h := cond_t hc h
        refine awl_runD hT (fun _ => false) [] 0 [7] ⟨[(7, some (none, (eB true)))], []⟩ (by subst hc; kernel_rfl) ?_
        obtain ⟨r7, hr7, h⟩ := obind h
        refine awl_op (by kernel_rfl) (owp_call (avs := [(eI .i64 300647710720000)]) (pavs := [(eI .i64 300647710720000)]) (ret := (eI .i64 r7)) rfl rfl (by kernel_rfl) (by kernel_rfl) film_Far_ok_c (pubL_cons (pub_v _) pubL_nil) (film_Far_ok N 300647710720000 r7 hr7) (pub_v _)) ?_
        refine awl_runD hT (fun _ => false) [7] 2 [10] ⟨[(10, some (none, (eB (r7 == 65535))))], []⟩ (by kernel_rfl) ?_
        refine awl_nil ?_
        obtain rfl := Option.some.inj h
        exact rfl
      · have h := cond_f hc h
        refine awl_runD hT (fun _ => false) [] 0 [7] ⟨[(7, some (none, (eB false)))], []⟩ (by subst hc; kernel_rfl) ?_
        refine awl_runD hT (fun _ => false) [7] 3 [10] ⟨[(10, some (none, (eB false)))], []⟩ (by kernel_rfl) ?_
        refine awl_nil ?_
        obtain rfl := Option.some.inj h
        exact rfl
    · rintro s rfl
      have h := gy6
      refine awl_runD hT (fun _ => false) [] 1 [0] ⟨[(0, some (none, (eB y6)))], []⟩ (by kernel_rfl) ?_
      refine awl_nil ?_
      refine aw_ret ?_
      obtain rfl := Option.some.inj h
      exact ⟨Or.inl rfl, [(eB y6)], by kernel_rfl, (pub_v _)⟩

theorem umbralaw29_works_ok_c : callable Try.prog 39 := ⟨_, Try.func39, by decide, rfl⟩

/-! umbra/umbralaw29.FilmNumbers -/
def p_umbralaw29_FilmNumbers (N : Nat) (a0 : Int) : Option (Bool) :=
  Option.bind (p_film_Tone N a0) fun r1 =>
  Option.bind (p_umbraref29_Tone N a0) fun r2 =>
  letO (r1 == r2) fun x3 =>
  Option.bind (cond x3 (
    Option.bind (p_film_Far N a0) fun r5 =>
    Option.bind (p_umbraref29_Far N a0) fun r6 =>
    some (r5 == r6)) (
    some false)) fun y4 =>
  letO y4 fun x7 =>
  Option.bind (cond x7 (
    Option.bind (p_film_Side N a0) fun r9 =>
    Option.bind (p_umbraref29_Side N a0) fun r10 =>
    some (r9 == r10)) (
    some false)) fun y8 =>
  letO y8 fun x11 =>
  Option.bind (cond x11 (
    Option.bind (p_umbralaw29_works N ) fun r13 =>
    some r13) (
    some false)) fun y12 =>
  some y12

theorem umbralaw29_FilmNumbers_ok (N : Nat) (a0 : Int) (r : Bool) (h : p_umbralaw29_FilmNumbers N a0 = some r) : Fn Try.prog 7 [(eI .i64 a0)] (eB r) := by
  unfold p_umbralaw29_FilmNumbers at h
  refine fn_of_awR (n := ⟨25, 0⟩) (rs := [.tmp 2]) hT Try.func7 rfl rfl (by kernel_rfl) rfl ?_
  refine (show aw _ _ _ _ ⟨[(0, some (none, (eI .i64 a0)))], []⟩ from ?_)
  refine aw_sreg ?_
  refine awl_runD hT (fun _ => false) [] 1 [0] ⟨[(0, some (none, (eI .i64 a0)))], []⟩ (by kernel_rfl) ?_
  refine awl_nil ?_
  refine aw_sreg ?_
  refine awl_runD hT (fun _ => false) [] 1 [0, 3] ⟨[(0, some (none, (eI .i64 a0))), (3, some (none, (eI .i64 a0)))], []⟩ (by kernel_rfl) ?_
  obtain ⟨r1, hr1, h⟩ := obind h
  refine awl_op (by kernel_rfl) (owp_call (avs := [(eI .i64 a0)]) (pavs := [(eI .i64 a0)]) (ret := (eI .i64 r1)) rfl rfl (by kernel_rfl) (by kernel_rfl) film_Tone_ok_c (pubL_cons (pub_v _) pubL_nil) (film_Tone_ok N a0 r1 hr1) (pub_v _)) ?_
  refine awl_runD hT (fun _ => false) [] 1 [0, 4, 5] ⟨[(0, some (none, (eI .i64 a0))), (4, some (none, (eI .i64 r1))), (5, some (none, (eI .i64 a0)))], []⟩ (by kernel_rfl) ?_
  obtain ⟨r2, hr2, h⟩ := obind h
  refine awl_op (by kernel_rfl) (owp_call (avs := [(eI .i64 a0)]) (pavs := [(eI .i64 a0)]) (ret := (eI .i64 r2)) rfl rfl (by kernel_rfl) (by kernel_rfl) umbraref29_Tone_ok_c (pubL_cons (pub_v _) pubL_nil) (umbraref29_Tone_ok N a0 r2 hr2) (pub_v _)) ?_
  refine awl_runD hT (fun _ => false) [] 2 [0, 8] ⟨[(0, some (none, (eI .i64 a0))), (8, some (none, (eB (r1 == r2))))], []⟩ (by kernel_rfl) ?_
  obtain ⟨x3, hx3, h⟩ := letO_ex h
  refine awl_runD hT (fun _ => false) [] 0 [0, 8] ⟨[(0, some (none, (eI .i64 a0))), (8, some (none, (eB x3)))], []⟩ (by subst hx3; kernel_rfl) ?_
  obtain ⟨y4, h, gy4⟩ := obind h
  refine awl_take 6 (fun s => s = ⟨[(0, some (none, (eI .i64 a0))), (14, some (none, (eB y4)))], []⟩) ?_ ?_
  · refine boolC x3 (fun hc => ?_) (fun hc => ?_)
    · have h := cond_t hc h
      refine awl_runD hT (fun _ => false) [] 0 [0, 8] ⟨[(0, some (none, (eI .i64 a0))), (8, some (none, (eB true)))], []⟩ (by subst hc; kernel_rfl) ?_
      refine awl_runD hT (fun _ => false) [8] 1 [0, 8, 9] ⟨[(0, some (none, (eI .i64 a0))), (8, some (none, (eB true))), (9, some (none, (eI .i64 a0)))], []⟩ (by kernel_rfl) ?_
      obtain ⟨r5, hr5, h⟩ := obind h
      refine awl_op (by kernel_rfl) (owp_call (avs := [(eI .i64 a0)]) (pavs := [(eI .i64 a0)]) (ret := (eI .i64 r5)) rfl rfl (by kernel_rfl) (by kernel_rfl) film_Far_ok_c (pubL_cons (pub_v _) pubL_nil) (film_Far_ok N a0 r5 hr5) (pub_v _)) ?_
      refine awl_runD hT (fun _ => false) [8] 1 [0, 8, 10, 11] ⟨[(0, some (none, (eI .i64 a0))), (8, some (none, (eB true))), (10, some (none, (eI .i64 r5))), (11, some (none, (eI .i64 a0)))], []⟩ (by kernel_rfl) ?_
      obtain ⟨r6, hr6, h⟩ := obind h
      refine awl_op (by kernel_rfl) (owp_call (avs := [(eI .i64 a0)]) (pavs := [(eI .i64 a0)]) (ret := (eI .i64 r6)) rfl rfl (by kernel_rfl) (by kernel_rfl) umbraref29_Far_ok_c (pubL_cons (pub_v _) pubL_nil) (umbraref29_Far_ok N a0 r6 hr6) (pub_v _)) ?_
      refine awl_runD hT (fun _ => false) [8] 2 [0, 14] ⟨[(0, some (none, (eI .i64 a0))), (14, some (none, (eB (r5 == r6))))], []⟩ (by kernel_rfl) ?_
      refine awl_nil ?_
      obtain rfl := Option.some.inj h
      exact rfl
    · have h := cond_f hc h
      refine awl_runD hT (fun _ => false) [] 0 [0, 8] ⟨[(0, some (none, (eI .i64 a0))), (8, some (none, (eB false)))], []⟩ (by subst hc; kernel_rfl) ?_
      refine awl_runD hT (fun _ => false) [8] 6 [0, 14] ⟨[(0, some (none, (eI .i64 a0))), (14, some (none, (eB false)))], []⟩ (by kernel_rfl) ?_
      refine awl_nil ?_
      obtain rfl := Option.some.inj h
      exact rfl
  · rintro s rfl
    have h := gy4
    refine awl_runD hT (fun _ => false) [] 1 [0, 15] ⟨[(0, some (none, (eI .i64 a0))), (15, some (none, (eB y4)))], []⟩ (by kernel_rfl) ?_
    obtain ⟨x7, hx7, h⟩ := letO_ex h
    refine awl_runD hT (fun _ => false) [] 0 [0, 15] ⟨[(0, some (none, (eI .i64 a0))), (15, some (none, (eB x7)))], []⟩ (by subst hx7; kernel_rfl) ?_
    obtain ⟨y8, h, gy8⟩ := obind h
    refine awl_take 6 (fun s => s = ⟨[(21, some (none, (eB y8)))], []⟩) ?_ ?_
    · refine boolC x7 (fun hc => ?_) (fun hc => ?_)
      · have h := cond_t hc h
        refine awl_runD hT (fun _ => false) [] 0 [0, 15] ⟨[(0, some (none, (eI .i64 a0))), (15, some (none, (eB true)))], []⟩ (by subst hc; kernel_rfl) ?_
        refine awl_runD hT (fun _ => false) [15] 1 [0, 15, 16] ⟨[(0, some (none, (eI .i64 a0))), (15, some (none, (eB true))), (16, some (none, (eI .i64 a0)))], []⟩ (by kernel_rfl) ?_
        obtain ⟨r9, hr9, h⟩ := obind h
        refine awl_op (by kernel_rfl) (owp_call (avs := [(eI .i64 a0)]) (pavs := [(eI .i64 a0)]) (ret := (eI .i64 r9)) rfl rfl (by kernel_rfl) (by kernel_rfl) film_Side_ok_c (pubL_cons (pub_v _) pubL_nil) (film_Side_ok N a0 r9 hr9) (pub_v _)) ?_
        refine awl_runD hT (fun _ => false) [15] 1 [15, 17, 18] ⟨[(15, some (none, (eB true))), (17, some (none, (eI .i64 r9))), (18, some (none, (eI .i64 a0)))], []⟩ (by kernel_rfl) ?_
        obtain ⟨r10, hr10, h⟩ := obind h
        refine awl_op (by kernel_rfl) (owp_call (avs := [(eI .i64 a0)]) (pavs := [(eI .i64 a0)]) (ret := (eI .i64 r10)) rfl rfl (by kernel_rfl) (by kernel_rfl) umbraref29_Side_ok_c (pubL_cons (pub_v _) pubL_nil) (umbraref29_Side_ok N a0 r10 hr10) (pub_v _)) ?_
        refine awl_runD hT (fun _ => false) [15] 2 [21] ⟨[(21, some (none, (eB (r9 == r10))))], []⟩ (by kernel_rfl) ?_
        refine awl_nil ?_
        obtain rfl := Option.some.inj h
        exact rfl
      · have h := cond_f hc h
        refine awl_runD hT (fun _ => false) [] 0 [0, 15] ⟨[(0, some (none, (eI .i64 a0))), (15, some (none, (eB false)))], []⟩ (by subst hc; kernel_rfl) ?_
        refine awl_runD hT (fun _ => false) [15] 6 [21] ⟨[(21, some (none, (eB false)))], []⟩ (by kernel_rfl) ?_
        refine awl_nil ?_
        obtain rfl := Option.some.inj h
        exact rfl
    · rintro s rfl
      have h := gy8
      refine awl_runD hT (fun _ => false) [] 1 [22] ⟨[(22, some (none, (eB y8)))], []⟩ (by kernel_rfl) ?_
      obtain ⟨x11, hx11, h⟩ := letO_ex h
      refine awl_runD hT (fun _ => false) [] 0 [22] ⟨[(22, some (none, (eB x11)))], []⟩ (by subst hx11; kernel_rfl) ?_
      obtain ⟨y12, h, gy12⟩ := obind h
      refine awl_take 2 (fun s => s = ⟨[(24, some (none, (eB y12)))], []⟩) ?_ ?_
      · refine boolC x11 (fun hc => ?_) (fun hc => ?_)
        · have h := cond_t hc h
          refine awl_runD hT (fun _ => false) [] 0 [22] ⟨[(22, some (none, (eB true)))], []⟩ (by subst hc; kernel_rfl) ?_
          obtain ⟨r13, hr13, h⟩ := obind h
          refine awl_op (by kernel_rfl) (owp_call (avs := []) (pavs := []) (ret := (eB r13)) rfl rfl (by kernel_rfl) (by kernel_rfl) umbralaw29_works_ok_c pubL_nil (umbralaw29_works_ok N  r13 hr13) (pub_v _)) ?_
          refine awl_runD hT (fun _ => false) [22] 1 [24] ⟨[(24, some (none, (eB r13)))], []⟩ (by kernel_rfl) ?_
          refine awl_nil ?_
          obtain rfl := Option.some.inj h
          exact rfl
        · have h := cond_f hc h
          refine awl_runD hT (fun _ => false) [] 0 [22] ⟨[(22, some (none, (eB false)))], []⟩ (by subst hc; kernel_rfl) ?_
          refine awl_runD hT (fun _ => false) [22] 2 [24] ⟨[(24, some (none, (eB false)))], []⟩ (by kernel_rfl) ?_
          refine awl_nil ?_
          obtain rfl := Option.some.inj h
          exact rfl
      · rintro s rfl
        have h := gy12
        refine awl_runD hT (fun _ => false) [] 1 [2] ⟨[(2, some (none, (eB y12)))], []⟩ (by kernel_rfl) ?_
        refine awl_nil ?_
        refine aw_ret ?_
        obtain rfl := Option.some.inj h
        exact ⟨Or.inl rfl, [(eB y12)], by kernel_rfl, (pub_v _)⟩

theorem umbralaw29_FilmNumbers_ok_c : callable Try.prog 7 := ⟨_, Try.func7, by decide, rfl⟩

end Go.UK
