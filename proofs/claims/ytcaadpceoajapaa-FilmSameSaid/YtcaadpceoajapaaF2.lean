/- A part of the proof: what the functions of the program compute. -/
import Derived.Test.YtcaadpceoajapaaF1
namespace Go.UK
open Go Go.Proofs
set_option maxRecDepth 20000
set_option linter.all false

attribute [local irreducible] owp awl aw Go.UK.Fn NatFn opS Stab TOK EqT

/-! umbra/fix.Add -/
def p_fix_Add_L1 (N : Nat) (x1 : Int) (a0 : (List Int)) : Nat → Int → Int → Option (Int)
  | 0, _, _ => none
  | k + 1, s3_3, s9_4 =>
    cond (decide (s9_4 < x1)) (
      Option.bind (idx a0 s9_4) fun e5 =>
      Option.bind (letO (cond (decide (s3_3 > 0)) (decide (e5 > 0)) false) fun x7 =>
      letO (decide ((I64 (s3_3 + e5)) < 0)) fun x8 =>
      cond (cond x7 x8 false) (
        some 9223372036854775807) (
        letO (cond (decide (s3_3 < 0)) (decide (e5 < 0)) false) fun x9 =>
        letO (decide ((I64 (s3_3 + e5)) ≥ 0)) fun x10 =>
        cond (cond x9 x10 false) (some (-9223372036854775808)) (some (I64 (s3_3 + e5))))) fun p2_6 =>
      p_fix_Add_L1 N x1 a0 k p2_6 (I64 (s9_4 + 1))) (
      some s3_3)

def p_fix_Add (N : Nat) (a0 : (List Int)) : Option (Int) :=
  letO (((List.map (eI .i64) a0).length : Int)) fun x1 =>
  Option.bind (p_fix_Add_L1 N x1 a0 N 0 0) fun p1_2 =>
  some p1_2

theorem fix_Add_ok (N : Nat) (a0 : (List Int)) (r : Int) (h : p_fix_Add N a0 = some r) : Fn Try.prog 86 [(eL 1 (eI .i64) a0)] (eI .i64 r) := by
  unfold p_fix_Add at h
  refine fn_of_awR (n := ⟨41, 0⟩) (rs := [.tmp 2]) hT Try.func86 rfl rfl (by kernel_rfl) rfl ?_
  refine (show aw _ _ _ _ ⟨[(0, some (none, (eL 1 (eI .i64) a0)))], []⟩ from ?_)
  refine aw_sreg ?_
  refine awl_runD hT (fun _ => false) [] 1 [0] ⟨[(0, some (none, (eL 1 (eI .i64) a0)))], []⟩ (by kernel_rfl) ?_
  refine awl_nil ?_
  refine aw_sreg ?_
  refine awl_runD hT (fun _ => false) [] 1 [0, 3] ⟨[(0, some (none, (eL 1 (eI .i64) a0))), (3, some (none, (eI .i64 0)))], []⟩ (by kernel_rfl) ?_
  refine awl_nil ?_
  refine aw_seq ?_
  refine aw_sreg ?_
  obtain ⟨x1, hx1, h⟩ := letO_ex h
  refine awl_runD hT (fun _ => false) [] 3 [3, 7, 8, 9] ⟨[(3, some (none, (eI .i64 0))), (7, some (none, (eL 1 (eI .i64) a0))), (8, some (none, (eI .i64 x1))), (9, some (none, (eI .i64 0)))], []⟩ (by subst hx1; kernel_rfl) ?_
  refine awl_nil ?_
  obtain ⟨p1_2, h, gp1_2⟩ := obind h
  refine aw_joinK (fun s => s = ⟨[(3, some (none, (eI .i64 p1_2)))], []⟩) ?_ ?_
  · refine aw_block ?_
    refine aw_loop (fun k s => ∃ s3_3 s9_4, p_fix_Add_L1 N x1 a0 k s3_3 s9_4 = some p1_2 ∧ s = ⟨[(3, some (none, (eI .i64 s3_3))), (7, some (none, (eL 1 (eI .i64) a0))), (8, some (none, (eI .i64 x1))), (9, some (none, (eI .i64 s9_4)))], []⟩) (fun k s hI => ?_) N _ ⟨_, _, h, rfl⟩
    obtain ⟨s3_3, s9_4, h, rfl⟩ := hI
    cases k with
    | zero => cases h
    | succ k =>
      refine aw_sreg ?_
      refine awl_runD hT (fun _ => false) [] 1 [3, 7, 8, 9, 10] ⟨[(3, some (none, (eI .i64 s3_3))), (7, some (none, (eL 1 (eI .i64) a0))), (8, some (none, (eI .i64 x1))), (9, some (none, (eI .i64 s9_4))), (10, some (none, (eB (decide (s9_4 < x1)))))], []⟩ (by kernel_rfl) ?_
      refine awl_nil ?_
      refine aw_seq ?_
      refine aw_cond (b := decide (s9_4 < x1)) (by kernel_rfl) (fun hc => ?_) (fun hc => ?_)
      · have h := cond_t hc h
        refine aw_skip (tn_n ?_)
        refine aw_seq ?_
        refine aw_block ?_
        refine aw_sreg ?_
        obtain ⟨e5, he5, h⟩ := obind h
        refine awl_op (by kernel_rfl) (owp_index hT (kk := .i64) (v := (eL 1 (eI .i64) a0)) (es := List.map (eI .i64) a0) (i := s9_4) rfl rfl (by kernel_rfl) tt189 tt47 (by kernel_rfl) rfl rfl (by kernel_rfl) (idx_0 he5) (idx_x (eI .i64) he5)) ?_
        refine awl_runD hT (fun _ => false) [] 2 [3, 5, 7, 8, 9] ⟨[(3, some (none, (eI .i64 s3_3))), (5, some (none, (eI .i64 e5))), (7, some (none, (eL 1 (eI .i64) a0))), (8, some (none, (eI .i64 x1))), (9, some (none, (eI .i64 s9_4)))], []⟩ (by kernel_rfl) ?_
        refine awl_nil ?_
        refine aw_sreg ?_
        refine awl_runD hT (fun _ => false) [] 4 [3, 5, 6, 7, 8, 9] ⟨[(3, some (none, (eI .i64 s3_3))), (5, some (none, (eI .i64 e5))), (6, some (none, (eI .i64 (I64 (s3_3 + e5))))), (7, some (none, (eL 1 (eI .i64) a0))), (8, some (none, (eI .i64 x1))), (9, some (none, (eI .i64 s9_4)))], []⟩ (by kernel_rfl) ?_
        refine awl_nil ?_
        obtain ⟨p2_6, h, gp2_6⟩ := obind h
        refine aw_join (fun s => s = ⟨[(6, some (none, (eI .i64 p2_6))), (7, some (none, (eL 1 (eI .i64) a0))), (8, some (none, (eI .i64 x1))), (9, some (none, (eI .i64 s9_4)))], []⟩) ?_ ?_
        · refine aw_block ?_
          refine aw_sreg ?_
          obtain ⟨x7, hx7, h⟩ := letO_ex h
          obtain ⟨x8, hx8, h⟩ := letO_ex h
          refine awl_runD hT (fun _ => false) [] 11 [3, 5, 6, 7, 8, 9, 16] ⟨[(3, some (none, (eI .i64 s3_3))), (5, some (none, (eI .i64 e5))), (6, some (none, (eI .i64 (I64 (s3_3 + e5))))), (7, some (none, (eL 1 (eI .i64) a0))), (8, some (none, (eI .i64 x1))), (9, some (none, (eI .i64 s9_4))), (16, some (none, (eB (cond x7 x8 false))))], []⟩ (by subst hx8 hx7; kernel_rfl) ?_
          refine awl_nil ?_
          refine aw_cond (b := cond x7 x8 false) (by kernel_rfl) (fun hc => ?_) (fun hc => ?_)
          · have h := cond_t hc h
            refine aw_region ?_
            refine awl_runD hT (fun _ => false) [] 1 [6, 7, 8, 9] ⟨[(6, some (none, (eI .i64 9223372036854775807))), (7, some (none, (eL 1 (eI .i64) a0))), (8, some (none, (eI .i64 x1))), (9, some (none, (eI .i64 s9_4)))], []⟩ (by kernel_rfl) ?_
            refine awl_nil (inB_n (tn_n ?_))
            obtain rfl := Option.some.inj h
            exact rfl
          · have h := cond_f hc h
            refine aw_sreg ?_
            obtain ⟨x9, hx9, h⟩ := letO_ex h
            obtain ⟨x10, hx10, h⟩ := letO_ex h
            refine awl_runD hT (fun _ => false) [] 11 [6, 7, 8, 9, 27] ⟨[(6, some (none, (eI .i64 (I64 (s3_3 + e5))))), (7, some (none, (eL 1 (eI .i64) a0))), (8, some (none, (eI .i64 x1))), (9, some (none, (eI .i64 s9_4))), (27, some (none, (eB (cond x9 x10 false))))], []⟩ (by subst hx10 hx9; kernel_rfl) ?_
            refine awl_nil ?_
            refine aw_cond (b := cond x9 x10 false) (by kernel_rfl) (fun hc => ?_) (fun hc => ?_)
            · have h := cond_t hc h
              refine aw_region ?_
              refine awl_runD hT (fun _ => false) [] 1 [6, 7, 8, 9] ⟨[(6, some (none, (eI .i64 (-9223372036854775808)))), (7, some (none, (eL 1 (eI .i64) a0))), (8, some (none, (eI .i64 x1))), (9, some (none, (eI .i64 s9_4)))], []⟩ (by kernel_rfl) ?_
              refine awl_nil (inB_n (tn_n ?_))
              obtain rfl := Option.some.inj h
              exact rfl
            · have h := cond_f hc h
              refine aw_conv (env' := [(6, some (none, (eI .i64 (I64 (s3_3 + e5))))), (7, some (none, (eL 1 (eI .i64) a0))), (8, some (none, (eI .i64 x1))), (9, some (none, (eI .i64 s9_4)))]) (H' := []) (by kernel_rfl) trivial (envT_cons (x := (eI .i64 (I64 (s3_3 + e5)))) (by kernel_rfl) (PubA.t (pub_v _)) rfl rfl (envT_cons (x := (eL 1 (eI .i64) a0)) (by kernel_rfl) (PubA.t ((eL_pub (fun _ => pub_v _)) a0)) rfl rfl (envT_cons (x := (eI .i64 x1)) (by kernel_rfl) (PubA.t (pub_v _)) rfl rfl (envT_cons (x := (eI .i64 s9_4)) (by kernel_rfl) (PubA.t (pub_v _)) rfl rfl envT_nil)))) ?_
              refine aw_skip (inB_n (tn_n ?_))
              obtain rfl := Option.some.inj h
              exact rfl
        · rintro s rfl
          have h := gp2_6
          refine aw_region ?_
          refine awl_runD hT (fun _ => false) [] 2 [3, 7, 8, 9] ⟨[(3, some (none, (eI .i64 p2_6))), (7, some (none, (eL 1 (eI .i64) a0))), (8, some (none, (eI .i64 x1))), (9, some (none, (eI .i64 s9_4)))], []⟩ (by kernel_rfl) ?_
          refine awl_nil (inB_n (tn_n ?_))
          refine aw_region ?_
          refine awl_runD hT (fun _ => false) [] 2 [3, 7, 8, 9] ⟨[(3, some (none, (eI .i64 p2_6))), (7, some (none, (eL 1 (eI .i64) a0))), (8, some (none, (eI .i64 x1))), (9, some (none, (eI .i64 (I64 (s9_4 + 1)))))], []⟩ (by kernel_rfl) ?_
          refine awl_nil (tn_n ?_)
          exact ⟨k, Nat.lt_succ_self k, _, _, h, rfl⟩
      · have h := cond_f hc h
        refine aw_conv (env' := [(3, some (none, (eI .i64 s3_3)))]) (H' := []) (by kernel_rfl) trivial (envT_cons (x := (eI .i64 s3_3)) (by kernel_rfl) (PubA.t (pub_v _)) rfl rfl envT_nil) ?_
        refine aw_exit (tn_x (tn_x (inB_e (tn_n ?_))))
        obtain rfl := Option.some.inj h
        exact rfl
  · rintro s rfl
    have h := gp1_2
    refine (tn_n ?_)
    refine aw_sreg ?_
    refine awl_runD hT (fun _ => false) [] 2 [2] ⟨[(2, some (none, (eI .i64 p1_2)))], []⟩ (by kernel_rfl) ?_
    refine awl_nil ?_
    refine aw_ret ?_
    obtain rfl := Option.some.inj h
    exact ⟨Or.inl rfl, [(eI .i64 p1_2)], by kernel_rfl, (pub_v _)⟩

theorem fix_Add_ok_c : callable Try.prog 86 := ⟨_, Try.func86, by decide, rfl⟩

/-! umbra/wide.size -/
def p_wide_size (N : Nat) (a0 : Int) : Option (Int × Bool) :=
  cond (decide (a0 < 0)) (some (U64 (0 - (U64 a0)), true)) (some (U64 a0, false))

theorem wide_size_ok (N : Nat) (a0 : Int) (r : Int × Bool) (h : p_wide_size N a0 = some r) : Fn Try.prog 171 [(eI .i64 a0)] (.tup [(eI .u64 r.1), (eB r.2)]) := by
  unfold p_wide_size at h
  refine fn_of_awR (n := ⟨11, 0⟩) (rs := [.tmp 2, .tmp 3]) hT Try.func171 rfl rfl (by kernel_rfl) rfl ?_
  refine (show aw _ _ _ _ ⟨[(0, some (none, (eI .i64 a0)))], []⟩ from ?_)
  refine aw_sreg ?_
  refine awl_runD hT (fun _ => false) [] 2 [0] ⟨[(0, some (none, (eI .i64 a0)))], []⟩ (by kernel_rfl) ?_
  refine awl_nil ?_
  refine aw_seq ?_
  refine aw_sreg ?_
  refine awl_runD hT (fun _ => false) [] 2 [0, 5] ⟨[(0, some (none, (eI .i64 a0))), (5, some (none, (eB (decide (a0 < 0)))))], []⟩ (by kernel_rfl) ?_
  refine awl_nil ?_
  refine aw_cond (b := decide (a0 < 0)) (by kernel_rfl) (fun hc => ?_) (fun hc => ?_)
  · have h := cond_t hc h
    refine aw_sreg ?_
    refine awl_runD hT (fun _ => false) [] 5 [2, 3] ⟨[(2, some (none, (eI .u64 (U64 (0 - (U64 a0)))))), (3, some (none, (eB true)))], []⟩ (by kernel_rfl) ?_
    refine awl_nil ?_
    refine aw_ret (tn_r ?_)
    obtain rfl := Option.some.inj h
    exact ⟨Or.inl rfl, [(eI .u64 (U64 (0 - (U64 a0)))), (eB true)], by kernel_rfl, ⟨_, rfl, (pubL_cons (pub_v _) (pubL_cons (pub_v _) pubL_nil))⟩⟩
  · have h := cond_f hc h
    refine aw_skip (tn_n ?_)
    refine aw_sreg ?_
    refine awl_runD hT (fun _ => false) [] 4 [2, 3] ⟨[(2, some (none, (eI .u64 (U64 a0)))), (3, some (none, (eB false)))], []⟩ (by kernel_rfl) ?_
    refine awl_nil ?_
    refine aw_ret ?_
    obtain rfl := Option.some.inj h
    exact ⟨Or.inl rfl, [(eI .u64 (U64 a0)), (eB false)], by kernel_rfl, ⟨_, rfl, (pubL_cons (pub_v _) (pubL_cons (pub_v _) pubL_nil))⟩⟩

theorem wide_size_ok_c : callable Try.prog 171 := ⟨_, Try.func171, by decide, rfl⟩

/-! math/bits.Mul64 -/
def p_math_bits_Mul64 (N : Nat) (a0 : Int) (a1 : Int) : Option (Int × Int) :=
  letO (band .u64 a0 4294967295) fun x1 =>
  letO (band .u64 a1 4294967295) fun x2 =>
  letO (U64 ((shr .u64 a0 32) * x2)) fun x3 =>
  letO (shr .u64 (U64 (x1 * x2)) 32) fun x4 =>
  letO (band .u64 (U64 (x3 + x4)) 4294967295) fun x5 =>
  letO (shr .u64 (U64 (x3 + x4)) 32) fun x6 =>
  letO (U64 (x1 * (shr .u64 a1 32))) fun x7 =>
  letO (U64 ((shr .u64 a0 32) * (shr .u64 a1 32))) fun x8 =>
  letO (shr .u64 (U64 (x5 + x7)) 32) fun x9 =>
  letO (U64 ((U64 (x8 + x6)) + x9)) fun x10 =>
  some (x10, U64 (a0 * a1))

theorem math_bits_Mul64_ok (N : Nat) (a0 : Int) (a1 : Int) (r : Int × Int) (h : p_math_bits_Mul64 N a0 a1 = some r) : Fn Try.prog 144 [(eI .u64 a0), (eI .u64 a1)] (.tup [(eI .u64 r.1), (eI .u64 r.2)]) := by
  unfold p_math_bits_Mul64 at h
  refine fn_of_awR (n := ⟨51, 0⟩) (rs := [.tmp 4, .tmp 5]) hT Try.func144 rfl rfl (by kernel_rfl) rfl ?_
  refine (show aw _ _ _ _ ⟨[(0, some (none, (eI .u64 a0))), (1, some (none, (eI .u64 a1)))], []⟩ from ?_)
  refine aw_sreg ?_
  refine awl_runD hT (fun _ => false) [] 2 [0, 1] ⟨[(0, some (none, (eI .u64 a0))), (1, some (none, (eI .u64 a1)))], []⟩ (by kernel_rfl) ?_
  refine awl_nil ?_
  refine aw_sreg ?_
  obtain ⟨x1, hx1, h⟩ := letO_ex h
  refine awl_runD hT (fun _ => false) [] 3 [0, 1, 6] ⟨[(0, some (none, (eI .u64 a0))), (1, some (none, (eI .u64 a1))), (6, some (none, (eI .u64 x1)))], []⟩ (by subst hx1; kernel_rfl) ?_
  refine awl_nil ?_
  refine aw_sreg ?_
  refine awl_runD hT (fun _ => false) [] 3 [0, 1, 6, 7] ⟨[(0, some (none, (eI .u64 a0))), (1, some (none, (eI .u64 a1))), (6, some (none, (eI .u64 x1))), (7, some (none, (eI .u64 (shr .u64 a0 32))))], []⟩ (by kernel_rfl) ?_
  refine awl_nil ?_
  refine aw_sreg ?_
  obtain ⟨x2, hx2, h⟩ := letO_ex h
  refine awl_runD hT (fun _ => false) [] 3 [0, 1, 6, 7, 8] ⟨[(0, some (none, (eI .u64 a0))), (1, some (none, (eI .u64 a1))), (6, some (none, (eI .u64 x1))), (7, some (none, (eI .u64 (shr .u64 a0 32)))), (8, some (none, (eI .u64 x2)))], []⟩ (by subst hx2; kernel_rfl) ?_
  refine awl_nil ?_
  refine aw_sreg ?_
  refine awl_runD hT (fun _ => false) [] 3 [0, 1, 6, 7, 8, 9] ⟨[(0, some (none, (eI .u64 a0))), (1, some (none, (eI .u64 a1))), (6, some (none, (eI .u64 x1))), (7, some (none, (eI .u64 (shr .u64 a0 32)))), (8, some (none, (eI .u64 x2))), (9, some (none, (eI .u64 (shr .u64 a1 32))))], []⟩ (by kernel_rfl) ?_
  refine awl_nil ?_
  refine aw_sreg ?_
  refine awl_runD hT (fun _ => false) [] 4 [0, 1, 6, 7, 8, 9, 10] ⟨[(0, some (none, (eI .u64 a0))), (1, some (none, (eI .u64 a1))), (6, some (none, (eI .u64 x1))), (7, some (none, (eI .u64 (shr .u64 a0 32)))), (8, some (none, (eI .u64 x2))), (9, some (none, (eI .u64 (shr .u64 a1 32)))), (10, some (none, (eI .u64 (U64 (x1 * x2)))))], []⟩ (by kernel_rfl) ?_
  refine awl_nil ?_
  refine aw_sreg ?_
  obtain ⟨x3, hx3, h⟩ := letO_ex h
  obtain ⟨x4, hx4, h⟩ := letO_ex h
  refine awl_runD hT (fun _ => false) [] 7 [0, 1, 6, 7, 9, 11] ⟨[(0, some (none, (eI .u64 a0))), (1, some (none, (eI .u64 a1))), (6, some (none, (eI .u64 x1))), (7, some (none, (eI .u64 (shr .u64 a0 32)))), (9, some (none, (eI .u64 (shr .u64 a1 32)))), (11, some (none, (eI .u64 (U64 (x3 + x4)))))], []⟩ (by subst hx4 hx3; kernel_rfl) ?_
  refine awl_nil ?_
  refine aw_sreg ?_
  obtain ⟨x5, hx5, h⟩ := letO_ex h
  refine awl_runD hT (fun _ => false) [] 3 [0, 1, 6, 7, 9, 11, 12] ⟨[(0, some (none, (eI .u64 a0))), (1, some (none, (eI .u64 a1))), (6, some (none, (eI .u64 x1))), (7, some (none, (eI .u64 (shr .u64 a0 32)))), (9, some (none, (eI .u64 (shr .u64 a1 32)))), (11, some (none, (eI .u64 (U64 (x3 + x4))))), (12, some (none, (eI .u64 x5)))], []⟩ (by subst hx5; kernel_rfl) ?_
  refine awl_nil ?_
  refine aw_sreg ?_
  obtain ⟨x6, hx6, h⟩ := letO_ex h
  refine awl_runD hT (fun _ => false) [] 3 [0, 1, 6, 7, 9, 12, 13] ⟨[(0, some (none, (eI .u64 a0))), (1, some (none, (eI .u64 a1))), (6, some (none, (eI .u64 x1))), (7, some (none, (eI .u64 (shr .u64 a0 32)))), (9, some (none, (eI .u64 (shr .u64 a1 32)))), (12, some (none, (eI .u64 x5))), (13, some (none, (eI .u64 x6)))], []⟩ (by subst hx6; kernel_rfl) ?_
  refine awl_nil ?_
  refine aw_sreg ?_
  obtain ⟨x7, hx7, h⟩ := letO_ex h
  refine awl_runD hT (fun _ => false) [] 6 [0, 1, 7, 9, 12, 13] ⟨[(0, some (none, (eI .u64 a0))), (1, some (none, (eI .u64 a1))), (7, some (none, (eI .u64 (shr .u64 a0 32)))), (9, some (none, (eI .u64 (shr .u64 a1 32)))), (12, some (none, (eI .u64 (U64 (x5 + x7))))), (13, some (none, (eI .u64 x6)))], []⟩ (by subst hx7; kernel_rfl) ?_
  refine awl_nil ?_
  refine aw_sreg ?_
  obtain ⟨x8, hx8, h⟩ := letO_ex h
  obtain ⟨x9, hx9, h⟩ := letO_ex h
  obtain ⟨x10, hx10, h⟩ := letO_ex h
  refine awl_runD hT (fun _ => false) [] 9 [0, 1, 4] ⟨[(0, some (none, (eI .u64 a0))), (1, some (none, (eI .u64 a1))), (4, some (none, (eI .u64 x10)))], []⟩ (by subst hx10 hx9 hx8; kernel_rfl) ?_
  refine awl_nil ?_
  refine aw_sreg ?_
  refine awl_runD hT (fun _ => false) [] 4 [4, 5] ⟨[(4, some (none, (eI .u64 x10))), (5, some (none, (eI .u64 (U64 (a0 * a1)))))], []⟩ (by kernel_rfl) ?_
  refine awl_nil ?_
  refine aw_ret ?_
  obtain rfl := Option.some.inj h
  exact ⟨Or.inl rfl, [(eI .u64 x10), (eI .u64 (U64 (a0 * a1)))], by kernel_rfl, ⟨_, rfl, (pubL_cons (pub_v _) (pubL_cons (pub_v _) pubL_nil))⟩⟩

theorem math_bits_Mul64_ok_c : callable Try.prog 144 := ⟨_, Try.func144, by decide, rfl⟩

theorem n_Sub64 {x y c : Int} {r : Int × Int} (h : p_Sub64 x y c = some r) : NatFn Try.prog 201 [.int .u64 x, .int .u64 y, .int .u64 c] (.tuple #[.int .u64 r.1, .int .u64 r.2]) :=
  nat_Sub64 Try.func201 (by kernel_rfl) (by kernel_rfl) (by kernel_rfl) (by kernel_rfl) h

/-! umbra/wide.turned -/
def p_wide_turned (N : Nat) (a0 : Int) (a1 : Int) : Option (Int × Int) :=
  Option.bind (p_Sub64 0 a1 0) fun r1 =>
  Option.bind (p_Sub64 0 a0 r1.2) fun r2 =>
  some (r2.1, r1.1)

theorem wide_turned_ok (N : Nat) (a0 : Int) (a1 : Int) (r : Int × Int) (h : p_wide_turned N a0 a1 = some r) : Fn Try.prog 173 [(eI .u64 a0), (eI .u64 a1)] (.tup [(eI .u64 r.1), (eI .u64 r.2)]) := by
  unfold p_wide_turned at h
  refine fn_of_awR (n := ⟨20, 0⟩) (rs := [.tmp 4, .tmp 5]) hT Try.func173 rfl rfl (by kernel_rfl) rfl ?_
  refine (show aw _ _ _ _ ⟨[(0, some (none, (eI .u64 a0))), (1, some (none, (eI .u64 a1)))], []⟩ from ?_)
  refine aw_sreg ?_
  refine awl_runD hT (fun _ => false) [] 2 [0, 1] ⟨[(0, some (none, (eI .u64 a0))), (1, some (none, (eI .u64 a1)))], []⟩ (by kernel_rfl) ?_
  refine awl_nil ?_
  refine aw_sreg ?_
  refine awl_runD hT (fun _ => false) [] 1 [0, 8] ⟨[(0, some (none, (eI .u64 a0))), (8, some (none, (eI .u64 a1)))], []⟩ (by kernel_rfl) ?_
  obtain ⟨r1, hr1, h⟩ := obind h
  refine awl_op (by kernel_rfl) (owp_nat (xs := [.int .u64 0, .int .u64 a1, .int .u64 0]) (y := (.tuple #[.int .u64 r1.1, .int .u64 r1.2])) (ret := (.tup [(eI .u64 r1.1), (eI .u64 r1.2)])) rfl rfl (by kernel_rfl) (by kernel_rfl) (n_Sub64 hr1) (fun _ => rv_tup2)) ?_
  refine awl_runD hT (fun _ => false) [] 5 [0, 1, 6] ⟨[(0, some (none, (eI .u64 a0))), (1, some (none, (eI .u64 r1.1))), (6, some (none, (eI .u64 r1.2)))], []⟩ (by kernel_rfl) ?_
  refine awl_nil ?_
  refine aw_sreg ?_
  refine awl_runD hT (fun _ => false) [] 2 [1, 13, 14] ⟨[(1, some (none, (eI .u64 r1.1))), (13, some (none, (eI .u64 a0))), (14, some (none, (eI .u64 r1.2)))], []⟩ (by kernel_rfl) ?_
  obtain ⟨r2, hr2, h⟩ := obind h
  refine awl_op (by kernel_rfl) (owp_nat (xs := [.int .u64 0, .int .u64 a0, .int .u64 r1.2]) (y := (.tuple #[.int .u64 r2.1, .int .u64 r2.2])) (ret := (.tup [(eI .u64 r2.1), (eI .u64 r2.2)])) rfl rfl (by kernel_rfl) (by kernel_rfl) (n_Sub64 hr2) (fun _ => rv_tup2)) ?_
  refine awl_runD hT (fun _ => false) [] 4 [0, 1] ⟨[(0, some (none, (eI .u64 r2.1))), (1, some (none, (eI .u64 r1.1)))], []⟩ (by kernel_rfl) ?_
  refine awl_nil ?_
  refine aw_sreg ?_
  refine awl_runD hT (fun _ => false) [] 4 [4, 5] ⟨[(4, some (none, (eI .u64 r2.1))), (5, some (none, (eI .u64 r1.1)))], []⟩ (by kernel_rfl) ?_
  refine awl_nil ?_
  refine aw_ret ?_
  obtain rfl := Option.some.inj h
  exact ⟨Or.inl rfl, [(eI .u64 r2.1), (eI .u64 r1.1)], by kernel_rfl, ⟨_, rfl, (pubL_cons (pub_v _) (pubL_cons (pub_v _) pubL_nil))⟩⟩

theorem wide_turned_ok_c : callable Try.prog 173 := ⟨_, Try.func173, by decide, rfl⟩

/-! umbra/wide.signed -/
def p_wide_signed (N : Nat) (a0 : Int) (a1 : Int) (a2 : Bool) : Option (S_api_Wide × Bool) :=
  Option.bind (cond a2 (
    Option.bind (p_wide_turned N a0 a1) fun r2 =>
    some ((r2.1, r2.2))) (
    some ((a0, a1)))) fun p1_1 =>
  letO (decide ((I64 p1_1.1) < 0)) fun x3 =>
  letO ((bor .u64 p1_1.1 p1_1.2) == 0) fun x4 =>
  letO (cond (x3 == a2) true x4) fun x5 =>
  some (S_api_Wide.mk (I64 p1_1.1) p1_1.2, x5)

theorem wide_signed_ok (N : Nat) (a0 : Int) (a1 : Int) (a2 : Bool) (r : S_api_Wide × Bool) (h : p_wide_signed N a0 a1 a2 = some r) : Fn Try.prog 172 [(eI .u64 a0), (eI .u64 a1), (eB a2)] (.tup [(S_api_Wide.enc r.1), (eB r.2)]) := by
  unfold p_wide_signed at h
  refine fn_of_awR (n := ⟨32, 0⟩) (rs := [.cell 6 192, .tmp 7]) hT Try.func172 rfl rfl (by kernel_rfl) rfl ?_
  refine (show aw _ _ _ _ ⟨[(0, some (none, (eI .u64 a0))), (1, some (none, (eI .u64 a1))), (2, some (none, (eB a2)))], []⟩ from ?_)
  refine aw_sreg ?_
  refine awl_runD hT (fun _ => false) [] 2 [0, 1, 2, 6] ⟨[(0, some (none, (eI .u64 a0))), (1, some (none, (eI .u64 a1))), (2, some (none, (eB a2))), (6, some (none, (.ref 0 [] 0)))], [.var (.st 2 [(eI .i64 0), (eI .u64 0)])]⟩ (by kernel_rfl) ?_
  refine awl_nil ?_
  obtain ⟨p1_1, h, gp1_1⟩ := obind h
  refine aw_join (fun s => s = ⟨[(0, some (none, (eI .u64 p1_1.1))), (1, some (none, (eI .u64 p1_1.2))), (2, some (none, (eB a2))), (6, some (none, (.ref 0 [] 0)))], [.var (.st 2 [(eI .i64 0), (eI .u64 0)])]⟩) ?_ ?_
  · refine aw_sreg ?_
    refine awl_runD hT (fun _ => false) [] 1 [0, 1, 2, 6, 9] ⟨[(0, some (none, (eI .u64 a0))), (1, some (none, (eI .u64 a1))), (2, some (none, (eB a2))), (6, some (none, (.ref 0 [] 0))), (9, some (none, (eB a2)))], [.var (.st 2 [(eI .i64 0), (eI .u64 0)])]⟩ (by kernel_rfl) ?_
    refine awl_nil ?_
    refine aw_cond (b := a2) (by kernel_rfl) (fun hc => ?_) (fun hc => ?_)
    · have h := cond_t hc h
      refine aw_region ?_
      refine awl_runD hT (fun _ => false) [] 2 [2, 6, 11, 12] ⟨[(2, some (none, (eB a2))), (6, some (none, (.ref 0 [] 0))), (11, some (none, (eI .u64 a0))), (12, some (none, (eI .u64 a1)))], [.var (.st 2 [(eI .i64 0), (eI .u64 0)])]⟩ (by kernel_rfl) ?_
      obtain ⟨r2, hr2, h⟩ := obind h
      refine awl_op (by kernel_rfl) (owp_call (avs := [(eI .u64 a0), (eI .u64 a1)]) (pavs := [(eI .u64 a0), (eI .u64 a1)]) (ret := (.tup [(eI .u64 r2.1), (eI .u64 r2.2)])) rfl rfl (by kernel_rfl) (by kernel_rfl) wide_turned_ok_c (pubL_cons (pub_v _) (pubL_cons (pub_v _) pubL_nil)) (wide_turned_ok N a0 a1 r2 hr2) ⟨_, rfl, (pubL_cons (pub_v _) (pubL_cons (pub_v _) pubL_nil))⟩) ?_
      refine awl_runD hT (fun _ => false) [] 5 [0, 1, 2, 6] ⟨[(0, some (none, (eI .u64 r2.1))), (1, some (none, (eI .u64 r2.2))), (2, some (none, (eB a2))), (6, some (none, (.ref 0 [] 0)))], [.var (.st 2 [(eI .i64 0), (eI .u64 0)])]⟩ (by kernel_rfl) ?_
      refine awl_nil (tn_n ?_)
      obtain rfl := Option.some.inj h
      exact rfl
    · have h := cond_f hc h
      refine aw_conv (env' := [(0, some (none, (eI .u64 a0))), (1, some (none, (eI .u64 a1))), (2, some (none, (eB a2))), (6, some (none, (.ref 0 [] 0)))]) (H' := [.var (.st 2 [(eI .i64 0), (eI .u64 0)])]) (by kernel_rfl) ⟨.inr ⟨_, _, rfl, rfl, PubA.t (pub_st (pubL_cons (pub_v _) (pubL_cons (pub_v _) pubL_nil)))⟩, trivial⟩ (envT_cons (x := (eI .u64 a0)) (by kernel_rfl) (PubA.t (pub_v _)) rfl rfl (envT_cons (x := (eI .u64 a1)) (by kernel_rfl) (PubA.t (pub_v _)) rfl rfl (envT_cons (x := (eB a2)) (by kernel_rfl) (PubA.t (pub_v _)) rfl rfl (envT_cons (x := (.ref 0 [] 0)) (by kernel_rfl) (pubT_ref (by kernel_rfl)) rfl rfl envT_nil)))) ?_
      refine aw_skip (tn_n ?_)
      obtain rfl := Option.some.inj h
      exact rfl
  · rintro s rfl
    have h := gp1_1
    refine aw_sreg ?_
    refine awl_runD hT (fun _ => false) [] 6 [0, 1, 2, 6, 8] ⟨[(0, some (none, (eI .u64 p1_1.1))), (1, some (none, (eI .u64 p1_1.2))), (2, some (none, (eB a2))), (6, some (none, (.ref 0 [] 0))), (8, some (none, (.ref 1 [] 0)))], [.var (.st 2 [(eI .i64 0), (eI .u64 0)]), .var (.st 2 [(eI .i64 (I64 p1_1.1)), (eI .u64 p1_1.2)])]⟩ (by kernel_rfl) ?_
    refine awl_nil ?_
    refine aw_sreg ?_
    obtain ⟨x3, hx3, h⟩ := letO_ex h
    obtain ⟨x4, hx4, h⟩ := letO_ex h
    obtain ⟨x5, hx5, h⟩ := letO_ex h
    refine awl_runD hT (fun _ => false) [] 14 [6, 7] ⟨[(6, some (none, (.ref 0 [] 0))), (7, some (none, (eB x5)))], [.var (.st 2 [(eI .i64 (I64 p1_1.1)), (eI .u64 p1_1.2)]), .var (.st 2 [(eI .i64 (I64 p1_1.1)), (eI .u64 p1_1.2)])]⟩ (by subst hx5 hx4 hx3; kernel_rfl) ?_
    refine awl_nil ?_
    refine aw_ret ?_
    obtain rfl := Option.some.inj h
    exact ⟨Or.inl rfl, [(.st 2 [(eI .i64 (I64 p1_1.1)), (eI .u64 p1_1.2)]), (eB x5)], by kernel_rfl, ⟨_, rfl, (pubL_cons (pub_st (pubL_cons (pub_v _) (pubL_cons (pub_v _) pubL_nil))) (pubL_cons (pub_v _) pubL_nil))⟩⟩

theorem wide_signed_ok_c : callable Try.prog 172 := ⟨_, Try.func172, by decide, rfl⟩

/-! umbra/wide.Mul -/
def p_wide_Mul (N : Nat) (a0 : Int) (a1 : Int) : Option (S_api_Wide) :=
  Option.bind (p_wide_size N a0) fun r1 =>
  Option.bind (p_wide_size N a1) fun r2 =>
  Option.bind (p_math_bits_Mul64 N r1.1 r2.1) fun r3 =>
  Option.bind (p_wide_signed N r3.1 r3.2 (!(r1.2 == r2.2))) fun r4 =>
  some r4.1

theorem wide_Mul_ok (N : Nat) (a0 : Int) (a1 : Int) (r : S_api_Wide) (h : p_wide_Mul N a0 a1 = some r) : Fn Try.prog 141 [(eI .i64 a0), (eI .i64 a1)] (S_api_Wide.enc r) := by
  unfold p_wide_Mul at h
  refine fn_of_awR (n := ⟨39, 0⟩) (rs := [.cell 4 192]) hT Try.func141 rfl rfl (by kernel_rfl) rfl ?_
  refine (show aw _ _ _ _ ⟨[(0, some (none, (eI .i64 a0))), (1, some (none, (eI .i64 a1)))], []⟩ from ?_)
  refine aw_sreg ?_
  refine awl_runD hT (fun _ => false) [] 1 [0, 1, 4] ⟨[(0, some (none, (eI .i64 a0))), (1, some (none, (eI .i64 a1))), (4, some (none, (.ref 0 [] 0)))], [.var (.st 2 [(eI .i64 0), (eI .u64 0)])]⟩ (by kernel_rfl) ?_
  refine awl_nil ?_
  refine aw_sreg ?_
  refine awl_runD hT (fun _ => false) [] 1 [1, 4, 14] ⟨[(1, some (none, (eI .i64 a1))), (4, some (none, (.ref 0 [] 0))), (14, some (none, (eI .i64 a0)))], [.var (.st 2 [(eI .i64 0), (eI .u64 0)])]⟩ (by kernel_rfl) ?_
  obtain ⟨r1, hr1, h⟩ := obind h
  refine awl_op (by kernel_rfl) (owp_call (avs := [(eI .i64 a0)]) (pavs := [(eI .i64 a0)]) (ret := (.tup [(eI .u64 r1.1), (eB r1.2)])) rfl rfl (by kernel_rfl) (by kernel_rfl) wide_size_ok_c (pubL_cons (pub_v _) pubL_nil) (wide_size_ok N a0 r1 hr1) ⟨_, rfl, (pubL_cons (pub_v _) (pubL_cons (pub_v _) pubL_nil))⟩) ?_
  refine awl_runD hT (fun _ => false) [] 5 [1, 4, 5, 6] ⟨[(1, some (none, (eI .i64 a1))), (4, some (none, (.ref 0 [] 0))), (5, some (none, (eI .u64 r1.1))), (6, some (none, (eB r1.2)))], [.var (.st 2 [(eI .i64 0), (eI .u64 0)])]⟩ (by kernel_rfl) ?_
  refine awl_nil ?_
  refine aw_sreg ?_
  refine awl_runD hT (fun _ => false) [] 1 [4, 5, 6, 19] ⟨[(4, some (none, (.ref 0 [] 0))), (5, some (none, (eI .u64 r1.1))), (6, some (none, (eB r1.2))), (19, some (none, (eI .i64 a1)))], [.var (.st 2 [(eI .i64 0), (eI .u64 0)])]⟩ (by kernel_rfl) ?_
  obtain ⟨r2, hr2, h⟩ := obind h
  refine awl_op (by kernel_rfl) (owp_call (avs := [(eI .i64 a1)]) (pavs := [(eI .i64 a1)]) (ret := (.tup [(eI .u64 r2.1), (eB r2.2)])) rfl rfl (by kernel_rfl) (by kernel_rfl) wide_size_ok_c (pubL_cons (pub_v _) pubL_nil) (wide_size_ok N a1 r2 hr2) ⟨_, rfl, (pubL_cons (pub_v _) (pubL_cons (pub_v _) pubL_nil))⟩) ?_
  refine awl_runD hT (fun _ => false) [] 5 [4, 5, 6, 7, 8] ⟨[(4, some (none, (.ref 0 [] 0))), (5, some (none, (eI .u64 r1.1))), (6, some (none, (eB r1.2))), (7, some (none, (eI .u64 r2.1))), (8, some (none, (eB r2.2)))], [.var (.st 2 [(eI .i64 0), (eI .u64 0)])]⟩ (by kernel_rfl) ?_
  refine awl_nil ?_
  refine aw_sreg ?_
  refine awl_runD hT (fun _ => false) [] 2 [4, 6, 8, 24, 25] ⟨[(4, some (none, (.ref 0 [] 0))), (6, some (none, (eB r1.2))), (8, some (none, (eB r2.2))), (24, some (none, (eI .u64 r1.1))), (25, some (none, (eI .u64 r2.1)))], [.var (.st 2 [(eI .i64 0), (eI .u64 0)])]⟩ (by kernel_rfl) ?_
  obtain ⟨r3, hr3, h⟩ := obind h
  refine awl_op (by kernel_rfl) (owp_call (avs := [(eI .u64 r1.1), (eI .u64 r2.1)]) (pavs := [(eI .u64 r1.1), (eI .u64 r2.1)]) (ret := (.tup [(eI .u64 r3.1), (eI .u64 r3.2)])) rfl rfl (by kernel_rfl) (by kernel_rfl) math_bits_Mul64_ok_c (pubL_cons (pub_v _) (pubL_cons (pub_v _) pubL_nil)) (math_bits_Mul64_ok N r1.1 r2.1 r3 hr3) ⟨_, rfl, (pubL_cons (pub_v _) (pubL_cons (pub_v _) pubL_nil))⟩) ?_
  refine awl_runD hT (fun _ => false) [] 5 [4, 6, 8, 9, 10] ⟨[(4, some (none, (.ref 0 [] 0))), (6, some (none, (eB r1.2))), (8, some (none, (eB r2.2))), (9, some (none, (eI .u64 r3.1))), (10, some (none, (eI .u64 r3.2)))], [.var (.st 2 [(eI .i64 0), (eI .u64 0)])]⟩ (by kernel_rfl) ?_
  refine awl_nil ?_
  refine aw_sreg ?_
  refine awl_runD hT (fun _ => false) [] 5 [4, 30, 31, 34] ⟨[(4, some (none, (.ref 0 [] 0))), (30, some (none, (eI .u64 r3.1))), (31, some (none, (eI .u64 r3.2))), (34, some (none, (eB (!(r1.2 == r2.2)))))], [.var (.st 2 [(eI .i64 0), (eI .u64 0)])]⟩ (by kernel_rfl) ?_
  obtain ⟨r4, hr4, h⟩ := obind h
  refine awl_op (by kernel_rfl) (owp_call (avs := [(eI .u64 r3.1), (eI .u64 r3.2), (eB (!(r1.2 == r2.2)))]) (pavs := [(eI .u64 r3.1), (eI .u64 r3.2), (eB (!(r1.2 == r2.2)))]) (ret := (.tup [(S_api_Wide.enc r4.1), (eB r4.2)])) rfl rfl (by kernel_rfl) (by kernel_rfl) wide_signed_ok_c (pubL_cons (pub_v _) (pubL_cons (pub_v _) (pubL_cons (pub_v _) pubL_nil))) (wide_signed_ok N r3.1 r3.2 (!(r1.2 == r2.2)) r4 hr4) ⟨_, rfl, (pubL_cons (S_api_Wide.pub r4.1) (pubL_cons (pub_v _) pubL_nil))⟩) ?_
  refine awl_runD hT (fun _ => false) [] 6 [4, 11] ⟨[(4, some (none, (.ref 0 [] 0))), (11, some (none, (.ref 1 [] 0)))], [.var (.st 2 [(eI .i64 0), (eI .u64 0)]), .var (S_api_Wide.enc r4.1)]⟩ (by kernel_rfl) ?_
  refine awl_nil ?_
  refine aw_sreg ?_
  refine awl_runD hT (fun _ => false) [] 2 [4] ⟨[(4, some (none, (.ref 0 [] 0)))], [.var (S_api_Wide.enc r4.1), .var (S_api_Wide.enc r4.1)]⟩ (by kernel_rfl) ?_
  refine awl_nil ?_
  refine aw_ret ?_
  obtain rfl := Option.some.inj h
  exact ⟨Or.inl rfl, [(S_api_Wide.enc r4.1)], by kernel_rfl, (S_api_Wide.pub r4.1)⟩

theorem wide_Mul_ok_c : callable Try.prog 141 := ⟨_, Try.func141, by decide, rfl⟩

/-! math/bits.Len64 -/
def p_math_bits_Len64 (N : Nat) (a0 : Int) : Option (Int) :=
  Option.bind (letO (decide (a0 ≥ 4294967296)) fun x2 =>
  cond x2 (some ((shr .u64 a0 32, 32))) (some ((a0, 0)))) fun p1_1 =>
  Option.bind (letO (decide (p1_1.1 ≥ 65536)) fun x4 =>
  cond x4 (
    some ((shr .u64 p1_1.1 16, I64 (p1_1.2 + 16)))) (
    some ((p1_1.1, p1_1.2)))) fun p2_3 =>
  Option.bind (cond (decide (p2_3.1 ≥ 256)) (
    some ((shr .u64 p2_3.1 8, I64 (p2_3.2 + 8)))) (
    some ((p2_3.1, p2_3.2)))) fun p3_5 =>
  Option.bind (idx str_0.data.toList (U8 p3_5.1)) fun b6 =>
  letO (I64 ((UInt8.toNat b6 : Int))) fun x7 =>
  some (I64 (p3_5.2 + x7))

theorem math_bits_Len64_ok (N : Nat) (a0 : Int) (r : Int) (h : p_math_bits_Len64 N a0 = some r) : Fn Try.prog 198 [(eI .u64 a0)] (eI .i64 r) := by
  unfold p_math_bits_Len64 at h
  refine fn_of_awR (n := ⟨25, 0⟩) (rs := [.tmp 2]) hT Try.func198 rfl rfl (by kernel_rfl) rfl ?_
  refine (show aw _ _ _ _ ⟨[(0, some (none, (eI .u64 a0)))], []⟩ from ?_)
  refine aw_sreg ?_
  refine awl_runD hT (fun _ => false) [] 1 [0, 2] ⟨[(0, some (none, (eI .u64 a0))), (2, some (none, (eI .i64 0)))], []⟩ (by kernel_rfl) ?_
  refine awl_nil ?_
  obtain ⟨p1_1, h, gp1_1⟩ := obind h
  refine aw_join (fun s => s = ⟨[(0, some (none, (eI .u64 p1_1.1))), (2, some (none, (eI .i64 p1_1.2)))], []⟩) ?_ ?_
  · refine aw_sreg ?_
    obtain ⟨x2, hx2, h⟩ := letO_ex h
    refine awl_runD hT (fun _ => false) [] 2 [0, 2, 4] ⟨[(0, some (none, (eI .u64 a0))), (2, some (none, (eI .i64 0))), (4, some (none, (eB x2)))], []⟩ (by subst hx2; kernel_rfl) ?_
    refine awl_nil ?_
    refine aw_cond (b := x2) (by kernel_rfl) (fun hc => ?_) (fun hc => ?_)
    · have h := cond_t hc h
      refine aw_sreg ?_
      refine awl_runD hT (fun _ => false) [] 3 [0] ⟨[(0, some (none, (eI .u64 (shr .u64 a0 32))))], []⟩ (by kernel_rfl) ?_
      refine awl_nil ?_
      refine aw_region ?_
      refine awl_runD hT (fun _ => false) [] 1 [0, 2] ⟨[(0, some (none, (eI .u64 (shr .u64 a0 32)))), (2, some (none, (eI .i64 32)))], []⟩ (by kernel_rfl) ?_
      refine awl_nil (tn_n ?_)
      obtain rfl := Option.some.inj h
      exact rfl
    · have h := cond_f hc h
      refine aw_conv (env' := [(0, some (none, (eI .u64 a0))), (2, some (none, (eI .i64 0)))]) (H' := []) (by kernel_rfl) trivial (envT_cons (x := (eI .u64 a0)) (by kernel_rfl) (PubA.t (pub_v _)) rfl rfl (envT_cons (x := (eI .i64 0)) (by kernel_rfl) (PubA.t (pub_v _)) rfl rfl envT_nil)) ?_
      refine aw_skip (tn_n ?_)
      obtain rfl := Option.some.inj h
      exact rfl
  · rintro s rfl
    have h := gp1_1
    obtain ⟨p2_3, h, gp2_3⟩ := obind h
    refine aw_join (fun s => s = ⟨[(0, some (none, (eI .u64 p2_3.1))), (2, some (none, (eI .i64 p2_3.2)))], []⟩) ?_ ?_
    · refine aw_sreg ?_
      obtain ⟨x4, hx4, h⟩ := letO_ex h
      refine awl_runD hT (fun _ => false) [] 2 [0, 2, 8] ⟨[(0, some (none, (eI .u64 p1_1.1))), (2, some (none, (eI .i64 p1_1.2))), (8, some (none, (eB x4)))], []⟩ (by subst hx4; kernel_rfl) ?_
      refine awl_nil ?_
      refine aw_cond (b := x4) (by kernel_rfl) (fun hc => ?_) (fun hc => ?_)
      · have h := cond_t hc h
        refine aw_sreg ?_
        refine awl_runD hT (fun _ => false) [] 3 [0, 2] ⟨[(0, some (none, (eI .u64 (shr .u64 p1_1.1 16)))), (2, some (none, (eI .i64 p1_1.2)))], []⟩ (by kernel_rfl) ?_
        refine awl_nil ?_
        refine aw_region ?_
        refine awl_runD hT (fun _ => false) [] 3 [0, 2] ⟨[(0, some (none, (eI .u64 (shr .u64 p1_1.1 16)))), (2, some (none, (eI .i64 (I64 (p1_1.2 + 16)))))], []⟩ (by kernel_rfl) ?_
        refine awl_nil (tn_n ?_)
        obtain rfl := Option.some.inj h
        exact rfl
      · have h := cond_f hc h
        refine aw_conv (env' := [(0, some (none, (eI .u64 p1_1.1))), (2, some (none, (eI .i64 p1_1.2)))]) (H' := []) (by kernel_rfl) trivial (envT_cons (x := (eI .u64 p1_1.1)) (by kernel_rfl) (PubA.t (pub_v _)) rfl rfl (envT_cons (x := (eI .i64 p1_1.2)) (by kernel_rfl) (PubA.t (pub_v _)) rfl rfl envT_nil)) ?_
        refine aw_skip (tn_n ?_)
        obtain rfl := Option.some.inj h
        exact rfl
    · rintro s rfl
      have h := gp2_3
      obtain ⟨p3_5, h, gp3_5⟩ := obind h
      refine aw_join (fun s => s = ⟨[(0, some (none, (eI .u64 p3_5.1))), (2, some (none, (eI .i64 p3_5.2)))], []⟩) ?_ ?_
      · refine aw_sreg ?_
        refine awl_runD hT (fun _ => false) [] 2 [0, 2, 14] ⟨[(0, some (none, (eI .u64 p2_3.1))), (2, some (none, (eI .i64 p2_3.2))), (14, some (none, (eB (decide (p2_3.1 ≥ 256)))))], []⟩ (by kernel_rfl) ?_
        refine awl_nil ?_
        refine aw_cond (b := decide (p2_3.1 ≥ 256)) (by kernel_rfl) (fun hc => ?_) (fun hc => ?_)
        · have h := cond_t hc h
          refine aw_sreg ?_
          refine awl_runD hT (fun _ => false) [] 3 [0, 2] ⟨[(0, some (none, (eI .u64 (shr .u64 p2_3.1 8)))), (2, some (none, (eI .i64 p2_3.2)))], []⟩ (by kernel_rfl) ?_
          refine awl_nil ?_
          refine aw_region ?_
          refine awl_runD hT (fun _ => false) [] 3 [0, 2] ⟨[(0, some (none, (eI .u64 (shr .u64 p2_3.1 8)))), (2, some (none, (eI .i64 (I64 (p2_3.2 + 8)))))], []⟩ (by kernel_rfl) ?_
          refine awl_nil (tn_n ?_)
          obtain rfl := Option.some.inj h
          exact rfl
        · have h := cond_f hc h
          refine aw_conv (env' := [(0, some (none, (eI .u64 p2_3.1))), (2, some (none, (eI .i64 p2_3.2)))]) (H' := []) (by kernel_rfl) trivial (envT_cons (x := (eI .u64 p2_3.1)) (by kernel_rfl) (PubA.t (pub_v _)) rfl rfl (envT_cons (x := (eI .i64 p2_3.2)) (by kernel_rfl) (PubA.t (pub_v _)) rfl rfl envT_nil)) ?_
          refine aw_skip (tn_n ?_)
          obtain rfl := Option.some.inj h
          exact rfl
      · rintro s rfl
        have h := gp3_5
        refine aw_sreg ?_
        refine awl_runD hT (fun _ => false) [] 3 [19, 21] ⟨[(19, some (none, (eI .i64 p3_5.2))), (21, some (none, (eI .u8 (U8 p3_5.1))))], []⟩ (by kernel_rfl) ?_
        obtain ⟨b6, hb6, h⟩ := obind h
        refine awl_op (by kernel_rfl) (owp_index_str hT (kk := .u8) (s := str_0) (i := U8 p3_5.1) (b := b6) rfl rfl (by kernel_rfl) tt9 rfl (by kernel_rfl) (by kernel_rfl) (idx_0 hb6) (idx_get hb6)) ?_
        obtain ⟨x7, hx7, h⟩ := letO_ex h
        refine awl_runD hT (fun _ => false) [] 3 [2] ⟨[(2, some (none, (eI .i64 (I64 (p3_5.2 + x7)))))], []⟩ (by subst hx7; kernel_rfl) ?_
        refine awl_nil ?_
        refine aw_ret ?_
        obtain rfl := Option.some.inj h
        exact ⟨Or.inl rfl, [(eI .i64 (I64 (p3_5.2 + x7)))], by kernel_rfl, (pub_v _)⟩

theorem math_bits_Len64_ok_c : callable Try.prog 198 := ⟨_, Try.func198, by decide, rfl⟩

/-! math/bits.LeadingZeros64 -/
def p_math_bits_LeadingZeros64 (N : Nat) (a0 : Int) : Option (Int) :=
  Option.bind (p_math_bits_Len64 N a0) fun r1 =>
  some (I64 (64 - r1))

theorem math_bits_LeadingZeros64_ok (N : Nat) (a0 : Int) (r : Int) (h : p_math_bits_LeadingZeros64 N a0 = some r) : Fn Try.prog 175 [(eI .u64 a0)] (eI .i64 r) := by
  unfold p_math_bits_LeadingZeros64 at h
  refine fn_of_awR (n := ⟨6, 0⟩) (rs := [.tmp 2]) hT Try.func175 rfl rfl (by kernel_rfl) rfl ?_
  refine (show aw _ _ _ _ ⟨[(0, some (none, (eI .u64 a0)))], []⟩ from ?_)
  refine aw_sreg ?_
  refine awl_runD hT (fun _ => false) [] 1 [0] ⟨[(0, some (none, (eI .u64 a0)))], []⟩ (by kernel_rfl) ?_
  refine awl_nil ?_
  refine aw_sreg ?_
  refine awl_runD hT (fun _ => false) [] 1 [3] ⟨[(3, some (none, (eI .u64 a0)))], []⟩ (by kernel_rfl) ?_
  obtain ⟨r1, hr1, h⟩ := obind h
  refine awl_op (by kernel_rfl) (owp_call (avs := [(eI .u64 a0)]) (pavs := [(eI .u64 a0)]) (ret := (eI .i64 r1)) rfl rfl (by kernel_rfl) (by kernel_rfl) math_bits_Len64_ok_c (pubL_cons (pub_v _) pubL_nil) (math_bits_Len64_ok N a0 r1 hr1) (pub_v _)) ?_
  refine awl_runD hT (fun _ => false) [] 2 [2] ⟨[(2, some (none, (eI .i64 (I64 (64 - r1)))))], []⟩ (by kernel_rfl) ?_
  refine awl_nil ?_
  refine aw_ret ?_
  obtain rfl := Option.some.inj h
  exact ⟨Or.inl rfl, [(eI .i64 (I64 (64 - r1)))], by kernel_rfl, (pub_v _)⟩

theorem math_bits_LeadingZeros64_ok_c : callable Try.prog 175 := ⟨_, Try.func175, by decide, rfl⟩

/-! math/bits.Div64 -/
def p_math_bits_Div64_L1 (N : Nat) (x13 : Int) (x8 : Int) (x6 : Int) : Nat → Int → Int → Option (Int)
  | 0, _, _ => none
  | k + 1, s15_21, s16_22 =>
    letO (decide (s15_21 ≥ 4294967296)) fun x23 =>
    letO (U64 (4294967296 * s16_22)) fun x24 =>
    letO (U64 (x24 + (shr .u64 x13 32))) fun x25 =>
    letO (decide ((U64 (s15_21 * x8)) > x25)) fun x26 =>
    cond (cond x23 true x26) (
      letO (U64 (s16_22 + (shr .u64 x6 32))) fun x27 =>
      letO (decide (x27 ≥ 4294967296)) fun x28 =>
      cond x28 (
        some (U64 (s15_21 - 1))) (
        p_math_bits_Div64_L1 N x13 x8 x6 k (U64 (s15_21 - 1)) x27)) (
      some s15_21)

def p_math_bits_Div64_L2 (N : Nat) (x8 : Int) (x15 : Int) (x6 : Int) : Nat → Int → Int → Option (Int)
  | 0, _, _ => none
  | k + 1, s16_36, s18_37 =>
    letO (decide (s18_37 ≥ 4294967296)) fun x38 =>
    letO (U64 (4294967296 * s16_36)) fun x39 =>
    letO (decide ((U64 (s18_37 * x8)) > (U64 (x39 + x15)))) fun x40 =>
    cond (cond x38 true x40) (
      letO (U64 (s16_36 + (shr .u64 x6 32))) fun x41 =>
      letO (decide (x41 ≥ 4294967296)) fun x42 =>
      cond x42 (
        some (U64 (s18_37 - 1))) (
        p_math_bits_Div64_L2 N x8 x15 x6 k x41 (U64 (s18_37 - 1)))) (
      some s18_37)

def p_math_bits_Div64 (N : Nat) (a0 : Int) (a1 : Int) (a2 : Int) : Option (Int × Int) :=
  cond (a2 == 0) (
    none) (
    cond (decide (a2 ≤ a0)) (
      none) (
      cond (a0 == 0) (
        Option.bind (reqF (decide (a2 = 0))) fun _ =>
        letO (U64 (Int.tdiv a1 a2)) fun x1 =>
        Option.bind (reqF (decide (a2 = 0))) fun _ =>
        letO (Int.tmod a1 a2) fun x3 =>
        some (x1, x3)) (
        Option.bind (p_math_bits_LeadingZeros64 N a2) fun r5 =>
        Option.bind (reqF (decide (U64 r5 < 0))) fun _ =>
        letO (shl .u64 a2 (U64 r5)) fun x6 =>
        letO (band .u64 x6 4294967295) fun x8 =>
        Option.bind (reqF (decide (U64 r5 < 0))) fun _ =>
        letO (shl .u64 a0 (U64 r5)) fun x9 =>
        Option.bind (reqF (decide (U64 (64 - (U64 r5)) < 0))) fun _ =>
        letO (shr .u64 a1 (U64 (64 - (U64 r5)))) fun x11 =>
        Option.bind (reqF (decide (U64 r5 < 0))) fun _ =>
        letO (shl .u64 a1 (U64 r5)) fun x13 =>
        letO (band .u64 x13 4294967295) fun x15 =>
        Option.bind (reqF (decide (shr .u64 x6 32 = 0))) fun _ =>
        letO (U64 (Int.tdiv (bor .u64 x9 x11) (shr .u64 x6 32))) fun x16 =>
        letO (U64 (x16 * (shr .u64 x6 32))) fun x18 =>
        letO (U64 ((bor .u64 x9 x11) - x18)) fun x19 =>
        Option.bind (p_math_bits_Div64_L1 N x13 x8 x6 N x16 x19) fun p1_20 =>
        letO (U64 ((bor .u64 x9 x11) * 4294967296)) fun x29 =>
        letO (U64 (x29 + (shr .u64 x13 32))) fun x30 =>
        letO (U64 (x30 - (U64 (p1_20 * x6)))) fun x31 =>
        Option.bind (reqF (decide (shr .u64 x6 32 = 0))) fun _ =>
        letO (U64 (Int.tdiv x31 (shr .u64 x6 32))) fun x32 =>
        letO (U64 (x32 * (shr .u64 x6 32))) fun x34 =>
        Option.bind (p_math_bits_Div64_L2 N x8 x15 x6 N (U64 (x31 - x34)) x32) fun p2_35 =>
        letO (U64 (p1_20 * 4294967296)) fun x43 =>
        letO (U64 ((U64 (x31 * 4294967296)) + x15)) fun x44 =>
        letO (U64 (x44 - (U64 (p2_35 * x6)))) fun x45 =>
        Option.bind (reqF (decide (U64 r5 < 0))) fun _ =>
        letO (shr .u64 x45 (U64 r5)) fun x46 =>
        some (U64 (x43 + p2_35), x46))))

theorem math_bits_Div64_ok (N : Nat) (a0 : Int) (a1 : Int) (a2 : Int) (r : Int × Int) (h : p_math_bits_Div64 N a0 a1 a2 = some r) : Fn Try.prog 146 [(eI .u64 a0), (eI .u64 a1), (eI .u64 a2)] (.tup [(eI .u64 r.1), (eI .u64 r.2)]) := by
  unfold p_math_bits_Div64 at h
  refine fn_of_awR (n := ⟨135, 0⟩) (rs := [.tmp 6, .tmp 7]) hT Try.func146 rfl rfl (by kernel_rfl) rfl ?_
  refine (show aw _ _ _ _ ⟨[(0, some (none, (eI .u64 a0))), (1, some (none, (eI .u64 a1))), (2, some (none, (eI .u64 a2)))], []⟩ from ?_)
  refine aw_sreg ?_
  refine awl_runD hT (fun _ => false) [] 2 [0, 1, 2] ⟨[(0, some (none, (eI .u64 a0))), (1, some (none, (eI .u64 a1))), (2, some (none, (eI .u64 a2)))], []⟩ (by kernel_rfl) ?_
  refine awl_nil ?_
  refine aw_seq ?_
  refine aw_sreg ?_
  refine awl_runD hT (fun _ => false) [] 2 [0, 1, 2, 20] ⟨[(0, some (none, (eI .u64 a0))), (1, some (none, (eI .u64 a1))), (2, some (none, (eI .u64 a2))), (20, some (none, (eB (a2 == 0))))], []⟩ (by kernel_rfl) ?_
  refine awl_nil ?_
  refine aw_cond (b := a2 == 0) (by kernel_rfl) (fun hc => ?_) (fun hc => ?_)
  · have h := cond_t hc h
    cases h
  · have h := cond_f hc h
    refine aw_skip (tn_n ?_)
    refine aw_seq ?_
    refine aw_sreg ?_
    refine awl_runD hT (fun _ => false) [] 3 [0, 1, 2, 24] ⟨[(0, some (none, (eI .u64 a0))), (1, some (none, (eI .u64 a1))), (2, some (none, (eI .u64 a2))), (24, some (none, (eB (decide (a2 ≤ a0)))))], []⟩ (by kernel_rfl) ?_
    refine awl_nil ?_
    refine aw_cond (b := decide (a2 ≤ a0)) (by kernel_rfl) (fun hc => ?_) (fun hc => ?_)
    · have h := cond_t hc h
      cases h
    · have h := cond_f hc h
      refine aw_skip (tn_n ?_)
      refine aw_seq ?_
      refine aw_sreg ?_
      refine awl_runD hT (fun _ => false) [] 2 [0, 1, 2, 27] ⟨[(0, some (none, (eI .u64 a0))), (1, some (none, (eI .u64 a1))), (2, some (none, (eI .u64 a2))), (27, some (none, (eB (a0 == 0))))], []⟩ (by kernel_rfl) ?_
      refine awl_nil ?_
      refine aw_cond (b := a0 == 0) (by kernel_rfl) (fun hc => ?_) (fun hc => ?_)
      · have h := cond_t hc h
        obtain ⟨_, q2, h⟩ := obind h
        obtain ⟨x1, hx1, h⟩ := letO_ex h
        obtain ⟨_, q4, h⟩ := obind h
        obtain ⟨x3, hx3, h⟩ := letO_ex h
        refine aw_sdraw (by rfl) [⟨[1], 28, (none, (eI .u64 a1))⟩, ⟨[2], 29, (none, (eI .u64 a2))⟩, ⟨[28, 29], 30, (none, (eI .u64 x1))⟩, ⟨[1], 31, (none, (eI .u64 a1))⟩, ⟨[2], 32, (none, (eI .u64 a2))⟩, ⟨[31, 32], 33, (none, (eI .u64 x3))⟩, ⟨[30], 6, (none, (eI .u64 x1))⟩] [1, 2] [6, 33] (none) (B := [(1, some (none, (eI .u64 a1))), (2, some (none, (eI .u64 a2)))]) (st' := ⟨[(6, some (none, (eI .u64 x1))), (33, some (none, (eI .u64 x3)))], []⟩) (by kernel_rfl) (by kernel_rfl) (stab_all ⟨stab_ev hT (need := [(1, some (none, (eI .u64 a1)))]) rfl rfl (by kernel_rfl) (by kernel_rfl) rfl rfl (by kernel_rfl) (by kernel_rfl), stab_ev hT (need := [(2, some (none, (eI .u64 a2)))]) rfl rfl (by kernel_rfl) (by kernel_rfl) rfl rfl (by kernel_rfl) (by kernel_rfl), stab_owp (need := [(28, some (none, (eI .u64 a1))), (29, some (none, (eI .u64 a2)))]) rfl rfl (by kernel_rfl) (by kernel_rfl) rfl (fun env H' hs => (owp_bin hT (vx := .int .u64 a1) (vy := .int .u64 a2) (z := .int .u64 x1) rfl rfl (by kernel_rfl) (sub_opd hs (by kernel_rfl)) (sub_opd hs (by kernel_rfl)) (by subst hx1; exact evBin_quo (reqF_f q2)))), stab_ev hT (need := [(1, some (none, (eI .u64 a1)))]) rfl rfl (by kernel_rfl) (by kernel_rfl) rfl rfl (by kernel_rfl) (by kernel_rfl), stab_ev hT (need := [(2, some (none, (eI .u64 a2)))]) rfl rfl (by kernel_rfl) (by kernel_rfl) rfl rfl (by kernel_rfl) (by kernel_rfl), stab_owp (need := [(31, some (none, (eI .u64 a1))), (32, some (none, (eI .u64 a2)))]) rfl rfl (by kernel_rfl) (by kernel_rfl) rfl (fun env H' hs => (owp_bin hT (vx := .int .u64 a1) (vy := .int .u64 a2) (z := .int .u64 x3) rfl rfl (by kernel_rfl) (sub_opd hs (by kernel_rfl)) (sub_opd hs (by kernel_rfl)) (by subst hx3; exact evBin_rem (reqF_f q4)))), stab_ev hT (need := [(30, some (none, (eI .u64 x1)))]) rfl rfl (by kernel_rfl) (by kernel_rfl) rfl rfl (by kernel_rfl) (by kernel_rfl), trivial⟩) (by kernel_rfl) ?_
        refine awl_runD hT (fun _ => false) [] 1 [6, 7] ⟨[(6, some (none, (eI .u64 x1))), (7, some (none, (eI .u64 x3)))], []⟩ (by kernel_rfl) ?_
        refine awl_nil ?_
        refine aw_ret (tn_r ?_)
        obtain rfl := Option.some.inj h
        exact ⟨Or.inl rfl, [(eI .u64 x1), (eI .u64 x3)], by kernel_rfl, ⟨_, rfl, (pubL_cons (pub_v _) (pubL_cons (pub_v _) pubL_nil))⟩⟩
      · have h := cond_f hc h
        refine aw_skip (tn_n ?_)
        refine aw_sreg ?_
        refine awl_runD hT (fun _ => false) [] 1 [0, 1, 2, 34] ⟨[(0, some (none, (eI .u64 a0))), (1, some (none, (eI .u64 a1))), (2, some (none, (eI .u64 a2))), (34, some (none, (eI .u64 a2)))], []⟩ (by kernel_rfl) ?_
        obtain ⟨r5, hr5, h⟩ := obind h
        refine awl_op (by kernel_rfl) (owp_call (avs := [(eI .u64 a2)]) (pavs := [(eI .u64 a2)]) (ret := (eI .i64 r5)) rfl rfl (by kernel_rfl) (by kernel_rfl) math_bits_LeadingZeros64_ok_c (pubL_cons (pub_v _) pubL_nil) (math_bits_LeadingZeros64_ok N a2 r5 hr5) (pub_v _)) ?_
        refine awl_runD hT (fun _ => false) [] 2 [0, 1, 2, 8] ⟨[(0, some (none, (eI .u64 a0))), (1, some (none, (eI .u64 a1))), (2, some (none, (eI .u64 a2))), (8, some (none, (eI .u64 (U64 r5))))], []⟩ (by kernel_rfl) ?_
        refine awl_nil ?_
        refine aw_sreg ?_
        refine awl_runD hT (fun _ => false) [] 2 [0, 1, 8, 37, 38] ⟨[(0, some (none, (eI .u64 a0))), (1, some (none, (eI .u64 a1))), (8, some (none, (eI .u64 (U64 r5)))), (37, some (none, (eI .u64 a2))), (38, some (none, (eI .u64 (U64 r5))))], []⟩ (by kernel_rfl) ?_
        obtain ⟨_, q7, h⟩ := obind h
        obtain ⟨x6, hx6, h⟩ := letO_ex h
        refine awl_op (by kernel_rfl) (owp_bin hT (vx := .int .u64 a2) (vy := .int .u64 (U64 r5)) (z := .int .u64 x6) rfl rfl (by kernel_rfl) (by kernel_rfl) (by kernel_rfl) (by subst hx6; exact evBin_shl (reqF_f q7))) ?_
        refine awl_runD hT (fun _ => false) [] 1 [0, 1, 2, 8] ⟨[(0, some (none, (eI .u64 a0))), (1, some (none, (eI .u64 a1))), (2, some (none, (eI .u64 x6))), (8, some (none, (eI .u64 (U64 r5))))], []⟩ (by kernel_rfl) ?_
        refine awl_nil ?_
        refine aw_sreg ?_
        refine awl_runD hT (fun _ => false) [] 3 [0, 1, 2, 8, 9] ⟨[(0, some (none, (eI .u64 a0))), (1, some (none, (eI .u64 a1))), (2, some (none, (eI .u64 x6))), (8, some (none, (eI .u64 (U64 r5)))), (9, some (none, (eI .u64 (shr .u64 x6 32))))], []⟩ (by kernel_rfl) ?_
        refine awl_nil ?_
        refine aw_sreg ?_
        obtain ⟨x8, hx8, h⟩ := letO_ex h
        refine awl_runD hT (fun _ => false) [] 3 [0, 1, 2, 8, 9, 10] ⟨[(0, some (none, (eI .u64 a0))), (1, some (none, (eI .u64 a1))), (2, some (none, (eI .u64 x6))), (8, some (none, (eI .u64 (U64 r5)))), (9, some (none, (eI .u64 (shr .u64 x6 32)))), (10, some (none, (eI .u64 x8)))], []⟩ (by subst hx8; kernel_rfl) ?_
        refine awl_nil ?_
        refine aw_sreg ?_
        refine awl_runD hT (fun _ => false) [] 2 [1, 2, 8, 9, 10, 44, 45] ⟨[(1, some (none, (eI .u64 a1))), (2, some (none, (eI .u64 x6))), (8, some (none, (eI .u64 (U64 r5)))), (9, some (none, (eI .u64 (shr .u64 x6 32)))), (10, some (none, (eI .u64 x8))), (44, some (none, (eI .u64 a0))), (45, some (none, (eI .u64 (U64 r5))))], []⟩ (by kernel_rfl) ?_
        obtain ⟨_, q10, h⟩ := obind h
        obtain ⟨x9, hx9, h⟩ := letO_ex h
        refine awl_op (by kernel_rfl) (owp_bin hT (vx := .int .u64 a0) (vy := .int .u64 (U64 r5)) (z := .int .u64 x9) rfl rfl (by kernel_rfl) (by kernel_rfl) (by kernel_rfl) (by subst hx9; exact evBin_shl (reqF_f q10))) ?_
        refine awl_runD hT (fun _ => false) [] 3 [1, 2, 8, 9, 10, 46, 47, 49] ⟨[(1, some (none, (eI .u64 a1))), (2, some (none, (eI .u64 x6))), (8, some (none, (eI .u64 (U64 r5)))), (9, some (none, (eI .u64 (shr .u64 x6 32)))), (10, some (none, (eI .u64 x8))), (46, some (none, (eI .u64 x9))), (47, some (none, (eI .u64 a1))), (49, some (none, (eI .u64 (U64 (64 - (U64 r5))))))], []⟩ (by kernel_rfl) ?_
        obtain ⟨_, q12, h⟩ := obind h
        obtain ⟨x11, hx11, h⟩ := letO_ex h
        refine awl_op (by kernel_rfl) (owp_bin hT (vx := .int .u64 a1) (vy := .int .u64 (U64 (64 - (U64 r5)))) (z := .int .u64 x11) rfl rfl (by kernel_rfl) (by kernel_rfl) (by kernel_rfl) (by subst hx11; exact evBin_shr (reqF_f q12))) ?_
        refine awl_runD hT (fun _ => false) [] 2 [1, 2, 8, 9, 10, 11] ⟨[(1, some (none, (eI .u64 a1))), (2, some (none, (eI .u64 x6))), (8, some (none, (eI .u64 (U64 r5)))), (9, some (none, (eI .u64 (shr .u64 x6 32)))), (10, some (none, (eI .u64 x8))), (11, some (none, (eI .u64 (bor .u64 x9 x11))))], []⟩ (by kernel_rfl) ?_
        refine awl_nil ?_
        refine aw_sreg ?_
        refine awl_runD hT (fun _ => false) [] 2 [2, 8, 9, 10, 11, 52, 53] ⟨[(2, some (none, (eI .u64 x6))), (8, some (none, (eI .u64 (U64 r5)))), (9, some (none, (eI .u64 (shr .u64 x6 32)))), (10, some (none, (eI .u64 x8))), (11, some (none, (eI .u64 (bor .u64 x9 x11)))), (52, some (none, (eI .u64 a1))), (53, some (none, (eI .u64 (U64 r5))))], []⟩ (by kernel_rfl) ?_
        obtain ⟨_, q14, h⟩ := obind h
        obtain ⟨x13, hx13, h⟩ := letO_ex h
        refine awl_op (by kernel_rfl) (owp_bin hT (vx := .int .u64 a1) (vy := .int .u64 (U64 r5)) (z := .int .u64 x13) rfl rfl (by kernel_rfl) (by kernel_rfl) (by kernel_rfl) (by subst hx13; exact evBin_shl (reqF_f q14))) ?_
        refine awl_runD hT (fun _ => false) [] 1 [2, 8, 9, 10, 11, 12] ⟨[(2, some (none, (eI .u64 x6))), (8, some (none, (eI .u64 (U64 r5)))), (9, some (none, (eI .u64 (shr .u64 x6 32)))), (10, some (none, (eI .u64 x8))), (11, some (none, (eI .u64 (bor .u64 x9 x11)))), (12, some (none, (eI .u64 x13)))], []⟩ (by kernel_rfl) ?_
        refine awl_nil ?_
        refine aw_sreg ?_
        refine awl_runD hT (fun _ => false) [] 3 [2, 8, 9, 10, 11, 12, 13] ⟨[(2, some (none, (eI .u64 x6))), (8, some (none, (eI .u64 (U64 r5)))), (9, some (none, (eI .u64 (shr .u64 x6 32)))), (10, some (none, (eI .u64 x8))), (11, some (none, (eI .u64 (bor .u64 x9 x11)))), (12, some (none, (eI .u64 x13))), (13, some (none, (eI .u64 (shr .u64 x13 32))))], []⟩ (by kernel_rfl) ?_
        refine awl_nil ?_
        refine aw_sreg ?_
        obtain ⟨x15, hx15, h⟩ := letO_ex h
        refine awl_runD hT (fun _ => false) [] 3 [2, 8, 9, 10, 11, 13, 14] ⟨[(2, some (none, (eI .u64 x6))), (8, some (none, (eI .u64 (U64 r5)))), (9, some (none, (eI .u64 (shr .u64 x6 32)))), (10, some (none, (eI .u64 x8))), (11, some (none, (eI .u64 (bor .u64 x9 x11)))), (13, some (none, (eI .u64 (shr .u64 x13 32)))), (14, some (none, (eI .u64 x15)))], []⟩ (by subst hx15; kernel_rfl) ?_
        refine awl_nil ?_
        refine aw_sreg ?_
        refine awl_runD hT (fun _ => false) [] 2 [2, 8, 9, 10, 11, 13, 14, 59, 60] ⟨[(2, some (none, (eI .u64 x6))), (8, some (none, (eI .u64 (U64 r5)))), (9, some (none, (eI .u64 (shr .u64 x6 32)))), (10, some (none, (eI .u64 x8))), (11, some (none, (eI .u64 (bor .u64 x9 x11)))), (13, some (none, (eI .u64 (shr .u64 x13 32)))), (14, some (none, (eI .u64 x15))), (59, some (none, (eI .u64 (bor .u64 x9 x11)))), (60, some (none, (eI .u64 (shr .u64 x6 32))))], []⟩ (by kernel_rfl) ?_
        obtain ⟨_, q17, h⟩ := obind h
        obtain ⟨x16, hx16, h⟩ := letO_ex h
        refine awl_op (by kernel_rfl) (owp_bin hT (vx := .int .u64 (bor .u64 x9 x11)) (vy := .int .u64 (shr .u64 x6 32)) (z := .int .u64 x16) rfl rfl (by kernel_rfl) (by kernel_rfl) (by kernel_rfl) (by subst hx16; exact evBin_quo (reqF_f q17))) ?_
        refine awl_runD hT (fun _ => false) [] 1 [2, 8, 9, 10, 11, 13, 14, 15] ⟨[(2, some (none, (eI .u64 x6))), (8, some (none, (eI .u64 (U64 r5)))), (9, some (none, (eI .u64 (shr .u64 x6 32)))), (10, some (none, (eI .u64 x8))), (11, some (none, (eI .u64 (bor .u64 x9 x11)))), (13, some (none, (eI .u64 (shr .u64 x13 32)))), (14, some (none, (eI .u64 x15))), (15, some (none, (eI .u64 x16)))], []⟩ (by kernel_rfl) ?_
        refine awl_nil ?_
        refine aw_sreg ?_
        obtain ⟨x18, hx18, h⟩ := letO_ex h
        obtain ⟨x19, hx19, h⟩ := letO_ex h
        refine awl_runD hT (fun _ => false) [] 6 [2, 8, 9, 10, 11, 13, 14, 15, 16] ⟨[(2, some (none, (eI .u64 x6))), (8, some (none, (eI .u64 (U64 r5)))), (9, some (none, (eI .u64 (shr .u64 x6 32)))), (10, some (none, (eI .u64 x8))), (11, some (none, (eI .u64 (bor .u64 x9 x11)))), (13, some (none, (eI .u64 (shr .u64 x13 32)))), (14, some (none, (eI .u64 x15))), (15, some (none, (eI .u64 x16))), (16, some (none, (eI .u64 x19)))], []⟩ (by subst hx19 hx18; kernel_rfl) ?_
        refine awl_nil ?_
        obtain ⟨p1_20, h, gp1_20⟩ := obind h
        refine aw_join (fun s => s = ⟨[(2, some (none, (eI .u64 x6))), (8, some (none, (eI .u64 (U64 r5)))), (9, some (none, (eI .u64 (shr .u64 x6 32)))), (10, some (none, (eI .u64 x8))), (11, some (none, (eI .u64 (bor .u64 x9 x11)))), (13, some (none, (eI .u64 (shr .u64 x13 32)))), (14, some (none, (eI .u64 x15))), (15, some (none, (eI .u64 p1_20)))], []⟩) ?_ ?_
        · refine aw_block ?_
          refine aw_loop (fun k s => ∃ s15_21 s16_22, p_math_bits_Div64_L1 N x13 x8 x6 k s15_21 s16_22 = some p1_20 ∧ s = ⟨[(2, some (none, (eI .u64 x6))), (8, some (none, (eI .u64 (U64 r5)))), (9, some (none, (eI .u64 (shr .u64 x6 32)))), (10, some (none, (eI .u64 x8))), (11, some (none, (eI .u64 (bor .u64 x9 x11)))), (13, some (none, (eI .u64 (shr .u64 x13 32)))), (14, some (none, (eI .u64 x15))), (15, some (none, (eI .u64 s15_21))), (16, some (none, (eI .u64 s16_22)))], []⟩) (fun k s hI => ?_) N _ ⟨_, _, h, rfl⟩
          obtain ⟨s15_21, s16_22, h, rfl⟩ := hI
          cases k with
          | zero => cases h
          | succ k =>
            refine aw_seq ?_
            refine aw_sreg ?_
            obtain ⟨x23, hx23, h⟩ := letO_ex h
            obtain ⟨x24, hx24, h⟩ := letO_ex h
            obtain ⟨x25, hx25, h⟩ := letO_ex h
            obtain ⟨x26, hx26, h⟩ := letO_ex h
            refine awl_runD hT (fun _ => false) [] 12 [2, 8, 9, 10, 11, 13, 14, 15, 16, 78] ⟨[(2, some (none, (eI .u64 x6))), (8, some (none, (eI .u64 (U64 r5)))), (9, some (none, (eI .u64 (shr .u64 x6 32)))), (10, some (none, (eI .u64 x8))), (11, some (none, (eI .u64 (bor .u64 x9 x11)))), (13, some (none, (eI .u64 (shr .u64 x13 32)))), (14, some (none, (eI .u64 x15))), (15, some (none, (eI .u64 s15_21))), (16, some (none, (eI .u64 s16_22))), (78, some (none, (eB (cond x23 true x26))))], []⟩ (by subst hx26 hx25 hx24 hx23; kernel_rfl) ?_
            refine awl_nil ?_
            refine aw_cond (b := cond x23 true x26) (by kernel_rfl) (fun hc => ?_) (fun hc => ?_)
            · have h := cond_t hc h
              refine aw_skip (tn_n ?_)
              refine aw_block ?_
              refine aw_sreg ?_
              refine awl_runD hT (fun _ => false) [] 3 [2, 8, 9, 10, 11, 13, 14, 15, 16] ⟨[(2, some (none, (eI .u64 x6))), (8, some (none, (eI .u64 (U64 r5)))), (9, some (none, (eI .u64 (shr .u64 x6 32)))), (10, some (none, (eI .u64 x8))), (11, some (none, (eI .u64 (bor .u64 x9 x11)))), (13, some (none, (eI .u64 (shr .u64 x13 32)))), (14, some (none, (eI .u64 x15))), (15, some (none, (eI .u64 (U64 (s15_21 - 1))))), (16, some (none, (eI .u64 s16_22)))], []⟩ (by kernel_rfl) ?_
              refine awl_nil ?_
              refine aw_sreg ?_
              obtain ⟨x27, hx27, h⟩ := letO_ex h
              refine awl_runD hT (fun _ => false) [] 4 [2, 8, 9, 10, 11, 13, 14, 15, 16] ⟨[(2, some (none, (eI .u64 x6))), (8, some (none, (eI .u64 (U64 r5)))), (9, some (none, (eI .u64 (shr .u64 x6 32)))), (10, some (none, (eI .u64 x8))), (11, some (none, (eI .u64 (bor .u64 x9 x11)))), (13, some (none, (eI .u64 (shr .u64 x13 32)))), (14, some (none, (eI .u64 x15))), (15, some (none, (eI .u64 (U64 (s15_21 - 1))))), (16, some (none, (eI .u64 x27)))], []⟩ (by subst hx27; kernel_rfl) ?_
              refine awl_nil ?_
              refine aw_sreg ?_
              obtain ⟨x28, hx28, h⟩ := letO_ex h
              refine awl_runD hT (fun _ => false) [] 2 [2, 8, 9, 10, 11, 13, 14, 15, 16, 85] ⟨[(2, some (none, (eI .u64 x6))), (8, some (none, (eI .u64 (U64 r5)))), (9, some (none, (eI .u64 (shr .u64 x6 32)))), (10, some (none, (eI .u64 x8))), (11, some (none, (eI .u64 (bor .u64 x9 x11)))), (13, some (none, (eI .u64 (shr .u64 x13 32)))), (14, some (none, (eI .u64 x15))), (15, some (none, (eI .u64 (U64 (s15_21 - 1))))), (16, some (none, (eI .u64 x27))), (85, some (none, (eB x28)))], []⟩ (by subst hx28; kernel_rfl) ?_
              refine awl_nil ?_
              refine aw_cond (b := x28) (by kernel_rfl) (fun hc => ?_) (fun hc => ?_)
              · have h := cond_t hc h
                refine aw_conv (env' := [(2, some (none, (eI .u64 x6))), (8, some (none, (eI .u64 (U64 r5)))), (9, some (none, (eI .u64 (shr .u64 x6 32)))), (10, some (none, (eI .u64 x8))), (11, some (none, (eI .u64 (bor .u64 x9 x11)))), (13, some (none, (eI .u64 (shr .u64 x13 32)))), (14, some (none, (eI .u64 x15))), (15, some (none, (eI .u64 (U64 (s15_21 - 1)))))]) (H' := []) (by kernel_rfl) trivial (envT_cons (x := (eI .u64 x6)) (by kernel_rfl) (PubA.t (pub_v _)) rfl rfl (envT_cons (x := (eI .u64 (U64 r5))) (by kernel_rfl) (PubA.t (pub_v _)) rfl rfl (envT_cons (x := (eI .u64 (shr .u64 x6 32))) (by kernel_rfl) (PubA.t (pub_v _)) rfl rfl (envT_cons (x := (eI .u64 x8)) (by kernel_rfl) (PubA.t (pub_v _)) rfl rfl (envT_cons (x := (eI .u64 (bor .u64 x9 x11))) (by kernel_rfl) (PubA.t (pub_v _)) rfl rfl (envT_cons (x := (eI .u64 (shr .u64 x13 32))) (by kernel_rfl) (PubA.t (pub_v _)) rfl rfl (envT_cons (x := (eI .u64 x15)) (by kernel_rfl) (PubA.t (pub_v _)) rfl rfl (envT_cons (x := (eI .u64 (U64 (s15_21 - 1)))) (by kernel_rfl) (PubA.t (pub_v _)) rfl rfl envT_nil)))))))) ?_
                refine aw_exit (inB_x (by kernel_rfl) (tn_x (inB_e (tn_n ?_))))
                obtain rfl := Option.some.inj h
                exact rfl
              · have h := cond_f hc h
                refine aw_conv (env' := [(2, some (none, (eI .u64 x6))), (8, some (none, (eI .u64 (U64 r5)))), (9, some (none, (eI .u64 (shr .u64 x6 32)))), (10, some (none, (eI .u64 x8))), (11, some (none, (eI .u64 (bor .u64 x9 x11)))), (13, some (none, (eI .u64 (shr .u64 x13 32)))), (14, some (none, (eI .u64 x15))), (15, some (none, (eI .u64 (U64 (s15_21 - 1))))), (16, some (none, (eI .u64 x27)))]) (H' := []) (by kernel_rfl) trivial (envT_cons (x := (eI .u64 x6)) (by kernel_rfl) (PubA.t (pub_v _)) rfl rfl (envT_cons (x := (eI .u64 (U64 r5))) (by kernel_rfl) (PubA.t (pub_v _)) rfl rfl (envT_cons (x := (eI .u64 (shr .u64 x6 32))) (by kernel_rfl) (PubA.t (pub_v _)) rfl rfl (envT_cons (x := (eI .u64 x8)) (by kernel_rfl) (PubA.t (pub_v _)) rfl rfl (envT_cons (x := (eI .u64 (bor .u64 x9 x11))) (by kernel_rfl) (PubA.t (pub_v _)) rfl rfl (envT_cons (x := (eI .u64 (shr .u64 x13 32))) (by kernel_rfl) (PubA.t (pub_v _)) rfl rfl (envT_cons (x := (eI .u64 x15)) (by kernel_rfl) (PubA.t (pub_v _)) rfl rfl (envT_cons (x := (eI .u64 (U64 (s15_21 - 1)))) (by kernel_rfl) (PubA.t (pub_v _)) rfl rfl (envT_cons (x := (eI .u64 x27)) (by kernel_rfl) (PubA.t (pub_v _)) rfl rfl envT_nil))))))))) ?_
                refine aw_skip (inB_n (tn_n ?_))
                exact ⟨k, Nat.lt_succ_self k, _, _, h, rfl⟩
            · have h := cond_f hc h
              refine aw_conv (env' := [(2, some (none, (eI .u64 x6))), (8, some (none, (eI .u64 (U64 r5)))), (9, some (none, (eI .u64 (shr .u64 x6 32)))), (10, some (none, (eI .u64 x8))), (11, some (none, (eI .u64 (bor .u64 x9 x11)))), (13, some (none, (eI .u64 (shr .u64 x13 32)))), (14, some (none, (eI .u64 x15))), (15, some (none, (eI .u64 s15_21)))]) (H' := []) (by kernel_rfl) trivial (envT_cons (x := (eI .u64 x6)) (by kernel_rfl) (PubA.t (pub_v _)) rfl rfl (envT_cons (x := (eI .u64 (U64 r5))) (by kernel_rfl) (PubA.t (pub_v _)) rfl rfl (envT_cons (x := (eI .u64 (shr .u64 x6 32))) (by kernel_rfl) (PubA.t (pub_v _)) rfl rfl (envT_cons (x := (eI .u64 x8)) (by kernel_rfl) (PubA.t (pub_v _)) rfl rfl (envT_cons (x := (eI .u64 (bor .u64 x9 x11))) (by kernel_rfl) (PubA.t (pub_v _)) rfl rfl (envT_cons (x := (eI .u64 (shr .u64 x13 32))) (by kernel_rfl) (PubA.t (pub_v _)) rfl rfl (envT_cons (x := (eI .u64 x15)) (by kernel_rfl) (PubA.t (pub_v _)) rfl rfl (envT_cons (x := (eI .u64 s15_21)) (by kernel_rfl) (PubA.t (pub_v _)) rfl rfl envT_nil)))))))) ?_
              refine aw_exit (tn_x (tn_x (inB_e (tn_n ?_))))
              obtain rfl := Option.some.inj h
              exact rfl
        · rintro s rfl
          have h := gp1_20
          refine aw_sreg ?_
          obtain ⟨x29, hx29, h⟩ := letO_ex h
          obtain ⟨x30, hx30, h⟩ := letO_ex h
          obtain ⟨x31, hx31, h⟩ := letO_ex h
          refine awl_runD hT (fun _ => false) [] 9 [2, 8, 9, 10, 14, 15, 17] ⟨[(2, some (none, (eI .u64 x6))), (8, some (none, (eI .u64 (U64 r5)))), (9, some (none, (eI .u64 (shr .u64 x6 32)))), (10, some (none, (eI .u64 x8))), (14, some (none, (eI .u64 x15))), (15, some (none, (eI .u64 p1_20))), (17, some (none, (eI .u64 x31)))], []⟩ (by subst hx31 hx30 hx29; kernel_rfl) ?_
          refine awl_nil ?_
          refine aw_sreg ?_
          refine awl_runD hT (fun _ => false) [] 2 [2, 8, 9, 10, 14, 15, 17, 94, 95] ⟨[(2, some (none, (eI .u64 x6))), (8, some (none, (eI .u64 (U64 r5)))), (9, some (none, (eI .u64 (shr .u64 x6 32)))), (10, some (none, (eI .u64 x8))), (14, some (none, (eI .u64 x15))), (15, some (none, (eI .u64 p1_20))), (17, some (none, (eI .u64 x31))), (94, some (none, (eI .u64 x31))), (95, some (none, (eI .u64 (shr .u64 x6 32))))], []⟩ (by kernel_rfl) ?_
          obtain ⟨_, q33, h⟩ := obind h
          obtain ⟨x32, hx32, h⟩ := letO_ex h
          refine awl_op (by kernel_rfl) (owp_bin hT (vx := .int .u64 x31) (vy := .int .u64 (shr .u64 x6 32)) (z := .int .u64 x32) rfl rfl (by kernel_rfl) (by kernel_rfl) (by kernel_rfl) (by subst hx32; exact evBin_quo (reqF_f q33))) ?_
          refine awl_runD hT (fun _ => false) [] 1 [2, 8, 9, 10, 14, 15, 17, 18] ⟨[(2, some (none, (eI .u64 x6))), (8, some (none, (eI .u64 (U64 r5)))), (9, some (none, (eI .u64 (shr .u64 x6 32)))), (10, some (none, (eI .u64 x8))), (14, some (none, (eI .u64 x15))), (15, some (none, (eI .u64 p1_20))), (17, some (none, (eI .u64 x31))), (18, some (none, (eI .u64 x32)))], []⟩ (by kernel_rfl) ?_
          refine awl_nil ?_
          refine aw_sreg ?_
          obtain ⟨x34, hx34, h⟩ := letO_ex h
          refine awl_runD hT (fun _ => false) [] 6 [2, 8, 9, 10, 14, 15, 16, 17, 18] ⟨[(2, some (none, (eI .u64 x6))), (8, some (none, (eI .u64 (U64 r5)))), (9, some (none, (eI .u64 (shr .u64 x6 32)))), (10, some (none, (eI .u64 x8))), (14, some (none, (eI .u64 x15))), (15, some (none, (eI .u64 p1_20))), (16, some (none, (eI .u64 (U64 (x31 - x34))))), (17, some (none, (eI .u64 x31))), (18, some (none, (eI .u64 x32)))], []⟩ (by subst hx34; kernel_rfl) ?_
          refine awl_nil ?_
          obtain ⟨p2_35, h, gp2_35⟩ := obind h
          refine aw_join (fun s => s = ⟨[(2, some (none, (eI .u64 x6))), (8, some (none, (eI .u64 (U64 r5)))), (14, some (none, (eI .u64 x15))), (15, some (none, (eI .u64 p1_20))), (17, some (none, (eI .u64 x31))), (18, some (none, (eI .u64 p2_35)))], []⟩) ?_ ?_
          · refine aw_block ?_
            refine aw_loop (fun k s => ∃ s16_36 s18_37, p_math_bits_Div64_L2 N x8 x15 x6 k s16_36 s18_37 = some p2_35 ∧ s = ⟨[(2, some (none, (eI .u64 x6))), (8, some (none, (eI .u64 (U64 r5)))), (9, some (none, (eI .u64 (shr .u64 x6 32)))), (10, some (none, (eI .u64 x8))), (14, some (none, (eI .u64 x15))), (15, some (none, (eI .u64 p1_20))), (16, some (none, (eI .u64 s16_36))), (17, some (none, (eI .u64 x31))), (18, some (none, (eI .u64 s18_37)))], []⟩) (fun k s hI => ?_) N _ ⟨_, _, h, rfl⟩
            obtain ⟨s16_36, s18_37, h, rfl⟩ := hI
            cases k with
            | zero => cases h
            | succ k =>
              refine aw_seq ?_
              refine aw_sreg ?_
              obtain ⟨x38, hx38, h⟩ := letO_ex h
              obtain ⟨x39, hx39, h⟩ := letO_ex h
              obtain ⟨x40, hx40, h⟩ := letO_ex h
              refine awl_runD hT (fun _ => false) [] 12 [2, 8, 9, 10, 14, 15, 16, 17, 18, 113] ⟨[(2, some (none, (eI .u64 x6))), (8, some (none, (eI .u64 (U64 r5)))), (9, some (none, (eI .u64 (shr .u64 x6 32)))), (10, some (none, (eI .u64 x8))), (14, some (none, (eI .u64 x15))), (15, some (none, (eI .u64 p1_20))), (16, some (none, (eI .u64 s16_36))), (17, some (none, (eI .u64 x31))), (18, some (none, (eI .u64 s18_37))), (113, some (none, (eB (cond x38 true x40))))], []⟩ (by subst hx40 hx39 hx38; kernel_rfl) ?_
              refine awl_nil ?_
              refine aw_cond (b := cond x38 true x40) (by kernel_rfl) (fun hc => ?_) (fun hc => ?_)
              · have h := cond_t hc h
                refine aw_skip (tn_n ?_)
                refine aw_block ?_
                refine aw_sreg ?_
                refine awl_runD hT (fun _ => false) [] 3 [2, 8, 9, 10, 14, 15, 16, 17, 18] ⟨[(2, some (none, (eI .u64 x6))), (8, some (none, (eI .u64 (U64 r5)))), (9, some (none, (eI .u64 (shr .u64 x6 32)))), (10, some (none, (eI .u64 x8))), (14, some (none, (eI .u64 x15))), (15, some (none, (eI .u64 p1_20))), (16, some (none, (eI .u64 s16_36))), (17, some (none, (eI .u64 x31))), (18, some (none, (eI .u64 (U64 (s18_37 - 1)))))], []⟩ (by kernel_rfl) ?_
                refine awl_nil ?_
                refine aw_sreg ?_
                obtain ⟨x41, hx41, h⟩ := letO_ex h
                refine awl_runD hT (fun _ => false) [] 4 [2, 8, 9, 10, 14, 15, 16, 17, 18] ⟨[(2, some (none, (eI .u64 x6))), (8, some (none, (eI .u64 (U64 r5)))), (9, some (none, (eI .u64 (shr .u64 x6 32)))), (10, some (none, (eI .u64 x8))), (14, some (none, (eI .u64 x15))), (15, some (none, (eI .u64 p1_20))), (16, some (none, (eI .u64 x41))), (17, some (none, (eI .u64 x31))), (18, some (none, (eI .u64 (U64 (s18_37 - 1)))))], []⟩ (by subst hx41; kernel_rfl) ?_
                refine awl_nil ?_
                refine aw_sreg ?_
                obtain ⟨x42, hx42, h⟩ := letO_ex h
                refine awl_runD hT (fun _ => false) [] 2 [2, 8, 9, 10, 14, 15, 16, 17, 18, 120] ⟨[(2, some (none, (eI .u64 x6))), (8, some (none, (eI .u64 (U64 r5)))), (9, some (none, (eI .u64 (shr .u64 x6 32)))), (10, some (none, (eI .u64 x8))), (14, some (none, (eI .u64 x15))), (15, some (none, (eI .u64 p1_20))), (16, some (none, (eI .u64 x41))), (17, some (none, (eI .u64 x31))), (18, some (none, (eI .u64 (U64 (s18_37 - 1))))), (120, some (none, (eB x42)))], []⟩ (by subst hx42; kernel_rfl) ?_
                refine awl_nil ?_
                refine aw_cond (b := x42) (by kernel_rfl) (fun hc => ?_) (fun hc => ?_)
                · have h := cond_t hc h
                  refine aw_conv (env' := [(2, some (none, (eI .u64 x6))), (8, some (none, (eI .u64 (U64 r5)))), (14, some (none, (eI .u64 x15))), (15, some (none, (eI .u64 p1_20))), (17, some (none, (eI .u64 x31))), (18, some (none, (eI .u64 (U64 (s18_37 - 1)))))]) (H' := []) (by kernel_rfl) trivial (envT_cons (x := (eI .u64 x6)) (by kernel_rfl) (PubA.t (pub_v _)) rfl rfl (envT_cons (x := (eI .u64 (U64 r5))) (by kernel_rfl) (PubA.t (pub_v _)) rfl rfl (envT_cons (x := (eI .u64 x15)) (by kernel_rfl) (PubA.t (pub_v _)) rfl rfl (envT_cons (x := (eI .u64 p1_20)) (by kernel_rfl) (PubA.t (pub_v _)) rfl rfl (envT_cons (x := (eI .u64 x31)) (by kernel_rfl) (PubA.t (pub_v _)) rfl rfl (envT_cons (x := (eI .u64 (U64 (s18_37 - 1)))) (by kernel_rfl) (PubA.t (pub_v _)) rfl rfl envT_nil)))))) ?_
                  refine aw_exit (inB_x (by kernel_rfl) (tn_x (inB_e (tn_n ?_))))
                  obtain rfl := Option.some.inj h
                  exact rfl
                · have h := cond_f hc h
                  refine aw_conv (env' := [(2, some (none, (eI .u64 x6))), (8, some (none, (eI .u64 (U64 r5)))), (9, some (none, (eI .u64 (shr .u64 x6 32)))), (10, some (none, (eI .u64 x8))), (14, some (none, (eI .u64 x15))), (15, some (none, (eI .u64 p1_20))), (16, some (none, (eI .u64 x41))), (17, some (none, (eI .u64 x31))), (18, some (none, (eI .u64 (U64 (s18_37 - 1)))))]) (H' := []) (by kernel_rfl) trivial (envT_cons (x := (eI .u64 x6)) (by kernel_rfl) (PubA.t (pub_v _)) rfl rfl (envT_cons (x := (eI .u64 (U64 r5))) (by kernel_rfl) (PubA.t (pub_v _)) rfl rfl (envT_cons (x := (eI .u64 (shr .u64 x6 32))) (by kernel_rfl) (PubA.t (pub_v _)) rfl rfl (envT_cons (x := (eI .u64 x8)) (by kernel_rfl) (PubA.t (pub_v _)) rfl rfl (envT_cons (x := (eI .u64 x15)) (by kernel_rfl) (PubA.t (pub_v _)) rfl rfl (envT_cons (x := (eI .u64 p1_20)) (by kernel_rfl) (PubA.t (pub_v _)) rfl rfl (envT_cons (x := (eI .u64 x41)) (by kernel_rfl) (PubA.t (pub_v _)) rfl rfl (envT_cons (x := (eI .u64 x31)) (by kernel_rfl) (PubA.t (pub_v _)) rfl rfl (envT_cons (x := (eI .u64 (U64 (s18_37 - 1)))) (by kernel_rfl) (PubA.t (pub_v _)) rfl rfl envT_nil))))))))) ?_
                  refine aw_skip (inB_n (tn_n ?_))
                  exact ⟨k, Nat.lt_succ_self k, _, _, h, rfl⟩
              · have h := cond_f hc h
                refine aw_conv (env' := [(2, some (none, (eI .u64 x6))), (8, some (none, (eI .u64 (U64 r5)))), (14, some (none, (eI .u64 x15))), (15, some (none, (eI .u64 p1_20))), (17, some (none, (eI .u64 x31))), (18, some (none, (eI .u64 s18_37)))]) (H' := []) (by kernel_rfl) trivial (envT_cons (x := (eI .u64 x6)) (by kernel_rfl) (PubA.t (pub_v _)) rfl rfl (envT_cons (x := (eI .u64 (U64 r5))) (by kernel_rfl) (PubA.t (pub_v _)) rfl rfl (envT_cons (x := (eI .u64 x15)) (by kernel_rfl) (PubA.t (pub_v _)) rfl rfl (envT_cons (x := (eI .u64 p1_20)) (by kernel_rfl) (PubA.t (pub_v _)) rfl rfl (envT_cons (x := (eI .u64 x31)) (by kernel_rfl) (PubA.t (pub_v _)) rfl rfl (envT_cons (x := (eI .u64 s18_37)) (by kernel_rfl) (PubA.t (pub_v _)) rfl rfl envT_nil)))))) ?_
                refine aw_exit (tn_x (tn_x (inB_e (tn_n ?_))))
                obtain rfl := Option.some.inj h
                exact rfl
          · rintro s rfl
            have h := gp2_35
            refine aw_sreg ?_
            obtain ⟨x43, hx43, h⟩ := letO_ex h
            obtain ⟨x44, hx44, h⟩ := letO_ex h
            obtain ⟨x45, hx45, h⟩ := letO_ex h
            refine awl_runD hT (fun _ => false) [] 13 [124, 132, 133] ⟨[(124, some (none, (eI .u64 (U64 (x43 + p2_35))))), (132, some (none, (eI .u64 x45))), (133, some (none, (eI .u64 (U64 r5))))], []⟩ (by subst hx45 hx44 hx43; kernel_rfl) ?_
            obtain ⟨_, q47, h⟩ := obind h
            obtain ⟨x46, hx46, h⟩ := letO_ex h
            refine awl_op (by kernel_rfl) (owp_bin hT (vx := .int .u64 x45) (vy := .int .u64 (U64 r5)) (z := .int .u64 x46) rfl rfl (by kernel_rfl) (by kernel_rfl) (by kernel_rfl) (by subst hx46; exact evBin_shr (reqF_f q47))) ?_
            refine awl_runD hT (fun _ => false) [] 2 [6, 7] ⟨[(6, some (none, (eI .u64 (U64 (x43 + p2_35))))), (7, some (none, (eI .u64 x46)))], []⟩ (by kernel_rfl) ?_
            refine awl_nil ?_
            refine aw_ret ?_
            obtain rfl := Option.some.inj h
            exact ⟨Or.inl rfl, [(eI .u64 (U64 (x43 + p2_35))), (eI .u64 x46)], by kernel_rfl, ⟨_, rfl, (pubL_cons (pub_v _) (pubL_cons (pub_v _) pubL_nil))⟩⟩

theorem math_bits_Div64_ok_c : callable Try.prog 146 := ⟨_, Try.func146, by decide, rfl⟩

end Go.UK
