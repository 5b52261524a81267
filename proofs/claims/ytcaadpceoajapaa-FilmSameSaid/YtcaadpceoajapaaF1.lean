/- A part of the proof: what the functions of the program compute. -/
import Derived.Test.YtcaadpceoajapaaFT
namespace Go.UK
open Go Go.Proofs
set_option maxRecDepth 20000
set_option linter.all false

attribute [local irreducible] owp awl aw Go.UK.Fn NatFn opS Stab TOK EqT

/-! umbra/film.alike[[3]int] -/
def p_film_alike_3_int_L1 (N : Nat) (x3 : Int) (a0 : (List (Vector Int 3))) (a1 : (List (Vector Int 3))) : Nat → Int → Option (Sum (Unit) (Bool))
  | 0, _ => none
  | k + 1, s13_5 =>
    cond (decide (s13_5 < x3)) (
      Option.bind (idx a0 s13_5) fun e6 =>
      Option.bind (idx a1 s13_5) fun e7 =>
      letO (!((eqV (fun a b => a == b)) e6 e7)) fun x8 =>
      cond x8 (
        some (Sum.inr false)) (
        p_film_alike_3_int_L1 N x3 a0 a1 k (I64 (s13_5 + 1)))) (
      some (Sum.inl (())))

def p_film_alike_3_int (N : Nat) (a0 : (List (Vector Int 3))) (a1 : (List (Vector Int 3))) : Option (Bool) :=
  letO (((List.map (eA 3 1 (eI .i64)) a0).length : Int)) fun x1 =>
  letO (((List.map (eA 3 1 (eI .i64)) a1).length : Int)) fun x2 =>
  cond (x1 != x2) (
    some false) (
    letO (((List.map (eA 3 1 (eI .i64)) a0).length : Int)) fun x3 =>
    Option.bind (p_film_alike_3_int_L1 N x3 a0 a1 N 0) fun o => sumC o (fun p1_4 =>
      some true) (fun r => some r))

theorem film_alike_3_int_ok (N : Nat) (a0 : (List (Vector Int 3))) (a1 : (List (Vector Int 3))) (r : Bool) (h : p_film_alike_3_int N a0 a1 = some r) : Fn Try.prog 100 [(eL 3 (eA 3 1 (eI .i64)) a0), (eL 3 (eA 3 1 (eI .i64)) a1)] (eB r) := by
  unfold p_film_alike_3_int at h
  refine fn_of_awR (n := ⟨26, 0⟩) (rs := [.tmp 4]) hT Try.func100 rfl rfl (by kernel_rfl) rfl ?_
  refine (show aw _ _ _ _ ⟨[(0, some (none, (eL 3 (eA 3 1 (eI .i64)) a0))), (1, some (none, (eL 3 (eA 3 1 (eI .i64)) a1)))], []⟩ from ?_)
  refine aw_sreg ?_
  refine awl_runD hT (fun _ => false) [] 1 [0, 1] ⟨[(0, some (none, (eL 3 (eA 3 1 (eI .i64)) a0))), (1, some (none, (eL 3 (eA 3 1 (eI .i64)) a1)))], []⟩ (by kernel_rfl) ?_
  refine awl_nil ?_
  refine aw_seq ?_
  refine aw_sreg ?_
  obtain ⟨x1, hx1, h⟩ := letO_ex h
  obtain ⟨x2, hx2, h⟩ := letO_ex h
  refine awl_runD hT (fun _ => false) [] 5 [0, 1, 10] ⟨[(0, some (none, (eL 3 (eA 3 1 (eI .i64)) a0))), (1, some (none, (eL 3 (eA 3 1 (eI .i64)) a1))), (10, some (none, (eB (x1 != x2))))], []⟩ (by subst hx2 hx1; kernel_rfl) ?_
  refine awl_nil ?_
  refine aw_cond (b := x1 != x2) (by kernel_rfl) (fun hc => ?_) (fun hc => ?_)
  · have h := cond_t hc h
    refine aw_sreg ?_
    refine awl_runD hT (fun _ => false) [] 1 [4] ⟨[(4, some (none, (eB false)))], []⟩ (by kernel_rfl) ?_
    refine awl_nil ?_
    refine aw_ret (tn_r ?_)
    obtain rfl := Option.some.inj h
    exact ⟨Or.inl rfl, [(eB false)], by kernel_rfl, (pub_v _)⟩
  · have h := cond_f hc h
    refine aw_skip (tn_n ?_)
    refine aw_seq ?_
    refine aw_sreg ?_
    obtain ⟨x3, hx3, h⟩ := letO_ex h
    refine awl_runD hT (fun _ => false) [] 3 [0, 1, 12, 13] ⟨[(0, some (none, (eL 3 (eA 3 1 (eI .i64)) a0))), (1, some (none, (eL 3 (eA 3 1 (eI .i64)) a1))), (12, some (none, (eI .i64 x3))), (13, some (none, (eI .i64 0)))], []⟩ (by subst hx3; kernel_rfl) ?_
    refine awl_nil ?_
    obtain ⟨o_p1_4, h, gp1_4⟩ := obind h
    refine aw_joinK (fun s => ∃ p1_4, o_p1_4 = Sum.inl p1_4 ∧ s = ⟨[], []⟩) ?_ ?_
    · refine aw_block ?_
      refine aw_loop (fun k s => ∃ s13_5, p_film_alike_3_int_L1 N x3 a0 a1 k s13_5 = some o_p1_4 ∧ s = ⟨[(0, some (none, (eL 3 (eA 3 1 (eI .i64)) a0))), (1, some (none, (eL 3 (eA 3 1 (eI .i64)) a1))), (12, some (none, (eI .i64 x3))), (13, some (none, (eI .i64 s13_5)))], []⟩) (fun k s hI => ?_) N _ ⟨_, h, rfl⟩
      obtain ⟨s13_5, h, rfl⟩ := hI
      cases k with
      | zero => cases h
      | succ k =>
        refine aw_sreg ?_
        refine awl_runD hT (fun _ => false) [] 1 [0, 1, 12, 13, 14] ⟨[(0, some (none, (eL 3 (eA 3 1 (eI .i64)) a0))), (1, some (none, (eL 3 (eA 3 1 (eI .i64)) a1))), (12, some (none, (eI .i64 x3))), (13, some (none, (eI .i64 s13_5))), (14, some (none, (eB (decide (s13_5 < x3)))))], []⟩ (by kernel_rfl) ?_
        refine awl_nil ?_
        refine aw_seq ?_
        refine aw_cond (b := decide (s13_5 < x3)) (by kernel_rfl) (fun hc => ?_) (fun hc => ?_)
        · have h := cond_t hc h
          refine aw_skip (tn_n ?_)
          refine aw_seq ?_
          refine aw_block ?_
          refine aw_sreg ?_
          refine awl_runD hT (fun _ => false) [] 2 [0, 1, 5, 12, 13] ⟨[(0, some (none, (eL 3 (eA 3 1 (eI .i64)) a0))), (1, some (none, (eL 3 (eA 3 1 (eI .i64)) a1))), (5, some (none, (eI .i64 s13_5))), (12, some (none, (eI .i64 x3))), (13, some (none, (eI .i64 s13_5)))], []⟩ (by kernel_rfl) ?_
          refine awl_nil ?_
          obtain ⟨e6, he6, h⟩ := obind h
          obtain ⟨e7, he7, h⟩ := obind h
          refine aw_sdraw (by rfl) [⟨[0], 16, (none, (eL 3 (eA 3 1 (eI .i64)) a0))⟩, ⟨[5], 17, (none, (eI .i64 s13_5))⟩, ⟨[16, 17], 18, (none, (.im (eA 3 1 (eI .i64) e6)))⟩, ⟨[18], 19, (none, (eA 3 1 (eI .i64) e6))⟩, ⟨[1], 20, (none, (eL 3 (eA 3 1 (eI .i64)) a1))⟩, ⟨[5], 21, (none, (eI .i64 s13_5))⟩, ⟨[20, 21], 22, (none, (.im (eA 3 1 (eI .i64) e7)))⟩, ⟨[22], 23, (none, (eA 3 1 (eI .i64) e7))⟩] [0, 1, 5, 12, 13] [0, 1, 12, 13, 19, 23] (none) (B := [(0, some (none, (eL 3 (eA 3 1 (eI .i64)) a0))), (1, some (none, (eL 3 (eA 3 1 (eI .i64)) a1))), (5, some (none, (eI .i64 s13_5))), (12, some (none, (eI .i64 x3))), (13, some (none, (eI .i64 s13_5)))]) (st' := ⟨[(0, some (none, (eL 3 (eA 3 1 (eI .i64)) a0))), (1, some (none, (eL 3 (eA 3 1 (eI .i64)) a1))), (12, some (none, (eI .i64 x3))), (13, some (none, (eI .i64 s13_5))), (19, some (none, (eA 3 1 (eI .i64) e6))), (23, some (none, (eA 3 1 (eI .i64) e7)))], []⟩) (by kernel_rfl) (by kernel_rfl) (stab_all ⟨stab_ev hT (need := [(0, some (none, (eL 3 (eA 3 1 (eI .i64)) a0)))]) rfl rfl (by kernel_rfl) (by kernel_rfl) rfl rfl (by kernel_rfl) (by kernel_rfl), stab_ev hT (need := [(5, some (none, (eI .i64 s13_5)))]) rfl rfl (by kernel_rfl) (by kernel_rfl) rfl rfl (by kernel_rfl) (by kernel_rfl), stab_owp (need := [(16, some (none, (eL 3 (eA 3 1 (eI .i64)) a0))), (17, some (none, (eI .i64 s13_5)))]) rfl rfl (by kernel_rfl) (by kernel_rfl) rfl (fun env H' hs => (owp_index hT (kk := .i64) (v := (eL 3 (eA 3 1 (eI .i64)) a0)) (es := List.map (eA 3 1 (eI .i64)) a0) (i := s13_5) rfl rfl (by kernel_rfl) tt71 tt140 (sub_opd hs (by kernel_rfl)) rfl rfl (sub_opd hs (by kernel_rfl)) (idx_0 he6) (idx_x (eA 3 1 (eI .i64)) he6))), stab_ev hT (need := [(18, some (none, (.im (eA 3 1 (eI .i64) e6))))]) rfl rfl (by kernel_rfl) (by kernel_rfl) rfl rfl (by kernel_rfl) (by kernel_rfl), stab_ev hT (need := [(1, some (none, (eL 3 (eA 3 1 (eI .i64)) a1)))]) rfl rfl (by kernel_rfl) (by kernel_rfl) rfl rfl (by kernel_rfl) (by kernel_rfl), stab_ev hT (need := [(5, some (none, (eI .i64 s13_5)))]) rfl rfl (by kernel_rfl) (by kernel_rfl) rfl rfl (by kernel_rfl) (by kernel_rfl), stab_owp (need := [(20, some (none, (eL 3 (eA 3 1 (eI .i64)) a1))), (21, some (none, (eI .i64 s13_5)))]) rfl rfl (by kernel_rfl) (by kernel_rfl) rfl (fun env H' hs => (owp_index hT (kk := .i64) (v := (eL 3 (eA 3 1 (eI .i64)) a1)) (es := List.map (eA 3 1 (eI .i64)) a1) (i := s13_5) rfl rfl (by kernel_rfl) tt71 tt140 (sub_opd hs (by kernel_rfl)) rfl rfl (sub_opd hs (by kernel_rfl)) (idx_0 he7) (idx_x (eA 3 1 (eI .i64)) he7))), stab_ev hT (need := [(22, some (none, (.im (eA 3 1 (eI .i64) e7))))]) rfl rfl (by kernel_rfl) (by kernel_rfl) rfl rfl (by kernel_rfl) (by kernel_rfl), trivial⟩) (by kernel_rfl) ?_
          obtain ⟨x8, hx8, h⟩ := letO_ex h
          refine awl_op (by kernel_rfl) (show owp _ _ _ _ ⟨Env.set _ 24 (none, eB x8), _⟩ from by subst hx8; exact owp_neq (f := (eA 3 1 (eI .i64))) (eq := (eqV (fun a b => a == b))) (a := e6) (b := e7) rfl rfl (by kernel_rfl) (by kernel_rfl) (by kernel_rfl) eqT_140 (by kernel_rfl) (by kernel_rfl) (fun _ => rfl) (fun _ => rfl)) ?_
          refine awl_runD hT (fun _ => false) [] 0 [0, 1, 12, 13, 24] ⟨[(0, some (none, (eL 3 (eA 3 1 (eI .i64)) a0))), (1, some (none, (eL 3 (eA 3 1 (eI .i64)) a1))), (12, some (none, (eI .i64 x3))), (13, some (none, (eI .i64 s13_5))), (24, some (none, (eB x8)))], []⟩ (by kernel_rfl) ?_
          refine awl_nil ?_
          refine aw_cond (b := x8) (by kernel_rfl) (fun hc => ?_) (fun hc => ?_)
          · have h := cond_t hc h
            refine aw_sreg ?_
            refine awl_runD hT (fun _ => false) [] 1 [4] ⟨[(4, some (none, (eB false)))], []⟩ (by kernel_rfl) ?_
            refine awl_nil ?_
            obtain rfl := Option.some.inj h
            have h := gp1_4
            refine aw_ret (inB_r (tn_r (tn_r (inB_r (tn_r (tn_r ?_))))))
            obtain rfl := Option.some.inj h
            exact ⟨Or.inl rfl, [(eB false)], by kernel_rfl, (pub_v _)⟩
          · have h := cond_f hc h
            refine aw_skip (inB_n (tn_n ?_))
            refine aw_region ?_
            refine awl_runD hT (fun _ => false) [] 2 [0, 1, 12, 13] ⟨[(0, some (none, (eL 3 (eA 3 1 (eI .i64)) a0))), (1, some (none, (eL 3 (eA 3 1 (eI .i64)) a1))), (12, some (none, (eI .i64 x3))), (13, some (none, (eI .i64 (I64 (s13_5 + 1)))))], []⟩ (by kernel_rfl) ?_
            refine awl_nil (tn_n ?_)
            exact ⟨k, Nat.lt_succ_self k, _, h, rfl⟩
        · have h := cond_f hc h
          refine aw_conv (env' := []) (H' := []) (by kernel_rfl) trivial envT_nil ?_
          refine aw_exit (tn_x (tn_x (inB_e (tn_n ?_))))
          obtain rfl := Option.some.inj h
          exact ⟨_, rfl, rfl⟩
    · rintro s ⟨p1_4, rfl, rfl⟩
      have h := gp1_4
      refine (tn_n ?_)
      refine aw_sreg ?_
      refine awl_runD hT (fun _ => false) [] 1 [4] ⟨[(4, some (none, (eB true)))], []⟩ (by kernel_rfl) ?_
      refine awl_nil ?_
      refine aw_ret ?_
      obtain rfl := Option.some.inj h
      exact ⟨Or.inl rfl, [(eB true)], by kernel_rfl, (pub_v _)⟩

theorem film_alike_3_int_ok_c : callable Try.prog 100 := ⟨_, Try.func100, by decide, rfl⟩

/-! umbra/film.alike[int] -/
def p_film_alike_int_L1 (N : Nat) (x3 : Int) (a0 : (List Int)) (a1 : (List Int)) : Nat → Int → Option (Sum (Unit) (Bool))
  | 0, _ => none
  | k + 1, s13_5 =>
    cond (decide (s13_5 < x3)) (
      Option.bind (idx a0 s13_5) fun e6 =>
      Option.bind (idx a1 s13_5) fun e7 =>
      cond (e6 != e7) (
        some (Sum.inr false)) (
        p_film_alike_int_L1 N x3 a0 a1 k (I64 (s13_5 + 1)))) (
      some (Sum.inl (())))

def p_film_alike_int (N : Nat) (a0 : (List Int)) (a1 : (List Int)) : Option (Bool) :=
  letO (((List.map (eI .i64) a0).length : Int)) fun x1 =>
  letO (((List.map (eI .i64) a1).length : Int)) fun x2 =>
  cond (x1 != x2) (
    some false) (
    letO (((List.map (eI .i64) a0).length : Int)) fun x3 =>
    Option.bind (p_film_alike_int_L1 N x3 a0 a1 N 0) fun o => sumC o (fun p1_4 =>
      some true) (fun r => some r))

theorem film_alike_int_ok (N : Nat) (a0 : (List Int)) (a1 : (List Int)) (r : Bool) (h : p_film_alike_int N a0 a1 = some r) : Fn Try.prog 101 [(eL 1 (eI .i64) a0), (eL 1 (eI .i64) a1)] (eB r) := by
  unfold p_film_alike_int at h
  refine fn_of_awR (n := ⟨26, 0⟩) (rs := [.tmp 4]) hT Try.func101 rfl rfl (by kernel_rfl) rfl ?_
  refine (show aw _ _ _ _ ⟨[(0, some (none, (eL 1 (eI .i64) a0))), (1, some (none, (eL 1 (eI .i64) a1)))], []⟩ from ?_)
  refine aw_sreg ?_
  refine awl_runD hT (fun _ => false) [] 1 [0, 1] ⟨[(0, some (none, (eL 1 (eI .i64) a0))), (1, some (none, (eL 1 (eI .i64) a1)))], []⟩ (by kernel_rfl) ?_
  refine awl_nil ?_
  refine aw_seq ?_
  refine aw_sreg ?_
  obtain ⟨x1, hx1, h⟩ := letO_ex h
  obtain ⟨x2, hx2, h⟩ := letO_ex h
  refine awl_runD hT (fun _ => false) [] 5 [0, 1, 10] ⟨[(0, some (none, (eL 1 (eI .i64) a0))), (1, some (none, (eL 1 (eI .i64) a1))), (10, some (none, (eB (x1 != x2))))], []⟩ (by subst hx2 hx1; kernel_rfl) ?_
  refine awl_nil ?_
  refine aw_cond (b := x1 != x2) (by kernel_rfl) (fun hc => ?_) (fun hc => ?_)
  · have h := cond_t hc h
    refine aw_sreg ?_
    refine awl_runD hT (fun _ => false) [] 1 [4] ⟨[(4, some (none, (eB false)))], []⟩ (by kernel_rfl) ?_
    refine awl_nil ?_
    refine aw_ret (tn_r ?_)
    obtain rfl := Option.some.inj h
    exact ⟨Or.inl rfl, [(eB false)], by kernel_rfl, (pub_v _)⟩
  · have h := cond_f hc h
    refine aw_skip (tn_n ?_)
    refine aw_seq ?_
    refine aw_sreg ?_
    obtain ⟨x3, hx3, h⟩ := letO_ex h
    refine awl_runD hT (fun _ => false) [] 3 [0, 1, 12, 13] ⟨[(0, some (none, (eL 1 (eI .i64) a0))), (1, some (none, (eL 1 (eI .i64) a1))), (12, some (none, (eI .i64 x3))), (13, some (none, (eI .i64 0)))], []⟩ (by subst hx3; kernel_rfl) ?_
    refine awl_nil ?_
    obtain ⟨o_p1_4, h, gp1_4⟩ := obind h
    refine aw_joinK (fun s => ∃ p1_4, o_p1_4 = Sum.inl p1_4 ∧ s = ⟨[], []⟩) ?_ ?_
    · refine aw_block ?_
      refine aw_loop (fun k s => ∃ s13_5, p_film_alike_int_L1 N x3 a0 a1 k s13_5 = some o_p1_4 ∧ s = ⟨[(0, some (none, (eL 1 (eI .i64) a0))), (1, some (none, (eL 1 (eI .i64) a1))), (12, some (none, (eI .i64 x3))), (13, some (none, (eI .i64 s13_5)))], []⟩) (fun k s hI => ?_) N _ ⟨_, h, rfl⟩
      obtain ⟨s13_5, h, rfl⟩ := hI
      cases k with
      | zero => cases h
      | succ k =>
        refine aw_sreg ?_
        refine awl_runD hT (fun _ => false) [] 1 [0, 1, 12, 13, 14] ⟨[(0, some (none, (eL 1 (eI .i64) a0))), (1, some (none, (eL 1 (eI .i64) a1))), (12, some (none, (eI .i64 x3))), (13, some (none, (eI .i64 s13_5))), (14, some (none, (eB (decide (s13_5 < x3)))))], []⟩ (by kernel_rfl) ?_
        refine awl_nil ?_
        refine aw_seq ?_
        refine aw_cond (b := decide (s13_5 < x3)) (by kernel_rfl) (fun hc => ?_) (fun hc => ?_)
        · have h := cond_t hc h
          refine aw_skip (tn_n ?_)
          refine aw_seq ?_
          refine aw_block ?_
          refine aw_sreg ?_
          refine awl_runD hT (fun _ => false) [] 2 [0, 1, 5, 12, 13] ⟨[(0, some (none, (eL 1 (eI .i64) a0))), (1, some (none, (eL 1 (eI .i64) a1))), (5, some (none, (eI .i64 s13_5))), (12, some (none, (eI .i64 x3))), (13, some (none, (eI .i64 s13_5)))], []⟩ (by kernel_rfl) ?_
          refine awl_nil ?_
          obtain ⟨e6, he6, h⟩ := obind h
          obtain ⟨e7, he7, h⟩ := obind h
          refine aw_sdraw (by rfl) [⟨[0], 16, (none, (eL 1 (eI .i64) a0))⟩, ⟨[5], 17, (none, (eI .i64 s13_5))⟩, ⟨[16, 17], 18, (none, (.im (eI .i64 e6)))⟩, ⟨[18], 19, (none, (eI .i64 e6))⟩, ⟨[1], 20, (none, (eL 1 (eI .i64) a1))⟩, ⟨[5], 21, (none, (eI .i64 s13_5))⟩, ⟨[20, 21], 22, (none, (.im (eI .i64 e7)))⟩, ⟨[22], 23, (none, (eI .i64 e7))⟩] [0, 1, 5, 12, 13] [0, 1, 12, 13, 19, 23] (none) (B := [(0, some (none, (eL 1 (eI .i64) a0))), (1, some (none, (eL 1 (eI .i64) a1))), (5, some (none, (eI .i64 s13_5))), (12, some (none, (eI .i64 x3))), (13, some (none, (eI .i64 s13_5)))]) (st' := ⟨[(0, some (none, (eL 1 (eI .i64) a0))), (1, some (none, (eL 1 (eI .i64) a1))), (12, some (none, (eI .i64 x3))), (13, some (none, (eI .i64 s13_5))), (19, some (none, (eI .i64 e6))), (23, some (none, (eI .i64 e7)))], []⟩) (by kernel_rfl) (by kernel_rfl) (stab_all ⟨stab_ev hT (need := [(0, some (none, (eL 1 (eI .i64) a0)))]) rfl rfl (by kernel_rfl) (by kernel_rfl) rfl rfl (by kernel_rfl) (by kernel_rfl), stab_ev hT (need := [(5, some (none, (eI .i64 s13_5)))]) rfl rfl (by kernel_rfl) (by kernel_rfl) rfl rfl (by kernel_rfl) (by kernel_rfl), stab_owp (need := [(16, some (none, (eL 1 (eI .i64) a0))), (17, some (none, (eI .i64 s13_5)))]) rfl rfl (by kernel_rfl) (by kernel_rfl) rfl (fun env H' hs => (owp_index hT (kk := .i64) (v := (eL 1 (eI .i64) a0)) (es := List.map (eI .i64) a0) (i := s13_5) rfl rfl (by kernel_rfl) tt31 tt3 (sub_opd hs (by kernel_rfl)) rfl rfl (sub_opd hs (by kernel_rfl)) (idx_0 he6) (idx_x (eI .i64) he6))), stab_ev hT (need := [(18, some (none, (.im (eI .i64 e6))))]) rfl rfl (by kernel_rfl) (by kernel_rfl) rfl rfl (by kernel_rfl) (by kernel_rfl), stab_ev hT (need := [(1, some (none, (eL 1 (eI .i64) a1)))]) rfl rfl (by kernel_rfl) (by kernel_rfl) rfl rfl (by kernel_rfl) (by kernel_rfl), stab_ev hT (need := [(5, some (none, (eI .i64 s13_5)))]) rfl rfl (by kernel_rfl) (by kernel_rfl) rfl rfl (by kernel_rfl) (by kernel_rfl), stab_owp (need := [(20, some (none, (eL 1 (eI .i64) a1))), (21, some (none, (eI .i64 s13_5)))]) rfl rfl (by kernel_rfl) (by kernel_rfl) rfl (fun env H' hs => (owp_index hT (kk := .i64) (v := (eL 1 (eI .i64) a1)) (es := List.map (eI .i64) a1) (i := s13_5) rfl rfl (by kernel_rfl) tt31 tt3 (sub_opd hs (by kernel_rfl)) rfl rfl (sub_opd hs (by kernel_rfl)) (idx_0 he7) (idx_x (eI .i64) he7))), stab_ev hT (need := [(22, some (none, (.im (eI .i64 e7))))]) rfl rfl (by kernel_rfl) (by kernel_rfl) rfl rfl (by kernel_rfl) (by kernel_rfl), trivial⟩) (by kernel_rfl) ?_
          refine awl_runD hT (fun _ => false) [] 1 [0, 1, 12, 13, 24] ⟨[(0, some (none, (eL 1 (eI .i64) a0))), (1, some (none, (eL 1 (eI .i64) a1))), (12, some (none, (eI .i64 x3))), (13, some (none, (eI .i64 s13_5))), (24, some (none, (eB (e6 != e7))))], []⟩ (by kernel_rfl) ?_
          refine awl_nil ?_
          refine aw_cond (b := e6 != e7) (by kernel_rfl) (fun hc => ?_) (fun hc => ?_)
          · have h := cond_t hc h
            refine aw_sreg ?_
            refine awl_runD hT (fun _ => false) [] 1 [4] ⟨[(4, some (none, (eB false)))], []⟩ (by kernel_rfl) ?_
            refine awl_nil ?_
            obtain rfl := Option.some.inj h
            have h := gp1_4
            refine aw_ret (inB_r (tn_r (tn_r (inB_r (tn_r (tn_r ?_))))))
            obtain rfl := Option.some.inj h
            exact ⟨Or.inl rfl, [(eB false)], by kernel_rfl, (pub_v _)⟩
          · have h := cond_f hc h
            refine aw_skip (inB_n (tn_n ?_))
            refine aw_region ?_
            refine awl_runD hT (fun _ => false) [] 2 [0, 1, 12, 13] ⟨[(0, some (none, (eL 1 (eI .i64) a0))), (1, some (none, (eL 1 (eI .i64) a1))), (12, some (none, (eI .i64 x3))), (13, some (none, (eI .i64 (I64 (s13_5 + 1)))))], []⟩ (by kernel_rfl) ?_
            refine awl_nil (tn_n ?_)
            exact ⟨k, Nat.lt_succ_self k, _, h, rfl⟩
        · have h := cond_f hc h
          refine aw_conv (env' := []) (H' := []) (by kernel_rfl) trivial envT_nil ?_
          refine aw_exit (tn_x (tn_x (inB_e (tn_n ?_))))
          obtain rfl := Option.some.inj h
          exact ⟨_, rfl, rfl⟩
    · rintro s ⟨p1_4, rfl, rfl⟩
      have h := gp1_4
      refine (tn_n ?_)
      refine aw_sreg ?_
      refine awl_runD hT (fun _ => false) [] 1 [4] ⟨[(4, some (none, (eB true)))], []⟩ (by kernel_rfl) ?_
      refine awl_nil ?_
      refine aw_ret ?_
      obtain rfl := Option.some.inj h
      exact ⟨Or.inl rfl, [(eB true)], by kernel_rfl, (pub_v _)⟩

theorem film_alike_int_ok_c : callable Try.prog 101 := ⟨_, Try.func101, by decide, rfl⟩

/-! umbra/film.Same -/
def p_film_Same (N : Nat) (a0 : S_api_Image) (a1 : S_api_Image) : Option (Bool) :=
  letO (cond (a0.gW == a1.gW) (a0.gH == a1.gH) false) fun x1 =>
  Option.bind (cond x1 (
    Option.bind (p_film_alike_3_int N a0.gBeauty a1.gBeauty) fun r3 =>
    some r3) (
    some false)) fun y2 =>
  letO y2 fun x4 =>
  Option.bind (cond x4 (
    Option.bind (p_film_alike_int N a0.gAlpha a1.gAlpha) fun r6 =>
    some r6) (
    some false)) fun y5 =>
  letO y5 fun x7 =>
  Option.bind (cond x7 (
    Option.bind (p_film_alike_int N a0.gDepth a1.gDepth) fun r9 =>
    some r9) (
    some false)) fun y8 =>
  letO y8 fun x10 =>
  Option.bind (cond x10 (
    Option.bind (p_film_alike_3_int N a0.gNormal a1.gNormal) fun r12 =>
    some r12) (
    some false)) fun y11 =>
  letO y11 fun x13 =>
  Option.bind (cond x13 (
    Option.bind (p_film_alike_int N a0.gAsset a1.gAsset) fun r15 =>
    some r15) (
    some false)) fun y14 =>
  letO y14 fun x16 =>
  Option.bind (cond x16 (
    Option.bind (p_film_alike_int N a0.gLabel a1.gLabel) fun r18 =>
    some r18) (
    some false)) fun y17 =>
  some y17

theorem film_Same_ok (N : Nat) (a0 : S_api_Image) (a1 : S_api_Image) (r : Bool) (h : p_film_Same N a0 a1 = some r) : Fn Try.prog 48 [(S_api_Image.enc a0), (S_api_Image.enc a1)] (eB r) := by
  unfold p_film_Same at h
  refine fn_of_awR (n := ⟨59, 0⟩) (rs := [.tmp 4]) hT Try.func48 rfl rfl (by kernel_rfl) rfl ?_
  refine (show aw _ _ _ _ ⟨[(0, some (none, (S_api_Image.enc a0))), (1, some (none, (S_api_Image.enc a1)))], []⟩ from ?_)
  refine aw_sreg ?_
  refine awl_runD hT (fun d => Nat.beq d 2 || Nat.beq d 3) [] 3 [2, 3] ⟨[(2, some (none, (.im (S_api_Image.enc a0)))), (3, some (none, (.im (S_api_Image.enc a1))))], []⟩ (by kernel_rfl) ?_
  refine awl_nil ?_
  refine aw_sreg ?_
  obtain ⟨x1, hx1, h⟩ := letO_ex h
  refine awl_runD hT (fun _ => false) [] 13 [2, 3, 17] ⟨[(2, some (none, (.im (S_api_Image.enc a0)))), (3, some (none, (.im (S_api_Image.enc a1)))), (17, some (none, (eB x1)))], []⟩ (by subst hx1; kernel_rfl) ?_
  obtain ⟨y2, h, gy2⟩ := obind h
  refine awl_take 6 (fun s => s = ⟨[(2, some (none, (.im (S_api_Image.enc a0)))), (3, some (none, (.im (S_api_Image.enc a1)))), (23, some (none, (eB y2)))], []⟩) ?_ ?_
  · refine boolC x1 (fun hc => ?_) (fun hc => ?_)
    · have h := cond_t hc h
      refine awl_runD hT (fun _ => false) [] 0 [2, 3, 17] ⟨[(2, some (none, (.im (S_api_Image.enc a0)))), (3, some (none, (.im (S_api_Image.enc a1)))), (17, some (none, (eB true)))], []⟩ (by subst hc; kernel_rfl) ?_
      refine awl_runD hT (fun _ => false) [17] 4 [2, 3, 17, 19, 21] ⟨[(2, some (none, (.im (S_api_Image.enc a0)))), (3, some (none, (.im (S_api_Image.enc a1)))), (17, some (none, (eB true))), (19, some (none, (eL 3 (eA 3 1 (eI .i64)) a0.gBeauty))), (21, some (none, (eL 3 (eA 3 1 (eI .i64)) a1.gBeauty)))], []⟩ (by kernel_rfl) ?_
      obtain ⟨r3, hr3, h⟩ := obind h
      refine awl_op (by kernel_rfl) (owp_call (avs := [(eL 3 (eA 3 1 (eI .i64)) a0.gBeauty), (eL 3 (eA 3 1 (eI .i64)) a1.gBeauty)]) (pavs := [(eL 3 (eA 3 1 (eI .i64)) a0.gBeauty), (eL 3 (eA 3 1 (eI .i64)) a1.gBeauty)]) (ret := (eB r3)) rfl rfl (by kernel_rfl) (by kernel_rfl) film_alike_3_int_ok_c (pubL_cons ((eL_pub (eA_pub (fun _ => pub_v _))) a0.gBeauty) (pubL_cons ((eL_pub (eA_pub (fun _ => pub_v _))) a1.gBeauty) pubL_nil)) (film_alike_3_int_ok N a0.gBeauty a1.gBeauty r3 hr3) (pub_v _)) ?_
      refine awl_runD hT (fun _ => false) [17] 1 [2, 3, 23] ⟨[(2, some (none, (.im (S_api_Image.enc a0)))), (3, some (none, (.im (S_api_Image.enc a1)))), (23, some (none, (eB r3)))], []⟩ (by kernel_rfl) ?_
      refine awl_nil ?_
      obtain rfl := Option.some.inj h
      exact rfl
    · have h := cond_f hc h
      refine awl_runD hT (fun _ => false) [] 0 [2, 3, 17] ⟨[(2, some (none, (.im (S_api_Image.enc a0)))), (3, some (none, (.im (S_api_Image.enc a1)))), (17, some (none, (eB false)))], []⟩ (by subst hc; kernel_rfl) ?_
      refine awl_runD hT (fun _ => false) [17] 6 [2, 3, 23] ⟨[(2, some (none, (.im (S_api_Image.enc a0)))), (3, some (none, (.im (S_api_Image.enc a1)))), (23, some (none, (eB false)))], []⟩ (by kernel_rfl) ?_
      refine awl_nil ?_
      obtain rfl := Option.some.inj h
      exact rfl
  · rintro s rfl
    have h := gy2
    refine awl_runD hT (fun _ => false) [] 1 [2, 3, 24] ⟨[(2, some (none, (.im (S_api_Image.enc a0)))), (3, some (none, (.im (S_api_Image.enc a1)))), (24, some (none, (eB y2)))], []⟩ (by kernel_rfl) ?_
    obtain ⟨x4, hx4, h⟩ := letO_ex h
    refine awl_runD hT (fun _ => false) [] 0 [2, 3, 24] ⟨[(2, some (none, (.im (S_api_Image.enc a0)))), (3, some (none, (.im (S_api_Image.enc a1)))), (24, some (none, (eB x4)))], []⟩ (by subst hx4; kernel_rfl) ?_
    obtain ⟨y5, h, gy5⟩ := obind h
    refine awl_take 6 (fun s => s = ⟨[(2, some (none, (.im (S_api_Image.enc a0)))), (3, some (none, (.im (S_api_Image.enc a1)))), (30, some (none, (eB y5)))], []⟩) ?_ ?_
    · refine boolC x4 (fun hc => ?_) (fun hc => ?_)
      · have h := cond_t hc h
        refine awl_runD hT (fun _ => false) [] 0 [2, 3, 24] ⟨[(2, some (none, (.im (S_api_Image.enc a0)))), (3, some (none, (.im (S_api_Image.enc a1)))), (24, some (none, (eB true)))], []⟩ (by subst hc; kernel_rfl) ?_
        refine awl_runD hT (fun _ => false) [24] 4 [2, 3, 24, 26, 28] ⟨[(2, some (none, (.im (S_api_Image.enc a0)))), (3, some (none, (.im (S_api_Image.enc a1)))), (24, some (none, (eB true))), (26, some (none, (eL 1 (eI .i64) a0.gAlpha))), (28, some (none, (eL 1 (eI .i64) a1.gAlpha)))], []⟩ (by kernel_rfl) ?_
        obtain ⟨r6, hr6, h⟩ := obind h
        refine awl_op (by kernel_rfl) (owp_call (avs := [(eL 1 (eI .i64) a0.gAlpha), (eL 1 (eI .i64) a1.gAlpha)]) (pavs := [(eL 1 (eI .i64) a0.gAlpha), (eL 1 (eI .i64) a1.gAlpha)]) (ret := (eB r6)) rfl rfl (by kernel_rfl) (by kernel_rfl) film_alike_int_ok_c (pubL_cons ((eL_pub (fun _ => pub_v _)) a0.gAlpha) (pubL_cons ((eL_pub (fun _ => pub_v _)) a1.gAlpha) pubL_nil)) (film_alike_int_ok N a0.gAlpha a1.gAlpha r6 hr6) (pub_v _)) ?_
        refine awl_runD hT (fun _ => false) [24] 1 [2, 3, 30] ⟨[(2, some (none, (.im (S_api_Image.enc a0)))), (3, some (none, (.im (S_api_Image.enc a1)))), (30, some (none, (eB r6)))], []⟩ (by kernel_rfl) ?_
        refine awl_nil ?_
        obtain rfl := Option.some.inj h
        exact rfl
      · have h := cond_f hc h
        refine awl_runD hT (fun _ => false) [] 0 [2, 3, 24] ⟨[(2, some (none, (.im (S_api_Image.enc a0)))), (3, some (none, (.im (S_api_Image.enc a1)))), (24, some (none, (eB false)))], []⟩ (by subst hc; kernel_rfl) ?_
        refine awl_runD hT (fun _ => false) [24] 6 [2, 3, 30] ⟨[(2, some (none, (.im (S_api_Image.enc a0)))), (3, some (none, (.im (S_api_Image.enc a1)))), (30, some (none, (eB false)))], []⟩ (by kernel_rfl) ?_
        refine awl_nil ?_
        obtain rfl := Option.some.inj h
        exact rfl
    · rintro s rfl
      have h := gy5
      refine awl_runD hT (fun _ => false) [] 1 [2, 3, 31] ⟨[(2, some (none, (.im (S_api_Image.enc a0)))), (3, some (none, (.im (S_api_Image.enc a1)))), (31, some (none, (eB y5)))], []⟩ (by kernel_rfl) ?_
      obtain ⟨x7, hx7, h⟩ := letO_ex h
      refine awl_runD hT (fun _ => false) [] 0 [2, 3, 31] ⟨[(2, some (none, (.im (S_api_Image.enc a0)))), (3, some (none, (.im (S_api_Image.enc a1)))), (31, some (none, (eB x7)))], []⟩ (by subst hx7; kernel_rfl) ?_
      obtain ⟨y8, h, gy8⟩ := obind h
      refine awl_take 6 (fun s => s = ⟨[(2, some (none, (.im (S_api_Image.enc a0)))), (3, some (none, (.im (S_api_Image.enc a1)))), (37, some (none, (eB y8)))], []⟩) ?_ ?_
      · refine boolC x7 (fun hc => ?_) (fun hc => ?_)
        · have h := cond_t hc h
          refine awl_runD hT (fun _ => false) [] 0 [2, 3, 31] ⟨[(2, some (none, (.im (S_api_Image.enc a0)))), (3, some (none, (.im (S_api_Image.enc a1)))), (31, some (none, (eB true)))], []⟩ (by subst hc; kernel_rfl) ?_
          refine awl_runD hT (fun _ => false) [31] 4 [2, 3, 31, 33, 35] ⟨[(2, some (none, (.im (S_api_Image.enc a0)))), (3, some (none, (.im (S_api_Image.enc a1)))), (31, some (none, (eB true))), (33, some (none, (eL 1 (eI .i64) a0.gDepth))), (35, some (none, (eL 1 (eI .i64) a1.gDepth)))], []⟩ (by kernel_rfl) ?_
          obtain ⟨r9, hr9, h⟩ := obind h
          refine awl_op (by kernel_rfl) (owp_call (avs := [(eL 1 (eI .i64) a0.gDepth), (eL 1 (eI .i64) a1.gDepth)]) (pavs := [(eL 1 (eI .i64) a0.gDepth), (eL 1 (eI .i64) a1.gDepth)]) (ret := (eB r9)) rfl rfl (by kernel_rfl) (by kernel_rfl) film_alike_int_ok_c (pubL_cons ((eL_pub (fun _ => pub_v _)) a0.gDepth) (pubL_cons ((eL_pub (fun _ => pub_v _)) a1.gDepth) pubL_nil)) (film_alike_int_ok N a0.gDepth a1.gDepth r9 hr9) (pub_v _)) ?_
          refine awl_runD hT (fun _ => false) [31] 1 [2, 3, 37] ⟨[(2, some (none, (.im (S_api_Image.enc a0)))), (3, some (none, (.im (S_api_Image.enc a1)))), (37, some (none, (eB r9)))], []⟩ (by kernel_rfl) ?_
          refine awl_nil ?_
          obtain rfl := Option.some.inj h
          exact rfl
        · have h := cond_f hc h
          refine awl_runD hT (fun _ => false) [] 0 [2, 3, 31] ⟨[(2, some (none, (.im (S_api_Image.enc a0)))), (3, some (none, (.im (S_api_Image.enc a1)))), (31, some (none, (eB false)))], []⟩ (by subst hc; kernel_rfl) ?_
          refine awl_runD hT (fun _ => false) [31] 6 [2, 3, 37] ⟨[(2, some (none, (.im (S_api_Image.enc a0)))), (3, some (none, (.im (S_api_Image.enc a1)))), (37, some (none, (eB false)))], []⟩ (by kernel_rfl) ?_
          refine awl_nil ?_
          obtain rfl := Option.some.inj h
          exact rfl
      · rintro s rfl
        have h := gy8
        refine awl_runD hT (fun _ => false) [] 1 [2, 3, 38] ⟨[(2, some (none, (.im (S_api_Image.enc a0)))), (3, some (none, (.im (S_api_Image.enc a1)))), (38, some (none, (eB y8)))], []⟩ (by kernel_rfl) ?_
        obtain ⟨x10, hx10, h⟩ := letO_ex h
        refine awl_runD hT (fun _ => false) [] 0 [2, 3, 38] ⟨[(2, some (none, (.im (S_api_Image.enc a0)))), (3, some (none, (.im (S_api_Image.enc a1)))), (38, some (none, (eB x10)))], []⟩ (by subst hx10; kernel_rfl) ?_
        obtain ⟨y11, h, gy11⟩ := obind h
        refine awl_take 6 (fun s => s = ⟨[(2, some (none, (.im (S_api_Image.enc a0)))), (3, some (none, (.im (S_api_Image.enc a1)))), (44, some (none, (eB y11)))], []⟩) ?_ ?_
        · refine boolC x10 (fun hc => ?_) (fun hc => ?_)
          · have h := cond_t hc h
            refine awl_runD hT (fun _ => false) [] 0 [2, 3, 38] ⟨[(2, some (none, (.im (S_api_Image.enc a0)))), (3, some (none, (.im (S_api_Image.enc a1)))), (38, some (none, (eB true)))], []⟩ (by subst hc; kernel_rfl) ?_
            refine awl_runD hT (fun _ => false) [38] 4 [2, 3, 38, 40, 42] ⟨[(2, some (none, (.im (S_api_Image.enc a0)))), (3, some (none, (.im (S_api_Image.enc a1)))), (38, some (none, (eB true))), (40, some (none, (eL 3 (eA 3 1 (eI .i64)) a0.gNormal))), (42, some (none, (eL 3 (eA 3 1 (eI .i64)) a1.gNormal)))], []⟩ (by kernel_rfl) ?_
            obtain ⟨r12, hr12, h⟩ := obind h
            refine awl_op (by kernel_rfl) (owp_call (avs := [(eL 3 (eA 3 1 (eI .i64)) a0.gNormal), (eL 3 (eA 3 1 (eI .i64)) a1.gNormal)]) (pavs := [(eL 3 (eA 3 1 (eI .i64)) a0.gNormal), (eL 3 (eA 3 1 (eI .i64)) a1.gNormal)]) (ret := (eB r12)) rfl rfl (by kernel_rfl) (by kernel_rfl) film_alike_3_int_ok_c (pubL_cons ((eL_pub (eA_pub (fun _ => pub_v _))) a0.gNormal) (pubL_cons ((eL_pub (eA_pub (fun _ => pub_v _))) a1.gNormal) pubL_nil)) (film_alike_3_int_ok N a0.gNormal a1.gNormal r12 hr12) (pub_v _)) ?_
            refine awl_runD hT (fun _ => false) [38] 1 [2, 3, 44] ⟨[(2, some (none, (.im (S_api_Image.enc a0)))), (3, some (none, (.im (S_api_Image.enc a1)))), (44, some (none, (eB r12)))], []⟩ (by kernel_rfl) ?_
            refine awl_nil ?_
            obtain rfl := Option.some.inj h
            exact rfl
          · have h := cond_f hc h
            refine awl_runD hT (fun _ => false) [] 0 [2, 3, 38] ⟨[(2, some (none, (.im (S_api_Image.enc a0)))), (3, some (none, (.im (S_api_Image.enc a1)))), (38, some (none, (eB false)))], []⟩ (by subst hc; kernel_rfl) ?_
            refine awl_runD hT (fun _ => false) [38] 6 [2, 3, 44] ⟨[(2, some (none, (.im (S_api_Image.enc a0)))), (3, some (none, (.im (S_api_Image.enc a1)))), (44, some (none, (eB false)))], []⟩ (by kernel_rfl) ?_
            refine awl_nil ?_
            obtain rfl := Option.some.inj h
            exact rfl
        · rintro s rfl
          have h := gy11
          refine awl_runD hT (fun _ => false) [] 1 [2, 3, 45] ⟨[(2, some (none, (.im (S_api_Image.enc a0)))), (3, some (none, (.im (S_api_Image.enc a1)))), (45, some (none, (eB y11)))], []⟩ (by kernel_rfl) ?_
          obtain ⟨x13, hx13, h⟩ := letO_ex h
          refine awl_runD hT (fun _ => false) [] 0 [2, 3, 45] ⟨[(2, some (none, (.im (S_api_Image.enc a0)))), (3, some (none, (.im (S_api_Image.enc a1)))), (45, some (none, (eB x13)))], []⟩ (by subst hx13; kernel_rfl) ?_
          obtain ⟨y14, h, gy14⟩ := obind h
          refine awl_take 6 (fun s => s = ⟨[(2, some (none, (.im (S_api_Image.enc a0)))), (3, some (none, (.im (S_api_Image.enc a1)))), (51, some (none, (eB y14)))], []⟩) ?_ ?_
          · refine boolC x13 (fun hc => ?_) (fun hc => ?_)
            · have h := cond_t hc h
              refine awl_runD hT (fun _ => false) [] 0 [2, 3, 45] ⟨[(2, some (none, (.im (S_api_Image.enc a0)))), (3, some (none, (.im (S_api_Image.enc a1)))), (45, some (none, (eB true)))], []⟩ (by subst hc; kernel_rfl) ?_
              refine awl_runD hT (fun _ => false) [45] 4 [2, 3, 45, 47, 49] ⟨[(2, some (none, (.im (S_api_Image.enc a0)))), (3, some (none, (.im (S_api_Image.enc a1)))), (45, some (none, (eB true))), (47, some (none, (eL 1 (eI .i64) a0.gAsset))), (49, some (none, (eL 1 (eI .i64) a1.gAsset)))], []⟩ (by kernel_rfl) ?_
              obtain ⟨r15, hr15, h⟩ := obind h
              refine awl_op (by kernel_rfl) (owp_call (avs := [(eL 1 (eI .i64) a0.gAsset), (eL 1 (eI .i64) a1.gAsset)]) (pavs := [(eL 1 (eI .i64) a0.gAsset), (eL 1 (eI .i64) a1.gAsset)]) (ret := (eB r15)) rfl rfl (by kernel_rfl) (by kernel_rfl) film_alike_int_ok_c (pubL_cons ((eL_pub (fun _ => pub_v _)) a0.gAsset) (pubL_cons ((eL_pub (fun _ => pub_v _)) a1.gAsset) pubL_nil)) (film_alike_int_ok N a0.gAsset a1.gAsset r15 hr15) (pub_v _)) ?_
              refine awl_runD hT (fun _ => false) [45] 1 [2, 3, 51] ⟨[(2, some (none, (.im (S_api_Image.enc a0)))), (3, some (none, (.im (S_api_Image.enc a1)))), (51, some (none, (eB r15)))], []⟩ (by kernel_rfl) ?_
              refine awl_nil ?_
              obtain rfl := Option.some.inj h
              exact rfl
            · have h := cond_f hc h
              refine awl_runD hT (fun _ => false) [] 0 [2, 3, 45] ⟨[(2, some (none, (.im (S_api_Image.enc a0)))), (3, some (none, (.im (S_api_Image.enc a1)))), (45, some (none, (eB false)))], []⟩ (by subst hc; kernel_rfl) ?_
              refine awl_runD hT (fun _ => false) [45] 6 [2, 3, 51] ⟨[(2, some (none, (.im (S_api_Image.enc a0)))), (3, some (none, (.im (S_api_Image.enc a1)))), (51, some (none, (eB false)))], []⟩ (by kernel_rfl) ?_
              refine awl_nil ?_
              obtain rfl := Option.some.inj h
              exact rfl
          · rintro s rfl
            have h := gy14
            refine awl_runD hT (fun _ => false) [] 1 [2, 3, 52] ⟨[(2, some (none, (.im (S_api_Image.enc a0)))), (3, some (none, (.im (S_api_Image.enc a1)))), (52, some (none, (eB y14)))], []⟩ (by kernel_rfl) ?_
            obtain ⟨x16, hx16, h⟩ := letO_ex h
            refine awl_runD hT (fun _ => false) [] 0 [2, 3, 52] ⟨[(2, some (none, (.im (S_api_Image.enc a0)))), (3, some (none, (.im (S_api_Image.enc a1)))), (52, some (none, (eB x16)))], []⟩ (by subst hx16; kernel_rfl) ?_
            obtain ⟨y17, h, gy17⟩ := obind h
            refine awl_take 6 (fun s => s = ⟨[(58, some (none, (eB y17)))], []⟩) ?_ ?_
            · refine boolC x16 (fun hc => ?_) (fun hc => ?_)
              · have h := cond_t hc h
                refine awl_runD hT (fun _ => false) [] 0 [2, 3, 52] ⟨[(2, some (none, (.im (S_api_Image.enc a0)))), (3, some (none, (.im (S_api_Image.enc a1)))), (52, some (none, (eB true)))], []⟩ (by subst hc; kernel_rfl) ?_
                refine awl_runD hT (fun _ => false) [52] 4 [52, 54, 56] ⟨[(52, some (none, (eB true))), (54, some (none, (eL 1 (eI .i64) a0.gLabel))), (56, some (none, (eL 1 (eI .i64) a1.gLabel)))], []⟩ (by kernel_rfl) ?_
                obtain ⟨r18, hr18, h⟩ := obind h
                refine awl_op (by kernel_rfl) (owp_call (avs := [(eL 1 (eI .i64) a0.gLabel), (eL 1 (eI .i64) a1.gLabel)]) (pavs := [(eL 1 (eI .i64) a0.gLabel), (eL 1 (eI .i64) a1.gLabel)]) (ret := (eB r18)) rfl rfl (by kernel_rfl) (by kernel_rfl) film_alike_int_ok_c (pubL_cons ((eL_pub (fun _ => pub_v _)) a0.gLabel) (pubL_cons ((eL_pub (fun _ => pub_v _)) a1.gLabel) pubL_nil)) (film_alike_int_ok N a0.gLabel a1.gLabel r18 hr18) (pub_v _)) ?_
                refine awl_runD hT (fun _ => false) [52] 1 [58] ⟨[(58, some (none, (eB r18)))], []⟩ (by kernel_rfl) ?_
                refine awl_nil ?_
                obtain rfl := Option.some.inj h
                exact rfl
              · have h := cond_f hc h
                refine awl_runD hT (fun _ => false) [] 0 [2, 3, 52] ⟨[(2, some (none, (.im (S_api_Image.enc a0)))), (3, some (none, (.im (S_api_Image.enc a1)))), (52, some (none, (eB false)))], []⟩ (by subst hc; kernel_rfl) ?_
                refine awl_runD hT (fun _ => false) [52] 6 [58] ⟨[(58, some (none, (eB false)))], []⟩ (by kernel_rfl) ?_
                refine awl_nil ?_
                obtain rfl := Option.some.inj h
                exact rfl
            · rintro s rfl
              have h := gy17
              refine awl_runD hT (fun _ => false) [] 1 [4] ⟨[(4, some (none, (eB y17)))], []⟩ (by kernel_rfl) ?_
              refine awl_nil ?_
              refine aw_ret ?_
              obtain rfl := Option.some.inj h
              exact ⟨Or.inl rfl, [(eB y17)], by kernel_rfl, (pub_v _)⟩

theorem film_Same_ok_c : callable Try.prog 48 := ⟨_, Try.func48, by decide, rfl⟩

/-! umbra/umbraref29.threes -/
def p_umbraref29_threes_L1 (N : Nat) (a0 : (List (Vector Int 3))) (a1 : (List (Vector Int 3))) : Nat → Int → Option (Sum (Unit) (Bool))
  | 0, _ => none
  | k + 1, s5_4 =>
    letO (((List.map (eA 3 1 (eI .i64)) a0).length : Int)) fun x5 =>
    cond (decide (s5_4 < x5)) (
      Option.bind (idx a0 s5_4) fun e6 =>
      Option.bind (idx a1 s5_4) fun e7 =>
      letO (!((eqV (fun a b => a == b)) e6 e7)) fun x8 =>
      cond x8 (
        some (Sum.inr false)) (
        p_umbraref29_threes_L1 N a0 a1 k (I64 (s5_4 + 1)))) (
      some (Sum.inl (())))

def p_umbraref29_threes (N : Nat) (a0 : (List (Vector Int 3))) (a1 : (List (Vector Int 3))) : Option (Bool) :=
  letO (((List.map (eA 3 1 (eI .i64)) a0).length : Int)) fun x1 =>
  letO (((List.map (eA 3 1 (eI .i64)) a1).length : Int)) fun x2 =>
  cond (x1 != x2) (
    some false) (
    Option.bind (p_umbraref29_threes_L1 N a0 a1 N 0) fun o => sumC o (fun p1_3 =>
      some true) (fun r => some r))

theorem umbraref29_threes_ok (N : Nat) (a0 : (List (Vector Int 3))) (a1 : (List (Vector Int 3))) (r : Bool) (h : p_umbraref29_threes N a0 a1 = some r) : Fn Try.prog 102 [(eL 3 (eA 3 1 (eI .i64)) a0), (eL 3 (eA 3 1 (eI .i64)) a1)] (eB r) := by
  unfold p_umbraref29_threes at h
  refine fn_of_awR (n := ⟨26, 0⟩) (rs := [.tmp 4]) hT Try.func102 rfl rfl (by kernel_rfl) rfl ?_
  refine (show aw _ _ _ _ ⟨[(0, some (none, (eL 3 (eA 3 1 (eI .i64)) a0))), (1, some (none, (eL 3 (eA 3 1 (eI .i64)) a1)))], []⟩ from ?_)
  refine aw_sreg ?_
  refine awl_runD hT (fun _ => false) [] 1 [0, 1] ⟨[(0, some (none, (eL 3 (eA 3 1 (eI .i64)) a0))), (1, some (none, (eL 3 (eA 3 1 (eI .i64)) a1)))], []⟩ (by kernel_rfl) ?_
  refine awl_nil ?_
  refine aw_seq ?_
  refine aw_sreg ?_
  obtain ⟨x1, hx1, h⟩ := letO_ex h
  obtain ⟨x2, hx2, h⟩ := letO_ex h
  refine awl_runD hT (fun _ => false) [] 5 [0, 1, 10] ⟨[(0, some (none, (eL 3 (eA 3 1 (eI .i64)) a0))), (1, some (none, (eL 3 (eA 3 1 (eI .i64)) a1))), (10, some (none, (eB (x1 != x2))))], []⟩ (by subst hx2 hx1; kernel_rfl) ?_
  refine awl_nil ?_
  refine aw_cond (b := x1 != x2) (by kernel_rfl) (fun hc => ?_) (fun hc => ?_)
  · have h := cond_t hc h
    refine aw_sreg ?_
    refine awl_runD hT (fun _ => false) [] 1 [4] ⟨[(4, some (none, (eB false)))], []⟩ (by kernel_rfl) ?_
    refine awl_nil ?_
    refine aw_ret (tn_r ?_)
    obtain rfl := Option.some.inj h
    exact ⟨Or.inl rfl, [(eB false)], by kernel_rfl, (pub_v _)⟩
  · have h := cond_f hc h
    refine aw_skip (tn_n ?_)
    refine aw_seq ?_
    refine aw_sreg ?_
    refine awl_runD hT (fun _ => false) [] 1 [0, 1, 5] ⟨[(0, some (none, (eL 3 (eA 3 1 (eI .i64)) a0))), (1, some (none, (eL 3 (eA 3 1 (eI .i64)) a1))), (5, some (none, (eI .i64 0)))], []⟩ (by kernel_rfl) ?_
    refine awl_nil ?_
    obtain ⟨o_p1_3, h, gp1_3⟩ := obind h
    refine aw_joinK (fun s => ∃ p1_3, o_p1_3 = Sum.inl p1_3 ∧ s = ⟨[], []⟩) ?_ ?_
    · refine aw_block ?_
      refine aw_loop (fun k s => ∃ s5_4, p_umbraref29_threes_L1 N a0 a1 k s5_4 = some o_p1_3 ∧ s = ⟨[(0, some (none, (eL 3 (eA 3 1 (eI .i64)) a0))), (1, some (none, (eL 3 (eA 3 1 (eI .i64)) a1))), (5, some (none, (eI .i64 s5_4)))], []⟩) (fun k s hI => ?_) N _ ⟨_, h, rfl⟩
      obtain ⟨s5_4, h, rfl⟩ := hI
      cases k with
      | zero => cases h
      | succ k =>
        refine aw_seq ?_
        refine aw_sreg ?_
        obtain ⟨x5, hx5, h⟩ := letO_ex h
        refine awl_runD hT (fun _ => false) [] 4 [0, 1, 5, 14] ⟨[(0, some (none, (eL 3 (eA 3 1 (eI .i64)) a0))), (1, some (none, (eL 3 (eA 3 1 (eI .i64)) a1))), (5, some (none, (eI .i64 s5_4))), (14, some (none, (eB (decide (s5_4 < x5)))))], []⟩ (by subst hx5; kernel_rfl) ?_
        refine awl_nil ?_
        refine aw_cond (b := decide (s5_4 < x5)) (by kernel_rfl) (fun hc => ?_) (fun hc => ?_)
        · have h := cond_t hc h
          refine aw_skip (tn_n ?_)
          refine aw_seq ?_
          refine aw_block ?_
          obtain ⟨e6, he6, h⟩ := obind h
          obtain ⟨e7, he7, h⟩ := obind h
          refine aw_sdraw (by rfl) [⟨[0], 17, (none, (eL 3 (eA 3 1 (eI .i64)) a0))⟩, ⟨[5], 18, (none, (eI .i64 s5_4))⟩, ⟨[17, 18], 19, (none, (.im (eA 3 1 (eI .i64) e6)))⟩, ⟨[19], 20, (none, (eA 3 1 (eI .i64) e6))⟩, ⟨[1], 21, (none, (eL 3 (eA 3 1 (eI .i64)) a1))⟩, ⟨[5], 22, (none, (eI .i64 s5_4))⟩, ⟨[21, 22], 23, (none, (.im (eA 3 1 (eI .i64) e7)))⟩, ⟨[23], 24, (none, (eA 3 1 (eI .i64) e7))⟩] [0, 1, 5] [0, 1, 5, 20, 24] (none) (B := [(0, some (none, (eL 3 (eA 3 1 (eI .i64)) a0))), (1, some (none, (eL 3 (eA 3 1 (eI .i64)) a1))), (5, some (none, (eI .i64 s5_4)))]) (st' := ⟨[(0, some (none, (eL 3 (eA 3 1 (eI .i64)) a0))), (1, some (none, (eL 3 (eA 3 1 (eI .i64)) a1))), (5, some (none, (eI .i64 s5_4))), (20, some (none, (eA 3 1 (eI .i64) e6))), (24, some (none, (eA 3 1 (eI .i64) e7)))], []⟩) (by kernel_rfl) (by kernel_rfl) (stab_all ⟨stab_ev hT (need := [(0, some (none, (eL 3 (eA 3 1 (eI .i64)) a0)))]) rfl rfl (by kernel_rfl) (by kernel_rfl) rfl rfl (by kernel_rfl) (by kernel_rfl), stab_ev hT (need := [(5, some (none, (eI .i64 s5_4)))]) rfl rfl (by kernel_rfl) (by kernel_rfl) rfl rfl (by kernel_rfl) (by kernel_rfl), stab_owp (need := [(17, some (none, (eL 3 (eA 3 1 (eI .i64)) a0))), (18, some (none, (eI .i64 s5_4)))]) rfl rfl (by kernel_rfl) (by kernel_rfl) rfl (fun env H' hs => (owp_index hT (kk := .i64) (v := (eL 3 (eA 3 1 (eI .i64)) a0)) (es := List.map (eA 3 1 (eI .i64)) a0) (i := s5_4) rfl rfl (by kernel_rfl) tt71 tt140 (sub_opd hs (by kernel_rfl)) rfl rfl (sub_opd hs (by kernel_rfl)) (idx_0 he6) (idx_x (eA 3 1 (eI .i64)) he6))), stab_ev hT (need := [(19, some (none, (.im (eA 3 1 (eI .i64) e6))))]) rfl rfl (by kernel_rfl) (by kernel_rfl) rfl rfl (by kernel_rfl) (by kernel_rfl), stab_ev hT (need := [(1, some (none, (eL 3 (eA 3 1 (eI .i64)) a1)))]) rfl rfl (by kernel_rfl) (by kernel_rfl) rfl rfl (by kernel_rfl) (by kernel_rfl), stab_ev hT (need := [(5, some (none, (eI .i64 s5_4)))]) rfl rfl (by kernel_rfl) (by kernel_rfl) rfl rfl (by kernel_rfl) (by kernel_rfl), stab_owp (need := [(21, some (none, (eL 3 (eA 3 1 (eI .i64)) a1))), (22, some (none, (eI .i64 s5_4)))]) rfl rfl (by kernel_rfl) (by kernel_rfl) rfl (fun env H' hs => (owp_index hT (kk := .i64) (v := (eL 3 (eA 3 1 (eI .i64)) a1)) (es := List.map (eA 3 1 (eI .i64)) a1) (i := s5_4) rfl rfl (by kernel_rfl) tt71 tt140 (sub_opd hs (by kernel_rfl)) rfl rfl (sub_opd hs (by kernel_rfl)) (idx_0 he7) (idx_x (eA 3 1 (eI .i64)) he7))), stab_ev hT (need := [(23, some (none, (.im (eA 3 1 (eI .i64) e7))))]) rfl rfl (by kernel_rfl) (by kernel_rfl) rfl rfl (by kernel_rfl) (by kernel_rfl), trivial⟩) (by kernel_rfl) ?_
          obtain ⟨x8, hx8, h⟩ := letO_ex h
          refine awl_op (by kernel_rfl) (show owp _ _ _ _ ⟨Env.set _ 25 (none, eB x8), _⟩ from by subst hx8; exact owp_neq (f := (eA 3 1 (eI .i64))) (eq := (eqV (fun a b => a == b))) (a := e6) (b := e7) rfl rfl (by kernel_rfl) (by kernel_rfl) (by kernel_rfl) eqT_140 (by kernel_rfl) (by kernel_rfl) (fun _ => rfl) (fun _ => rfl)) ?_
          refine awl_runD hT (fun _ => false) [] 0 [0, 1, 5, 25] ⟨[(0, some (none, (eL 3 (eA 3 1 (eI .i64)) a0))), (1, some (none, (eL 3 (eA 3 1 (eI .i64)) a1))), (5, some (none, (eI .i64 s5_4))), (25, some (none, (eB x8)))], []⟩ (by kernel_rfl) ?_
          refine awl_nil ?_
          refine aw_cond (b := x8) (by kernel_rfl) (fun hc => ?_) (fun hc => ?_)
          · have h := cond_t hc h
            refine aw_sreg ?_
            refine awl_runD hT (fun _ => false) [] 1 [4] ⟨[(4, some (none, (eB false)))], []⟩ (by kernel_rfl) ?_
            refine awl_nil ?_
            obtain rfl := Option.some.inj h
            have h := gp1_3
            refine aw_ret (inB_r (tn_r (tn_r (inB_r (tn_r (tn_r ?_))))))
            obtain rfl := Option.some.inj h
            exact ⟨Or.inl rfl, [(eB false)], by kernel_rfl, (pub_v _)⟩
          · have h := cond_f hc h
            refine aw_skip (inB_n (tn_n ?_))
            refine aw_region ?_
            refine awl_runD hT (fun _ => false) [] 3 [0, 1, 5] ⟨[(0, some (none, (eL 3 (eA 3 1 (eI .i64)) a0))), (1, some (none, (eL 3 (eA 3 1 (eI .i64)) a1))), (5, some (none, (eI .i64 (I64 (s5_4 + 1)))))], []⟩ (by kernel_rfl) ?_
            refine awl_nil (tn_n ?_)
            exact ⟨k, Nat.lt_succ_self k, _, h, rfl⟩
        · have h := cond_f hc h
          refine aw_conv (env' := []) (H' := []) (by kernel_rfl) trivial envT_nil ?_
          refine aw_exit (tn_x (tn_x (inB_e (tn_n ?_))))
          obtain rfl := Option.some.inj h
          exact ⟨_, rfl, rfl⟩
    · rintro s ⟨p1_3, rfl, rfl⟩
      have h := gp1_3
      refine (tn_n ?_)
      refine aw_sreg ?_
      refine awl_runD hT (fun _ => false) [] 1 [4] ⟨[(4, some (none, (eB true)))], []⟩ (by kernel_rfl) ?_
      refine awl_nil ?_
      refine aw_ret ?_
      obtain rfl := Option.some.inj h
      exact ⟨Or.inl rfl, [(eB true)], by kernel_rfl, (pub_v _)⟩

theorem umbraref29_threes_ok_c : callable Try.prog 102 := ⟨_, Try.func102, by decide, rfl⟩

/-! umbra/umbraref29.Ints -/
def p_umbraref29_Ints_L1 (N : Nat) (a0 : (List Int)) (a1 : (List Int)) : Nat → Int → Option (Sum (Unit) (Bool))
  | 0, _ => none
  | k + 1, s5_4 =>
    letO (((List.map (eI .i64) a0).length : Int)) fun x5 =>
    cond (decide (s5_4 < x5)) (
      Option.bind (idx a0 s5_4) fun e6 =>
      Option.bind (idx a1 s5_4) fun e7 =>
      cond (e6 != e7) (
        some (Sum.inr false)) (
        p_umbraref29_Ints_L1 N a0 a1 k (I64 (s5_4 + 1)))) (
      some (Sum.inl (())))

def p_umbraref29_Ints (N : Nat) (a0 : (List Int)) (a1 : (List Int)) : Option (Bool) :=
  letO (((List.map (eI .i64) a0).length : Int)) fun x1 =>
  letO (((List.map (eI .i64) a1).length : Int)) fun x2 =>
  cond (x1 != x2) (
    some false) (
    Option.bind (p_umbraref29_Ints_L1 N a0 a1 N 0) fun o => sumC o (fun p1_3 =>
      some true) (fun r => some r))

theorem umbraref29_Ints_ok (N : Nat) (a0 : (List Int)) (a1 : (List Int)) (r : Bool) (h : p_umbraref29_Ints N a0 a1 = some r) : Fn Try.prog 67 [(eL 1 (eI .i64) a0), (eL 1 (eI .i64) a1)] (eB r) := by
  unfold p_umbraref29_Ints at h
  refine fn_of_awR (n := ⟨26, 0⟩) (rs := [.tmp 4]) hT Try.func67 rfl rfl (by kernel_rfl) rfl ?_
  refine (show aw _ _ _ _ ⟨[(0, some (none, (eL 1 (eI .i64) a0))), (1, some (none, (eL 1 (eI .i64) a1)))], []⟩ from ?_)
  refine aw_sreg ?_
  refine awl_runD hT (fun _ => false) [] 1 [0, 1] ⟨[(0, some (none, (eL 1 (eI .i64) a0))), (1, some (none, (eL 1 (eI .i64) a1)))], []⟩ (by kernel_rfl) ?_
  refine awl_nil ?_
  refine aw_seq ?_
  refine aw_sreg ?_
  obtain ⟨x1, hx1, h⟩ := letO_ex h
  obtain ⟨x2, hx2, h⟩ := letO_ex h
  refine awl_runD hT (fun _ => false) [] 5 [0, 1, 10] ⟨[(0, some (none, (eL 1 (eI .i64) a0))), (1, some (none, (eL 1 (eI .i64) a1))), (10, some (none, (eB (x1 != x2))))], []⟩ (by subst hx2 hx1; kernel_rfl) ?_
  refine awl_nil ?_
  refine aw_cond (b := x1 != x2) (by kernel_rfl) (fun hc => ?_) (fun hc => ?_)
  · have h := cond_t hc h
    refine aw_sreg ?_
    refine awl_runD hT (fun _ => false) [] 1 [4] ⟨[(4, some (none, (eB false)))], []⟩ (by kernel_rfl) ?_
    refine awl_nil ?_
    refine aw_ret (tn_r ?_)
    obtain rfl := Option.some.inj h
    exact ⟨Or.inl rfl, [(eB false)], by kernel_rfl, (pub_v _)⟩
  · have h := cond_f hc h
    refine aw_skip (tn_n ?_)
    refine aw_seq ?_
    refine aw_sreg ?_
    refine awl_runD hT (fun _ => false) [] 1 [0, 1, 5] ⟨[(0, some (none, (eL 1 (eI .i64) a0))), (1, some (none, (eL 1 (eI .i64) a1))), (5, some (none, (eI .i64 0)))], []⟩ (by kernel_rfl) ?_
    refine awl_nil ?_
    obtain ⟨o_p1_3, h, gp1_3⟩ := obind h
    refine aw_joinK (fun s => ∃ p1_3, o_p1_3 = Sum.inl p1_3 ∧ s = ⟨[], []⟩) ?_ ?_
    · refine aw_block ?_
      refine aw_loop (fun k s => ∃ s5_4, p_umbraref29_Ints_L1 N a0 a1 k s5_4 = some o_p1_3 ∧ s = ⟨[(0, some (none, (eL 1 (eI .i64) a0))), (1, some (none, (eL 1 (eI .i64) a1))), (5, some (none, (eI .i64 s5_4)))], []⟩) (fun k s hI => ?_) N _ ⟨_, h, rfl⟩
      obtain ⟨s5_4, h, rfl⟩ := hI
      cases k with
      | zero => cases h
      | succ k =>
        refine aw_seq ?_
        refine aw_sreg ?_
        obtain ⟨x5, hx5, h⟩ := letO_ex h
        refine awl_runD hT (fun _ => false) [] 4 [0, 1, 5, 14] ⟨[(0, some (none, (eL 1 (eI .i64) a0))), (1, some (none, (eL 1 (eI .i64) a1))), (5, some (none, (eI .i64 s5_4))), (14, some (none, (eB (decide (s5_4 < x5)))))], []⟩ (by subst hx5; kernel_rfl) ?_
        refine awl_nil ?_
        refine aw_cond (b := decide (s5_4 < x5)) (by kernel_rfl) (fun hc => ?_) (fun hc => ?_)
        · have h := cond_t hc h
          refine aw_skip (tn_n ?_)
          refine aw_seq ?_
          refine aw_block ?_
          obtain ⟨e6, he6, h⟩ := obind h
          obtain ⟨e7, he7, h⟩ := obind h
          refine aw_sdraw (by rfl) [⟨[0], 17, (none, (eL 1 (eI .i64) a0))⟩, ⟨[5], 18, (none, (eI .i64 s5_4))⟩, ⟨[17, 18], 19, (none, (.im (eI .i64 e6)))⟩, ⟨[19], 20, (none, (eI .i64 e6))⟩, ⟨[1], 21, (none, (eL 1 (eI .i64) a1))⟩, ⟨[5], 22, (none, (eI .i64 s5_4))⟩, ⟨[21, 22], 23, (none, (.im (eI .i64 e7)))⟩, ⟨[23], 24, (none, (eI .i64 e7))⟩] [0, 1, 5] [0, 1, 5, 20, 24] (none) (B := [(0, some (none, (eL 1 (eI .i64) a0))), (1, some (none, (eL 1 (eI .i64) a1))), (5, some (none, (eI .i64 s5_4)))]) (st' := ⟨[(0, some (none, (eL 1 (eI .i64) a0))), (1, some (none, (eL 1 (eI .i64) a1))), (5, some (none, (eI .i64 s5_4))), (20, some (none, (eI .i64 e6))), (24, some (none, (eI .i64 e7)))], []⟩) (by kernel_rfl) (by kernel_rfl) (stab_all ⟨stab_ev hT (need := [(0, some (none, (eL 1 (eI .i64) a0)))]) rfl rfl (by kernel_rfl) (by kernel_rfl) rfl rfl (by kernel_rfl) (by kernel_rfl), stab_ev hT (need := [(5, some (none, (eI .i64 s5_4)))]) rfl rfl (by kernel_rfl) (by kernel_rfl) rfl rfl (by kernel_rfl) (by kernel_rfl), stab_owp (need := [(17, some (none, (eL 1 (eI .i64) a0))), (18, some (none, (eI .i64 s5_4)))]) rfl rfl (by kernel_rfl) (by kernel_rfl) rfl (fun env H' hs => (owp_index hT (kk := .i64) (v := (eL 1 (eI .i64) a0)) (es := List.map (eI .i64) a0) (i := s5_4) rfl rfl (by kernel_rfl) tt31 tt3 (sub_opd hs (by kernel_rfl)) rfl rfl (sub_opd hs (by kernel_rfl)) (idx_0 he6) (idx_x (eI .i64) he6))), stab_ev hT (need := [(19, some (none, (.im (eI .i64 e6))))]) rfl rfl (by kernel_rfl) (by kernel_rfl) rfl rfl (by kernel_rfl) (by kernel_rfl), stab_ev hT (need := [(1, some (none, (eL 1 (eI .i64) a1)))]) rfl rfl (by kernel_rfl) (by kernel_rfl) rfl rfl (by kernel_rfl) (by kernel_rfl), stab_ev hT (need := [(5, some (none, (eI .i64 s5_4)))]) rfl rfl (by kernel_rfl) (by kernel_rfl) rfl rfl (by kernel_rfl) (by kernel_rfl), stab_owp (need := [(21, some (none, (eL 1 (eI .i64) a1))), (22, some (none, (eI .i64 s5_4)))]) rfl rfl (by kernel_rfl) (by kernel_rfl) rfl (fun env H' hs => (owp_index hT (kk := .i64) (v := (eL 1 (eI .i64) a1)) (es := List.map (eI .i64) a1) (i := s5_4) rfl rfl (by kernel_rfl) tt31 tt3 (sub_opd hs (by kernel_rfl)) rfl rfl (sub_opd hs (by kernel_rfl)) (idx_0 he7) (idx_x (eI .i64) he7))), stab_ev hT (need := [(23, some (none, (.im (eI .i64 e7))))]) rfl rfl (by kernel_rfl) (by kernel_rfl) rfl rfl (by kernel_rfl) (by kernel_rfl), trivial⟩) (by kernel_rfl) ?_
          refine awl_runD hT (fun _ => false) [] 1 [0, 1, 5, 25] ⟨[(0, some (none, (eL 1 (eI .i64) a0))), (1, some (none, (eL 1 (eI .i64) a1))), (5, some (none, (eI .i64 s5_4))), (25, some (none, (eB (e6 != e7))))], []⟩ (by kernel_rfl) ?_
          refine awl_nil ?_
          refine aw_cond (b := e6 != e7) (by kernel_rfl) (fun hc => ?_) (fun hc => ?_)
          · have h := cond_t hc h
            refine aw_sreg ?_
            refine awl_runD hT (fun _ => false) [] 1 [4] ⟨[(4, some (none, (eB false)))], []⟩ (by kernel_rfl) ?_
            refine awl_nil ?_
            obtain rfl := Option.some.inj h
            have h := gp1_3
            refine aw_ret (inB_r (tn_r (tn_r (inB_r (tn_r (tn_r ?_))))))
            obtain rfl := Option.some.inj h
            exact ⟨Or.inl rfl, [(eB false)], by kernel_rfl, (pub_v _)⟩
          · have h := cond_f hc h
            refine aw_skip (inB_n (tn_n ?_))
            refine aw_region ?_
            refine awl_runD hT (fun _ => false) [] 3 [0, 1, 5] ⟨[(0, some (none, (eL 1 (eI .i64) a0))), (1, some (none, (eL 1 (eI .i64) a1))), (5, some (none, (eI .i64 (I64 (s5_4 + 1)))))], []⟩ (by kernel_rfl) ?_
            refine awl_nil (tn_n ?_)
            exact ⟨k, Nat.lt_succ_self k, _, h, rfl⟩
        · have h := cond_f hc h
          refine aw_conv (env' := []) (H' := []) (by kernel_rfl) trivial envT_nil ?_
          refine aw_exit (tn_x (tn_x (inB_e (tn_n ?_))))
          obtain rfl := Option.some.inj h
          exact ⟨_, rfl, rfl⟩
    · rintro s ⟨p1_3, rfl, rfl⟩
      have h := gp1_3
      refine (tn_n ?_)
      refine aw_sreg ?_
      refine awl_runD hT (fun _ => false) [] 1 [4] ⟨[(4, some (none, (eB true)))], []⟩ (by kernel_rfl) ?_
      refine awl_nil ?_
      refine aw_ret ?_
      obtain rfl := Option.some.inj h
      exact ⟨Or.inl rfl, [(eB true)], by kernel_rfl, (pub_v _)⟩

theorem umbraref29_Ints_ok_c : callable Try.prog 67 := ⟨_, Try.func67, by decide, rfl⟩

/-! umbra/umbraref29.Same -/
def p_umbraref29_Same (N : Nat) (a0 : S_api_Image) (a1 : S_api_Image) : Option (Bool) :=
  letO (cond (a0.gW == a1.gW) (a0.gH == a1.gH) false) fun x1 =>
  Option.bind (cond x1 (
    Option.bind (p_umbraref29_threes N a0.gBeauty a1.gBeauty) fun r3 =>
    some r3) (
    some false)) fun y2 =>
  letO y2 fun x4 =>
  Option.bind (cond x4 (
    Option.bind (p_umbraref29_threes N a0.gNormal a1.gNormal) fun r6 =>
    some r6) (
    some false)) fun y5 =>
  letO y5 fun x7 =>
  Option.bind (cond x7 (
    Option.bind (p_umbraref29_Ints N a0.gAlpha a1.gAlpha) fun r9 =>
    some r9) (
    some false)) fun y8 =>
  letO y8 fun x10 =>
  Option.bind (cond x10 (
    Option.bind (p_umbraref29_Ints N a0.gDepth a1.gDepth) fun r12 =>
    some r12) (
    some false)) fun y11 =>
  letO y11 fun x13 =>
  Option.bind (cond x13 (
    Option.bind (p_umbraref29_Ints N a0.gAsset a1.gAsset) fun r15 =>
    some r15) (
    some false)) fun y14 =>
  letO y14 fun x16 =>
  Option.bind (cond x16 (
    Option.bind (p_umbraref29_Ints N a0.gLabel a1.gLabel) fun r18 =>
    some r18) (
    some false)) fun y17 =>
  some y17

theorem umbraref29_Same_ok (N : Nat) (a0 : S_api_Image) (a1 : S_api_Image) (r : Bool) (h : p_umbraref29_Same N a0 a1 = some r) : Fn Try.prog 49 [(S_api_Image.enc a0), (S_api_Image.enc a1)] (eB r) := by
  unfold p_umbraref29_Same at h
  refine fn_of_awR (n := ⟨59, 0⟩) (rs := [.tmp 4]) hT Try.func49 rfl rfl (by kernel_rfl) rfl ?_
  refine (show aw _ _ _ _ ⟨[(0, some (none, (S_api_Image.enc a0))), (1, some (none, (S_api_Image.enc a1)))], []⟩ from ?_)
  refine aw_sreg ?_
  refine awl_runD hT (fun d => Nat.beq d 2 || Nat.beq d 3) [] 3 [2, 3] ⟨[(2, some (none, (.im (S_api_Image.enc a0)))), (3, some (none, (.im (S_api_Image.enc a1))))], []⟩ (by kernel_rfl) ?_
  refine awl_nil ?_
  refine aw_sreg ?_
  obtain ⟨x1, hx1, h⟩ := letO_ex h
  refine awl_runD hT (fun _ => false) [] 13 [2, 3, 17] ⟨[(2, some (none, (.im (S_api_Image.enc a0)))), (3, some (none, (.im (S_api_Image.enc a1)))), (17, some (none, (eB x1)))], []⟩ (by subst hx1; kernel_rfl) ?_
  obtain ⟨y2, h, gy2⟩ := obind h
  refine awl_take 6 (fun s => s = ⟨[(2, some (none, (.im (S_api_Image.enc a0)))), (3, some (none, (.im (S_api_Image.enc a1)))), (23, some (none, (eB y2)))], []⟩) ?_ ?_
  · refine boolC x1 (fun hc => ?_) (fun hc => ?_)
    · have h := cond_t hc h
      refine awl_runD hT (fun _ => false) [] 0 [2, 3, 17] ⟨[(2, some (none, (.im (S_api_Image.enc a0)))), (3, some (none, (.im (S_api_Image.enc a1)))), (17, some (none, (eB true)))], []⟩ (by subst hc; kernel_rfl) ?_
      refine awl_runD hT (fun _ => false) [17] 4 [2, 3, 17, 19, 21] ⟨[(2, some (none, (.im (S_api_Image.enc a0)))), (3, some (none, (.im (S_api_Image.enc a1)))), (17, some (none, (eB true))), (19, some (none, (eL 3 (eA 3 1 (eI .i64)) a0.gBeauty))), (21, some (none, (eL 3 (eA 3 1 (eI .i64)) a1.gBeauty)))], []⟩ (by kernel_rfl) ?_
      obtain ⟨r3, hr3, h⟩ := obind h
      refine awl_op (by kernel_rfl) (owp_call (avs := [(eL 3 (eA 3 1 (eI .i64)) a0.gBeauty), (eL 3 (eA 3 1 (eI .i64)) a1.gBeauty)]) (pavs := [(eL 3 (eA 3 1 (eI .i64)) a0.gBeauty), (eL 3 (eA 3 1 (eI .i64)) a1.gBeauty)]) (ret := (eB r3)) rfl rfl (by kernel_rfl) (by kernel_rfl) umbraref29_threes_ok_c (pubL_cons ((eL_pub (eA_pub (fun _ => pub_v _))) a0.gBeauty) (pubL_cons ((eL_pub (eA_pub (fun _ => pub_v _))) a1.gBeauty) pubL_nil)) (umbraref29_threes_ok N a0.gBeauty a1.gBeauty r3 hr3) (pub_v _)) ?_
      refine awl_runD hT (fun _ => false) [17] 1 [2, 3, 23] ⟨[(2, some (none, (.im (S_api_Image.enc a0)))), (3, some (none, (.im (S_api_Image.enc a1)))), (23, some (none, (eB r3)))], []⟩ (by kernel_rfl) ?_
      refine awl_nil ?_
      obtain rfl := Option.some.inj h
      exact rfl
    · have h := cond_f hc h
      refine awl_runD hT (fun _ => false) [] 0 [2, 3, 17] ⟨[(2, some (none, (.im (S_api_Image.enc a0)))), (3, some (none, (.im (S_api_Image.enc a1)))), (17, some (none, (eB false)))], []⟩ (by subst hc; kernel_rfl) ?_
      refine awl_runD hT (fun _ => false) [17] 6 [2, 3, 23] ⟨[(2, some (none, (.im (S_api_Image.enc a0)))), (3, some (none, (.im (S_api_Image.enc a1)))), (23, some (none, (eB false)))], []⟩ (by kernel_rfl) ?_
      refine awl_nil ?_
      obtain rfl := Option.some.inj h
      exact rfl
  · rintro s rfl
    have h := gy2
    refine awl_runD hT (fun _ => false) [] 1 [2, 3, 24] ⟨[(2, some (none, (.im (S_api_Image.enc a0)))), (3, some (none, (.im (S_api_Image.enc a1)))), (24, some (none, (eB y2)))], []⟩ (by kernel_rfl) ?_
    obtain ⟨x4, hx4, h⟩ := letO_ex h
    refine awl_runD hT (fun _ => false) [] 0 [2, 3, 24] ⟨[(2, some (none, (.im (S_api_Image.enc a0)))), (3, some (none, (.im (S_api_Image.enc a1)))), (24, some (none, (eB x4)))], []⟩ (by subst hx4; kernel_rfl) ?_
    obtain ⟨y5, h, gy5⟩ := obind h
    refine awl_take 6 (fun s => s = ⟨[(2, some (none, (.im (S_api_Image.enc a0)))), (3, some (none, (.im (S_api_Image.enc a1)))), (30, some (none, (eB y5)))], []⟩) ?_ ?_
    · refine boolC x4 (fun hc => ?_) (fun hc => ?_)
      · have h := cond_t hc h
        refine awl_runD hT (fun _ => false) [] 0 [2, 3, 24] ⟨[(2, some (none, (.im (S_api_Image.enc a0)))), (3, some (none, (.im (S_api_Image.enc a1)))), (24, some (none, (eB true)))], []⟩ (by subst hc; kernel_rfl) ?_
        refine awl_runD hT (fun _ => false) [24] 4 [2, 3, 24, 26, 28] ⟨[(2, some (none, (.im (S_api_Image.enc a0)))), (3, some (none, (.im (S_api_Image.enc a1)))), (24, some (none, (eB true))), (26, some (none, (eL 3 (eA 3 1 (eI .i64)) a0.gNormal))), (28, some (none, (eL 3 (eA 3 1 (eI .i64)) a1.gNormal)))], []⟩ (by kernel_rfl) ?_
        obtain ⟨r6, hr6, h⟩ := obind h
        refine awl_op (by kernel_rfl) (owp_call (avs := [(eL 3 (eA 3 1 (eI .i64)) a0.gNormal), (eL 3 (eA 3 1 (eI .i64)) a1.gNormal)]) (pavs := [(eL 3 (eA 3 1 (eI .i64)) a0.gNormal), (eL 3 (eA 3 1 (eI .i64)) a1.gNormal)]) (ret := (eB r6)) rfl rfl (by kernel_rfl) (by kernel_rfl) umbraref29_threes_ok_c (pubL_cons ((eL_pub (eA_pub (fun _ => pub_v _))) a0.gNormal) (pubL_cons ((eL_pub (eA_pub (fun _ => pub_v _))) a1.gNormal) pubL_nil)) (umbraref29_threes_ok N a0.gNormal a1.gNormal r6 hr6) (pub_v _)) ?_
        refine awl_runD hT (fun _ => false) [24] 1 [2, 3, 30] ⟨[(2, some (none, (.im (S_api_Image.enc a0)))), (3, some (none, (.im (S_api_Image.enc a1)))), (30, some (none, (eB r6)))], []⟩ (by kernel_rfl) ?_
        refine awl_nil ?_
        obtain rfl := Option.some.inj h
        exact rfl
      · have h := cond_f hc h
        refine awl_runD hT (fun _ => false) [] 0 [2, 3, 24] ⟨[(2, some (none, (.im (S_api_Image.enc a0)))), (3, some (none, (.im (S_api_Image.enc a1)))), (24, some (none, (eB false)))], []⟩ (by subst hc; kernel_rfl) ?_
        refine awl_runD hT (fun _ => false) [24] 6 [2, 3, 30] ⟨[(2, some (none, (.im (S_api_Image.enc a0)))), (3, some (none, (.im (S_api_Image.enc a1)))), (30, some (none, (eB false)))], []⟩ (by kernel_rfl) ?_
        refine awl_nil ?_
        obtain rfl := Option.some.inj h
        exact rfl
    · rintro s rfl
      have h := gy5
      refine awl_runD hT (fun _ => false) [] 1 [2, 3, 31] ⟨[(2, some (none, (.im (S_api_Image.enc a0)))), (3, some (none, (.im (S_api_Image.enc a1)))), (31, some (none, (eB y5)))], []⟩ (by kernel_rfl) ?_
      obtain ⟨x7, hx7, h⟩ := letO_ex h
      refine awl_runD hT (fun _ => false) [] 0 [2, 3, 31] ⟨[(2, some (none, (.im (S_api_Image.enc a0)))), (3, some (none, (.im (S_api_Image.enc a1)))), (31, some (none, (eB x7)))], []⟩ (by subst hx7; kernel_rfl) ?_
      obtain ⟨y8, h, gy8⟩ := obind h
      refine awl_take 6 (fun s => s = ⟨[(2, some (none, (.im (S_api_Image.enc a0)))), (3, some (none, (.im (S_api_Image.enc a1)))), (37, some (none, (eB y8)))], []⟩) ?_ ?_
      · refine boolC x7 (fun hc => ?_) (fun hc => ?_)
        · have h := cond_t hc h
          refine awl_runD hT (fun _ => false) [] 0 [2, 3, 31] ⟨[(2, some (none, (.im (S_api_Image.enc a0)))), (3, some (none, (.im (S_api_Image.enc a1)))), (31, some (none, (eB true)))], []⟩ (by subst hc; kernel_rfl) ?_
          refine awl_runD hT (fun _ => false) [31] 4 [2, 3, 31, 33, 35] ⟨[(2, some (none, (.im (S_api_Image.enc a0)))), (3, some (none, (.im (S_api_Image.enc a1)))), (31, some (none, (eB true))), (33, some (none, (eL 1 (eI .i64) a0.gAlpha))), (35, some (none, (eL 1 (eI .i64) a1.gAlpha)))], []⟩ (by kernel_rfl) ?_
          obtain ⟨r9, hr9, h⟩ := obind h
          refine awl_op (by kernel_rfl) (owp_call (avs := [(eL 1 (eI .i64) a0.gAlpha), (eL 1 (eI .i64) a1.gAlpha)]) (pavs := [(eL 1 (eI .i64) a0.gAlpha), (eL 1 (eI .i64) a1.gAlpha)]) (ret := (eB r9)) rfl rfl (by kernel_rfl) (by kernel_rfl) umbraref29_Ints_ok_c (pubL_cons ((eL_pub (fun _ => pub_v _)) a0.gAlpha) (pubL_cons ((eL_pub (fun _ => pub_v _)) a1.gAlpha) pubL_nil)) (umbraref29_Ints_ok N a0.gAlpha a1.gAlpha r9 hr9) (pub_v _)) ?_
          refine awl_runD hT (fun _ => false) [31] 1 [2, 3, 37] ⟨[(2, some (none, (.im (S_api_Image.enc a0)))), (3, some (none, (.im (S_api_Image.enc a1)))), (37, some (none, (eB r9)))], []⟩ (by kernel_rfl) ?_
          refine awl_nil ?_
          obtain rfl := Option.some.inj h
          exact rfl
        · have h := cond_f hc h
          refine awl_runD hT (fun _ => false) [] 0 [2, 3, 31] ⟨[(2, some (none, (.im (S_api_Image.enc a0)))), (3, some (none, (.im (S_api_Image.enc a1)))), (31, some (none, (eB false)))], []⟩ (by subst hc; kernel_rfl) ?_
          refine awl_runD hT (fun _ => false) [31] 6 [2, 3, 37] ⟨[(2, some (none, (.im (S_api_Image.enc a0)))), (3, some (none, (.im (S_api_Image.enc a1)))), (37, some (none, (eB false)))], []⟩ (by kernel_rfl) ?_
          refine awl_nil ?_
          obtain rfl := Option.some.inj h
          exact rfl
      · rintro s rfl
        have h := gy8
        refine awl_runD hT (fun _ => false) [] 1 [2, 3, 38] ⟨[(2, some (none, (.im (S_api_Image.enc a0)))), (3, some (none, (.im (S_api_Image.enc a1)))), (38, some (none, (eB y8)))], []⟩ (by kernel_rfl) ?_
        obtain ⟨x10, hx10, h⟩ := letO_ex h
        refine awl_runD hT (fun _ => false) [] 0 [2, 3, 38] ⟨[(2, some (none, (.im (S_api_Image.enc a0)))), (3, some (none, (.im (S_api_Image.enc a1)))), (38, some (none, (eB x10)))], []⟩ (by subst hx10; kernel_rfl) ?_
        obtain ⟨y11, h, gy11⟩ := obind h
        refine awl_take 6 (fun s => s = ⟨[(2, some (none, (.im (S_api_Image.enc a0)))), (3, some (none, (.im (S_api_Image.enc a1)))), (44, some (none, (eB y11)))], []⟩) ?_ ?_
        · refine boolC x10 (fun hc => ?_) (fun hc => ?_)
          · have h := cond_t hc h
            refine awl_runD hT (fun _ => false) [] 0 [2, 3, 38] ⟨[(2, some (none, (.im (S_api_Image.enc a0)))), (3, some (none, (.im (S_api_Image.enc a1)))), (38, some (none, (eB true)))], []⟩ (by subst hc; kernel_rfl) ?_
            refine awl_runD hT (fun _ => false) [38] 4 [2, 3, 38, 40, 42] ⟨[(2, some (none, (.im (S_api_Image.enc a0)))), (3, some (none, (.im (S_api_Image.enc a1)))), (38, some (none, (eB true))), (40, some (none, (eL 1 (eI .i64) a0.gDepth))), (42, some (none, (eL 1 (eI .i64) a1.gDepth)))], []⟩ (by kernel_rfl) ?_
            obtain ⟨r12, hr12, h⟩ := obind h
            refine awl_op (by kernel_rfl) (owp_call (avs := [(eL 1 (eI .i64) a0.gDepth), (eL 1 (eI .i64) a1.gDepth)]) (pavs := [(eL 1 (eI .i64) a0.gDepth), (eL 1 (eI .i64) a1.gDepth)]) (ret := (eB r12)) rfl rfl (by kernel_rfl) (by kernel_rfl) umbraref29_Ints_ok_c (pubL_cons ((eL_pub (fun _ => pub_v _)) a0.gDepth) (pubL_cons ((eL_pub (fun _ => pub_v _)) a1.gDepth) pubL_nil)) (umbraref29_Ints_ok N a0.gDepth a1.gDepth r12 hr12) (pub_v _)) ?_
            refine awl_runD hT (fun _ => false) [38] 1 [2, 3, 44] ⟨[(2, some (none, (.im (S_api_Image.enc a0)))), (3, some (none, (.im (S_api_Image.enc a1)))), (44, some (none, (eB r12)))], []⟩ (by kernel_rfl) ?_
            refine awl_nil ?_
            obtain rfl := Option.some.inj h
            exact rfl
          · have h := cond_f hc h
            refine awl_runD hT (fun _ => false) [] 0 [2, 3, 38] ⟨[(2, some (none, (.im (S_api_Image.enc a0)))), (3, some (none, (.im (S_api_Image.enc a1)))), (38, some (none, (eB false)))], []⟩ (by subst hc; kernel_rfl) ?_
            refine awl_runD hT (fun _ => false) [38] 6 [2, 3, 44] ⟨[(2, some (none, (.im (S_api_Image.enc a0)))), (3, some (none, (.im (S_api_Image.enc a1)))), (44, some (none, (eB false)))], []⟩ (by kernel_rfl) ?_
            refine awl_nil ?_
            obtain rfl := Option.some.inj h
            exact rfl
        · rintro s rfl
          have h := gy11
          refine awl_runD hT (fun _ => false) [] 1 [2, 3, 45] ⟨[(2, some (none, (.im (S_api_Image.enc a0)))), (3, some (none, (.im (S_api_Image.enc a1)))), (45, some (none, (eB y11)))], []⟩ (by kernel_rfl) ?_
          obtain ⟨x13, hx13, h⟩ := letO_ex h
          refine awl_runD hT (fun _ => false) [] 0 [2, 3, 45] ⟨[(2, some (none, (.im (S_api_Image.enc a0)))), (3, some (none, (.im (S_api_Image.enc a1)))), (45, some (none, (eB x13)))], []⟩ (by subst hx13; kernel_rfl) ?_
          obtain ⟨y14, h, gy14⟩ := obind h
          refine awl_take 6 (fun s => s = ⟨[(2, some (none, (.im (S_api_Image.enc a0)))), (3, some (none, (.im (S_api_Image.enc a1)))), (51, some (none, (eB y14)))], []⟩) ?_ ?_
          · refine boolC x13 (fun hc => ?_) (fun hc => ?_)
            · have h := cond_t hc h
              refine awl_runD hT (fun _ => false) [] 0 [2, 3, 45] ⟨[(2, some (none, (.im (S_api_Image.enc a0)))), (3, some (none, (.im (S_api_Image.enc a1)))), (45, some (none, (eB true)))], []⟩ (by subst hc; kernel_rfl) ?_
              refine awl_runD hT (fun _ => false) [45] 4 [2, 3, 45, 47, 49] ⟨[(2, some (none, (.im (S_api_Image.enc a0)))), (3, some (none, (.im (S_api_Image.enc a1)))), (45, some (none, (eB true))), (47, some (none, (eL 1 (eI .i64) a0.gAsset))), (49, some (none, (eL 1 (eI .i64) a1.gAsset)))], []⟩ (by kernel_rfl) ?_
              obtain ⟨r15, hr15, h⟩ := obind h
              refine awl_op (by kernel_rfl) (owp_call (avs := [(eL 1 (eI .i64) a0.gAsset), (eL 1 (eI .i64) a1.gAsset)]) (pavs := [(eL 1 (eI .i64) a0.gAsset), (eL 1 (eI .i64) a1.gAsset)]) (ret := (eB r15)) rfl rfl (by kernel_rfl) (by kernel_rfl) umbraref29_Ints_ok_c (pubL_cons ((eL_pub (fun _ => pub_v _)) a0.gAsset) (pubL_cons ((eL_pub (fun _ => pub_v _)) a1.gAsset) pubL_nil)) (umbraref29_Ints_ok N a0.gAsset a1.gAsset r15 hr15) (pub_v _)) ?_
              refine awl_runD hT (fun _ => false) [45] 1 [2, 3, 51] ⟨[(2, some (none, (.im (S_api_Image.enc a0)))), (3, some (none, (.im (S_api_Image.enc a1)))), (51, some (none, (eB r15)))], []⟩ (by kernel_rfl) ?_
              refine awl_nil ?_
              obtain rfl := Option.some.inj h
              exact rfl
            · have h := cond_f hc h
              refine awl_runD hT (fun _ => false) [] 0 [2, 3, 45] ⟨[(2, some (none, (.im (S_api_Image.enc a0)))), (3, some (none, (.im (S_api_Image.enc a1)))), (45, some (none, (eB false)))], []⟩ (by subst hc; kernel_rfl) ?_
              refine awl_runD hT (fun _ => false) [45] 6 [2, 3, 51] ⟨[(2, some (none, (.im (S_api_Image.enc a0)))), (3, some (none, (.im (S_api_Image.enc a1)))), (51, some (none, (eB false)))], []⟩ (by kernel_rfl) ?_
              refine awl_nil ?_
              obtain rfl := Option.some.inj h
              exact rfl
          · rintro s rfl
            have h := gy14
            refine awl_runD hT (fun _ => false) [] 1 [2, 3, 52] ⟨[(2, some (none, (.im (S_api_Image.enc a0)))), (3, some (none, (.im (S_api_Image.enc a1)))), (52, some (none, (eB y14)))], []⟩ (by kernel_rfl) ?_
            obtain ⟨x16, hx16, h⟩ := letO_ex h
            refine awl_runD hT (fun _ => false) [] 0 [2, 3, 52] ⟨[(2, some (none, (.im (S_api_Image.enc a0)))), (3, some (none, (.im (S_api_Image.enc a1)))), (52, some (none, (eB x16)))], []⟩ (by subst hx16; kernel_rfl) ?_
            obtain ⟨y17, h, gy17⟩ := obind h
            refine awl_take 6 (fun s => s = ⟨[(58, some (none, (eB y17)))], []⟩) ?_ ?_
            · refine boolC x16 (fun hc => ?_) (fun hc => ?_)
              · have h := cond_t hc h
                refine awl_runD hT (fun _ => false) [] 0 [2, 3, 52] ⟨[(2, some (none, (.im (S_api_Image.enc a0)))), (3, some (none, (.im (S_api_Image.enc a1)))), (52, some (none, (eB true)))], []⟩ (by subst hc; kernel_rfl) ?_
                refine awl_runD hT (fun _ => false) [52] 4 [52, 54, 56] ⟨[(52, some (none, (eB true))), (54, some (none, (eL 1 (eI .i64) a0.gLabel))), (56, some (none, (eL 1 (eI .i64) a1.gLabel)))], []⟩ (by kernel_rfl) ?_
                obtain ⟨r18, hr18, h⟩ := obind h
                refine awl_op (by kernel_rfl) (owp_call (avs := [(eL 1 (eI .i64) a0.gLabel), (eL 1 (eI .i64) a1.gLabel)]) (pavs := [(eL 1 (eI .i64) a0.gLabel), (eL 1 (eI .i64) a1.gLabel)]) (ret := (eB r18)) rfl rfl (by kernel_rfl) (by kernel_rfl) umbraref29_Ints_ok_c (pubL_cons ((eL_pub (fun _ => pub_v _)) a0.gLabel) (pubL_cons ((eL_pub (fun _ => pub_v _)) a1.gLabel) pubL_nil)) (umbraref29_Ints_ok N a0.gLabel a1.gLabel r18 hr18) (pub_v _)) ?_
                refine awl_runD hT (fun _ => false) [52] 1 [58] ⟨[(58, some (none, (eB r18)))], []⟩ (by kernel_rfl) ?_
                refine awl_nil ?_
                obtain rfl := Option.some.inj h
                exact rfl
              · have h := cond_f hc h
                refine awl_runD hT (fun _ => false) [] 0 [2, 3, 52] ⟨[(2, some (none, (.im (S_api_Image.enc a0)))), (3, some (none, (.im (S_api_Image.enc a1)))), (52, some (none, (eB false)))], []⟩ (by subst hc; kernel_rfl) ?_
                refine awl_runD hT (fun _ => false) [52] 6 [58] ⟨[(58, some (none, (eB false)))], []⟩ (by kernel_rfl) ?_
                refine awl_nil ?_
                obtain rfl := Option.some.inj h
                exact rfl
            · rintro s rfl
              have h := gy17
              refine awl_runD hT (fun _ => false) [] 1 [4] ⟨[(4, some (none, (eB y17)))], []⟩ (by kernel_rfl) ?_
              refine awl_nil ?_
              refine aw_ret ?_
              obtain rfl := Option.some.inj h
              exact ⟨Or.inl rfl, [(eB y17)], by kernel_rfl, (pub_v _)⟩

theorem umbraref29_Same_ok_c : callable Try.prog 49 := ⟨_, Try.func49, by decide, rfl⟩

end Go.UK
