/- A part of the proof: what the functions of the program compute. -/
import Derived.Test.YtcaadpceoajapaaF2
namespace Go.UK
open Go Go.Proofs
set_option maxRecDepth 20000
set_option linter.all false

attribute [local irreducible] owp awl aw Go.UK.Fn NatFn opS Stab TOK EqT

theorem n_Add64 {x y c : Int} {r : Int × Int} (h : p_Add64 x y c = some r) : NatFn Try.prog 174 [.int .u64 x, .int .u64 y, .int .u64 c] (.tuple #[.int .u64 r.1, .int .u64 r.2]) :=
  nat_Add64 Try.func174 (by kernel_rfl) (by kernel_rfl) (by kernel_rfl) (by kernel_rfl) h

/-! umbra/wide.Div -/
def p_wide_Div (N : Nat) (a0 : S_api_Wide) (a1 : Int) : Option (S_api_Wide × Int × Bool) :=
  cond (a1 == 0) (
    some (S_api_Wide.mk 0 0, 0, false)) (
    Option.bind (cond (decide (a0.gHi < 0)) (
      Option.bind (p_wide_turned N (U64 a0.gHi) a0.gLo) fun r2 =>
      some ((r2.1, r2.2))) (
      some ((U64 a0.gHi, a0.gLo)))) fun p1_1 =>
    Option.bind (p_wide_size N a1) fun r3 =>
    Option.bind (p_math_bits_Div64 N 0 p1_1.1 r3.1) fun r4 =>
    Option.bind (p_math_bits_Div64 N r4.2 p1_1.2 r3.1) fun r5 =>
    Option.bind (letO (!((decide (a0.gHi < 0)) == r3.2)) fun x7 =>
    letO (cond x7 (decide (r5.2 > 0)) false) fun x8 =>
    cond x8 (
      Option.bind (p_Add64 r5.1 1 0) fun r9 =>
      some ((U64 (r4.1 + r9.2), r9.1, U64 (r3.1 - r5.2)))) (
      some ((r4.1, r5.1, r5.2)))) fun p2_6 =>
    letO (!((decide (a0.gHi < 0)) == r3.2)) fun x10 =>
    Option.bind (p_wide_signed N p2_6.1 p2_6.2.1 x10) fun r11 =>
    cond (!r11.2) (
      some (S_api_Wide.mk 0 0, 0, false)) (
      Option.bind (cond r3.2 (some (U64 (0 - p2_6.2.2))) (some p2_6.2.2)) fun p3_12 =>
      some (r11.1, I64 p3_12, true)))

theorem wide_Div_ok (N : Nat) (a0 : S_api_Wide) (a1 : Int) (r : S_api_Wide × Int × Bool) (h : p_wide_Div N a0 a1 = some r) : Fn Try.prog 142 [(S_api_Wide.enc a0), (eI .i64 a1)] (.tup [(S_api_Wide.enc r.1), (eI .i64 r.2.1), (eB r.2.2)]) := by
  unfold p_wide_Div at h
  refine fn_of_awR (n := ⟨93, 0⟩) (rs := [.cell 4 192, .tmp 5, .tmp 6]) hT Try.func142 rfl rfl (by kernel_rfl) rfl ?_
  refine (show aw _ _ _ _ ⟨[(0, some (none, (S_api_Wide.enc a0))), (1, some (none, (eI .i64 a1)))], []⟩ from ?_)
  refine aw_sreg ?_
  refine awl_runD hT (fun d => Nat.beq d 2) [] 4 [1, 2, 4] ⟨[(1, some (none, (eI .i64 a1))), (2, some (none, (.im (S_api_Wide.enc a0)))), (4, some (none, (.ref 0 [] 0)))], [.var (.st 2 [(eI .i64 0), (eI .u64 0)])]⟩ (by kernel_rfl) ?_
  refine awl_nil ?_
  refine aw_seq ?_
  refine aw_sreg ?_
  refine awl_runD hT (fun _ => false) [] 2 [1, 2, 4, 18] ⟨[(1, some (none, (eI .i64 a1))), (2, some (none, (.im (S_api_Wide.enc a0)))), (4, some (none, (.ref 0 [] 0))), (18, some (none, (eB (a1 == 0))))], [.var (.st 2 [(eI .i64 0), (eI .u64 0)])]⟩ (by kernel_rfl) ?_
  refine awl_nil ?_
  refine aw_cond (b := a1 == 0) (by kernel_rfl) (fun hc => ?_) (fun hc => ?_)
  · have h := cond_t hc h
    refine aw_sreg ?_
    refine awl_runD hT (fun _ => false) [] 4 [4, 5, 6] ⟨[(4, some (none, (.ref 0 [] 0))), (5, some (none, (eI .i64 0))), (6, some (none, (eB false)))], [.var (.st 2 [(eI .i64 0), (eI .u64 0)])]⟩ (by kernel_rfl) ?_
    refine awl_nil ?_
    refine aw_ret (tn_r ?_)
    obtain rfl := Option.some.inj h
    exact ⟨Or.inl rfl, [(.st 2 [(eI .i64 0), (eI .u64 0)]), (eI .i64 0), (eB false)], by kernel_rfl, ⟨_, rfl, (pubL_cons (pub_st (pubL_cons (pub_v _) (pubL_cons (pub_v _) pubL_nil))) (pubL_cons (pub_v _) (pubL_cons (pub_v _) pubL_nil)))⟩⟩
  · have h := cond_f hc h
    refine aw_skip (tn_n ?_)
    refine aw_sdraw (by rfl) [⟨[2], 20, (none, (.im (eI .i64 a0.gHi)))⟩, ⟨[20], 21, (none, (eI .i64 a0.gHi))⟩, ⟨[21], 22, (none, (eI .u64 (U64 a0.gHi)))⟩, ⟨[2], 23, (none, (.im (eI .u64 a0.gLo)))⟩, ⟨[23], 24, (none, (eI .u64 a0.gLo))⟩, ⟨[22], 7, (none, (eI .u64 (U64 a0.gHi)))⟩] [1, 2, 4] [1, 2, 4, 7, 24] (none) (B := [(1, some (none, (eI .i64 a1))), (2, some (none, (.im (S_api_Wide.enc a0)))), (4, some (none, (.ref 0 [] 0)))]) (st' := ⟨[(1, some (none, (eI .i64 a1))), (2, some (none, (.im (S_api_Wide.enc a0)))), (4, some (none, (.ref 0 [] 0))), (7, some (none, (eI .u64 (U64 a0.gHi)))), (24, some (none, (eI .u64 a0.gLo)))], [.var (.st 2 [(eI .i64 0), (eI .u64 0)])]⟩) (by kernel_rfl) (by kernel_rfl) (stab_all ⟨stab_ev hT (need := [(2, some (none, (.im (S_api_Wide.enc a0))))]) rfl rfl (by kernel_rfl) (by kernel_rfl) rfl rfl (by kernel_rfl) (by kernel_rfl), stab_ev hT (need := [(20, some (none, (.im (eI .i64 a0.gHi))))]) rfl rfl (by kernel_rfl) (by kernel_rfl) rfl rfl (by kernel_rfl) (by kernel_rfl), stab_ev hT (need := [(21, some (none, (eI .i64 a0.gHi)))]) rfl rfl (by kernel_rfl) (by kernel_rfl) rfl rfl (by kernel_rfl) (by kernel_rfl), stab_ev hT (need := [(2, some (none, (.im (S_api_Wide.enc a0))))]) rfl rfl (by kernel_rfl) (by kernel_rfl) rfl rfl (by kernel_rfl) (by kernel_rfl), stab_ev hT (need := [(23, some (none, (.im (eI .u64 a0.gLo))))]) rfl rfl (by kernel_rfl) (by kernel_rfl) rfl rfl (by kernel_rfl) (by kernel_rfl), stab_ev hT (need := [(22, some (none, (eI .u64 (U64 a0.gHi))))]) rfl rfl (by kernel_rfl) (by kernel_rfl) rfl rfl (by kernel_rfl) (by kernel_rfl), trivial⟩) (by kernel_rfl) ?_
    refine awl_runD hT (fun _ => false) [] 1 [1, 2, 4, 7, 8] ⟨[(1, some (none, (eI .i64 a1))), (2, some (none, (.im (S_api_Wide.enc a0)))), (4, some (none, (.ref 0 [] 0))), (7, some (none, (eI .u64 (U64 a0.gHi)))), (8, some (none, (eI .u64 a0.gLo)))], [.var (.st 2 [(eI .i64 0), (eI .u64 0)])]⟩ (by kernel_rfl) ?_
    refine awl_nil ?_
    obtain ⟨p1_1, h, gp1_1⟩ := obind h
    refine aw_join (fun s => s = ⟨[(1, some (none, (eI .i64 a1))), (2, some (none, (.im (S_api_Wide.enc a0)))), (4, some (none, (.ref 0 [] 0))), (7, some (none, (eI .u64 p1_1.1))), (8, some (none, (eI .u64 p1_1.2)))], [.var (.st 2 [(eI .i64 0), (eI .u64 0)])]⟩) ?_ ?_
    · refine aw_sreg ?_
      refine awl_runD hT (fun _ => false) [] 3 [1, 2, 4, 7, 8, 27] ⟨[(1, some (none, (eI .i64 a1))), (2, some (none, (.im (S_api_Wide.enc a0)))), (4, some (none, (.ref 0 [] 0))), (7, some (none, (eI .u64 (U64 a0.gHi)))), (8, some (none, (eI .u64 a0.gLo))), (27, some (none, (eB (decide (a0.gHi < 0)))))], [.var (.st 2 [(eI .i64 0), (eI .u64 0)])]⟩ (by kernel_rfl) ?_
      refine awl_nil ?_
      refine aw_cond (b := decide (a0.gHi < 0)) (by kernel_rfl) (fun hc => ?_) (fun hc => ?_)
      · have h := cond_t hc h
        refine aw_region ?_
        refine awl_runD hT (fun _ => false) [] 2 [1, 2, 4, 29, 30] ⟨[(1, some (none, (eI .i64 a1))), (2, some (none, (.im (S_api_Wide.enc a0)))), (4, some (none, (.ref 0 [] 0))), (29, some (none, (eI .u64 (U64 a0.gHi)))), (30, some (none, (eI .u64 a0.gLo)))], [.var (.st 2 [(eI .i64 0), (eI .u64 0)])]⟩ (by kernel_rfl) ?_
        obtain ⟨r2, hr2, h⟩ := obind h
        refine awl_op (by kernel_rfl) (owp_call (avs := [(eI .u64 (U64 a0.gHi)), (eI .u64 a0.gLo)]) (pavs := [(eI .u64 (U64 a0.gHi)), (eI .u64 a0.gLo)]) (ret := (.tup [(eI .u64 r2.1), (eI .u64 r2.2)])) rfl rfl (by kernel_rfl) (by kernel_rfl) wide_turned_ok_c (pubL_cons (pub_v _) (pubL_cons (pub_v _) pubL_nil)) (wide_turned_ok N (U64 a0.gHi) a0.gLo r2 hr2) ⟨_, rfl, (pubL_cons (pub_v _) (pubL_cons (pub_v _) pubL_nil))⟩) ?_
        refine awl_runD hT (fun _ => false) [] 5 [1, 2, 4, 7, 8] ⟨[(1, some (none, (eI .i64 a1))), (2, some (none, (.im (S_api_Wide.enc a0)))), (4, some (none, (.ref 0 [] 0))), (7, some (none, (eI .u64 r2.1))), (8, some (none, (eI .u64 r2.2)))], [.var (.st 2 [(eI .i64 0), (eI .u64 0)])]⟩ (by kernel_rfl) ?_
        refine awl_nil (tn_n ?_)
        obtain rfl := Option.some.inj h
        exact rfl
      · have h := cond_f hc h
        refine aw_conv (env' := [(1, some (none, (eI .i64 a1))), (2, some (none, (.im (S_api_Wide.enc a0)))), (4, some (none, (.ref 0 [] 0))), (7, some (none, (eI .u64 (U64 a0.gHi)))), (8, some (none, (eI .u64 a0.gLo)))]) (H' := [.var (.st 2 [(eI .i64 0), (eI .u64 0)])]) (by kernel_rfl) ⟨.inr ⟨_, _, rfl, rfl, PubA.t (pub_st (pubL_cons (pub_v _) (pubL_cons (pub_v _) pubL_nil)))⟩, trivial⟩ (envT_cons (x := (eI .i64 a1)) (by kernel_rfl) (PubA.t (pub_v _)) rfl rfl (envT_cons (x := (.im (S_api_Wide.enc a0))) (by kernel_rfl) (PubA.t (pub_im (S_api_Wide.pub a0))) rfl rfl (envT_cons (x := (.ref 0 [] 0)) (by kernel_rfl) (pubT_ref (by kernel_rfl)) rfl rfl (envT_cons (x := (eI .u64 (U64 a0.gHi))) (by kernel_rfl) (PubA.t (pub_v _)) rfl rfl (envT_cons (x := (eI .u64 a0.gLo)) (by kernel_rfl) (PubA.t (pub_v _)) rfl rfl envT_nil))))) ?_
        refine aw_skip (tn_n ?_)
        obtain rfl := Option.some.inj h
        exact rfl
    · rintro s rfl
      have h := gp1_1
      refine aw_sreg ?_
      refine awl_runD hT (fun _ => false) [] 1 [2, 4, 7, 8, 35] ⟨[(2, some (none, (.im (S_api_Wide.enc a0)))), (4, some (none, (.ref 0 [] 0))), (7, some (none, (eI .u64 p1_1.1))), (8, some (none, (eI .u64 p1_1.2))), (35, some (none, (eI .i64 a1)))], [.var (.st 2 [(eI .i64 0), (eI .u64 0)])]⟩ (by kernel_rfl) ?_
      obtain ⟨r3, hr3, h⟩ := obind h
      refine awl_op (by kernel_rfl) (owp_call (avs := [(eI .i64 a1)]) (pavs := [(eI .i64 a1)]) (ret := (.tup [(eI .u64 r3.1), (eB r3.2)])) rfl rfl (by kernel_rfl) (by kernel_rfl) wide_size_ok_c (pubL_cons (pub_v _) pubL_nil) (wide_size_ok N a1 r3 hr3) ⟨_, rfl, (pubL_cons (pub_v _) (pubL_cons (pub_v _) pubL_nil))⟩) ?_
      refine awl_runD hT (fun _ => false) [] 5 [2, 4, 7, 8, 9, 10] ⟨[(2, some (none, (.im (S_api_Wide.enc a0)))), (4, some (none, (.ref 0 [] 0))), (7, some (none, (eI .u64 p1_1.1))), (8, some (none, (eI .u64 p1_1.2))), (9, some (none, (eI .u64 r3.1))), (10, some (none, (eB r3.2)))], [.var (.st 2 [(eI .i64 0), (eI .u64 0)])]⟩ (by kernel_rfl) ?_
      refine awl_nil ?_
      refine aw_sreg ?_
      refine awl_runD hT (fun _ => false) [] 2 [2, 4, 8, 9, 10, 40, 41] ⟨[(2, some (none, (.im (S_api_Wide.enc a0)))), (4, some (none, (.ref 0 [] 0))), (8, some (none, (eI .u64 p1_1.2))), (9, some (none, (eI .u64 r3.1))), (10, some (none, (eB r3.2))), (40, some (none, (eI .u64 p1_1.1))), (41, some (none, (eI .u64 r3.1)))], [.var (.st 2 [(eI .i64 0), (eI .u64 0)])]⟩ (by kernel_rfl) ?_
      obtain ⟨r4, hr4, h⟩ := obind h
      refine awl_op (by kernel_rfl) (owp_call (avs := [(eI .u64 0), (eI .u64 p1_1.1), (eI .u64 r3.1)]) (pavs := [(eI .u64 0), (eI .u64 p1_1.1), (eI .u64 r3.1)]) (ret := (.tup [(eI .u64 r4.1), (eI .u64 r4.2)])) rfl rfl (by kernel_rfl) (by kernel_rfl) math_bits_Div64_ok_c (pubL_cons (pub_v _) (pubL_cons (pub_v _) (pubL_cons (pub_v _) pubL_nil))) (math_bits_Div64_ok N 0 p1_1.1 r3.1 r4 hr4) ⟨_, rfl, (pubL_cons (pub_v _) (pubL_cons (pub_v _) pubL_nil))⟩) ?_
      refine awl_runD hT (fun _ => false) [] 5 [2, 4, 8, 9, 10, 11, 12] ⟨[(2, some (none, (.im (S_api_Wide.enc a0)))), (4, some (none, (.ref 0 [] 0))), (8, some (none, (eI .u64 p1_1.2))), (9, some (none, (eI .u64 r3.1))), (10, some (none, (eB r3.2))), (11, some (none, (eI .u64 r4.1))), (12, some (none, (eI .u64 r4.2)))], [.var (.st 2 [(eI .i64 0), (eI .u64 0)])]⟩ (by kernel_rfl) ?_
      refine awl_nil ?_
      refine aw_sreg ?_
      refine awl_runD hT (fun _ => false) [] 3 [2, 4, 9, 10, 11, 46, 47, 48] ⟨[(2, some (none, (.im (S_api_Wide.enc a0)))), (4, some (none, (.ref 0 [] 0))), (9, some (none, (eI .u64 r3.1))), (10, some (none, (eB r3.2))), (11, some (none, (eI .u64 r4.1))), (46, some (none, (eI .u64 r4.2))), (47, some (none, (eI .u64 p1_1.2))), (48, some (none, (eI .u64 r3.1)))], [.var (.st 2 [(eI .i64 0), (eI .u64 0)])]⟩ (by kernel_rfl) ?_
      obtain ⟨r5, hr5, h⟩ := obind h
      refine awl_op (by kernel_rfl) (owp_call (avs := [(eI .u64 r4.2), (eI .u64 p1_1.2), (eI .u64 r3.1)]) (pavs := [(eI .u64 r4.2), (eI .u64 p1_1.2), (eI .u64 r3.1)]) (ret := (.tup [(eI .u64 r5.1), (eI .u64 r5.2)])) rfl rfl (by kernel_rfl) (by kernel_rfl) math_bits_Div64_ok_c (pubL_cons (pub_v _) (pubL_cons (pub_v _) (pubL_cons (pub_v _) pubL_nil))) (math_bits_Div64_ok N r4.2 p1_1.2 r3.1 r5 hr5) ⟨_, rfl, (pubL_cons (pub_v _) (pubL_cons (pub_v _) pubL_nil))⟩) ?_
      refine awl_runD hT (fun _ => false) [] 5 [2, 4, 9, 10, 11, 13, 14] ⟨[(2, some (none, (.im (S_api_Wide.enc a0)))), (4, some (none, (.ref 0 [] 0))), (9, some (none, (eI .u64 r3.1))), (10, some (none, (eB r3.2))), (11, some (none, (eI .u64 r4.1))), (13, some (none, (eI .u64 r5.1))), (14, some (none, (eI .u64 r5.2)))], [.var (.st 2 [(eI .i64 0), (eI .u64 0)])]⟩ (by kernel_rfl) ?_
      refine awl_nil ?_
      obtain ⟨p2_6, h, gp2_6⟩ := obind h
      refine aw_join (fun s => s = ⟨[(2, some (none, (.im (S_api_Wide.enc a0)))), (4, some (none, (.ref 0 [] 0))), (10, some (none, (eB r3.2))), (11, some (none, (eI .u64 p2_6.1))), (13, some (none, (eI .u64 p2_6.2.1))), (14, some (none, (eI .u64 p2_6.2.2)))], [.var (.st 2 [(eI .i64 0), (eI .u64 0)])]⟩) ?_ ?_
      · refine aw_sreg ?_
        obtain ⟨x7, hx7, h⟩ := letO_ex h
        obtain ⟨x8, hx8, h⟩ := letO_ex h
        refine awl_runD hT (fun _ => false) [] 9 [2, 4, 9, 10, 11, 13, 14, 60] ⟨[(2, some (none, (.im (S_api_Wide.enc a0)))), (4, some (none, (.ref 0 [] 0))), (9, some (none, (eI .u64 r3.1))), (10, some (none, (eB r3.2))), (11, some (none, (eI .u64 r4.1))), (13, some (none, (eI .u64 r5.1))), (14, some (none, (eI .u64 r5.2))), (60, some (none, (eB x8)))], [.var (.st 2 [(eI .i64 0), (eI .u64 0)])]⟩ (by subst hx8 hx7; kernel_rfl) ?_
        refine awl_nil ?_
        refine aw_cond (b := x8) (by kernel_rfl) (fun hc => ?_) (fun hc => ?_)
        · have h := cond_t hc h
          refine aw_sreg ?_
          refine awl_runD hT (fun _ => false) [] 1 [2, 4, 9, 10, 11, 14, 62] ⟨[(2, some (none, (.im (S_api_Wide.enc a0)))), (4, some (none, (.ref 0 [] 0))), (9, some (none, (eI .u64 r3.1))), (10, some (none, (eB r3.2))), (11, some (none, (eI .u64 r4.1))), (14, some (none, (eI .u64 r5.2))), (62, some (none, (eI .u64 r5.1)))], [.var (.st 2 [(eI .i64 0), (eI .u64 0)])]⟩ (by kernel_rfl) ?_
          obtain ⟨r9, hr9, h⟩ := obind h
          refine awl_op (by kernel_rfl) (owp_nat (xs := [.int .u64 r5.1, .int .u64 1, .int .u64 0]) (y := (.tuple #[.int .u64 r9.1, .int .u64 r9.2])) (ret := (.tup [(eI .u64 r9.1), (eI .u64 r9.2)])) rfl rfl (by kernel_rfl) (by kernel_rfl) (n_Add64 hr9) (fun _ => rv_tup2)) ?_
          refine awl_runD hT (fun _ => false) [] 5 [2, 4, 9, 10, 11, 14, 15, 16] ⟨[(2, some (none, (.im (S_api_Wide.enc a0)))), (4, some (none, (.ref 0 [] 0))), (9, some (none, (eI .u64 r3.1))), (10, some (none, (eB r3.2))), (11, some (none, (eI .u64 r4.1))), (14, some (none, (eI .u64 r5.2))), (15, some (none, (eI .u64 r9.1))), (16, some (none, (eI .u64 r9.2)))], [.var (.st 2 [(eI .i64 0), (eI .u64 0)])]⟩ (by kernel_rfl) ?_
          refine awl_nil ?_
          refine aw_region ?_
          refine awl_runD hT (fun _ => false) [] 10 [2, 4, 10, 11, 13, 14] ⟨[(2, some (none, (.im (S_api_Wide.enc a0)))), (4, some (none, (.ref 0 [] 0))), (10, some (none, (eB r3.2))), (11, some (none, (eI .u64 (U64 (r4.1 + r9.2))))), (13, some (none, (eI .u64 r9.1))), (14, some (none, (eI .u64 (U64 (r3.1 - r5.2)))))], [.var (.st 2 [(eI .i64 0), (eI .u64 0)])]⟩ (by kernel_rfl) ?_
          refine awl_nil (tn_n ?_)
          obtain rfl := Option.some.inj h
          exact rfl
        · have h := cond_f hc h
          refine aw_conv (env' := [(2, some (none, (.im (S_api_Wide.enc a0)))), (4, some (none, (.ref 0 [] 0))), (10, some (none, (eB r3.2))), (11, some (none, (eI .u64 r4.1))), (13, some (none, (eI .u64 r5.1))), (14, some (none, (eI .u64 r5.2)))]) (H' := [.var (.st 2 [(eI .i64 0), (eI .u64 0)])]) (by kernel_rfl) ⟨.inr ⟨_, _, rfl, rfl, PubA.t (pub_st (pubL_cons (pub_v _) (pubL_cons (pub_v _) pubL_nil)))⟩, trivial⟩ (envT_cons (x := (.im (S_api_Wide.enc a0))) (by kernel_rfl) (PubA.t (pub_im (S_api_Wide.pub a0))) rfl rfl (envT_cons (x := (.ref 0 [] 0)) (by kernel_rfl) (pubT_ref (by kernel_rfl)) rfl rfl (envT_cons (x := (eB r3.2)) (by kernel_rfl) (PubA.t (pub_v _)) rfl rfl (envT_cons (x := (eI .u64 r4.1)) (by kernel_rfl) (PubA.t (pub_v _)) rfl rfl (envT_cons (x := (eI .u64 r5.1)) (by kernel_rfl) (PubA.t (pub_v _)) rfl rfl (envT_cons (x := (eI .u64 r5.2)) (by kernel_rfl) (PubA.t (pub_v _)) rfl rfl envT_nil)))))) ?_
          refine aw_skip (tn_n ?_)
          obtain rfl := Option.some.inj h
          exact rfl
      · rintro s rfl
        have h := gp2_6
        refine aw_seq ?_
        refine aw_sreg ?_
        obtain ⟨x10, hx10, h⟩ := letO_ex h
        refine awl_runD hT (fun _ => false) [] 7 [4, 10, 14, 74, 75, 80] ⟨[(4, some (none, (.ref 0 [] 0))), (10, some (none, (eB r3.2))), (14, some (none, (eI .u64 p2_6.2.2))), (74, some (none, (eI .u64 p2_6.1))), (75, some (none, (eI .u64 p2_6.2.1))), (80, some (none, (eB x10)))], [.var (.st 2 [(eI .i64 0), (eI .u64 0)])]⟩ (by subst hx10; kernel_rfl) ?_
        obtain ⟨r11, hr11, h⟩ := obind h
        refine awl_op (by kernel_rfl) (owp_call (avs := [(eI .u64 p2_6.1), (eI .u64 p2_6.2.1), (eB x10)]) (pavs := [(eI .u64 p2_6.1), (eI .u64 p2_6.2.1), (eB x10)]) (ret := (.tup [(S_api_Wide.enc r11.1), (eB r11.2)])) rfl rfl (by kernel_rfl) (by kernel_rfl) wide_signed_ok_c (pubL_cons (pub_v _) (pubL_cons (pub_v _) (pubL_cons (pub_v _) pubL_nil))) (wide_signed_ok N p2_6.1 p2_6.2.1 x10 r11 hr11) ⟨_, rfl, (pubL_cons (S_api_Wide.pub r11.1) (pubL_cons (pub_v _) pubL_nil))⟩) ?_
        refine awl_runD hT (fun _ => false) [] 5 [4, 6, 10, 14] ⟨[(4, some (none, (.ref 0 [] 0))), (6, some (none, (eB r11.2))), (10, some (none, (eB r3.2))), (14, some (none, (eI .u64 p2_6.2.2)))], [.var (S_api_Wide.enc r11.1)]⟩ (by kernel_rfl) ?_
        refine awl_nil ?_
        refine aw_sreg ?_
        refine awl_runD hT (fun _ => false) [] 2 [4, 10, 14, 85] ⟨[(4, some (none, (.ref 0 [] 0))), (10, some (none, (eB r3.2))), (14, some (none, (eI .u64 p2_6.2.2))), (85, some (none, (eB (!r11.2))))], [.var (S_api_Wide.enc r11.1)]⟩ (by kernel_rfl) ?_
        refine awl_nil ?_
        refine aw_cond (b := !r11.2) (by kernel_rfl) (fun hc => ?_) (fun hc => ?_)
        · have h := cond_t hc h
          refine aw_sreg ?_
          refine awl_runD hT (fun _ => false) [] 4 [4, 5, 6] ⟨[(4, some (none, (.ref 0 [] 0))), (5, some (none, (eI .i64 0))), (6, some (none, (eB false)))], [.var (.st 2 [(eI .i64 0), (eI .u64 0)])]⟩ (by kernel_rfl) ?_
          refine awl_nil ?_
          refine aw_ret (tn_r ?_)
          obtain rfl := Option.some.inj h
          exact ⟨Or.inl rfl, [(.st 2 [(eI .i64 0), (eI .u64 0)]), (eI .i64 0), (eB false)], by kernel_rfl, ⟨_, rfl, (pubL_cons (pub_st (pubL_cons (pub_v _) (pubL_cons (pub_v _) pubL_nil))) (pubL_cons (pub_v _) (pubL_cons (pub_v _) pubL_nil)))⟩⟩
        · have h := cond_f hc h
          refine aw_skip (tn_n ?_)
          obtain ⟨p3_12, h, gp3_12⟩ := obind h
          refine aw_join (fun s => s = ⟨[(4, some (none, (.ref 0 [] 0))), (14, some (none, (eI .u64 p3_12)))], [.var (S_api_Wide.enc r11.1)]⟩) ?_ ?_
          · refine aw_sreg ?_
            refine awl_runD hT (fun _ => false) [] 1 [4, 14, 87] ⟨[(4, some (none, (.ref 0 [] 0))), (14, some (none, (eI .u64 p2_6.2.2))), (87, some (none, (eB r3.2)))], [.var (S_api_Wide.enc r11.1)]⟩ (by kernel_rfl) ?_
            refine awl_nil ?_
            refine aw_cond (b := r3.2) (by kernel_rfl) (fun hc => ?_) (fun hc => ?_)
            · have h := cond_t hc h
              refine aw_region ?_
              refine awl_runD hT (fun _ => false) [] 3 [4, 14] ⟨[(4, some (none, (.ref 0 [] 0))), (14, some (none, (eI .u64 (U64 (0 - p2_6.2.2)))))], [.var (S_api_Wide.enc r11.1)]⟩ (by kernel_rfl) ?_
              refine awl_nil (tn_n ?_)
              obtain rfl := Option.some.inj h
              exact rfl
            · have h := cond_f hc h
              refine aw_conv (env' := [(4, some (none, (.ref 0 [] 0))), (14, some (none, (eI .u64 p2_6.2.2)))]) (H' := [.var (S_api_Wide.enc r11.1)]) (by kernel_rfl) ⟨.inr ⟨_, _, rfl, rfl, PubA.t (S_api_Wide.pub r11.1)⟩, trivial⟩ (envT_cons (x := (.ref 0 [] 0)) (by kernel_rfl) (pubT_ref (by kernel_rfl)) rfl rfl (envT_cons (x := (eI .u64 p2_6.2.2)) (by kernel_rfl) (PubA.t (pub_v _)) rfl rfl envT_nil)) ?_
              refine aw_skip (tn_n ?_)
              obtain rfl := Option.some.inj h
              exact rfl
          · rintro s rfl
            have h := gp3_12
            refine aw_sreg ?_
            refine awl_runD hT (fun _ => false) [] 6 [4, 5, 6] ⟨[(4, some (none, (.ref 0 [] 0))), (5, some (none, (eI .i64 (I64 p3_12)))), (6, some (none, (eB true)))], [.var (S_api_Wide.enc r11.1)]⟩ (by kernel_rfl) ?_
            refine awl_nil ?_
            refine aw_ret ?_
            obtain rfl := Option.some.inj h
            exact ⟨Or.inl rfl, [(S_api_Wide.enc r11.1), (eI .i64 (I64 p3_12)), (eB true)], by kernel_rfl, ⟨_, rfl, (pubL_cons (S_api_Wide.pub r11.1) (pubL_cons (pub_v _) (pubL_cons (pub_v _) pubL_nil)))⟩⟩

theorem wide_Div_ok_c : callable Try.prog 142 := ⟨_, Try.func142, by decide, rfl⟩

/-! umbra/wide.Int -/
def p_wide_Int (N : Nat) (a0 : S_api_Wide) : Option (Int × Bool) :=
  letO (shr .i64 (I64 a0.gLo) 63) fun x1 =>
  cond (a0.gHi != x1) (some (0, false)) (some (I64 a0.gLo, true))

theorem wide_Int_ok (N : Nat) (a0 : S_api_Wide) (r : Int × Bool) (h : p_wide_Int N a0 = some r) : Fn Try.prog 169 [(S_api_Wide.enc a0)] (.tup [(eI .i64 r.1), (eB r.2)]) := by
  unfold p_wide_Int at h
  refine fn_of_awR (n := ⟨13, 0⟩) (rs := [.tmp 2, .tmp 3]) hT Try.func169 rfl rfl (by kernel_rfl) rfl ?_
  refine (show aw _ _ _ _ ⟨[(0, some (none, (S_api_Wide.enc a0)))], []⟩ from ?_)
  refine aw_sreg ?_
  refine awl_runD hT (fun d => Nat.beq d 1) [] 3 [1] ⟨[(1, some (none, (.im (S_api_Wide.enc a0))))], []⟩ (by kernel_rfl) ?_
  refine awl_nil ?_
  refine aw_seq ?_
  refine aw_sreg ?_
  refine awl_runD hT (fun _ => false) [] 4 [1, 2] ⟨[(1, some (none, (.im (S_api_Wide.enc a0)))), (2, some (none, (eI .i64 (I64 a0.gLo))))], []⟩ (by kernel_rfl) ?_
  refine awl_nil ?_
  refine aw_sreg ?_
  obtain ⟨x1, hx1, h⟩ := letO_ex h
  refine awl_runD hT (fun _ => false) [] 5 [2, 11] ⟨[(2, some (none, (eI .i64 (I64 a0.gLo)))), (11, some (none, (eB (a0.gHi != x1))))], []⟩ (by subst hx1; kernel_rfl) ?_
  refine awl_nil ?_
  refine aw_cond (b := a0.gHi != x1) (by kernel_rfl) (fun hc => ?_) (fun hc => ?_)
  · have h := cond_t hc h
    refine aw_sreg ?_
    refine awl_runD hT (fun _ => false) [] 2 [2, 3] ⟨[(2, some (none, (eI .i64 0))), (3, some (none, (eB false)))], []⟩ (by kernel_rfl) ?_
    refine awl_nil ?_
    refine aw_ret (tn_r ?_)
    obtain rfl := Option.some.inj h
    exact ⟨Or.inl rfl, [(eI .i64 0), (eB false)], by kernel_rfl, ⟨_, rfl, (pubL_cons (pub_v _) (pubL_cons (pub_v _) pubL_nil))⟩⟩
  · have h := cond_f hc h
    refine aw_skip (tn_n ?_)
    refine aw_sreg ?_
    refine awl_runD hT (fun _ => false) [] 3 [2, 3] ⟨[(2, some (none, (eI .i64 (I64 a0.gLo)))), (3, some (none, (eB true)))], []⟩ (by kernel_rfl) ?_
    refine awl_nil ?_
    refine aw_ret ?_
    obtain rfl := Option.some.inj h
    exact ⟨Or.inl rfl, [(eI .i64 (I64 a0.gLo)), (eB true)], by kernel_rfl, ⟨_, rfl, (pubL_cons (pub_v _) (pubL_cons (pub_v _) pubL_nil))⟩⟩

theorem wide_Int_ok_c : callable Try.prog 169 := ⟨_, Try.func169, by decide, rfl⟩

/-! umbra/fix.near -/
def p_fix_near (N : Nat) (a0 : S_api_Wide) : Option (Int) :=
  Option.bind (p_wide_Int N a0) fun r1 =>
  cond r1.2 (
    some r1.1) (
    cond (decide (a0.gHi < 0)) (some (-9223372036854775808)) (some 9223372036854775807))

theorem fix_near_ok (N : Nat) (a0 : S_api_Wide) (r : Int) (h : p_fix_near N a0 = some r) : Fn Try.prog 139 [(S_api_Wide.enc a0)] (eI .i64 r) := by
  unfold p_fix_near at h
  refine fn_of_awR (n := ⟨15, 0⟩) (rs := [.tmp 2]) hT Try.func139 rfl rfl (by kernel_rfl) rfl ?_
  refine (show aw _ _ _ _ ⟨[(0, some (none, (S_api_Wide.enc a0)))], []⟩ from ?_)
  refine aw_sreg ?_
  refine awl_runD hT (fun d => Nat.beq d 1) [] 2 [1] ⟨[(1, some (none, (.im (S_api_Wide.enc a0))))], []⟩ (by kernel_rfl) ?_
  refine awl_nil ?_
  refine aw_seq ?_
  refine aw_sreg ?_
  refine awl_runD hT (fun _ => false) [] 1 [1, 6] ⟨[(1, some (none, (.im (S_api_Wide.enc a0)))), (6, some (none, (S_api_Wide.enc a0)))], []⟩ (by kernel_rfl) ?_
  obtain ⟨r1, hr1, h⟩ := obind h
  refine awl_op (by kernel_rfl) (owp_call (avs := [(S_api_Wide.enc a0)]) (pavs := [(S_api_Wide.enc a0)]) (ret := (.tup [(eI .i64 r1.1), (eB r1.2)])) rfl rfl (by kernel_rfl) (by kernel_rfl) wide_Int_ok_c (pubL_cons (S_api_Wide.pub a0) pubL_nil) (wide_Int_ok N a0 r1 hr1) ⟨_, rfl, (pubL_cons (pub_v _) (pubL_cons (pub_v _) pubL_nil))⟩) ?_
  refine awl_runD hT (fun _ => false) [] 5 [1, 3, 4] ⟨[(1, some (none, (.im (S_api_Wide.enc a0)))), (3, some (none, (eI .i64 r1.1))), (4, some (none, (eB r1.2)))], []⟩ (by kernel_rfl) ?_
  refine awl_nil ?_
  refine aw_sreg ?_
  refine awl_runD hT (fun _ => false) [] 1 [1, 3, 10] ⟨[(1, some (none, (.im (S_api_Wide.enc a0)))), (3, some (none, (eI .i64 r1.1))), (10, some (none, (eB r1.2)))], []⟩ (by kernel_rfl) ?_
  refine awl_nil ?_
  refine aw_cond (b := r1.2) (by kernel_rfl) (fun hc => ?_) (fun hc => ?_)
  · have h := cond_t hc h
    refine aw_sreg ?_
    refine awl_runD hT (fun _ => false) [] 2 [2] ⟨[(2, some (none, (eI .i64 r1.1)))], []⟩ (by kernel_rfl) ?_
    refine awl_nil ?_
    refine aw_ret (tn_r ?_)
    obtain rfl := Option.some.inj h
    exact ⟨Or.inl rfl, [(eI .i64 r1.1)], by kernel_rfl, (pub_v _)⟩
  · have h := cond_f hc h
    refine aw_skip (tn_n ?_)
    refine aw_seq ?_
    refine aw_sreg ?_
    refine awl_runD hT (fun _ => false) [] 3 [14] ⟨[(14, some (none, (eB (decide (a0.gHi < 0)))))], []⟩ (by kernel_rfl) ?_
    refine awl_nil ?_
    refine aw_cond (b := decide (a0.gHi < 0)) (by kernel_rfl) (fun hc => ?_) (fun hc => ?_)
    · have h := cond_t hc h
      refine aw_sreg ?_
      refine awl_runD hT (fun _ => false) [] 1 [2] ⟨[(2, some (none, (eI .i64 (-9223372036854775808))))], []⟩ (by kernel_rfl) ?_
      refine awl_nil ?_
      refine aw_ret (tn_r ?_)
      obtain rfl := Option.some.inj h
      exact ⟨Or.inl rfl, [(eI .i64 (-9223372036854775808))], by kernel_rfl, (pub_v _)⟩
    · have h := cond_f hc h
      refine aw_skip (tn_n ?_)
      refine aw_sreg ?_
      refine awl_runD hT (fun _ => false) [] 1 [2] ⟨[(2, some (none, (eI .i64 9223372036854775807)))], []⟩ (by kernel_rfl) ?_
      refine awl_nil ?_
      refine aw_ret ?_
      obtain rfl := Option.some.inj h
      exact ⟨Or.inl rfl, [(eI .i64 9223372036854775807)], by kernel_rfl, (pub_v _)⟩

theorem fix_near_ok_c : callable Try.prog 139 := ⟨_, Try.func139, by decide, rfl⟩

/-! umbra/fix.Div -/
def p_fix_Div (N : Nat) (a0 : Int) (a1 : Int) : Option (Int) :=
  cond (a1 == 0) (
    cond (decide (a0 > 0)) (
      some 9223372036854775807) (
      cond (decide (a0 < 0)) (some (-9223372036854775808)) (some 0))) (
    Option.bind (p_wide_Mul N a0 4294967296) fun r1 =>
    Option.bind (p_wide_Div N r1 a1) fun r2 =>
    Option.bind (p_fix_near N r2.1) fun r3 =>
    some r3)

theorem fix_Div_ok (N : Nat) (a0 : Int) (a1 : Int) (r : Int) (h : p_fix_Div N a0 a1 = some r) : Fn Try.prog 85 [(eI .i64 a0), (eI .i64 a1)] (eI .i64 r) := by
  unfold p_fix_Div at h
  refine fn_of_awR (n := ⟨26, 0⟩) (rs := [.tmp 4]) hT Try.func85 rfl rfl (by kernel_rfl) rfl ?_
  refine (show aw _ _ _ _ ⟨[(0, some (none, (eI .i64 a0))), (1, some (none, (eI .i64 a1)))], []⟩ from ?_)
  refine aw_sreg ?_
  refine awl_runD hT (fun _ => false) [] 1 [0, 1] ⟨[(0, some (none, (eI .i64 a0))), (1, some (none, (eI .i64 a1)))], []⟩ (by kernel_rfl) ?_
  refine awl_nil ?_
  refine aw_seq ?_
  refine aw_sreg ?_
  refine awl_runD hT (fun _ => false) [] 2 [0, 1, 9] ⟨[(0, some (none, (eI .i64 a0))), (1, some (none, (eI .i64 a1))), (9, some (none, (eB (a1 == 0))))], []⟩ (by kernel_rfl) ?_
  refine awl_nil ?_
  refine aw_cond (b := a1 == 0) (by kernel_rfl) (fun hc => ?_) (fun hc => ?_)
  · have h := cond_t hc h
    refine aw_seq ?_
    refine aw_block ?_
    refine aw_sreg ?_
    refine awl_runD hT (fun _ => false) [] 3 [0, 10] ⟨[(0, some (none, (eI .i64 a0))), (10, some (none, (eB (decide (a0 > 0)))))], []⟩ (by kernel_rfl) ?_
    refine awl_nil ?_
    refine aw_cond (b := decide (a0 > 0)) (by kernel_rfl) (fun hc => ?_) (fun hc => ?_)
    · have h := cond_t hc h
      refine aw_sreg ?_
      refine awl_runD hT (fun _ => false) [] 1 [4] ⟨[(4, some (none, (eI .i64 9223372036854775807)))], []⟩ (by kernel_rfl) ?_
      refine awl_nil ?_
      refine aw_ret (inB_r (tn_r (tn_r ?_)))
      obtain rfl := Option.some.inj h
      exact ⟨Or.inl rfl, [(eI .i64 9223372036854775807)], by kernel_rfl, (pub_v _)⟩
    · have h := cond_f hc h
      refine aw_sreg ?_
      refine awl_runD hT (fun _ => false) [] 3 [13] ⟨[(13, some (none, (eB (decide (a0 < 0)))))], []⟩ (by kernel_rfl) ?_
      refine awl_nil ?_
      refine aw_cond (b := decide (a0 < 0)) (by kernel_rfl) (fun hc => ?_) (fun hc => ?_)
      · have h := cond_t hc h
        refine aw_sreg ?_
        refine awl_runD hT (fun _ => false) [] 1 [4] ⟨[(4, some (none, (eI .i64 (-9223372036854775808))))], []⟩ (by kernel_rfl) ?_
        refine awl_nil ?_
        refine aw_ret (inB_r (tn_r (tn_r ?_)))
        obtain rfl := Option.some.inj h
        exact ⟨Or.inl rfl, [(eI .i64 (-9223372036854775808))], by kernel_rfl, (pub_v _)⟩
      · have h := cond_f hc h
        refine aw_skip (inB_n (tn_n ?_))
        refine aw_sreg ?_
        refine awl_runD hT (fun _ => false) [] 1 [4] ⟨[(4, some (none, (eI .i64 0)))], []⟩ (by kernel_rfl) ?_
        refine awl_nil ?_
        refine aw_ret (tn_r ?_)
        obtain rfl := Option.some.inj h
        exact ⟨Or.inl rfl, [(eI .i64 0)], by kernel_rfl, (pub_v _)⟩
  · have h := cond_f hc h
    refine aw_skip (tn_n ?_)
    refine aw_sreg ?_
    refine awl_runD hT (fun _ => false) [] 1 [1, 17] ⟨[(1, some (none, (eI .i64 a1))), (17, some (none, (eI .i64 a0)))], []⟩ (by kernel_rfl) ?_
    obtain ⟨r1, hr1, h⟩ := obind h
    refine awl_op (by kernel_rfl) (owp_call (avs := [(eI .i64 a0), (eI .i64 4294967296)]) (pavs := [(eI .i64 a0), (eI .i64 4294967296)]) (ret := (S_api_Wide.enc r1)) rfl rfl (by kernel_rfl) (by kernel_rfl) wide_Mul_ok_c (pubL_cons (pub_v _) (pubL_cons (pub_v _) pubL_nil)) (wide_Mul_ok N a0 4294967296 r1 hr1) (S_api_Wide.pub r1)) ?_
    refine awl_runD hT (fun _ => false) [] 1 [18, 19] ⟨[(18, some (none, (S_api_Wide.enc r1))), (19, some (none, (eI .i64 a1)))], []⟩ (by kernel_rfl) ?_
    obtain ⟨r2, hr2, h⟩ := obind h
    refine awl_op (by kernel_rfl) (owp_call (avs := [(S_api_Wide.enc r1), (eI .i64 a1)]) (pavs := [(S_api_Wide.enc r1), (eI .i64 a1)]) (ret := (.tup [(S_api_Wide.enc r2.1), (eI .i64 r2.2.1), (eB r2.2.2)])) rfl rfl (by kernel_rfl) (by kernel_rfl) wide_Div_ok_c (pubL_cons (S_api_Wide.pub r1) (pubL_cons (pub_v _) pubL_nil)) (wide_Div_ok N r1 a1 r2 hr2) ⟨_, rfl, (pubL_cons (S_api_Wide.pub r2.1) (pubL_cons (pub_v _) (pubL_cons (pub_v _) pubL_nil)))⟩) ?_
    refine awl_runD hT (fun _ => false) [] 8 [5] ⟨[(5, some (none, (.ref 0 [] 0)))], [.var (S_api_Wide.enc r2.1)]⟩ (by kernel_rfl) ?_
    refine awl_nil ?_
    refine aw_sreg ?_
    refine awl_runD hT (fun _ => false) [] 1 [24] ⟨[(24, some (none, (S_api_Wide.enc r2.1)))], [.var (S_api_Wide.enc r2.1)]⟩ (by kernel_rfl) ?_
    obtain ⟨r3, hr3, h⟩ := obind h
    refine awl_op (by kernel_rfl) (owp_call (avs := [(S_api_Wide.enc r2.1)]) (pavs := [(S_api_Wide.enc r2.1)]) (ret := (eI .i64 r3)) rfl rfl (by kernel_rfl) (by kernel_rfl) fix_near_ok_c (pubL_cons (S_api_Wide.pub r2.1) pubL_nil) (fix_near_ok N r2.1 r3 hr3) (pub_v _)) ?_
    refine awl_runD hT (fun _ => false) [] 1 [4] ⟨[(4, some (none, (eI .i64 r3)))], [.var (S_api_Wide.enc r2.1)]⟩ (by kernel_rfl) ?_
    refine awl_nil ?_
    refine aw_ret ?_
    obtain rfl := Option.some.inj h
    exact ⟨Or.inl rfl, [(eI .i64 r3)], by kernel_rfl, (pub_v _)⟩

theorem fix_Div_ok_c : callable Try.prog 85 := ⟨_, Try.func85, by decide, rfl⟩

/-! umbra/fix.Of -/
def p_fix_Of (N : Nat) (a0 : Int) : Option (Int) :=
  Option.bind (p_wide_Mul N a0 4294967296) fun r1 =>
  Option.bind (p_fix_near N r1) fun r2 =>
  some r2

theorem fix_Of_ok (N : Nat) (a0 : Int) (r : Int) (h : p_fix_Of N a0 = some r) : Fn Try.prog 87 [(eI .i64 a0)] (eI .i64 r) := by
  unfold p_fix_Of at h
  refine fn_of_awR (n := ⟨6, 0⟩) (rs := [.tmp 2]) hT Try.func87 rfl rfl (by kernel_rfl) rfl ?_
  refine (show aw _ _ _ _ ⟨[(0, some (none, (eI .i64 a0)))], []⟩ from ?_)
  refine aw_sreg ?_
  refine awl_runD hT (fun _ => false) [] 1 [0] ⟨[(0, some (none, (eI .i64 a0)))], []⟩ (by kernel_rfl) ?_
  refine awl_nil ?_
  refine aw_sreg ?_
  refine awl_runD hT (fun _ => false) [] 1 [3] ⟨[(3, some (none, (eI .i64 a0)))], []⟩ (by kernel_rfl) ?_
  obtain ⟨r1, hr1, h⟩ := obind h
  refine awl_op (by kernel_rfl) (owp_call (avs := [(eI .i64 a0), (eI .i64 4294967296)]) (pavs := [(eI .i64 a0), (eI .i64 4294967296)]) (ret := (S_api_Wide.enc r1)) rfl rfl (by kernel_rfl) (by kernel_rfl) wide_Mul_ok_c (pubL_cons (pub_v _) (pubL_cons (pub_v _) pubL_nil)) (wide_Mul_ok N a0 4294967296 r1 hr1) (S_api_Wide.pub r1)) ?_
  refine awl_runD hT (fun _ => false) [] 0 [4] ⟨[(4, some (none, (S_api_Wide.enc r1)))], []⟩ (by kernel_rfl) ?_
  obtain ⟨r2, hr2, h⟩ := obind h
  refine awl_op (by kernel_rfl) (owp_call (avs := [(S_api_Wide.enc r1)]) (pavs := [(S_api_Wide.enc r1)]) (ret := (eI .i64 r2)) rfl rfl (by kernel_rfl) (by kernel_rfl) fix_near_ok_c (pubL_cons (S_api_Wide.pub r1) pubL_nil) (fix_near_ok N r1 r2 hr2) (pub_v _)) ?_
  refine awl_runD hT (fun _ => false) [] 1 [2] ⟨[(2, some (none, (eI .i64 r2)))], []⟩ (by kernel_rfl) ?_
  refine awl_nil ?_
  refine aw_ret ?_
  obtain rfl := Option.some.inj h
  exact ⟨Or.inl rfl, [(eI .i64 r2)], by kernel_rfl, (pub_v _)⟩

theorem fix_Of_ok_c : callable Try.prog 87 := ⟨_, Try.func87, by decide, rfl⟩

/-! umbra/wide.Of -/
def p_wide_Of (N : Nat) (a0 : Int) : Option (S_api_Wide) :=
  some (S_api_Wide.mk (shr .i64 a0 63) (U64 a0))

theorem wide_Of_ok (N : Nat) (a0 : Int) (r : S_api_Wide) (h : p_wide_Of N a0 = some r) : Fn Try.prog 170 [(eI .i64 a0)] (S_api_Wide.enc r) := by
  unfold p_wide_Of at h
  refine fn_of_awR (n := ⟨8, 0⟩) (rs := [.cell 2 192]) hT Try.func170 rfl rfl (by kernel_rfl) rfl ?_
  refine (show aw _ _ _ _ ⟨[(0, some (none, (eI .i64 a0)))], []⟩ from ?_)
  refine aw_sreg ?_
  refine awl_runD hT (fun _ => false) [] 1 [0, 2] ⟨[(0, some (none, (eI .i64 a0))), (2, some (none, (.ref 0 [] 0)))], [.var (.st 2 [(eI .i64 0), (eI .u64 0)])]⟩ (by kernel_rfl) ?_
  refine awl_nil ?_
  refine aw_sreg ?_
  refine awl_runD hT (fun _ => false) [] 6 [2] ⟨[(2, some (none, (.ref 0 [] 0)))], [.var (.st 2 [(eI .i64 (shr .i64 a0 63)), (eI .u64 (U64 a0))])]⟩ (by kernel_rfl) ?_
  refine awl_nil ?_
  refine aw_ret ?_
  obtain rfl := Option.some.inj h
  exact ⟨Or.inl rfl, [(.st 2 [(eI .i64 (shr .i64 a0 63)), (eI .u64 (U64 a0))])], by kernel_rfl, (pub_st (pubL_cons (pub_v _) (pubL_cons (pub_v _) pubL_nil)))⟩

theorem wide_Of_ok_c : callable Try.prog 170 := ⟨_, Try.func170, by decide, rfl⟩

/-! umbra/wide.Shr -/
def p_wide_Shr (N : Nat) (a0 : S_api_Wide) (a1 : Int) : Option (S_api_Wide) :=
  letO (decide ((imax a1 0) ≥ 64)) fun x1 =>
  cond x1 (
    letO (imin (I64 ((imax a1 0) - 64)) 63) fun x2 =>
    Option.bind (reqF (decide (x2 < 0))) fun _ =>
    letO (shr .i64 a0.gHi x2) fun x3 =>
    Option.bind (p_wide_Of N x3) fun r5 =>
    some r5) (
    cond ((imax a1 0) == 0) (
      some a0) (
      Option.bind (reqF (decide (imax a1 0 < 0))) fun _ =>
      letO (shr .i64 a0.gHi (imax a1 0)) fun x6 =>
      Option.bind (reqF (decide (imax a1 0 < 0))) fun _ =>
      letO (shr .u64 a0.gLo (imax a1 0)) fun x8 =>
      Option.bind (reqF (decide (I64 (64 - (imax a1 0)) < 0))) fun _ =>
      letO (shl .u64 (U64 a0.gHi) (I64 (64 - (imax a1 0)))) fun x10 =>
      some (S_api_Wide.mk x6 (bor .u64 x8 x10))))

theorem wide_Shr_ok (N : Nat) (a0 : S_api_Wide) (a1 : Int) (r : S_api_Wide) (h : p_wide_Shr N a0 a1 = some r) : Fn Try.prog 140 [(S_api_Wide.enc a0), (eI .i64 a1)] (S_api_Wide.enc r) := by
  unfold p_wide_Shr at h
  refine fn_of_awR (n := ⟨35, 0⟩) (rs := [.cell 4 192]) hT Try.func140 rfl rfl (by kernel_rfl) rfl ?_
  refine (show aw _ _ _ _ ⟨[(0, some (none, (S_api_Wide.enc a0))), (1, some (none, (eI .i64 a1)))], []⟩ from ?_)
  refine aw_sreg ?_
  refine awl_runD hT (fun d => Nat.beq d 2) [] 2 [1, 2, 4] ⟨[(1, some (none, (eI .i64 a1))), (2, some (none, (.im (S_api_Wide.enc a0)))), (4, some (none, (.ref 0 [] 0)))], [.var (.st 2 [(eI .i64 0), (eI .u64 0)])]⟩ (by kernel_rfl) ?_
  refine awl_nil ?_
  refine aw_sreg ?_
  refine awl_runD hT (fun _ => false) [] 3 [1, 2, 4] ⟨[(1, some (none, (eI .i64 (imax a1 0)))), (2, some (none, (.im (S_api_Wide.enc a0)))), (4, some (none, (.ref 0 [] 0)))], [.var (.st 2 [(eI .i64 0), (eI .u64 0)])]⟩ (by kernel_rfl) ?_
  refine awl_nil ?_
  refine aw_seq ?_
  refine aw_sreg ?_
  obtain ⟨x1, hx1, h⟩ := letO_ex h
  refine awl_runD hT (fun _ => false) [] 2 [1, 2, 4, 8] ⟨[(1, some (none, (eI .i64 (imax a1 0)))), (2, some (none, (.im (S_api_Wide.enc a0)))), (4, some (none, (.ref 0 [] 0))), (8, some (none, (eB x1)))], [.var (.st 2 [(eI .i64 0), (eI .u64 0)])]⟩ (by subst hx1; kernel_rfl) ?_
  refine awl_nil ?_
  refine aw_cond (b := x1) (by kernel_rfl) (fun hc => ?_) (fun hc => ?_)
  · have h := cond_t hc h
    refine aw_sreg ?_
    obtain ⟨x2, hx2, h⟩ := letO_ex h
    refine awl_runD hT (fun _ => false) [] 5 [4, 10, 13] ⟨[(4, some (none, (.ref 0 [] 0))), (10, some (none, (eI .i64 a0.gHi))), (13, some (none, (eI .i64 x2)))], [.var (.st 2 [(eI .i64 0), (eI .u64 0)])]⟩ (by subst hx2; kernel_rfl) ?_
    obtain ⟨_, q4, h⟩ := obind h
    obtain ⟨x3, hx3, h⟩ := letO_ex h
    refine awl_op (by kernel_rfl) (owp_bin hT (vx := .int .i64 a0.gHi) (vy := .int .i64 x2) (z := .int .i64 x3) rfl rfl (by kernel_rfl) (by kernel_rfl) (by kernel_rfl) (by subst hx3; exact evBin_shr (reqF_f q4))) ?_
    refine awl_runD hT (fun _ => false) [] 0 [4, 14] ⟨[(4, some (none, (.ref 0 [] 0))), (14, some (none, (eI .i64 x3)))], [.var (.st 2 [(eI .i64 0), (eI .u64 0)])]⟩ (by kernel_rfl) ?_
    obtain ⟨r5, hr5, h⟩ := obind h
    refine awl_op (by kernel_rfl) (owp_call (avs := [(eI .i64 x3)]) (pavs := [(eI .i64 x3)]) (ret := (S_api_Wide.enc r5)) rfl rfl (by kernel_rfl) (by kernel_rfl) wide_Of_ok_c (pubL_cons (pub_v _) pubL_nil) (wide_Of_ok N x3 r5 hr5) (S_api_Wide.pub r5)) ?_
    refine awl_runD hT (fun _ => false) [] 1 [4] ⟨[(4, some (none, (.ref 0 [] 0)))], [.var (S_api_Wide.enc r5)]⟩ (by kernel_rfl) ?_
    refine awl_nil ?_
    refine aw_ret (tn_r ?_)
    obtain rfl := Option.some.inj h
    exact ⟨Or.inl rfl, [(S_api_Wide.enc r5)], by kernel_rfl, (S_api_Wide.pub r5)⟩
  · have h := cond_f hc h
    refine aw_skip (tn_n ?_)
    refine aw_seq ?_
    refine aw_sreg ?_
    refine awl_runD hT (fun _ => false) [] 2 [1, 2, 4, 17] ⟨[(1, some (none, (eI .i64 (imax a1 0)))), (2, some (none, (.im (S_api_Wide.enc a0)))), (4, some (none, (.ref 0 [] 0))), (17, some (none, (eB ((imax a1 0) == 0))))], [.var (.st 2 [(eI .i64 0), (eI .u64 0)])]⟩ (by kernel_rfl) ?_
    refine awl_nil ?_
    refine aw_cond (b := (imax a1 0) == 0) (by kernel_rfl) (fun hc => ?_) (fun hc => ?_)
    · have h := cond_t hc h
      refine aw_sreg ?_
      refine awl_runD hT (fun _ => false) [] 2 [4] ⟨[(4, some (none, (.ref 0 [] 0)))], [.var (S_api_Wide.enc a0)]⟩ (by kernel_rfl) ?_
      refine awl_nil ?_
      refine aw_ret (tn_r ?_)
      obtain rfl := Option.some.inj h
      exact ⟨Or.inl rfl, [(S_api_Wide.enc a0)], by kernel_rfl, (S_api_Wide.pub a0)⟩
    · have h := cond_f hc h
      refine aw_skip (tn_n ?_)
      obtain ⟨_, q7, h⟩ := obind h
      obtain ⟨x6, hx6, h⟩ := letO_ex h
      obtain ⟨_, q9, h⟩ := obind h
      obtain ⟨x8, hx8, h⟩ := letO_ex h
      obtain ⟨_, q11, h⟩ := obind h
      obtain ⟨x10, hx10, h⟩ := letO_ex h
      refine aw_sdraw (by rfl) [⟨[2], 19, (none, (.im (eI .i64 a0.gHi)))⟩, ⟨[19], 20, (none, (eI .i64 a0.gHi))⟩, ⟨[1], 21, (none, (eI .i64 (imax a1 0)))⟩, ⟨[20, 21], 22, (none, (eI .i64 x6))⟩, ⟨[2], 23, (none, (.im (eI .u64 a0.gLo)))⟩, ⟨[23], 24, (none, (eI .u64 a0.gLo))⟩, ⟨[1], 25, (none, (eI .i64 (imax a1 0)))⟩, ⟨[24, 25], 26, (none, (eI .u64 x8))⟩, ⟨[2], 27, (none, (.im (eI .i64 a0.gHi)))⟩, ⟨[27], 28, (none, (eI .i64 a0.gHi))⟩, ⟨[28], 29, (none, (eI .u64 (U64 a0.gHi)))⟩, ⟨[1], 30, (none, (eI .i64 (imax a1 0)))⟩, ⟨[30], 31, (none, (eI .i64 (I64 (64 - (imax a1 0)))))⟩, ⟨[29, 31], 32, (none, (eI .u64 x10))⟩, ⟨[26, 32], 33, (none, (eI .u64 (bor .u64 x8 x10)))⟩] [1, 2, 4] [4, 22, 33] (none) (B := [(1, some (none, (eI .i64 (imax a1 0)))), (2, some (none, (.im (S_api_Wide.enc a0)))), (4, some (none, (.ref 0 [] 0)))]) (st' := ⟨[(4, some (none, (.ref 0 [] 0))), (22, some (none, (eI .i64 x6))), (33, some (none, (eI .u64 (bor .u64 x8 x10))))], [.var (.st 2 [(eI .i64 0), (eI .u64 0)])]⟩) (by kernel_rfl) (by kernel_rfl) (stab_all ⟨stab_ev hT (need := [(2, some (none, (.im (S_api_Wide.enc a0))))]) rfl rfl (by kernel_rfl) (by kernel_rfl) rfl rfl (by kernel_rfl) (by kernel_rfl), stab_ev hT (need := [(19, some (none, (.im (eI .i64 a0.gHi))))]) rfl rfl (by kernel_rfl) (by kernel_rfl) rfl rfl (by kernel_rfl) (by kernel_rfl), stab_ev hT (need := [(1, some (none, (eI .i64 (imax a1 0))))]) rfl rfl (by kernel_rfl) (by kernel_rfl) rfl rfl (by kernel_rfl) (by kernel_rfl), stab_owp (need := [(20, some (none, (eI .i64 a0.gHi))), (21, some (none, (eI .i64 (imax a1 0))))]) rfl rfl (by kernel_rfl) (by kernel_rfl) rfl (fun env H' hs => (owp_bin hT (vx := .int .i64 a0.gHi) (vy := .int .i64 (imax a1 0)) (z := .int .i64 x6) rfl rfl (by kernel_rfl) (sub_opd hs (by kernel_rfl)) (sub_opd hs (by kernel_rfl)) (by subst hx6; exact evBin_shr (reqF_f q7)))), stab_ev hT (need := [(2, some (none, (.im (S_api_Wide.enc a0))))]) rfl rfl (by kernel_rfl) (by kernel_rfl) rfl rfl (by kernel_rfl) (by kernel_rfl), stab_ev hT (need := [(23, some (none, (.im (eI .u64 a0.gLo))))]) rfl rfl (by kernel_rfl) (by kernel_rfl) rfl rfl (by kernel_rfl) (by kernel_rfl), stab_ev hT (need := [(1, some (none, (eI .i64 (imax a1 0))))]) rfl rfl (by kernel_rfl) (by kernel_rfl) rfl rfl (by kernel_rfl) (by kernel_rfl), stab_owp (need := [(24, some (none, (eI .u64 a0.gLo))), (25, some (none, (eI .i64 (imax a1 0))))]) rfl rfl (by kernel_rfl) (by kernel_rfl) rfl (fun env H' hs => (owp_bin hT (vx := .int .u64 a0.gLo) (vy := .int .i64 (imax a1 0)) (z := .int .u64 x8) rfl rfl (by kernel_rfl) (sub_opd hs (by kernel_rfl)) (sub_opd hs (by kernel_rfl)) (by subst hx8; exact evBin_shr (reqF_f q9)))), stab_ev hT (need := [(2, some (none, (.im (S_api_Wide.enc a0))))]) rfl rfl (by kernel_rfl) (by kernel_rfl) rfl rfl (by kernel_rfl) (by kernel_rfl), stab_ev hT (need := [(27, some (none, (.im (eI .i64 a0.gHi))))]) rfl rfl (by kernel_rfl) (by kernel_rfl) rfl rfl (by kernel_rfl) (by kernel_rfl), stab_ev hT (need := [(28, some (none, (eI .i64 a0.gHi)))]) rfl rfl (by kernel_rfl) (by kernel_rfl) rfl rfl (by kernel_rfl) (by kernel_rfl), stab_ev hT (need := [(1, some (none, (eI .i64 (imax a1 0))))]) rfl rfl (by kernel_rfl) (by kernel_rfl) rfl rfl (by kernel_rfl) (by kernel_rfl), stab_ev hT (need := [(30, some (none, (eI .i64 (imax a1 0))))]) rfl rfl (by kernel_rfl) (by kernel_rfl) rfl rfl (by kernel_rfl) (by kernel_rfl), stab_owp (need := [(29, some (none, (eI .u64 (U64 a0.gHi)))), (31, some (none, (eI .i64 (I64 (64 - (imax a1 0))))))]) rfl rfl (by kernel_rfl) (by kernel_rfl) rfl (fun env H' hs => (owp_bin hT (vx := .int .u64 (U64 a0.gHi)) (vy := .int .i64 (I64 (64 - (imax a1 0)))) (z := .int .u64 x10) rfl rfl (by kernel_rfl) (sub_opd hs (by kernel_rfl)) (sub_opd hs (by kernel_rfl)) (by subst hx10; exact evBin_shl (reqF_f q11)))), stab_ev hT (need := [(26, some (none, (eI .u64 x8))), (32, some (none, (eI .u64 x10)))]) rfl rfl (by kernel_rfl) (by kernel_rfl) rfl rfl (by kernel_rfl) (by kernel_rfl), trivial⟩) (by kernel_rfl) ?_
      refine awl_runD hT (fun _ => false) [] 2 [4] ⟨[(4, some (none, (.ref 0 [] 0)))], [.var (.st 2 [(eI .i64 x6), (eI .u64 (bor .u64 x8 x10))])]⟩ (by kernel_rfl) ?_
      refine awl_nil ?_
      refine aw_ret ?_
      obtain rfl := Option.some.inj h
      exact ⟨Or.inl rfl, [(.st 2 [(eI .i64 x6), (eI .u64 (bor .u64 x8 x10))])], by kernel_rfl, (pub_st (pubL_cons (pub_v _) (pubL_cons (pub_v _) pubL_nil)))⟩

theorem wide_Shr_ok_c : callable Try.prog 140 := ⟨_, Try.func140, by decide, rfl⟩

/-! umbra/fix.Mul -/
def p_fix_Mul_L1 (N : Nat) (x1 : Int) (a0 : (List Int)) : Nat → Int → Int → Option (Int)
  | 0, _, _ => none
  | k + 1, s3_3, s8_4 =>
    cond (decide (s8_4 < x1)) (
      Option.bind (Option.bind (idx a0 s8_4) fun e6 =>
      cond (s8_4 == 0) (
        some e6) (
        Option.bind (p_wide_Mul N s3_3 e6) fun r7 =>
        Option.bind (p_wide_Shr N r7 32) fun r8 =>
        Option.bind (p_fix_near N r8) fun r9 =>
        some r9)) fun p2_5 =>
      p_fix_Mul_L1 N x1 a0 k p2_5 (I64 (s8_4 + 1))) (
      some s3_3)

def p_fix_Mul (N : Nat) (a0 : (List Int)) : Option (Int) :=
  letO (((List.map (eI .i64) a0).length : Int)) fun x1 =>
  Option.bind (p_fix_Mul_L1 N x1 a0 N 4294967296 0) fun p1_2 =>
  some p1_2

theorem fix_Mul_ok (N : Nat) (a0 : (List Int)) (r : Int) (h : p_fix_Mul N a0 = some r) : Fn Try.prog 84 [(eL 1 (eI .i64) a0)] (eI .i64 r) := by
  unfold p_fix_Mul at h
  refine fn_of_awR (n := ⟨23, 0⟩) (rs := [.tmp 2]) hT Try.func84 rfl rfl (by kernel_rfl) rfl ?_
  refine (show aw _ _ _ _ ⟨[(0, some (none, (eL 1 (eI .i64) a0)))], []⟩ from ?_)
  refine aw_sreg ?_
  refine awl_runD hT (fun _ => false) [] 1 [0] ⟨[(0, some (none, (eL 1 (eI .i64) a0)))], []⟩ (by kernel_rfl) ?_
  refine awl_nil ?_
  refine aw_sreg ?_
  refine awl_runD hT (fun _ => false) [] 1 [0, 3] ⟨[(0, some (none, (eL 1 (eI .i64) a0))), (3, some (none, (eI .i64 4294967296)))], []⟩ (by kernel_rfl) ?_
  refine awl_nil ?_
  refine aw_seq ?_
  refine aw_sreg ?_
  obtain ⟨x1, hx1, h⟩ := letO_ex h
  refine awl_runD hT (fun _ => false) [] 3 [3, 6, 7, 8] ⟨[(3, some (none, (eI .i64 4294967296))), (6, some (none, (eL 1 (eI .i64) a0))), (7, some (none, (eI .i64 x1))), (8, some (none, (eI .i64 0)))], []⟩ (by subst hx1; kernel_rfl) ?_
  refine awl_nil ?_
  obtain ⟨p1_2, h, gp1_2⟩ := obind h
  refine aw_joinK (fun s => s = ⟨[(3, some (none, (eI .i64 p1_2)))], []⟩) ?_ ?_
  · refine aw_block ?_
    refine aw_loop (fun k s => ∃ s3_3 s8_4, p_fix_Mul_L1 N x1 a0 k s3_3 s8_4 = some p1_2 ∧ s = ⟨[(3, some (none, (eI .i64 s3_3))), (6, some (none, (eL 1 (eI .i64) a0))), (7, some (none, (eI .i64 x1))), (8, some (none, (eI .i64 s8_4)))], []⟩) (fun k s hI => ?_) N _ ⟨_, _, h, rfl⟩
    obtain ⟨s3_3, s8_4, h, rfl⟩ := hI
    cases k with
    | zero => cases h
    | succ k =>
      refine aw_sreg ?_
      refine awl_runD hT (fun _ => false) [] 1 [3, 6, 7, 8, 9] ⟨[(3, some (none, (eI .i64 s3_3))), (6, some (none, (eL 1 (eI .i64) a0))), (7, some (none, (eI .i64 x1))), (8, some (none, (eI .i64 s8_4))), (9, some (none, (eB (decide (s8_4 < x1)))))], []⟩ (by kernel_rfl) ?_
      refine awl_nil ?_
      refine aw_seq ?_
      refine aw_cond (b := decide (s8_4 < x1)) (by kernel_rfl) (fun hc => ?_) (fun hc => ?_)
      · have h := cond_t hc h
        refine aw_skip (tn_n ?_)
        obtain ⟨p2_5, h, gp2_5⟩ := obind h
        refine aw_join (fun s => s = ⟨[(3, some (none, (eI .i64 p2_5))), (6, some (none, (eL 1 (eI .i64) a0))), (7, some (none, (eI .i64 x1))), (8, some (none, (eI .i64 s8_4)))], []⟩) ?_ ?_
        · refine aw_block ?_
          refine aw_sreg ?_
          refine awl_runD hT (fun _ => false) [] 1 [3, 6, 7, 8, 10] ⟨[(3, some (none, (eI .i64 s3_3))), (6, some (none, (eL 1 (eI .i64) a0))), (7, some (none, (eI .i64 x1))), (8, some (none, (eI .i64 s8_4))), (10, some (none, (eI .i64 s8_4)))], []⟩ (by kernel_rfl) ?_
          obtain ⟨e6, he6, h⟩ := obind h
          refine awl_op (by kernel_rfl) (owp_index hT (kk := .i64) (v := (eL 1 (eI .i64) a0)) (es := List.map (eI .i64) a0) (i := s8_4) rfl rfl (by kernel_rfl) tt189 tt47 (by kernel_rfl) rfl rfl (by kernel_rfl) (idx_0 he6) (idx_x (eI .i64) he6)) ?_
          refine awl_runD hT (fun _ => false) [] 3 [3, 4, 5, 6, 7, 8] ⟨[(3, some (none, (eI .i64 s3_3))), (4, some (none, (eI .i64 s8_4))), (5, some (none, (eI .i64 e6))), (6, some (none, (eL 1 (eI .i64) a0))), (7, some (none, (eI .i64 x1))), (8, some (none, (eI .i64 s8_4)))], []⟩ (by kernel_rfl) ?_
          refine awl_nil ?_
          refine aw_seq ?_
          refine aw_sreg ?_
          refine awl_runD hT (fun _ => false) [] 2 [3, 5, 6, 7, 8, 14] ⟨[(3, some (none, (eI .i64 s3_3))), (5, some (none, (eI .i64 e6))), (6, some (none, (eL 1 (eI .i64) a0))), (7, some (none, (eI .i64 x1))), (8, some (none, (eI .i64 s8_4))), (14, some (none, (eB (s8_4 == 0))))], []⟩ (by kernel_rfl) ?_
          refine awl_nil ?_
          refine aw_cond (b := s8_4 == 0) (by kernel_rfl) (fun hc => ?_) (fun hc => ?_)
          · have h := cond_t hc h
            refine aw_sreg ?_
            refine awl_runD hT (fun _ => false) [] 2 [3, 6, 7, 8] ⟨[(3, some (none, (eI .i64 e6))), (6, some (none, (eL 1 (eI .i64) a0))), (7, some (none, (eI .i64 x1))), (8, some (none, (eI .i64 s8_4)))], []⟩ (by kernel_rfl) ?_
            refine awl_nil ?_
            refine aw_exit (tn_x (inB_e (tn_n ?_)))
            obtain rfl := Option.some.inj h
            exact rfl
          · have h := cond_f hc h
            refine aw_skip (tn_n ?_)
            refine aw_region ?_
            refine awl_runD hT (fun _ => false) [] 2 [6, 7, 8, 16, 17] ⟨[(6, some (none, (eL 1 (eI .i64) a0))), (7, some (none, (eI .i64 x1))), (8, some (none, (eI .i64 s8_4))), (16, some (none, (eI .i64 s3_3))), (17, some (none, (eI .i64 e6)))], []⟩ (by kernel_rfl) ?_
            obtain ⟨r7, hr7, h⟩ := obind h
            refine awl_op (by kernel_rfl) (owp_call (avs := [(eI .i64 s3_3), (eI .i64 e6)]) (pavs := [(eI .i64 s3_3), (eI .i64 e6)]) (ret := (S_api_Wide.enc r7)) rfl rfl (by kernel_rfl) (by kernel_rfl) wide_Mul_ok_c (pubL_cons (pub_v _) (pubL_cons (pub_v _) pubL_nil)) (wide_Mul_ok N s3_3 e6 r7 hr7) (S_api_Wide.pub r7)) ?_
            refine awl_runD hT (fun _ => false) [] 0 [6, 7, 8, 18] ⟨[(6, some (none, (eL 1 (eI .i64) a0))), (7, some (none, (eI .i64 x1))), (8, some (none, (eI .i64 s8_4))), (18, some (none, (S_api_Wide.enc r7)))], []⟩ (by kernel_rfl) ?_
            obtain ⟨r8, hr8, h⟩ := obind h
            refine awl_op (by kernel_rfl) (owp_call (avs := [(S_api_Wide.enc r7), (eI .i64 32)]) (pavs := [(S_api_Wide.enc r7), (eI .i64 32)]) (ret := (S_api_Wide.enc r8)) rfl rfl (by kernel_rfl) (by kernel_rfl) wide_Shr_ok_c (pubL_cons (S_api_Wide.pub r7) (pubL_cons (pub_v _) pubL_nil)) (wide_Shr_ok N r7 32 r8 hr8) (S_api_Wide.pub r8)) ?_
            refine awl_runD hT (fun _ => false) [] 0 [6, 7, 8, 19] ⟨[(6, some (none, (eL 1 (eI .i64) a0))), (7, some (none, (eI .i64 x1))), (8, some (none, (eI .i64 s8_4))), (19, some (none, (S_api_Wide.enc r8)))], []⟩ (by kernel_rfl) ?_
            obtain ⟨r9, hr9, h⟩ := obind h
            refine awl_op (by kernel_rfl) (owp_call (avs := [(S_api_Wide.enc r8)]) (pavs := [(S_api_Wide.enc r8)]) (ret := (eI .i64 r9)) rfl rfl (by kernel_rfl) (by kernel_rfl) fix_near_ok_c (pubL_cons (S_api_Wide.pub r8) pubL_nil) (fix_near_ok N r8 r9 hr9) (pub_v _)) ?_
            refine awl_runD hT (fun _ => false) [] 1 [3, 6, 7, 8] ⟨[(3, some (none, (eI .i64 r9))), (6, some (none, (eL 1 (eI .i64) a0))), (7, some (none, (eI .i64 x1))), (8, some (none, (eI .i64 s8_4)))], []⟩ (by kernel_rfl) ?_
            refine awl_nil (inB_n (tn_n ?_))
            obtain rfl := Option.some.inj h
            exact rfl
        · rintro s rfl
          have h := gp2_5
          refine aw_region ?_
          refine awl_runD hT (fun _ => false) [] 2 [3, 6, 7, 8] ⟨[(3, some (none, (eI .i64 p2_5))), (6, some (none, (eL 1 (eI .i64) a0))), (7, some (none, (eI .i64 x1))), (8, some (none, (eI .i64 (I64 (s8_4 + 1)))))], []⟩ (by kernel_rfl) ?_
          refine awl_nil (tn_n ?_)
          exact ⟨k, Nat.lt_succ_self k, _, _, h, rfl⟩
      · have h := cond_f hc h
        refine aw_conv (env' := [(3, some (none, (eI .i64 s3_3)))]) (H' := []) (by kernel_rfl) trivial (envT_cons (x := (eI .i64 s3_3)) (by kernel_rfl) (PubA.t (pub_v _)) rfl rfl envT_nil) ?_
        refine aw_exit (tn_x (tn_x (inB_e (tn_n ?_))))
        obtain rfl := Option.some.inj h
        exact rfl
  · rintro s rfl
    have h := gp1_2
    refine (tn_n ?_)
    refine aw_sreg ?_
    refine awl_runD hT (fun _ => false) [] 2 [2] ⟨[(2, some (none, (eI .i64 p1_2)))], []⟩ (by kernel_rfl) ?_
    refine awl_nil ?_
    refine aw_ret ?_
    obtain rfl := Option.some.inj h
    exact ⟨Or.inl rfl, [(eI .i64 p1_2)], by kernel_rfl, (pub_v _)⟩

theorem fix_Mul_ok_c : callable Try.prog 84 := ⟨_, Try.func84, by decide, rfl⟩

/-! umbra/fix.Floor -/
def p_fix_Floor (N : Nat) (a0 : Int) : Option (Int) :=
  some (shr .i64 a0 32)

theorem fix_Floor_ok (N : Nat) (a0 : Int) (r : Int) (h : p_fix_Floor N a0 = some r) : Fn Try.prog 83 [(eI .i64 a0)] (eI .i64 r) := by
  unfold p_fix_Floor at h
  refine fn_of_awR (n := ⟨5, 0⟩) (rs := [.tmp 2]) hT Try.func83 rfl rfl (by kernel_rfl) rfl ?_
  refine (show aw _ _ _ _ ⟨[(0, some (none, (eI .i64 a0)))], []⟩ from ?_)
  refine aw_sreg ?_
  refine awl_runD hT (fun _ => false) [] 1 [0] ⟨[(0, some (none, (eI .i64 a0)))], []⟩ (by kernel_rfl) ?_
  refine awl_nil ?_
  refine aw_sreg ?_
  refine awl_runD hT (fun _ => false) [] 3 [2] ⟨[(2, some (none, (eI .i64 (shr .i64 a0 32))))], []⟩ (by kernel_rfl) ?_
  refine awl_nil ?_
  refine aw_ret ?_
  obtain rfl := Option.some.inj h
  exact ⟨Or.inl rfl, [(eI .i64 (shr .i64 a0 32))], by kernel_rfl, (pub_v _)⟩

theorem fix_Floor_ok_c : callable Try.prog 83 := ⟨_, Try.func83, by decide, rfl⟩

/-! umbra/film.Tone -/
def p_film_Tone (N : Nat) (a0 : Int) : Option (Int) :=
  cond (decide (a0 ≤ 0)) (
    some 0) (
    Option.bind (p_fix_Add N ([a0, 4294967296])) fun r1 =>
    Option.bind (p_fix_Div N a0 r1) fun r2 =>
    Option.bind (p_fix_Of N 65535) fun r3 =>
    Option.bind (p_fix_Mul N ([r2, r3])) fun r4 =>
    Option.bind (p_fix_Floor N r4) fun r5 =>
    some r5)

theorem film_Tone_ok (N : Nat) (a0 : Int) (r : Int) (h : p_film_Tone N a0 = some r) : Fn Try.prog 33 [(eI .i64 a0)] (eI .i64 r) := by
  unfold p_film_Tone at h
  refine fn_of_awR (n := ⟨14, 0⟩) (rs := [.tmp 2]) hT Try.func33 rfl rfl (by kernel_rfl) rfl ?_
  refine (show aw _ _ _ _ ⟨[(0, some (none, (eI .i64 a0)))], []⟩ from ?_)
  refine aw_sreg ?_
  refine awl_runD hT (fun _ => false) [] 1 [0] ⟨[(0, some (none, (eI .i64 a0)))], []⟩ (by kernel_rfl) ?_
  refine awl_nil ?_
  refine aw_seq ?_
  refine aw_sreg ?_
  refine awl_runD hT (fun _ => false) [] 2 [0, 4] ⟨[(0, some (none, (eI .i64 a0))), (4, some (none, (eB (decide (a0 ≤ 0)))))], []⟩ (by kernel_rfl) ?_
  refine awl_nil ?_
  refine aw_cond (b := decide (a0 ≤ 0)) (by kernel_rfl) (fun hc => ?_) (fun hc => ?_)
  · have h := cond_t hc h
    refine aw_sreg ?_
    refine awl_runD hT (fun _ => false) [] 1 [2] ⟨[(2, some (none, (eI .i64 0)))], []⟩ (by kernel_rfl) ?_
    refine awl_nil ?_
    refine aw_ret (tn_r ?_)
    obtain rfl := Option.some.inj h
    exact ⟨Or.inl rfl, [(eI .i64 0)], by kernel_rfl, (pub_v _)⟩
  · have h := cond_f hc h
    refine aw_skip (tn_n ?_)
    refine aw_sreg ?_
    refine awl_runD hT (fun _ => false) [] 2 [5, 6] ⟨[(5, some (none, (eI .i64 a0))), (6, some (none, (eI .i64 a0)))], []⟩ (by kernel_rfl) ?_
    refine awl_op (by kernel_rfl) (owp_buildSlice hT (l := [(0, (eI .i64 a0)), (1, (eI .i64 4294967296))]) (es := [(eI .i64 a0), (eI .i64 4294967296)]) (k := 1) rfl rfl (by kernel_rfl) (by kernel_rfl) (by kernel_rfl)) ?_
    refine awl_runD hT (fun _ => false) [] 0 [5, 7] ⟨[(5, some (none, (eI .i64 a0))), (7, some (none, (.sl 1 [(eI .i64 a0), (eI .i64 4294967296)])))], []⟩ (by kernel_rfl) ?_
    obtain ⟨r1, hr1, h⟩ := obind h
    refine awl_op (by kernel_rfl) (owp_call (avs := [(.sl 1 [(eI .i64 a0), (eI .i64 4294967296)])]) (pavs := [(eL 1 (eI .i64) ([a0, 4294967296]))]) (ret := (eI .i64 r1)) rfl rfl (by kernel_rfl) (by kernel_rfl) fix_Add_ok_c (pubL_cons (pub_sl (pubL_cons (pub_v _) (pubL_cons (pub_v _) pubL_nil))) pubL_nil) (fix_Add_ok N ([a0, 4294967296]) r1 hr1) (pub_v _)) ?_
    refine awl_runD hT (fun _ => false) [] 0 [5, 8] ⟨[(5, some (none, (eI .i64 a0))), (8, some (none, (eI .i64 r1)))], []⟩ (by kernel_rfl) ?_
    obtain ⟨r2, hr2, h⟩ := obind h
    refine awl_op (by kernel_rfl) (owp_call (avs := [(eI .i64 a0), (eI .i64 r1)]) (pavs := [(eI .i64 a0), (eI .i64 r1)]) (ret := (eI .i64 r2)) rfl rfl (by kernel_rfl) (by kernel_rfl) fix_Div_ok_c (pubL_cons (pub_v _) (pubL_cons (pub_v _) pubL_nil)) (fix_Div_ok N a0 r1 r2 hr2) (pub_v _)) ?_
    refine awl_runD hT (fun _ => false) [] 0 [9] ⟨[(9, some (none, (eI .i64 r2)))], []⟩ (by kernel_rfl) ?_
    obtain ⟨r3, hr3, h⟩ := obind h
    refine awl_op (by kernel_rfl) (owp_call (avs := [(eI .i64 65535)]) (pavs := [(eI .i64 65535)]) (ret := (eI .i64 r3)) rfl rfl (by kernel_rfl) (by kernel_rfl) fix_Of_ok_c (pubL_cons (pub_v _) pubL_nil) (fix_Of_ok N 65535 r3 hr3) (pub_v _)) ?_
    refine awl_runD hT (fun _ => false) [] 0 [9, 10] ⟨[(9, some (none, (eI .i64 r2))), (10, some (none, (eI .i64 r3)))], []⟩ (by kernel_rfl) ?_
    refine awl_op (by kernel_rfl) (owp_buildSlice hT (l := [(0, (eI .i64 r2)), (1, (eI .i64 r3))]) (es := [(eI .i64 r2), (eI .i64 r3)]) (k := 1) rfl rfl (by kernel_rfl) (by kernel_rfl) (by kernel_rfl)) ?_
    refine awl_runD hT (fun _ => false) [] 0 [11] ⟨[(11, some (none, (.sl 1 [(eI .i64 r2), (eI .i64 r3)])))], []⟩ (by kernel_rfl) ?_
    obtain ⟨r4, hr4, h⟩ := obind h
    refine awl_op (by kernel_rfl) (owp_call (avs := [(.sl 1 [(eI .i64 r2), (eI .i64 r3)])]) (pavs := [(eL 1 (eI .i64) ([r2, r3]))]) (ret := (eI .i64 r4)) rfl rfl (by kernel_rfl) (by kernel_rfl) fix_Mul_ok_c (pubL_cons (pub_sl (pubL_cons (pub_v _) (pubL_cons (pub_v _) pubL_nil))) pubL_nil) (fix_Mul_ok N ([r2, r3]) r4 hr4) (pub_v _)) ?_
    refine awl_runD hT (fun _ => false) [] 0 [12] ⟨[(12, some (none, (eI .i64 r4)))], []⟩ (by kernel_rfl) ?_
    obtain ⟨r5, hr5, h⟩ := obind h
    refine awl_op (by kernel_rfl) (owp_call (avs := [(eI .i64 r4)]) (pavs := [(eI .i64 r4)]) (ret := (eI .i64 r5)) rfl rfl (by kernel_rfl) (by kernel_rfl) fix_Floor_ok_c (pubL_cons (pub_v _) pubL_nil) (fix_Floor_ok N r4 r5 hr5) (pub_v _)) ?_
    refine awl_runD hT (fun _ => false) [] 1 [2] ⟨[(2, some (none, (eI .i64 r5)))], []⟩ (by kernel_rfl) ?_
    refine awl_nil ?_
    refine aw_ret ?_
    obtain rfl := Option.some.inj h
    exact ⟨Or.inl rfl, [(eI .i64 r5)], by kernel_rfl, (pub_v _)⟩

theorem film_Tone_ok_c : callable Try.prog 33 := ⟨_, Try.func33, by decide, rfl⟩

/-! umbra/fix.Clamp -/
def p_fix_Clamp (N : Nat) (a0 : Int) (a1 : Int) (a2 : Int) : Option (Int) :=
  some (imin (imax a0 a1) a2)

theorem fix_Clamp_ok (N : Nat) (a0 : Int) (a1 : Int) (a2 : Int) (r : Int) (h : p_fix_Clamp N a0 a1 a2 = some r) : Fn Try.prog 93 [(eI .i64 a0), (eI .i64 a1), (eI .i64 a2)] (eI .i64 r) := by
  unfold p_fix_Clamp at h
  refine fn_of_awR (n := ⟨12, 0⟩) (rs := [.tmp 6]) hT Try.func93 rfl rfl (by kernel_rfl) rfl ?_
  refine (show aw _ _ _ _ ⟨[(0, some (none, (eI .i64 a0))), (1, some (none, (eI .i64 a1))), (2, some (none, (eI .i64 a2)))], []⟩ from ?_)
  refine aw_sreg ?_
  refine awl_runD hT (fun _ => false) [] 1 [0, 1, 2] ⟨[(0, some (none, (eI .i64 a0))), (1, some (none, (eI .i64 a1))), (2, some (none, (eI .i64 a2)))], []⟩ (by kernel_rfl) ?_
  refine awl_nil ?_
  refine aw_sreg ?_
  refine awl_runD hT (fun _ => false) [] 6 [6] ⟨[(6, some (none, (eI .i64 (imin (imax a0 a1) a2))))], []⟩ (by kernel_rfl) ?_
  refine awl_nil ?_
  refine aw_ret ?_
  obtain rfl := Option.some.inj h
  exact ⟨Or.inl rfl, [(eI .i64 (imin (imax a0 a1) a2))], by kernel_rfl, (pub_v _)⟩

theorem fix_Clamp_ok_c : callable Try.prog 93 := ⟨_, Try.func93, by decide, rfl⟩

/-! umbra/film.Side -/
def p_film_Side (N : Nat) (a0 : Int) : Option (Int) :=
  Option.bind (p_fix_Of N 32767) fun r1 =>
  Option.bind (p_fix_Clamp N a0 (-4294967296) 4294967296) fun r2 =>
  Option.bind (p_fix_Add N ([4294967296, r2])) fun r3 =>
  Option.bind (p_fix_Mul N ([r1, r3])) fun r4 =>
  Option.bind (p_fix_Floor N r4) fun r5 =>
  some r5

theorem film_Side_ok (N : Nat) (a0 : Int) (r : Int) (h : p_film_Side N a0 = some r) : Fn Try.prog 37 [(eI .i64 a0)] (eI .i64 r) := by
  unfold p_film_Side at h
  refine fn_of_awR (n := ⟨11, 0⟩) (rs := [.tmp 2]) hT Try.func37 rfl rfl (by kernel_rfl) rfl ?_
  refine (show aw _ _ _ _ ⟨[(0, some (none, (eI .i64 a0)))], []⟩ from ?_)
  refine aw_sreg ?_
  refine awl_runD hT (fun _ => false) [] 1 [0] ⟨[(0, some (none, (eI .i64 a0)))], []⟩ (by kernel_rfl) ?_
  refine awl_nil ?_
  refine aw_sreg ?_
  obtain ⟨r1, hr1, h⟩ := obind h
  refine awl_op (by kernel_rfl) (owp_call (avs := [(eI .i64 32767)]) (pavs := [(eI .i64 32767)]) (ret := (eI .i64 r1)) rfl rfl (by kernel_rfl) (by kernel_rfl) fix_Of_ok_c (pubL_cons (pub_v _) pubL_nil) (fix_Of_ok N 32767 r1 hr1) (pub_v _)) ?_
  refine awl_runD hT (fun _ => false) [] 1 [3, 4] ⟨[(3, some (none, (eI .i64 r1))), (4, some (none, (eI .i64 a0)))], []⟩ (by kernel_rfl) ?_
  obtain ⟨r2, hr2, h⟩ := obind h
  refine awl_op (by kernel_rfl) (owp_call (avs := [(eI .i64 a0), (eI .i64 (-4294967296)), (eI .i64 4294967296)]) (pavs := [(eI .i64 a0), (eI .i64 (-4294967296)), (eI .i64 4294967296)]) (ret := (eI .i64 r2)) rfl rfl (by kernel_rfl) (by kernel_rfl) fix_Clamp_ok_c (pubL_cons (pub_v _) (pubL_cons (pub_v _) (pubL_cons (pub_v _) pubL_nil))) (fix_Clamp_ok N a0 (-4294967296) 4294967296 r2 hr2) (pub_v _)) ?_
  refine awl_runD hT (fun _ => false) [] 0 [3, 5] ⟨[(3, some (none, (eI .i64 r1))), (5, some (none, (eI .i64 r2)))], []⟩ (by kernel_rfl) ?_
  refine awl_op (by kernel_rfl) (owp_buildSlice hT (l := [(0, (eI .i64 4294967296)), (1, (eI .i64 r2))]) (es := [(eI .i64 4294967296), (eI .i64 r2)]) (k := 1) rfl rfl (by kernel_rfl) (by kernel_rfl) (by kernel_rfl)) ?_
  refine awl_runD hT (fun _ => false) [] 0 [3, 6] ⟨[(3, some (none, (eI .i64 r1))), (6, some (none, (.sl 1 [(eI .i64 4294967296), (eI .i64 r2)])))], []⟩ (by kernel_rfl) ?_
  obtain ⟨r3, hr3, h⟩ := obind h
  refine awl_op (by kernel_rfl) (owp_call (avs := [(.sl 1 [(eI .i64 4294967296), (eI .i64 r2)])]) (pavs := [(eL 1 (eI .i64) ([4294967296, r2]))]) (ret := (eI .i64 r3)) rfl rfl (by kernel_rfl) (by kernel_rfl) fix_Add_ok_c (pubL_cons (pub_sl (pubL_cons (pub_v _) (pubL_cons (pub_v _) pubL_nil))) pubL_nil) (fix_Add_ok N ([4294967296, r2]) r3 hr3) (pub_v _)) ?_
  refine awl_runD hT (fun _ => false) [] 0 [3, 7] ⟨[(3, some (none, (eI .i64 r1))), (7, some (none, (eI .i64 r3)))], []⟩ (by kernel_rfl) ?_
  refine awl_op (by kernel_rfl) (owp_buildSlice hT (l := [(0, (eI .i64 r1)), (1, (eI .i64 r3))]) (es := [(eI .i64 r1), (eI .i64 r3)]) (k := 1) rfl rfl (by kernel_rfl) (by kernel_rfl) (by kernel_rfl)) ?_
  refine awl_runD hT (fun _ => false) [] 0 [8] ⟨[(8, some (none, (.sl 1 [(eI .i64 r1), (eI .i64 r3)])))], []⟩ (by kernel_rfl) ?_
  obtain ⟨r4, hr4, h⟩ := obind h
  refine awl_op (by kernel_rfl) (owp_call (avs := [(.sl 1 [(eI .i64 r1), (eI .i64 r3)])]) (pavs := [(eL 1 (eI .i64) ([r1, r3]))]) (ret := (eI .i64 r4)) rfl rfl (by kernel_rfl) (by kernel_rfl) fix_Mul_ok_c (pubL_cons (pub_sl (pubL_cons (pub_v _) (pubL_cons (pub_v _) pubL_nil))) pubL_nil) (fix_Mul_ok N ([r1, r3]) r4 hr4) (pub_v _)) ?_
  refine awl_runD hT (fun _ => false) [] 0 [9] ⟨[(9, some (none, (eI .i64 r4)))], []⟩ (by kernel_rfl) ?_
  obtain ⟨r5, hr5, h⟩ := obind h
  refine awl_op (by kernel_rfl) (owp_call (avs := [(eI .i64 r4)]) (pavs := [(eI .i64 r4)]) (ret := (eI .i64 r5)) rfl rfl (by kernel_rfl) (by kernel_rfl) fix_Floor_ok_c (pubL_cons (pub_v _) pubL_nil) (fix_Floor_ok N r4 r5 hr5) (pub_v _)) ?_
  refine awl_runD hT (fun _ => false) [] 1 [2] ⟨[(2, some (none, (eI .i64 r5)))], []⟩ (by kernel_rfl) ?_
  refine awl_nil ?_
  refine aw_ret ?_
  obtain rfl := Option.some.inj h
  exact ⟨Or.inl rfl, [(eI .i64 r5)], by kernel_rfl, (pub_v _)⟩

theorem film_Side_ok_c : callable Try.prog 37 := ⟨_, Try.func37, by decide, rfl⟩

end Go.UK
