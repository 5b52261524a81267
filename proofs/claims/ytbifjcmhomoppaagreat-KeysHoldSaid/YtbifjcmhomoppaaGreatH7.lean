/- A part of the proof: what the functions of the program compute. -/
import Derived.Test.YtbifjcmhomoppaaGreatH6
namespace Go.UK
open Go Go.Proofs
set_option maxRecDepth 20000
set_option maxHeartbeats 4000000
set_option linter.all false

attribute [local irreducible] adv putPt dropPt setPt brPt litPt cutPt restPt popN unrPt stPt envPt boxPt opPt opP2t ksPt lPt owp awl aw FnM NatFn opS Stab TOK Big
def p_poly_sum_add_rdd_q (N : Nat) (a0 : Int) (a1 : Int) (a2 : S_poly_Mac) : Option ((Vector Int 3)) :=
 Option.bind (inRO 0 3) fun _ =>
 Option.bind (a2.gsum.gh.toList[(Int.toNat 0)]?) fun e2 =>
 Option.bind (p_Add64 e2 a0 0) fun r3 =>
 Option.bind (inRO 0 3) fun _ =>
 Option.bind (a2.gsum.gh.toList[(Int.toNat 0)]?) fun e5 =>
 Option.bind (inRO 1 3) fun _ =>
 Option.bind ((a2.gsum.gh.setIfInBounds ((Int.toNat 0)) r3.1).toList[(Int.toNat 1)]?) fun e7 =>
 Option.bind (p_Add64 e7 a1 r3.2) fun r8 =>
 Option.bind (inRO 1 3) fun _ =>
 Option.bind ((a2.gsum.gh.setIfInBounds ((Int.toNat 0)) r3.1).toList[(Int.toNat 1)]?) fun e10 =>
 Option.bind (inRO 2 3) fun _ =>
 Option.bind (((a2.gsum.gh.setIfInBounds ((Int.toNat 0)) r3.1).setIfInBounds ((Int.toNat 1)) r8.1).toList[(Int.toNat 2)]?) fun e12 =>
 Option.bind (inRO 2 3) fun _ =>
 Option.bind (((a2.gsum.gh.setIfInBounds ((Int.toNat 0)) r3.1).setIfInBounds ((Int.toNat 1)) r8.1).toList[(Int.toNat 2)]?) fun e14 =>
 some (((a2.gsum.gh.setIfInBounds ((Int.toNat 0)) r3.1).setIfInBounds ((Int.toNat 1)) r8.1).setIfInBounds ((Int.toNat 2)) (U64 (e12 + r8.2)))

theorem poly_sum_add_rdd_q_ok {N : Nat} {a0 : Int} {a1 : Int} {a2 : S_poly_Mac} {r : (Vector Int 3)} (h : p_poly_sum_add_rdd_q N a0 a1 a2 = some r) : FnM Tryz.prog 230 [.var (S_poly_Mac.enc a2)] [(.ref 0 [0] 0), (k64 a0), (k64 a1)] (.tup []) [.var (.st 10 [(.st 3 [(eA 3 1 k64 r)]), (eB a2.gmade), (k64 a2.gr0), (k64 a2.gr1), (k64 a2.gs0), (k64 a2.gs1), (eL 1 k8 a2.grest), (j64 a2.gall)])] := by
 unfold p_poly_sum_add_rdd_q at h
 refine At.fn m_no hT hmo (m := 46) (lo := 1) (rs := []) Tryz.func230 rfl rfl h ?_
 refine bi fun u1 hu1 => ?_
 refine bi fun e2 he2 => ?_
 refine bi fun r3 hr3 => ?_
 refine bi fun u4 hu4 => ?_
 refine bi fun e5 he5 => ?_
 refine At.d 1 (dE1 4 (fun _ => big_adR hT (k := 1) 0 [0, 0] 0 hu1) (dET 5 (k64 e2) [[.var (S_poly_Mac.enc a2)]] ⟨big_at (big_ldE hT k64 2 he2), trivial⟩ (dE1 7 (fun _ => big_nat (n_Add64 hr3) (fun _ => rv_tup2)) (dE1 13 (fun _ => big_adR hT (k := 1) 0 [0, 0] 0 hu4) dE0)))) (dF1 14 (.v (.bool false)) [.var (.st 10 [(.st 3 [(eA 3 1 k64 (a2.gsum.gh.setIfInBounds ((Int.toNat 0)) r3.1))]), (eB a2.gmade), (k64 a2.gr0), (k64 a2.gr1), (k64 a2.gs0), (k64 a2.gs1), (eL 1 k8 a2.grest), (j64 a2.gall)])] (big_at (big_stV hT k64 2 a2.gsum.gh he5 r3.1 (by kernel_rfl) (by kernel_rfl) (H' := [.var (.st 10 [(.st 3 [(eA 3 1 k64 (a2.gsum.gh.setIfInBounds ((Int.toNat 0)) r3.1))]), (eB a2.gmade), (k64 a2.gr0), (k64 a2.gr1), (k64 a2.gs0), (k64 a2.gs1), (eL 1 k8 a2.grest), (j64 a2.gall)])]))) dF0) ?_
 refine bi fun u6 hu6 => ?_
 refine bi fun e7 he7 => ?_
 refine bi fun r8 hr8 => ?_
 refine bi fun u9 hu9 => ?_
 refine bi fun e10 he10 => ?_
 refine At.d 0 (dE1 4 (fun _ => big_adR hT (k := 1) 0 [0, 0] 0 hu6) (dET 5 (k64 e7) [[.var (.st 10 [(.st 3 [(eA 3 1 k64 (a2.gsum.gh.setIfInBounds ((Int.toNat 0)) r3.1))]), (eB a2.gmade), (k64 a2.gr0), (k64 a2.gr1), (k64 a2.gs0), (k64 a2.gs1), (eL 1 k8 a2.grest), (j64 a2.gall)])]] ⟨big_at (big_ldE hT k64 2 he7), trivial⟩ (dE1 8 (fun _ => big_nat (n_Add64 hr8) (fun _ => rv_tup2)) (dE1 14 (fun _ => big_adR hT (k := 1) 0 [0, 0] 0 hu9) dE0)))) (dF1 15 (.v (.bool false)) [.var (.st 10 [(.st 3 [(eA 3 1 k64 ((a2.gsum.gh.setIfInBounds ((Int.toNat 0)) r3.1).setIfInBounds ((Int.toNat 1)) r8.1))]), (eB a2.gmade), (k64 a2.gr0), (k64 a2.gr1), (k64 a2.gs0), (k64 a2.gs1), (eL 1 k8 a2.grest), (j64 a2.gall)])] (big_at (big_stV hT k64 2 (a2.gsum.gh.setIfInBounds ((Int.toNat 0)) r3.1) he10 r8.1 (by kernel_rfl) (by kernel_rfl) (H' := [.var (.st 10 [(.st 3 [(eA 3 1 k64 ((a2.gsum.gh.setIfInBounds ((Int.toNat 0)) r3.1).setIfInBounds ((Int.toNat 1)) r8.1))]), (eB a2.gmade), (k64 a2.gr0), (k64 a2.gr1), (k64 a2.gs0), (k64 a2.gs1), (eL 1 k8 a2.grest), (j64 a2.gall)])]))) dF0) ?_
 refine bi fun u11 hu11 => ?_
 refine bi fun e12 he12 => ?_
 refine bi fun u13 hu13 => ?_
 refine bi fun e14 he14 => ?_
 refine At.d 0 (dE1 3 (fun _ => big_adR hT (k := 1) 0 [0, 0] 0 hu11) (dET 4 (k64 e12) [[.var (.st 10 [(.st 3 [(eA 3 1 k64 ((a2.gsum.gh.setIfInBounds ((Int.toNat 0)) r3.1).setIfInBounds ((Int.toNat 1)) r8.1))]), (eB a2.gmade), (k64 a2.gr0), (k64 a2.gr1), (k64 a2.gs0), (k64 a2.gs1), (eL 1 k8 a2.grest), (j64 a2.gall)])]] ⟨big_at (big_ldE hT k64 2 he12), trivial⟩ (dE1 9 (fun _ => big_adR hT (k := 1) 0 [0, 0] 0 hu13) dE0))) (dF1 10 (.v (.bool false)) [.var (.st 10 [(.st 3 [(eA 3 1 k64 (((a2.gsum.gh.setIfInBounds ((Int.toNat 0)) r3.1).setIfInBounds ((Int.toNat 1)) r8.1).setIfInBounds ((Int.toNat 2)) (U64 (e12 + r8.2))))]), (eB a2.gmade), (k64 a2.gr0), (k64 a2.gr1), (k64 a2.gs0), (k64 a2.gs1), (eL 1 k8 a2.grest), (j64 a2.gall)])] (big_at (big_stV hT k64 2 ((a2.gsum.gh.setIfInBounds ((Int.toNat 0)) r3.1).setIfInBounds ((Int.toNat 1)) r8.1) he14 (U64 (e12 + r8.2)) (by kernel_rfl) (by kernel_rfl) (H' := [.var (.st 10 [(.st 3 [(eA 3 1 k64 (((a2.gsum.gh.setIfInBounds ((Int.toNat 0)) r3.1).setIfInBounds ((Int.toNat 1)) r8.1).setIfInBounds ((Int.toNat 2)) (U64 (e12 + r8.2))))]), (eB a2.gmade), (k64 a2.gr0), (k64 a2.gr1), (k64 a2.gs0), (k64 a2.gs1), (eL 1 k8 a2.grest), (j64 a2.gall)])]))) dF0) ?_
 apply rt; exact At.z 0

theorem poly_sum_add_rdd_q_ok_c : callable Tryz.prog 230 := ⟨_, Tryz.func230, by decide, rfl⟩

def m_poly_sum_step_rddd_q : Nat → Bool := imL [5]

def p_poly_sum_step_rddd_q (N : Nat) (a0 : (Vector Int 17)) (a1 : Int) (a2 : Int) (a3 : S_poly_Mac) : Option ((Vector Int 3) × Bool × Int × Int × Int × Int × (List Int) × Int) :=
 Option.bind (inRO 0 3) fun _ =>
 Option.bind (a3.gsum.gh.toList[(Int.toNat 0)]?) fun e2 =>
 Option.bind (slcO a0.toList 0 8) fun s3 =>
 Option.bind (p_poly_number N s3) fun r4 =>
 Option.bind (p_Add64 e2 r4 0) fun r5 =>
 Option.bind (inRO 0 3) fun _ =>
 Option.bind (a3.gsum.gh.toList[(Int.toNat 0)]?) fun e7 =>
 Option.bind (inRO 1 3) fun _ =>
 Option.bind ((a3.gsum.gh.setIfInBounds ((Int.toNat 0)) r5.1).toList[(Int.toNat 1)]?) fun e9 =>
 Option.bind (slcO a0.toList 8 16) fun s10 =>
 Option.bind (p_poly_number N s10) fun r11 =>
 Option.bind (p_Add64 e9 r11 r5.2) fun r12 =>
 Option.bind (inRO 1 3) fun _ =>
 Option.bind ((a3.gsum.gh.setIfInBounds ((Int.toNat 0)) r5.1).toList[(Int.toNat 1)]?) fun e14 =>
 Option.bind (inRO 2 3) fun _ =>
 Option.bind (((a3.gsum.gh.setIfInBounds ((Int.toNat 0)) r5.1).setIfInBounds ((Int.toNat 1)) r12.1).toList[(Int.toNat 2)]?) fun e16 =>
 Option.bind (idx a0.toList 16) fun e17 =>
 letO (U64 ((U64 e17) + r12.2)) fun x18 =>
 Option.bind (inRO 2 3) fun _ =>
 Option.bind (((a3.gsum.gh.setIfInBounds ((Int.toNat 0)) r5.1).setIfInBounds ((Int.toNat 1)) r12.1).toList[(Int.toNat 2)]?) fun e20 =>
 Option.bind (inRO 0 3) fun _ =>
 Option.bind ((((a3.gsum.gh.setIfInBounds ((Int.toNat 0)) r5.1).setIfInBounds ((Int.toNat 1)) r12.1).setIfInBounds ((Int.toNat 2)) (U64 (e16 + x18))).toList[(Int.toNat 0)]?) fun e22 =>
 Option.bind (p_math_bits_Mul64 N e22 a1) fun r23 =>
 Option.bind (inRO 1 3) fun _ =>
 Option.bind ((((a3.gsum.gh.setIfInBounds ((Int.toNat 0)) r5.1).setIfInBounds ((Int.toNat 1)) r12.1).setIfInBounds ((Int.toNat 2)) (U64 (e16 + x18))).toList[(Int.toNat 1)]?) fun e25 =>
 Option.bind (p_math_bits_Mul64 N e25 a1) fun r26 =>
 Option.bind (inRO 0 3) fun _ =>
 Option.bind ((((a3.gsum.gh.setIfInBounds ((Int.toNat 0)) r5.1).setIfInBounds ((Int.toNat 1)) r12.1).setIfInBounds ((Int.toNat 2)) (U64 (e16 + x18))).toList[(Int.toNat 0)]?) fun e28 =>
 Option.bind (p_math_bits_Mul64 N e28 a2) fun r29 =>
 Option.bind (inRO 1 3) fun _ =>
 Option.bind ((((a3.gsum.gh.setIfInBounds ((Int.toNat 0)) r5.1).setIfInBounds ((Int.toNat 1)) r12.1).setIfInBounds ((Int.toNat 2)) (U64 (e16 + x18))).toList[(Int.toNat 1)]?) fun e31 =>
 Option.bind (p_math_bits_Mul64 N e31 a2) fun r32 =>
 Option.bind (inRO 2 3) fun _ =>
 Option.bind ((((a3.gsum.gh.setIfInBounds ((Int.toNat 0)) r5.1).setIfInBounds ((Int.toNat 1)) r12.1).setIfInBounds ((Int.toNat 2)) (U64 (e16 + x18))).toList[(Int.toNat 2)]?) fun e34 =>
 Option.bind (inRO 2 3) fun _ =>
 Option.bind ((((a3.gsum.gh.setIfInBounds ((Int.toNat 0)) r5.1).setIfInBounds ((Int.toNat 1)) r12.1).setIfInBounds ((Int.toNat 2)) (U64 (e16 + x18))).toList[(Int.toNat 2)]?) fun e36 =>
 Option.bind (p_Add64 r26.2 r29.2 0) fun r37 =>
 Option.bind (p_Add64 r26.1 r29.1 r37.2) fun r38 =>
 Option.bind (p_Add64 0 0 r38.2) fun r39 =>
 Option.bind (p_Add64 r38.1 r32.2 0) fun r40 =>
 Option.bind (p_Add64 r39.1 r32.1 r40.2) fun r41 =>
 Option.bind (p_Add64 r40.1 (U64 (e34 * a1)) 0) fun r42 =>
 Option.bind (p_Add64 r41.1 (U64 (e36 * a2)) r42.2) fun r43 =>
 Option.bind (p_Add64 r37.1 r23.1 0) fun r44 =>
 Option.bind (p_Add64 r42.1 0 r44.2) fun r45 =>
 Option.bind (p_Add64 r43.1 0 r45.2) fun r46 =>
 Option.bind (p_poly_sum_add_rdd_q N (bandn .u64 r45.1 3) r46.1 (S_poly_Mac.mk (S_poly_sum.mk (#v[r23.2, r44.1, band .u64 r45.1 3])) a3.gmade a3.gr0 a3.gr1 a3.gs0 a3.gs1 a3.grest a3.gall)) fun r47 =>
 letO (bor .u64 (shr .u64 r45.1 2) (shl .u64 r46.1 62)) fun x48 =>
 Option.bind (p_poly_sum_add_rdd_q N x48 (shr .u64 r46.1 2) (S_poly_Mac.mk (S_poly_sum.mk r47) ((S_poly_Mac.mk (S_poly_sum.mk (#v[r23.2, r44.1, band .u64 r45.1 3])) a3.gmade a3.gr0 a3.gr1 a3.gs0 a3.gs1 a3.grest a3.gall).gmade) ((S_poly_Mac.mk (S_poly_sum.mk (#v[r23.2, r44.1, band .u64 r45.1 3])) a3.gmade a3.gr0 a3.gr1 a3.gs0 a3.gs1 a3.grest a3.gall).gr0) ((S_poly_Mac.mk (S_poly_sum.mk (#v[r23.2, r44.1, band .u64 r45.1 3])) a3.gmade a3.gr0 a3.gr1 a3.gs0 a3.gs1 a3.grest a3.gall).gr1) ((S_poly_Mac.mk (S_poly_sum.mk (#v[r23.2, r44.1, band .u64 r45.1 3])) a3.gmade a3.gr0 a3.gr1 a3.gs0 a3.gs1 a3.grest a3.gall).gs0) ((S_poly_Mac.mk (S_poly_sum.mk (#v[r23.2, r44.1, band .u64 r45.1 3])) a3.gmade a3.gr0 a3.gr1 a3.gs0 a3.gs1 a3.grest a3.gall).gs1) ((S_poly_Mac.mk (S_poly_sum.mk (#v[r23.2, r44.1, band .u64 r45.1 3])) a3.gmade a3.gr0 a3.gr1 a3.gs0 a3.gs1 a3.grest a3.gall).grest) ((S_poly_Mac.mk (S_poly_sum.mk (#v[r23.2, r44.1, band .u64 r45.1 3])) a3.gmade a3.gr0 a3.gr1 a3.gs0 a3.gs1 a3.grest a3.gall).gall))) fun r49 =>
 some ((r49, (S_poly_Mac.mk (S_poly_sum.mk r47) ((S_poly_Mac.mk (S_poly_sum.mk (#v[r23.2, r44.1, band .u64 r45.1 3])) a3.gmade a3.gr0 a3.gr1 a3.gs0 a3.gs1 a3.grest a3.gall).gmade) ((S_poly_Mac.mk (S_poly_sum.mk (#v[r23.2, r44.1, band .u64 r45.1 3])) a3.gmade a3.gr0 a3.gr1 a3.gs0 a3.gs1 a3.grest a3.gall).gr0) ((S_poly_Mac.mk (S_poly_sum.mk (#v[r23.2, r44.1, band .u64 r45.1 3])) a3.gmade a3.gr0 a3.gr1 a3.gs0 a3.gs1 a3.grest a3.gall).gr1) ((S_poly_Mac.mk (S_poly_sum.mk (#v[r23.2, r44.1, band .u64 r45.1 3])) a3.gmade a3.gr0 a3.gr1 a3.gs0 a3.gs1 a3.grest a3.gall).gs0) ((S_poly_Mac.mk (S_poly_sum.mk (#v[r23.2, r44.1, band .u64 r45.1 3])) a3.gmade a3.gr0 a3.gr1 a3.gs0 a3.gs1 a3.grest a3.gall).gs1) ((S_poly_Mac.mk (S_poly_sum.mk (#v[r23.2, r44.1, band .u64 r45.1 3])) a3.gmade a3.gr0 a3.gr1 a3.gs0 a3.gs1 a3.grest a3.gall).grest) ((S_poly_Mac.mk (S_poly_sum.mk (#v[r23.2, r44.1, band .u64 r45.1 3])) a3.gmade a3.gr0 a3.gr1 a3.gs0 a3.gs1 a3.grest a3.gall).gall)).gmade, (S_poly_Mac.mk (S_poly_sum.mk r47) ((S_poly_Mac.mk (S_poly_sum.mk (#v[r23.2, r44.1, band .u64 r45.1 3])) a3.gmade a3.gr0 a3.gr1 a3.gs0 a3.gs1 a3.grest a3.gall).gmade) ((S_poly_Mac.mk (S_poly_sum.mk (#v[r23.2, r44.1, band .u64 r45.1 3])) a3.gmade a3.gr0 a3.gr1 a3.gs0 a3.gs1 a3.grest a3.gall).gr0) ((S_poly_Mac.mk (S_poly_sum.mk (#v[r23.2, r44.1, band .u64 r45.1 3])) a3.gmade a3.gr0 a3.gr1 a3.gs0 a3.gs1 a3.grest a3.gall).gr1) ((S_poly_Mac.mk (S_poly_sum.mk (#v[r23.2, r44.1, band .u64 r45.1 3])) a3.gmade a3.gr0 a3.gr1 a3.gs0 a3.gs1 a3.grest a3.gall).gs0) ((S_poly_Mac.mk (S_poly_sum.mk (#v[r23.2, r44.1, band .u64 r45.1 3])) a3.gmade a3.gr0 a3.gr1 a3.gs0 a3.gs1 a3.grest a3.gall).gs1) ((S_poly_Mac.mk (S_poly_sum.mk (#v[r23.2, r44.1, band .u64 r45.1 3])) a3.gmade a3.gr0 a3.gr1 a3.gs0 a3.gs1 a3.grest a3.gall).grest) ((S_poly_Mac.mk (S_poly_sum.mk (#v[r23.2, r44.1, band .u64 r45.1 3])) a3.gmade a3.gr0 a3.gr1 a3.gs0 a3.gs1 a3.grest a3.gall).gall)).gr0, (S_poly_Mac.mk (S_poly_sum.mk r47) ((S_poly_Mac.mk (S_poly_sum.mk (#v[r23.2, r44.1, band .u64 r45.1 3])) a3.gmade a3.gr0 a3.gr1 a3.gs0 a3.gs1 a3.grest a3.gall).gmade) ((S_poly_Mac.mk (S_poly_sum.mk (#v[r23.2, r44.1, band .u64 r45.1 3])) a3.gmade a3.gr0 a3.gr1 a3.gs0 a3.gs1 a3.grest a3.gall).gr0) ((S_poly_Mac.mk (S_poly_sum.mk (#v[r23.2, r44.1, band .u64 r45.1 3])) a3.gmade a3.gr0 a3.gr1 a3.gs0 a3.gs1 a3.grest a3.gall).gr1) ((S_poly_Mac.mk (S_poly_sum.mk (#v[r23.2, r44.1, band .u64 r45.1 3])) a3.gmade a3.gr0 a3.gr1 a3.gs0 a3.gs1 a3.grest a3.gall).gs0) ((S_poly_Mac.mk (S_poly_sum.mk (#v[r23.2, r44.1, band .u64 r45.1 3])) a3.gmade a3.gr0 a3.gr1 a3.gs0 a3.gs1 a3.grest a3.gall).gs1) ((S_poly_Mac.mk (S_poly_sum.mk (#v[r23.2, r44.1, band .u64 r45.1 3])) a3.gmade a3.gr0 a3.gr1 a3.gs0 a3.gs1 a3.grest a3.gall).grest) ((S_poly_Mac.mk (S_poly_sum.mk (#v[r23.2, r44.1, band .u64 r45.1 3])) a3.gmade a3.gr0 a3.gr1 a3.gs0 a3.gs1 a3.grest a3.gall).gall)).gr1, (S_poly_Mac.mk (S_poly_sum.mk r47) ((S_poly_Mac.mk (S_poly_sum.mk (#v[r23.2, r44.1, band .u64 r45.1 3])) a3.gmade a3.gr0 a3.gr1 a3.gs0 a3.gs1 a3.grest a3.gall).gmade) ((S_poly_Mac.mk (S_poly_sum.mk (#v[r23.2, r44.1, band .u64 r45.1 3])) a3.gmade a3.gr0 a3.gr1 a3.gs0 a3.gs1 a3.grest a3.gall).gr0) ((S_poly_Mac.mk (S_poly_sum.mk (#v[r23.2, r44.1, band .u64 r45.1 3])) a3.gmade a3.gr0 a3.gr1 a3.gs0 a3.gs1 a3.grest a3.gall).gr1) ((S_poly_Mac.mk (S_poly_sum.mk (#v[r23.2, r44.1, band .u64 r45.1 3])) a3.gmade a3.gr0 a3.gr1 a3.gs0 a3.gs1 a3.grest a3.gall).gs0) ((S_poly_Mac.mk (S_poly_sum.mk (#v[r23.2, r44.1, band .u64 r45.1 3])) a3.gmade a3.gr0 a3.gr1 a3.gs0 a3.gs1 a3.grest a3.gall).gs1) ((S_poly_Mac.mk (S_poly_sum.mk (#v[r23.2, r44.1, band .u64 r45.1 3])) a3.gmade a3.gr0 a3.gr1 a3.gs0 a3.gs1 a3.grest a3.gall).grest) ((S_poly_Mac.mk (S_poly_sum.mk (#v[r23.2, r44.1, band .u64 r45.1 3])) a3.gmade a3.gr0 a3.gr1 a3.gs0 a3.gs1 a3.grest a3.gall).gall)).gs0, (S_poly_Mac.mk (S_poly_sum.mk r47) ((S_poly_Mac.mk (S_poly_sum.mk (#v[r23.2, r44.1, band .u64 r45.1 3])) a3.gmade a3.gr0 a3.gr1 a3.gs0 a3.gs1 a3.grest a3.gall).gmade) ((S_poly_Mac.mk (S_poly_sum.mk (#v[r23.2, r44.1, band .u64 r45.1 3])) a3.gmade a3.gr0 a3.gr1 a3.gs0 a3.gs1 a3.grest a3.gall).gr0) ((S_poly_Mac.mk (S_poly_sum.mk (#v[r23.2, r44.1, band .u64 r45.1 3])) a3.gmade a3.gr0 a3.gr1 a3.gs0 a3.gs1 a3.grest a3.gall).gr1) ((S_poly_Mac.mk (S_poly_sum.mk (#v[r23.2, r44.1, band .u64 r45.1 3])) a3.gmade a3.gr0 a3.gr1 a3.gs0 a3.gs1 a3.grest a3.gall).gs0) ((S_poly_Mac.mk (S_poly_sum.mk (#v[r23.2, r44.1, band .u64 r45.1 3])) a3.gmade a3.gr0 a3.gr1 a3.gs0 a3.gs1 a3.grest a3.gall).gs1) ((S_poly_Mac.mk (S_poly_sum.mk (#v[r23.2, r44.1, band .u64 r45.1 3])) a3.gmade a3.gr0 a3.gr1 a3.gs0 a3.gs1 a3.grest a3.gall).grest) ((S_poly_Mac.mk (S_poly_sum.mk (#v[r23.2, r44.1, band .u64 r45.1 3])) a3.gmade a3.gr0 a3.gr1 a3.gs0 a3.gs1 a3.grest a3.gall).gall)).gs1, (S_poly_Mac.mk (S_poly_sum.mk r47) ((S_poly_Mac.mk (S_poly_sum.mk (#v[r23.2, r44.1, band .u64 r45.1 3])) a3.gmade a3.gr0 a3.gr1 a3.gs0 a3.gs1 a3.grest a3.gall).gmade) ((S_poly_Mac.mk (S_poly_sum.mk (#v[r23.2, r44.1, band .u64 r45.1 3])) a3.gmade a3.gr0 a3.gr1 a3.gs0 a3.gs1 a3.grest a3.gall).gr0) ((S_poly_Mac.mk (S_poly_sum.mk (#v[r23.2, r44.1, band .u64 r45.1 3])) a3.gmade a3.gr0 a3.gr1 a3.gs0 a3.gs1 a3.grest a3.gall).gr1) ((S_poly_Mac.mk (S_poly_sum.mk (#v[r23.2, r44.1, band .u64 r45.1 3])) a3.gmade a3.gr0 a3.gr1 a3.gs0 a3.gs1 a3.grest a3.gall).gs0) ((S_poly_Mac.mk (S_poly_sum.mk (#v[r23.2, r44.1, band .u64 r45.1 3])) a3.gmade a3.gr0 a3.gr1 a3.gs0 a3.gs1 a3.grest a3.gall).gs1) ((S_poly_Mac.mk (S_poly_sum.mk (#v[r23.2, r44.1, band .u64 r45.1 3])) a3.gmade a3.gr0 a3.gr1 a3.gs0 a3.gs1 a3.grest a3.gall).grest) ((S_poly_Mac.mk (S_poly_sum.mk (#v[r23.2, r44.1, band .u64 r45.1 3])) a3.gmade a3.gr0 a3.gr1 a3.gs0 a3.gs1 a3.grest a3.gall).gall)).grest, (S_poly_Mac.mk (S_poly_sum.mk r47) ((S_poly_Mac.mk (S_poly_sum.mk (#v[r23.2, r44.1, band .u64 r45.1 3])) a3.gmade a3.gr0 a3.gr1 a3.gs0 a3.gs1 a3.grest a3.gall).gmade) ((S_poly_Mac.mk (S_poly_sum.mk (#v[r23.2, r44.1, band .u64 r45.1 3])) a3.gmade a3.gr0 a3.gr1 a3.gs0 a3.gs1 a3.grest a3.gall).gr0) ((S_poly_Mac.mk (S_poly_sum.mk (#v[r23.2, r44.1, band .u64 r45.1 3])) a3.gmade a3.gr0 a3.gr1 a3.gs0 a3.gs1 a3.grest a3.gall).gr1) ((S_poly_Mac.mk (S_poly_sum.mk (#v[r23.2, r44.1, band .u64 r45.1 3])) a3.gmade a3.gr0 a3.gr1 a3.gs0 a3.gs1 a3.grest a3.gall).gs0) ((S_poly_Mac.mk (S_poly_sum.mk (#v[r23.2, r44.1, band .u64 r45.1 3])) a3.gmade a3.gr0 a3.gr1 a3.gs0 a3.gs1 a3.grest a3.gall).gs1) ((S_poly_Mac.mk (S_poly_sum.mk (#v[r23.2, r44.1, band .u64 r45.1 3])) a3.gmade a3.gr0 a3.gr1 a3.gs0 a3.gs1 a3.grest a3.gall).grest) ((S_poly_Mac.mk (S_poly_sum.mk (#v[r23.2, r44.1, band .u64 r45.1 3])) a3.gmade a3.gr0 a3.gr1 a3.gs0 a3.gs1 a3.grest a3.gall).gall)).gall))

theorem poly_sum_step_rddd_q_ok {N : Nat} {a0 : (Vector Int 17)} {a1 : Int} {a2 : Int} {a3 : S_poly_Mac} {r : (Vector Int 3) × Bool × Int × Int × Int × Int × (List Int) × Int} (h : p_poly_sum_step_rddd_q N a0 a1 a2 a3 = some r) : FnM Tryz.prog 212 [.var (S_poly_Mac.enc a3)] [(.ref 0 [0] 0), (eA 17 1 k8 a0), (k64 a1), (k64 a2)] (.tup []) [.var (.st 10 [(.st 3 [(eA 3 1 k64 r.1)]), (eB r.2.1), (k64 r.2.2.1), (k64 r.2.2.2.1), (k64 r.2.2.2.2.1), (k64 r.2.2.2.2.2.1), (eL 1 k8 r.2.2.2.2.2.2.1), (j64 r.2.2.2.2.2.2.2)])] := by
 unfold p_poly_sum_step_rddd_q at h
 refine At.fn m_poly_sum_step_rddd_q hT hmo (m := 184) (lo := 1) (rs := []) Tryz.func212 rfl rfl h ?_
 refine bi fun u1 hu1 => ?_
 refine bi fun e2 he2 => ?_
 refine bi fun s3 hs3 => ?_
 refine bi fun r4 hr4 => ?_
 refine bi fun r5 hr5 => ?_
 refine bi fun u6 hu6 => ?_
 refine bi fun e7 he7 => ?_
 refine At.d 8 (dE1 0 (fun _ => big_adR hT (k := 1) 1 [] 0 hu1) (dET 1 (k64 e2) [[.var (S_poly_Mac.enc a3), .var (eA 3 1 k64 a3.gsum.gh)]] ⟨big_at (big_ldE hT k64 0 he2), trivial⟩ (dE1 2 (fun _ => big_slI hT (N := 17) (k := 1) k8 a0 hs3) (dE2 3 (k64 r4) (fun _ => big_call0 (poly_number_ok hr4) poly_number_ok_c (by kernel_rfl) (by kernel_rfl) (by kernel_rfl)) (dE1 4 (fun _ => big_nat (n_Add64 hr5) (fun _ => rv_tup2)) (dE1 8 (fun _ => big_adR hT (k := 1) 1 [] 0 hu6) dE0)))))) (dF1 9 (.v (.bool false)) [.var (S_poly_Mac.enc a3), .var (eA 3 1 k64 (a3.gsum.gh.setIfInBounds ((Int.toNat 0)) r5.1))] (big_at (big_stV hT k64 0 a3.gsum.gh he7 r5.1 (by kernel_rfl) (by kernel_rfl) (H' := [.var (S_poly_Mac.enc a3), .var (eA 3 1 k64 (a3.gsum.gh.setIfInBounds ((Int.toNat 0)) r5.1))]))) dF0) ?_
 refine bi fun u8 hu8 => ?_
 refine bi fun e9 he9 => ?_
 refine bi fun s10 hs10 => ?_
 refine bi fun r11 hr11 => ?_
 refine bi fun r12 hr12 => ?_
 refine bi fun u13 hu13 => ?_
 refine bi fun e14 he14 => ?_
 refine At.d 0 (dE1 0 (fun _ => big_adR hT (k := 1) 1 [] 0 hu8) (dET 1 (k64 e9) [[.var (S_poly_Mac.enc a3), .var (eA 3 1 k64 (a3.gsum.gh.setIfInBounds ((Int.toNat 0)) r5.1))]] ⟨big_at (big_ldE hT k64 0 he9), trivial⟩ (dE1 2 (fun _ => big_slI hT (N := 17) (k := 1) k8 a0 hs10) (dE2 3 (k64 r11) (fun _ => big_call0 (poly_number_ok hr11) poly_number_ok_c (by kernel_rfl) (by kernel_rfl) (by kernel_rfl)) (dE1 5 (fun _ => big_nat (n_Add64 hr12) (fun _ => rv_tup2)) (dE1 9 (fun _ => big_adR hT (k := 1) 1 [] 0 hu13) dE0)))))) (dF1 10 (.v (.bool false)) [.var (S_poly_Mac.enc a3), .var (eA 3 1 k64 ((a3.gsum.gh.setIfInBounds ((Int.toNat 0)) r5.1).setIfInBounds ((Int.toNat 1)) r12.1))] (big_at (big_stV hT k64 0 (a3.gsum.gh.setIfInBounds ((Int.toNat 0)) r5.1) he14 r12.1 (by kernel_rfl) (by kernel_rfl) (H' := [.var (S_poly_Mac.enc a3), .var (eA 3 1 k64 ((a3.gsum.gh.setIfInBounds ((Int.toNat 0)) r5.1).setIfInBounds ((Int.toNat 1)) r12.1))]))) dF0) ?_
 refine At.b 0 (fun _ e => big_adR hT (k := 1) 1 [] 0 e) fun u15 => ?_
 refine At.b 0 (fun _ e => big_ldE hT k64 0 e) fun e16 => ?_
 refine At.b 0 (fun _ e => big_adI hT (N := 17) (k := 1) k8 a0 e) fun e17 => ?_
 refine lx ?_; intro x18
 refine At.b 5 (fun _ e => big_adR hT (k := 1) 1 [] 0 e) fun u19 => ?_
 refine At.b 0 (fun _ e => big_stV hT k64 0 ((a3.gsum.gh.setIfInBounds ((Int.toNat 0)) r5.1).setIfInBounds ((Int.toNat 1)) r12.1) e (U64 (e16 + x18)) (by kernel_rfl) (by kernel_rfl) (H' := [.var (S_poly_Mac.enc a3), .var (eA 3 1 k64 (((a3.gsum.gh.setIfInBounds ((Int.toNat 0)) r5.1).setIfInBounds ((Int.toNat 1)) r12.1).setIfInBounds ((Int.toNat 2)) (U64 (e16 + x18))))])) fun e20 => ?_
 refine At.b 0 (fun _ e => big_adR hT (k := 1) 1 [] 0 e) fun u21 => ?_
 refine At.b 0 (fun _ e => big_ldE hT k64 0 e) fun e22 => ?_
 refine At.b 1 (fun _ e => big_call [] (math_bits_Mul64_ok e) math_bits_Mul64_ok_c) fun r23 => ?_
 refine At.b 5 (fun _ e => big_adR hT (k := 1) 1 [] 0 e) fun u24 => ?_
 refine At.b 0 (fun _ e => big_ldE hT k64 0 e) fun e25 => ?_
 refine At.b 1 (fun _ e => big_call [] (math_bits_Mul64_ok e) math_bits_Mul64_ok_c) fun r26 => ?_
 refine At.b 5 (fun _ e => big_adR hT (k := 1) 1 [] 0 e) fun u27 => ?_
 refine At.b 0 (fun _ e => big_ldE hT k64 0 e) fun e28 => ?_
 refine At.b 1 (fun _ e => big_call [] (math_bits_Mul64_ok e) math_bits_Mul64_ok_c) fun r29 => ?_
 refine At.b 5 (fun _ e => big_adR hT (k := 1) 1 [] 0 e) fun u30 => ?_
 refine At.b 0 (fun _ e => big_ldE hT k64 0 e) fun e31 => ?_
 refine At.b 1 (fun _ e => big_call [] (math_bits_Mul64_ok e) math_bits_Mul64_ok_c) fun r32 => ?_
 refine bi fun u33 hu33 => ?_
 refine bi fun e34 he34 => ?_
 refine bi fun u35 hu35 => ?_
 refine bi fun e36 he36 => ?_
 refine At.d 5 (dE1 0 (fun _ => big_adR hT (k := 1) 1 [] 0 hu33) (dET 1 (k64 e34) [[.var (S_poly_Mac.enc a3), .var (eA 3 1 k64 (((a3.gsum.gh.setIfInBounds ((Int.toNat 0)) r5.1).setIfInBounds ((Int.toNat 1)) r12.1).setIfInBounds ((Int.toNat 2)) (U64 (e16 + x18))))]] ⟨big_at (big_ldE hT k64 0 he34), trivial⟩ (dE1 4 (fun _ => big_adR hT (k := 1) 1 [] 0 hu35) (dET 5 (k64 e36) [[.var (S_poly_Mac.enc a3), .var (eA 3 1 k64 (((a3.gsum.gh.setIfInBounds ((Int.toNat 0)) r5.1).setIfInBounds ((Int.toNat 1)) r12.1).setIfInBounds ((Int.toNat 2)) (U64 (e16 + x18))))]] ⟨big_at (big_ldE hT k64 0 he36), trivial⟩ dE0)))) dF0 ?_
 refine At.b 2 (fun _ e => big_nat (n_Add64 e) (fun _ => rv_tup2)) fun r37 => ?_
 refine At.b 8 (fun _ e => big_nat (n_Add64 e) (fun _ => rv_tup2)) fun r38 => ?_
 refine At.b 6 (fun _ e => big_nat (n_Add64 e) (fun _ => rv_tup2)) fun r39 => ?_
 refine At.b 7 (fun _ e => big_nat (n_Add64 e) (fun _ => rv_tup2)) fun r40 => ?_
 refine At.b 8 (fun _ e => big_nat (n_Add64 e) (fun _ => rv_tup2)) fun r41 => ?_
 refine At.b 6 (fun _ e => big_nat (n_Add64 e) (fun _ => rv_tup2)) fun r42 => ?_
 refine At.b 8 (fun _ e => big_nat (n_Add64 e) (fun _ => rv_tup2)) fun r43 => ?_
 refine At.b 8 (fun _ e => big_nat (n_Add64 e) (fun _ => rv_tup2)) fun r44 => ?_
 refine At.b 7 (fun _ e => big_nat (n_Add64 e) (fun _ => rv_tup2)) fun r45 => ?_
 refine At.b 7 (fun _ e => big_nat (n_Add64 e) (fun _ => rv_tup2)) fun r46 => ?_
 refine At.b 18 (fun _ e => big_call [0] (poly_sum_add_rdd_q_ok e) poly_sum_add_rdd_q_ok_c) fun r47 => ?_
 refine lx ?_; intro x48
 refine At.b 8 (fun _ e => big_call [0] (poly_sum_add_rdd_q_ok e) poly_sum_add_rdd_q_ok_c) fun r49 => ?_
 apply rt; exact At.z 0

theorem poly_sum_step_rddd_q_ok_c : callable Tryz.prog 212 := ⟨_, Tryz.func212, by decide, rfl⟩

def p_poly_Mac_Add_rd_L1 (N : Nat) (a1 : (List (List Int))) : Nat → (List Int) → Int → Int → Option ((List Int) × Int)
 | 0, _, _, _ => none
 | k + 1, s2, s3, s4 =>
  letO (decide (s4 < ((a1.length : Int)))) fun x5 =>
  cond x5 (
   Option.bind (idx a1 s4) fun e6 =>
   letO (imin ((e6.length : Int)) (I64 (65536 - s3))) fun x7 =>
   Option.bind (slcO e6 0 x7) fun s8 =>
   letO (I64 (s3 + ((s8.length : Int)))) fun x9 =>
   Option.bind (appO 1 s2 s8) fun z10 =>
   p_poly_Mac_Add_rd_L1 N a1 k z10 ((I64 (s3 + ((s8.length : Int))))) (I64 (s4 + 1))) (
   some ((s2, s3)))

def p_poly_Mac_Add_rd_L2 (N : Nat)  : Nat → (Vector Int 3) → Bool → Int → Int → Int → Int → (List Int) → Int → Option ((Vector Int 3) × Bool × Int × Int × Int × Int × (List Int) × Int)
 | 0, _, _, _, _, _, _, _, _ => none
 | k + 1, s12, s13, s14, s15, s16, s17, s18, s19 =>
  letO (decide (((s18.length : Int)) ≥ 16)) fun x20 =>
  cond x20 (
   Option.bind (slcO s18 0 16) fun s21 =>
   Option.bind (p_poly_Blocks N s21) fun r22 =>
   Option.bind (idx r22 0) fun e23 =>
   Option.bind (p_poly_sum_step_rddd_q N e23 s14 s15 (S_poly_Mac.mk (S_poly_sum.mk s12) s13 s14 s15 s16 s17 s18 s19)) fun r24 =>
   Option.bind (slcO r24.2.2.2.2.2.2.1 16 ((r24.2.2.2.2.2.2.1.length : Int))) fun s25 =>
   p_poly_Mac_Add_rd_L2 N k r24.1 r24.2.1 r24.2.2.1 r24.2.2.2.1 r24.2.2.2.2.1 r24.2.2.2.2.2.1 s25 r24.2.2.2.2.2.2.2) (
   some ((s12, s13, s14, s15, s16, s17, s18, s19)))

def p_poly_Mac_Add_rd (N : Nat) (b1 : (List Int)) (a1 : (List (List Int))) (a2 : S_poly_sum) (a3 : Bool) (a4 : Int) (a5 : Int) (a6 : Int) (a7 : Int) (a8 : Int) : Option ((List Int) × (Vector Int 3) × Bool × Int × Int × Int × Int × (List Int) × Int) :=
 cond (!a3) (
  some ((b1, a2.gh, a3, a4, a5, a6, a7, b1, a8))) (
  Option.bind (p_poly_Mac_Add_rd_L1 N a1 N b1 a8 0) fun p1 =>
  Option.bind (p_poly_Mac_Add_rd_L2 N N a2.gh a3 a4 a5 a6 a7 p1.1 p1.2) fun p11 =>
  some ((p1.1, p11.1, p11.2.1, p11.2.2.1, p11.2.2.2.1, p11.2.2.2.2.1, p11.2.2.2.2.2.1, p11.2.2.2.2.2.2.1, p11.2.2.2.2.2.2.2)))

theorem poly_Mac_Add_rd_ok {N : Nat} {b1 : (List Int)} {a1 : (List (List Int))} {a2 : S_poly_sum} {a3 : Bool} {a4 : Int} {a5 : Int} {a6 : Int} {a7 : Int} {a8 : Int} {r : (List Int) × (Vector Int 3) × Bool × Int × Int × Int × Int × (List Int) × Int} (h : p_poly_Mac_Add_rd N b1 a1 a2 a3 a4 a5 a6 a7 a8 = some r) : FnM Tryz.prog 180 [.var (.st 10 [(S_poly_sum.enc a2), (eB a3), (k64 a4), (k64 a5), (k64 a6), (k64 a7), (eO 1 1 k8 b1), (j64 a8)]), .tail (b1.length * 1)] [(.ref 0 [] 0), (eL 1 (eL 1 k8) a1)] (.tup []) [.var (.st 10 [(.st 3 [(eA 3 1 k64 r.2.1)]), (eB r.2.2.1), (k64 r.2.2.2.1), (k64 r.2.2.2.2.1), (k64 r.2.2.2.2.2.1), (k64 r.2.2.2.2.2.2.1), (eL 1 k8 r.2.2.2.2.2.2.2.1), (j64 r.2.2.2.2.2.2.2.2)]), .tail (r.1.length * 1)] := by
 unfold p_poly_Mac_Add_rd at h
 refine At.fn m_no hT hmo (m := 84) (lo := 2) (rs := []) Tryz.func180 rfl rfl h ?_
 refine At.o 1 (big_eqp hT (t := 256) (x := (.ref 0 [] 0)) (b := true) (by kernel_rfl) rfl rfl (by kernel_rfl)) ?_
 refine At.g [8] 7 ?_
 refine At.c 0 ?_ ?_
 ·apply rt; exact At.r 0
 ·refine At.l 3 (fun p1 => ⟨[en 0 (.ref 0 [] 0)], [.var (.st 10 [(S_poly_sum.enc a2), (eB a3), (k64 a4), (k64 a5), (k64 a6), (k64 a7), (eO 1 1 k8 p1.1), (j64 p1.2)]), .tail (p1.1.length * 1)]⟩) (fun p1 J k s => ∃ s2 s3 s4, p_poly_Mac_Add_rd_L1 N a1 k s2 s3 s4 = some p1 ∧ J ⟨[en 0 (.ref 0 [] 0), en 15 (eL 1 (eL 1 k8) a1), en 16 (j64 ((a1.length : Int))), en 17 (j64 s4)], [.var (.st 10 [(S_poly_sum.enc a2), (eB a3), (k64 a4), (k64 a5), (k64 a6), (k64 a7), (eO 1 1 k8 s2), (j64 s3)]), .tail (s2.length * 1)]⟩ s) N (fun _ h => ⟨_, _, _, h, jr⟩) (fun p1 k s hI => ?_) fun p1 => ?_
  ·obtain ⟨s2, s3, s4, h, hj⟩ := hI
   cases k with
   | zero => cases h
   | succ k =>
    refine At.jr hj ?_ h
    refine lx ?_; intro x5
    refine At.c 1 ?_ ?_
    ·refine At.b 0 (fun _ e => big_idx hT (eL 1 k8) e) fun e6 => ?_
     refine lx ?_; intro x7
     refine At.b 11 (fun _ e => big_slc hT (k := 1) k8 e) fun s8 => ?_
     refine lx ?_; intro x9
     refine At.b 17 (fun _ e => big_app hT k8 (id := 1) (k := 1) e) fun z10 => ?_
     exact fun h => At.k 5 ⟨_, _, _, h, jr⟩
    ·apply rt; exact At.x 0
  ·refine At.l 0 (fun p11 => ⟨[], [.var (.st 10 [(.st 3 [(eA 3 1 k64 p11.1)]), (eB p11.2.1), (k64 p11.2.2.1), (k64 p11.2.2.2.1), (k64 p11.2.2.2.2.1), (k64 p11.2.2.2.2.2.1), (eL 1 k8 p11.2.2.2.2.2.2.1), (j64 p11.2.2.2.2.2.2.2)]), .tail (p1.1.length * 1)]⟩) (fun p11 J k s => ∃ s12 s13 s14 s15 s16 s17 s18 s19, p_poly_Mac_Add_rd_L2 N k s12 s13 s14 s15 s16 s17 s18 s19 = some p11 ∧ J ⟨[en 0 (.ref 0 [] 0)], [.var (.st 10 [(.st 3 [(eA 3 1 k64 s12)]), (eB s13), (k64 s14), (k64 s15), (k64 s16), (k64 s17), (eL 1 k8 s18), (j64 s19)]), .tail (p1.1.length * 1)]⟩ s) N (fun _ h => ⟨_, _, _, _, _, _, _, _, h, jr⟩) (fun p11 k s hI => ?_) fun p11 => ?_
   ·obtain ⟨s12, s13, s14, s15, s16, s17, s18, s19, h, hj⟩ := hI
    cases k with
    | zero => cases h
    | succ k =>
     refine At.jr hj ?_ h
     refine lx ?_; intro x20
     refine At.c 6 ?_ ?_
     ·refine bi fun s21 hs21 => ?_
      refine bi fun r22 hr22 => ?_
      refine bi fun e23 he23 => ?_
      refine bi fun r24 hr24 => ?_
      refine At.d 0 (dE1 7 (fun _ => big_slc hT (k := 1) k8 hs21) (dE2 8 (eL 17 (eA 17 1 k8) r22) (fun _ => big_call0 (poly_Blocks_ok hr22) poly_Blocks_ok_c (by kernel_rfl) (by kernel_rfl) (by kernel_rfl)) (dE1 9 (fun _ => big_idx hT (eA 17 1 k8) he23) dE0))) (dF1 19 (.tup []) [.var (.st 10 [(.st 3 [(eA 3 1 k64 r24.1)]), (eB r24.2.1), (k64 r24.2.2.1), (k64 r24.2.2.2.1), (k64 r24.2.2.2.2.1), (k64 r24.2.2.2.2.2.1), (eL 1 k8 r24.2.2.2.2.2.2.1), (j64 r24.2.2.2.2.2.2.2)]), .tail (p1.1.length * 1)] (big_at (big_call [0] (poly_sum_step_rddd_q_ok hr24) poly_sum_step_rddd_q_ok_c)) dF0) ?_
      refine At.b 5 (fun _ e => big_slc hT (k := 1) k8 e) fun s25 => ?_
      exact fun h => At.k 3 ⟨_, _, _, _, _, _, _, _, h, jr⟩
     ·apply rt; exact At.x 0
   ·apply rt; exact At.z 0

theorem poly_Mac_Add_rd_ok_c : callable Tryz.prog 180 := ⟨_, Tryz.func180, by decide, rfl⟩

def p_poly_sum_add_rdd_q_q (N : Nat) (a0 : Int) (a1 : Int) (a2 : S_poly_sum) : Option ((Vector Int 3)) :=
 Option.bind (inRO 0 3) fun _ =>
 Option.bind (a2.gh.toList[(Int.toNat 0)]?) fun e2 =>
 Option.bind (p_Add64 e2 a0 0) fun r3 =>
 Option.bind (inRO 0 3) fun _ =>
 Option.bind (a2.gh.toList[(Int.toNat 0)]?) fun e5 =>
 Option.bind (inRO 1 3) fun _ =>
 Option.bind ((a2.gh.setIfInBounds ((Int.toNat 0)) r3.1).toList[(Int.toNat 1)]?) fun e7 =>
 Option.bind (p_Add64 e7 a1 r3.2) fun r8 =>
 Option.bind (inRO 1 3) fun _ =>
 Option.bind ((a2.gh.setIfInBounds ((Int.toNat 0)) r3.1).toList[(Int.toNat 1)]?) fun e10 =>
 Option.bind (inRO 2 3) fun _ =>
 Option.bind (((a2.gh.setIfInBounds ((Int.toNat 0)) r3.1).setIfInBounds ((Int.toNat 1)) r8.1).toList[(Int.toNat 2)]?) fun e12 =>
 Option.bind (inRO 2 3) fun _ =>
 Option.bind (((a2.gh.setIfInBounds ((Int.toNat 0)) r3.1).setIfInBounds ((Int.toNat 1)) r8.1).toList[(Int.toNat 2)]?) fun e14 =>
 some (((a2.gh.setIfInBounds ((Int.toNat 0)) r3.1).setIfInBounds ((Int.toNat 1)) r8.1).setIfInBounds ((Int.toNat 2)) (U64 (e12 + r8.2)))

theorem poly_sum_add_rdd_q_q_ok {N : Nat} {a0 : Int} {a1 : Int} {a2 : S_poly_sum} {r : (Vector Int 3)} (h : p_poly_sum_add_rdd_q_q N a0 a1 a2 = some r) : FnM Tryz.prog 230 [.var (S_poly_sum.enc a2)] [(.ref 0 [] 0), (k64 a0), (k64 a1)] (.tup []) [.var (.st 3 [(eA 3 1 k64 r)])] := by
 unfold p_poly_sum_add_rdd_q_q at h
 refine At.fn m_no hT hmo (m := 46) (lo := 1) (rs := []) Tryz.func230 rfl rfl h ?_
 refine bi fun u1 hu1 => ?_
 refine bi fun e2 he2 => ?_
 refine bi fun r3 hr3 => ?_
 refine bi fun u4 hu4 => ?_
 refine bi fun e5 he5 => ?_
 refine At.d 1 (dE1 4 (fun _ => big_adR hT (k := 1) 0 [0] 0 hu1) (dET 5 (k64 e2) [[.var (S_poly_sum.enc a2)]] ⟨big_at (big_ldE hT k64 1 he2), trivial⟩ (dE1 7 (fun _ => big_nat (n_Add64 hr3) (fun _ => rv_tup2)) (dE1 13 (fun _ => big_adR hT (k := 1) 0 [0] 0 hu4) dE0)))) (dF1 14 (.v (.bool false)) [.var (.st 3 [(eA 3 1 k64 (a2.gh.setIfInBounds ((Int.toNat 0)) r3.1))])] (big_at (big_stV hT k64 1 a2.gh he5 r3.1 (by kernel_rfl) (by kernel_rfl) (H' := [.var (.st 3 [(eA 3 1 k64 (a2.gh.setIfInBounds ((Int.toNat 0)) r3.1))])]))) dF0) ?_
 refine bi fun u6 hu6 => ?_
 refine bi fun e7 he7 => ?_
 refine bi fun r8 hr8 => ?_
 refine bi fun u9 hu9 => ?_
 refine bi fun e10 he10 => ?_
 refine At.d 0 (dE1 4 (fun _ => big_adR hT (k := 1) 0 [0] 0 hu6) (dET 5 (k64 e7) [[.var (.st 3 [(eA 3 1 k64 (a2.gh.setIfInBounds ((Int.toNat 0)) r3.1))])]] ⟨big_at (big_ldE hT k64 1 he7), trivial⟩ (dE1 8 (fun _ => big_nat (n_Add64 hr8) (fun _ => rv_tup2)) (dE1 14 (fun _ => big_adR hT (k := 1) 0 [0] 0 hu9) dE0)))) (dF1 15 (.v (.bool false)) [.var (.st 3 [(eA 3 1 k64 ((a2.gh.setIfInBounds ((Int.toNat 0)) r3.1).setIfInBounds ((Int.toNat 1)) r8.1))])] (big_at (big_stV hT k64 1 (a2.gh.setIfInBounds ((Int.toNat 0)) r3.1) he10 r8.1 (by kernel_rfl) (by kernel_rfl) (H' := [.var (.st 3 [(eA 3 1 k64 ((a2.gh.setIfInBounds ((Int.toNat 0)) r3.1).setIfInBounds ((Int.toNat 1)) r8.1))])]))) dF0) ?_
 refine bi fun u11 hu11 => ?_
 refine bi fun e12 he12 => ?_
 refine bi fun u13 hu13 => ?_
 refine bi fun e14 he14 => ?_
 refine At.d 0 (dE1 3 (fun _ => big_adR hT (k := 1) 0 [0] 0 hu11) (dET 4 (k64 e12) [[.var (.st 3 [(eA 3 1 k64 ((a2.gh.setIfInBounds ((Int.toNat 0)) r3.1).setIfInBounds ((Int.toNat 1)) r8.1))])]] ⟨big_at (big_ldE hT k64 1 he12), trivial⟩ (dE1 9 (fun _ => big_adR hT (k := 1) 0 [0] 0 hu13) dE0))) (dF1 10 (.v (.bool false)) [.var (.st 3 [(eA 3 1 k64 (((a2.gh.setIfInBounds ((Int.toNat 0)) r3.1).setIfInBounds ((Int.toNat 1)) r8.1).setIfInBounds ((Int.toNat 2)) (U64 (e12 + r8.2))))])] (big_at (big_stV hT k64 1 ((a2.gh.setIfInBounds ((Int.toNat 0)) r3.1).setIfInBounds ((Int.toNat 1)) r8.1) he14 (U64 (e12 + r8.2)) (by kernel_rfl) (by kernel_rfl) (H' := [.var (.st 3 [(eA 3 1 k64 (((a2.gh.setIfInBounds ((Int.toNat 0)) r3.1).setIfInBounds ((Int.toNat 1)) r8.1).setIfInBounds ((Int.toNat 2)) (U64 (e12 + r8.2))))])]))) dF0) ?_
 apply rt; exact At.z 0

theorem poly_sum_add_rdd_q_q_ok_c : callable Tryz.prog 230 := ⟨_, Tryz.func230, by decide, rfl⟩

def m_poly_sum_step_rddd_q_q : Nat → Bool := imL [5]

def p_poly_sum_step_rddd_q_q (N : Nat) (a0 : (Vector Int 17)) (a1 : Int) (a2 : Int) (a3 : S_poly_sum) : Option ((Vector Int 3)) :=
 Option.bind (inRO 0 3) fun _ =>
 Option.bind (a3.gh.toList[(Int.toNat 0)]?) fun e2 =>
 Option.bind (slcO a0.toList 0 8) fun s3 =>
 Option.bind (p_poly_number N s3) fun r4 =>
 Option.bind (p_Add64 e2 r4 0) fun r5 =>
 Option.bind (inRO 0 3) fun _ =>
 Option.bind (a3.gh.toList[(Int.toNat 0)]?) fun e7 =>
 Option.bind (inRO 1 3) fun _ =>
 Option.bind ((a3.gh.setIfInBounds ((Int.toNat 0)) r5.1).toList[(Int.toNat 1)]?) fun e9 =>
 Option.bind (slcO a0.toList 8 16) fun s10 =>
 Option.bind (p_poly_number N s10) fun r11 =>
 Option.bind (p_Add64 e9 r11 r5.2) fun r12 =>
 Option.bind (inRO 1 3) fun _ =>
 Option.bind ((a3.gh.setIfInBounds ((Int.toNat 0)) r5.1).toList[(Int.toNat 1)]?) fun e14 =>
 Option.bind (inRO 2 3) fun _ =>
 Option.bind (((a3.gh.setIfInBounds ((Int.toNat 0)) r5.1).setIfInBounds ((Int.toNat 1)) r12.1).toList[(Int.toNat 2)]?) fun e16 =>
 Option.bind (idx a0.toList 16) fun e17 =>
 letO (U64 ((U64 e17) + r12.2)) fun x18 =>
 Option.bind (inRO 2 3) fun _ =>
 Option.bind (((a3.gh.setIfInBounds ((Int.toNat 0)) r5.1).setIfInBounds ((Int.toNat 1)) r12.1).toList[(Int.toNat 2)]?) fun e20 =>
 Option.bind (inRO 0 3) fun _ =>
 Option.bind ((((a3.gh.setIfInBounds ((Int.toNat 0)) r5.1).setIfInBounds ((Int.toNat 1)) r12.1).setIfInBounds ((Int.toNat 2)) (U64 (e16 + x18))).toList[(Int.toNat 0)]?) fun e22 =>
 Option.bind (p_math_bits_Mul64 N e22 a1) fun r23 =>
 Option.bind (inRO 1 3) fun _ =>
 Option.bind ((((a3.gh.setIfInBounds ((Int.toNat 0)) r5.1).setIfInBounds ((Int.toNat 1)) r12.1).setIfInBounds ((Int.toNat 2)) (U64 (e16 + x18))).toList[(Int.toNat 1)]?) fun e25 =>
 Option.bind (p_math_bits_Mul64 N e25 a1) fun r26 =>
 Option.bind (inRO 0 3) fun _ =>
 Option.bind ((((a3.gh.setIfInBounds ((Int.toNat 0)) r5.1).setIfInBounds ((Int.toNat 1)) r12.1).setIfInBounds ((Int.toNat 2)) (U64 (e16 + x18))).toList[(Int.toNat 0)]?) fun e28 =>
 Option.bind (p_math_bits_Mul64 N e28 a2) fun r29 =>
 Option.bind (inRO 1 3) fun _ =>
 Option.bind ((((a3.gh.setIfInBounds ((Int.toNat 0)) r5.1).setIfInBounds ((Int.toNat 1)) r12.1).setIfInBounds ((Int.toNat 2)) (U64 (e16 + x18))).toList[(Int.toNat 1)]?) fun e31 =>
 Option.bind (p_math_bits_Mul64 N e31 a2) fun r32 =>
 Option.bind (inRO 2 3) fun _ =>
 Option.bind ((((a3.gh.setIfInBounds ((Int.toNat 0)) r5.1).setIfInBounds ((Int.toNat 1)) r12.1).setIfInBounds ((Int.toNat 2)) (U64 (e16 + x18))).toList[(Int.toNat 2)]?) fun e34 =>
 Option.bind (inRO 2 3) fun _ =>
 Option.bind ((((a3.gh.setIfInBounds ((Int.toNat 0)) r5.1).setIfInBounds ((Int.toNat 1)) r12.1).setIfInBounds ((Int.toNat 2)) (U64 (e16 + x18))).toList[(Int.toNat 2)]?) fun e36 =>
 Option.bind (p_Add64 r26.2 r29.2 0) fun r37 =>
 Option.bind (p_Add64 r26.1 r29.1 r37.2) fun r38 =>
 Option.bind (p_Add64 0 0 r38.2) fun r39 =>
 Option.bind (p_Add64 r38.1 r32.2 0) fun r40 =>
 Option.bind (p_Add64 r39.1 r32.1 r40.2) fun r41 =>
 Option.bind (p_Add64 r40.1 (U64 (e34 * a1)) 0) fun r42 =>
 Option.bind (p_Add64 r41.1 (U64 (e36 * a2)) r42.2) fun r43 =>
 Option.bind (p_Add64 r37.1 r23.1 0) fun r44 =>
 Option.bind (p_Add64 r42.1 0 r44.2) fun r45 =>
 Option.bind (p_Add64 r43.1 0 r45.2) fun r46 =>
 Option.bind (p_poly_sum_add_rdd_q_q N (bandn .u64 r45.1 3) r46.1 (S_poly_sum.mk (#v[r23.2, r44.1, band .u64 r45.1 3]))) fun r47 =>
 letO (bor .u64 (shr .u64 r45.1 2) (shl .u64 r46.1 62)) fun x48 =>
 Option.bind (p_poly_sum_add_rdd_q_q N x48 (shr .u64 r46.1 2) (S_poly_sum.mk r47)) fun r49 =>
 some r49

theorem poly_sum_step_rddd_q_q_ok {N : Nat} {a0 : (Vector Int 17)} {a1 : Int} {a2 : Int} {a3 : S_poly_sum} {r : (Vector Int 3)} (h : p_poly_sum_step_rddd_q_q N a0 a1 a2 a3 = some r) : FnM Tryz.prog 212 [.var (S_poly_sum.enc a3)] [(.ref 0 [] 0), (eA 17 1 k8 a0), (k64 a1), (k64 a2)] (.tup []) [.var (.st 3 [(eA 3 1 k64 r)])] := by
 unfold p_poly_sum_step_rddd_q_q at h
 refine At.fn m_poly_sum_step_rddd_q_q hT hmo (m := 184) (lo := 1) (rs := []) Tryz.func212 rfl rfl h ?_
 refine bi fun u1 hu1 => ?_
 refine bi fun e2 he2 => ?_
 refine bi fun s3 hs3 => ?_
 refine bi fun r4 hr4 => ?_
 refine bi fun r5 hr5 => ?_
 refine bi fun u6 hu6 => ?_
 refine bi fun e7 he7 => ?_
 refine At.d 8 (dE1 0 (fun _ => big_adR hT (k := 1) 1 [] 0 hu1) (dET 1 (k64 e2) [[.var (S_poly_sum.enc a3), .var (eA 3 1 k64 a3.gh)]] ⟨big_at (big_ldE hT k64 0 he2), trivial⟩ (dE1 2 (fun _ => big_slI hT (N := 17) (k := 1) k8 a0 hs3) (dE2 3 (k64 r4) (fun _ => big_call0 (poly_number_ok hr4) poly_number_ok_c (by kernel_rfl) (by kernel_rfl) (by kernel_rfl)) (dE1 4 (fun _ => big_nat (n_Add64 hr5) (fun _ => rv_tup2)) (dE1 8 (fun _ => big_adR hT (k := 1) 1 [] 0 hu6) dE0)))))) (dF1 9 (.v (.bool false)) [.var (S_poly_sum.enc a3), .var (eA 3 1 k64 (a3.gh.setIfInBounds ((Int.toNat 0)) r5.1))] (big_at (big_stV hT k64 0 a3.gh he7 r5.1 (by kernel_rfl) (by kernel_rfl) (H' := [.var (S_poly_sum.enc a3), .var (eA 3 1 k64 (a3.gh.setIfInBounds ((Int.toNat 0)) r5.1))]))) dF0) ?_
 refine bi fun u8 hu8 => ?_
 refine bi fun e9 he9 => ?_
 refine bi fun s10 hs10 => ?_
 refine bi fun r11 hr11 => ?_
 refine bi fun r12 hr12 => ?_
 refine bi fun u13 hu13 => ?_
 refine bi fun e14 he14 => ?_
 refine At.d 0 (dE1 0 (fun _ => big_adR hT (k := 1) 1 [] 0 hu8) (dET 1 (k64 e9) [[.var (S_poly_sum.enc a3), .var (eA 3 1 k64 (a3.gh.setIfInBounds ((Int.toNat 0)) r5.1))]] ⟨big_at (big_ldE hT k64 0 he9), trivial⟩ (dE1 2 (fun _ => big_slI hT (N := 17) (k := 1) k8 a0 hs10) (dE2 3 (k64 r11) (fun _ => big_call0 (poly_number_ok hr11) poly_number_ok_c (by kernel_rfl) (by kernel_rfl) (by kernel_rfl)) (dE1 5 (fun _ => big_nat (n_Add64 hr12) (fun _ => rv_tup2)) (dE1 9 (fun _ => big_adR hT (k := 1) 1 [] 0 hu13) dE0)))))) (dF1 10 (.v (.bool false)) [.var (S_poly_sum.enc a3), .var (eA 3 1 k64 ((a3.gh.setIfInBounds ((Int.toNat 0)) r5.1).setIfInBounds ((Int.toNat 1)) r12.1))] (big_at (big_stV hT k64 0 (a3.gh.setIfInBounds ((Int.toNat 0)) r5.1) he14 r12.1 (by kernel_rfl) (by kernel_rfl) (H' := [.var (S_poly_sum.enc a3), .var (eA 3 1 k64 ((a3.gh.setIfInBounds ((Int.toNat 0)) r5.1).setIfInBounds ((Int.toNat 1)) r12.1))]))) dF0) ?_
 refine At.b 0 (fun _ e => big_adR hT (k := 1) 1 [] 0 e) fun u15 => ?_
 refine At.b 0 (fun _ e => big_ldE hT k64 0 e) fun e16 => ?_
 refine At.b 0 (fun _ e => big_adI hT (N := 17) (k := 1) k8 a0 e) fun e17 => ?_
 refine lx ?_; intro x18
 refine At.b 5 (fun _ e => big_adR hT (k := 1) 1 [] 0 e) fun u19 => ?_
 refine At.b 0 (fun _ e => big_stV hT k64 0 ((a3.gh.setIfInBounds ((Int.toNat 0)) r5.1).setIfInBounds ((Int.toNat 1)) r12.1) e (U64 (e16 + x18)) (by kernel_rfl) (by kernel_rfl) (H' := [.var (S_poly_sum.enc a3), .var (eA 3 1 k64 (((a3.gh.setIfInBounds ((Int.toNat 0)) r5.1).setIfInBounds ((Int.toNat 1)) r12.1).setIfInBounds ((Int.toNat 2)) (U64 (e16 + x18))))])) fun e20 => ?_
 refine At.b 0 (fun _ e => big_adR hT (k := 1) 1 [] 0 e) fun u21 => ?_
 refine At.b 0 (fun _ e => big_ldE hT k64 0 e) fun e22 => ?_
 refine At.b 1 (fun _ e => big_call [] (math_bits_Mul64_ok e) math_bits_Mul64_ok_c) fun r23 => ?_
 refine At.b 5 (fun _ e => big_adR hT (k := 1) 1 [] 0 e) fun u24 => ?_
 refine At.b 0 (fun _ e => big_ldE hT k64 0 e) fun e25 => ?_
 refine At.b 1 (fun _ e => big_call [] (math_bits_Mul64_ok e) math_bits_Mul64_ok_c) fun r26 => ?_
 refine At.b 5 (fun _ e => big_adR hT (k := 1) 1 [] 0 e) fun u27 => ?_
 refine At.b 0 (fun _ e => big_ldE hT k64 0 e) fun e28 => ?_
 refine At.b 1 (fun _ e => big_call [] (math_bits_Mul64_ok e) math_bits_Mul64_ok_c) fun r29 => ?_
 refine At.b 5 (fun _ e => big_adR hT (k := 1) 1 [] 0 e) fun u30 => ?_
 refine At.b 0 (fun _ e => big_ldE hT k64 0 e) fun e31 => ?_
 refine At.b 1 (fun _ e => big_call [] (math_bits_Mul64_ok e) math_bits_Mul64_ok_c) fun r32 => ?_
 refine bi fun u33 hu33 => ?_
 refine bi fun e34 he34 => ?_
 refine bi fun u35 hu35 => ?_
 refine bi fun e36 he36 => ?_
 refine At.d 5 (dE1 0 (fun _ => big_adR hT (k := 1) 1 [] 0 hu33) (dET 1 (k64 e34) [[.var (S_poly_sum.enc a3), .var (eA 3 1 k64 (((a3.gh.setIfInBounds ((Int.toNat 0)) r5.1).setIfInBounds ((Int.toNat 1)) r12.1).setIfInBounds ((Int.toNat 2)) (U64 (e16 + x18))))]] ⟨big_at (big_ldE hT k64 0 he34), trivial⟩ (dE1 4 (fun _ => big_adR hT (k := 1) 1 [] 0 hu35) (dET 5 (k64 e36) [[.var (S_poly_sum.enc a3), .var (eA 3 1 k64 (((a3.gh.setIfInBounds ((Int.toNat 0)) r5.1).setIfInBounds ((Int.toNat 1)) r12.1).setIfInBounds ((Int.toNat 2)) (U64 (e16 + x18))))]] ⟨big_at (big_ldE hT k64 0 he36), trivial⟩ dE0)))) dF0 ?_
 refine At.b 2 (fun _ e => big_nat (n_Add64 e) (fun _ => rv_tup2)) fun r37 => ?_
 refine At.b 8 (fun _ e => big_nat (n_Add64 e) (fun _ => rv_tup2)) fun r38 => ?_
 refine At.b 6 (fun _ e => big_nat (n_Add64 e) (fun _ => rv_tup2)) fun r39 => ?_
 refine At.b 7 (fun _ e => big_nat (n_Add64 e) (fun _ => rv_tup2)) fun r40 => ?_
 refine At.b 8 (fun _ e => big_nat (n_Add64 e) (fun _ => rv_tup2)) fun r41 => ?_
 refine At.b 6 (fun _ e => big_nat (n_Add64 e) (fun _ => rv_tup2)) fun r42 => ?_
 refine At.b 8 (fun _ e => big_nat (n_Add64 e) (fun _ => rv_tup2)) fun r43 => ?_
 refine At.b 8 (fun _ e => big_nat (n_Add64 e) (fun _ => rv_tup2)) fun r44 => ?_
 refine At.b 7 (fun _ e => big_nat (n_Add64 e) (fun _ => rv_tup2)) fun r45 => ?_
 refine At.b 7 (fun _ e => big_nat (n_Add64 e) (fun _ => rv_tup2)) fun r46 => ?_
 refine At.b 18 (fun _ e => big_call [0] (poly_sum_add_rdd_q_q_ok e) poly_sum_add_rdd_q_q_ok_c) fun r47 => ?_
 refine lx ?_; intro x48
 refine At.b 8 (fun _ e => big_call [0] (poly_sum_add_rdd_q_q_ok e) poly_sum_add_rdd_q_q_ok_c) fun r49 => ?_
 apply rt; exact At.z 0

theorem poly_sum_step_rddd_q_q_ok_c : callable Tryz.prog 212 := ⟨_, Tryz.func212, by decide, rfl⟩

end Go.UK

