/- A part of the proof: what the functions of the program compute. -/
import Derived.Test.YtbifjcmhomoppaaGreatP6
namespace Go.UK
open Go Go.Proofs
set_option maxRecDepth 20000
set_option maxHeartbeats 40000000
set_option linter.all false

attribute [local irreducible] adv putPt dropPt setPt brPt litPt cutPt restPt popN stPt envPt boxPt opPt opP2t ksPt lPt owp awl aw FnM NatFn opS Stab TOK Big
def m_poly_sum_step_rddd_q : Nat → Bool := imL [5]

def p_poly_sum_step_rddd_q (N : Nat) (a0 : (Vector Int 17)) (a1 : Int) (a2 : Int) (a3 : S_poly_Mac) : Option ((Vector Int 3) × Bool × Int × Int × Int × Int × (List Int) × Int) :=
 Option.bind (inRO 0 3) fun _ =>
 Option.bind (a3.gsum.gh.toList[(Int.toNat 0)]?) fun e2 =>
 Option.bind (slcO a0.toList 0 8) fun s3 =>
 Option.bind (p_poly_number N s3) fun r4 =>
 Option.bind (p_Add64 e2 r4 0) fun r5 =>
 Option.bind (inRO 0 3) fun _ =>
 Option.bind (a3.gsum.gh.toList[(Int.toNat 0)]?) fun e7 =>
 Option.bind (inRO 1 3) fun _ =>
 Option.bind ((a3.gsum.gh.setIfInBounds ((Int.toNat 0)) r5.1).toList[(Int.toNat 1)]?) fun e9 =>
 Option.bind (slcO a0.toList 8 16) fun s10 =>
 Option.bind (p_poly_number N s10) fun r11 =>
 Option.bind (p_Add64 e9 r11 r5.2) fun r12 =>
 Option.bind (inRO 1 3) fun _ =>
 Option.bind ((a3.gsum.gh.setIfInBounds ((Int.toNat 0)) r5.1).toList[(Int.toNat 1)]?) fun e14 =>
 Option.bind (inRO 2 3) fun _ =>
 Option.bind (((a3.gsum.gh.setIfInBounds ((Int.toNat 0)) r5.1).setIfInBounds ((Int.toNat 1)) r12.1).toList[(Int.toNat 2)]?) fun e16 =>
 Option.bind (idx a0.toList 16) fun e17 =>
 letO (U64 ((U64 e17) + r12.2)) fun x18 =>
 Option.bind (inRO 2 3) fun _ =>
 Option.bind (((a3.gsum.gh.setIfInBounds ((Int.toNat 0)) r5.1).setIfInBounds ((Int.toNat 1)) r12.1).toList[(Int.toNat 2)]?) fun e20 =>
 Option.bind (inRO 0 3) fun _ =>
 Option.bind ((((a3.gsum.gh.setIfInBounds ((Int.toNat 0)) r5.1).setIfInBounds ((Int.toNat 1)) r12.1).setIfInBounds ((Int.toNat 2)) (U64 (e16 + x18))).toList[(Int.toNat 0)]?) fun e22 =>
 Option.bind (p_math_bits_Mul64 N e22 a1) fun r23 =>
 Option.bind (inRO 1 3) fun _ =>
 Option.bind ((((a3.gsum.gh.setIfInBounds ((Int.toNat 0)) r5.1).setIfInBounds ((Int.toNat 1)) r12.1).setIfInBounds ((Int.toNat 2)) (U64 (e16 + x18))).toList[(Int.toNat 1)]?) fun e25 =>
 Option.bind (p_math_bits_Mul64 N e25 a1) fun r26 =>
 Option.bind (inRO 0 3) fun _ =>
 Option.bind ((((a3.gsum.gh.setIfInBounds ((Int.toNat 0)) r5.1).setIfInBounds ((Int.toNat 1)) r12.1).setIfInBounds ((Int.toNat 2)) (U64 (e16 + x18))).toList[(Int.toNat 0)]?) fun e28 =>
 Option.bind (p_math_bits_Mul64 N e28 a2) fun r29 =>
 Option.bind (inRO 1 3) fun _ =>
 Option.bind ((((a3.gsum.gh.setIfInBounds ((Int.toNat 0)) r5.1).setIfInBounds ((Int.toNat 1)) r12.1).setIfInBounds ((Int.toNat 2)) (U64 (e16 + x18))).toList[(Int.toNat 1)]?) fun e31 =>
 Option.bind (p_math_bits_Mul64 N e31 a2) fun r32 =>
 Option.bind (inRO 2 3) fun _ =>
 Option.bind ((((a3.gsum.gh.setIfInBounds ((Int.toNat 0)) r5.1).setIfInBounds ((Int.toNat 1)) r12.1).setIfInBounds ((Int.toNat 2)) (U64 (e16 + x18))).toList[(Int.toNat 2)]?) fun e34 =>
 Option.bind (inRO 2 3) fun _ =>
 Option.bind ((((a3.gsum.gh.setIfInBounds ((Int.toNat 0)) r5.1).setIfInBounds ((Int.toNat 1)) r12.1).setIfInBounds ((Int.toNat 2)) (U64 (e16 + x18))).toList[(Int.toNat 2)]?) fun e36 =>
 Option.bind (p_Add64 r26.2 r29.2 0) fun r37 =>
 Option.bind (p_Add64 r26.1 r29.1 r37.2) fun r38 =>
 Option.bind (p_Add64 0 0 r38.2) fun r39 =>
 Option.bind (p_Add64 r38.1 r32.2 0) fun r40 =>
 Option.bind (p_Add64 r39.1 r32.1 r40.2) fun r41 =>
 Option.bind (p_Add64 r40.1 (U64 (e34 * a1)) 0) fun r42 =>
 Option.bind (p_Add64 r41.1 (U64 (e36 * a2)) r42.2) fun r43 =>
 Option.bind (p_Add64 r37.1 r23.1 0) fun r44 =>
 Option.bind (p_Add64 r42.1 0 r44.2) fun r45 =>
 Option.bind (p_Add64 r43.1 0 r45.2) fun r46 =>
 Option.bind (p_poly_sum_add_rdd_q N (bandn .u64 r45.1 3) r46.1 (S_poly_Mac.mk (S_poly_sum.mk (#v[r23.2, r44.1, band .u64 r45.1 3])) a3.gmade a3.gr0 a3.gr1 a3.gs0 a3.gs1 a3.grest a3.gall)) fun r47 =>
 letO (bor .u64 (shr .u64 r45.1 2) (shl .u64 r46.1 62)) fun x48 =>
 Option.bind (p_poly_sum_add_rdd_q N x48 (shr .u64 r46.1 2) (S_poly_Mac.mk (S_poly_sum.mk r47) ((S_poly_Mac.mk (S_poly_sum.mk (#v[r23.2, r44.1, band .u64 r45.1 3])) a3.gmade a3.gr0 a3.gr1 a3.gs0 a3.gs1 a3.grest a3.gall).gmade) ((S_poly_Mac.mk (S_poly_sum.mk (#v[r23.2, r44.1, band .u64 r45.1 3])) a3.gmade a3.gr0 a3.gr1 a3.gs0 a3.gs1 a3.grest a3.gall).gr0) ((S_poly_Mac.mk (S_poly_sum.mk (#v[r23.2, r44.1, band .u64 r45.1 3])) a3.gmade a3.gr0 a3.gr1 a3.gs0 a3.gs1 a3.grest a3.gall).gr1) ((S_poly_Mac.mk (S_poly_sum.mk (#v[r23.2, r44.1, band .u64 r45.1 3])) a3.gmade a3.gr0 a3.gr1 a3.gs0 a3.gs1 a3.grest a3.gall).gs0) ((S_poly_Mac.mk (S_poly_sum.mk (#v[r23.2, r44.1, band .u64 r45.1 3])) a3.gmade a3.gr0 a3.gr1 a3.gs0 a3.gs1 a3.grest a3.gall).gs1) ((S_poly_Mac.mk (S_poly_sum.mk (#v[r23.2, r44.1, band .u64 r45.1 3])) a3.gmade a3.gr0 a3.gr1 a3.gs0 a3.gs1 a3.grest a3.gall).grest) ((S_poly_Mac.mk (S_poly_sum.mk (#v[r23.2, r44.1, band .u64 r45.1 3])) a3.gmade a3.gr0 a3.gr1 a3.gs0 a3.gs1 a3.grest a3.gall).gall))) fun r49 =>
 some ((r49, (S_poly_Mac.mk (S_poly_sum.mk r47) ((S_poly_Mac.mk (S_poly_sum.mk (#v[r23.2, r44.1, band .u64 r45.1 3])) a3.gmade a3.gr0 a3.gr1 a3.gs0 a3.gs1 a3.grest a3.gall).gmade) ((S_poly_Mac.mk (S_poly_sum.mk (#v[r23.2, r44.1, band .u64 r45.1 3])) a3.gmade a3.gr0 a3.gr1 a3.gs0 a3.gs1 a3.grest a3.gall).gr0) ((S_poly_Mac.mk (S_poly_sum.mk (#v[r23.2, r44.1, band .u64 r45.1 3])) a3.gmade a3.gr0 a3.gr1 a3.gs0 a3.gs1 a3.grest a3.gall).gr1) ((S_poly_Mac.mk (S_poly_sum.mk (#v[r23.2, r44.1, band .u64 r45.1 3])) a3.gmade a3.gr0 a3.gr1 a3.gs0 a3.gs1 a3.grest a3.gall).gs0) ((S_poly_Mac.mk (S_poly_sum.mk (#v[r23.2, r44.1, band .u64 r45.1 3])) a3.gmade a3.gr0 a3.gr1 a3.gs0 a3.gs1 a3.grest a3.gall).gs1) ((S_poly_Mac.mk (S_poly_sum.mk (#v[r23.2, r44.1, band .u64 r45.1 3])) a3.gmade a3.gr0 a3.gr1 a3.gs0 a3.gs1 a3.grest a3.gall).grest) ((S_poly_Mac.mk (S_poly_sum.mk (#v[r23.2, r44.1, band .u64 r45.1 3])) a3.gmade a3.gr0 a3.gr1 a3.gs0 a3.gs1 a3.grest a3.gall).gall)).gmade, (S_poly_Mac.mk (S_poly_sum.mk r47) ((S_poly_Mac.mk (S_poly_sum.mk (#v[r23.2, r44.1, band .u64 r45.1 3])) a3.gmade a3.gr0 a3.gr1 a3.gs0 a3.gs1 a3.grest a3.gall).gmade) ((S_poly_Mac.mk (S_poly_sum.mk (#v[r23.2, r44.1, band .u64 r45.1 3])) a3.gmade a3.gr0 a3.gr1 a3.gs0 a3.gs1 a3.grest a3.gall).gr0) ((S_poly_Mac.mk (S_poly_sum.mk (#v[r23.2, r44.1, band .u64 r45.1 3])) a3.gmade a3.gr0 a3.gr1 a3.gs0 a3.gs1 a3.grest a3.gall).gr1) ((S_poly_Mac.mk (S_poly_sum.mk (#v[r23.2, r44.1, band .u64 r45.1 3])) a3.gmade a3.gr0 a3.gr1 a3.gs0 a3.gs1 a3.grest a3.gall).gs0) ((S_poly_Mac.mk (S_poly_sum.mk (#v[r23.2, r44.1, band .u64 r45.1 3])) a3.gmade a3.gr0 a3.gr1 a3.gs0 a3.gs1 a3.grest a3.gall).gs1) ((S_poly_Mac.mk (S_poly_sum.mk (#v[r23.2, r44.1, band .u64 r45.1 3])) a3.gmade a3.gr0 a3.gr1 a3.gs0 a3.gs1 a3.grest a3.gall).grest) ((S_poly_Mac.mk (S_poly_sum.mk (#v[r23.2, r44.1, band .u64 r45.1 3])) a3.gmade a3.gr0 a3.gr1 a3.gs0 a3.gs1 a3.grest a3.gall).gall)).gr0, (S_poly_Mac.mk (S_poly_sum.mk r47) ((S_poly_Mac.mk (S_poly_sum.mk (#v[r23.2, r44.1, band .u64 r45.1 3])) a3.gmade a3.gr0 a3.gr1 a3.gs0 a3.gs1 a3.grest a3.gall).gmade) ((S_poly_Mac.mk (S_poly_sum.mk (#v[r23.2, r44.1, band .u64 r45.1 3])) a3.gmade a3.gr0 a3.gr1 a3.gs0 a3.gs1 a3.grest a3.gall).gr0) ((S_poly_Mac.mk (S_poly_sum.mk (#v[r23.2, r44.1, band .u64 r45.1 3])) a3.gmade a3.gr0 a3.gr1 a3.gs0 a3.gs1 a3.grest a3.gall).gr1) ((S_poly_Mac.mk (S_poly_sum.mk (#v[r23.2, r44.1, band .u64 r45.1 3])) a3.gmade a3.gr0 a3.gr1 a3.gs0 a3.gs1 a3.grest a3.gall).gs0) ((S_poly_Mac.mk (S_poly_sum.mk (#v[r23.2, r44.1, band .u64 r45.1 3])) a3.gmade a3.gr0 a3.gr1 a3.gs0 a3.gs1 a3.grest a3.gall).gs1) ((S_poly_Mac.mk (S_poly_sum.mk (#v[r23.2, r44.1, band .u64 r45.1 3])) a3.gmade a3.gr0 a3.gr1 a3.gs0 a3.gs1 a3.grest a3.gall).grest) ((S_poly_Mac.mk (S_poly_sum.mk (#v[r23.2, r44.1, band .u64 r45.1 3])) a3.gmade a3.gr0 a3.gr1 a3.gs0 a3.gs1 a3.grest a3.gall).gall)).gr1, (S_poly_Mac.mk (S_poly_sum.mk r47) ((S_poly_Mac.mk (S_poly_sum.mk (#v[r23.2, r44.1, band .u64 r45.1 3])) a3.gmade a3.gr0 a3.gr1 a3.gs0 a3.gs1 a3.grest a3.gall).gmade) ((S_poly_Mac.mk (S_poly_sum.mk (#v[r23.2, r44.1, band .u64 r45.1 3])) a3.gmade a3.gr0 a3.gr1 a3.gs0 a3.gs1 a3.grest a3.gall).gr0) ((S_poly_Mac.mk (S_poly_sum.mk (#v[r23.2, r44.1, band .u64 r45.1 3])) a3.gmade a3.gr0 a3.gr1 a3.gs0 a3.gs1 a3.grest a3.gall).gr1) ((S_poly_Mac.mk (S_poly_sum.mk (#v[r23.2, r44.1, band .u64 r45.1 3])) a3.gmade a3.gr0 a3.gr1 a3.gs0 a3.gs1 a3.grest a3.gall).gs0) ((S_poly_Mac.mk (S_poly_sum.mk (#v[r23.2, r44.1, band .u64 r45.1 3])) a3.gmade a3.gr0 a3.gr1 a3.gs0 a3.gs1 a3.grest a3.gall).gs1) ((S_poly_Mac.mk (S_poly_sum.mk (#v[r23.2, r44.1, band .u64 r45.1 3])) a3.gmade a3.gr0 a3.gr1 a3.gs0 a3.gs1 a3.grest a3.gall).grest) ((S_poly_Mac.mk (S_poly_sum.mk (#v[r23.2, r44.1, band .u64 r45.1 3])) a3.gmade a3.gr0 a3.gr1 a3.gs0 a3.gs1 a3.grest a3.gall).gall)).gs0, (S_poly_Mac.mk (S_poly_sum.mk r47) ((S_poly_Mac.mk (S_poly_sum.mk (#v[r23.2, r44.1, band .u64 r45.1 3])) a3.gmade a3.gr0 a3.gr1 a3.gs0 a3.gs1 a3.grest a3.gall).gmade) ((S_poly_Mac.mk (S_poly_sum.mk (#v[r23.2, r44.1, band .u64 r45.1 3])) a3.gmade a3.gr0 a3.gr1 a3.gs0 a3.gs1 a3.grest a3.gall).gr0) ((S_poly_Mac.mk (S_poly_sum.mk (#v[r23.2, r44.1, band .u64 r45.1 3])) a3.gmade a3.gr0 a3.gr1 a3.gs0 a3.gs1 a3.grest a3.gall).gr1) ((S_poly_Mac.mk (S_poly_sum.mk (#v[r23.2, r44.1, band .u64 r45.1 3])) a3.gmade a3.gr0 a3.gr1 a3.gs0 a3.gs1 a3.grest a3.gall).gs0) ((S_poly_Mac.mk (S_poly_sum.mk (#v[r23.2, r44.1, band .u64 r45.1 3])) a3.gmade a3.gr0 a3.gr1 a3.gs0 a3.gs1 a3.grest a3.gall).gs1) ((S_poly_Mac.mk (S_poly_sum.mk (#v[r23.2, r44.1, band .u64 r45.1 3])) a3.gmade a3.gr0 a3.gr1 a3.gs0 a3.gs1 a3.grest a3.gall).grest) ((S_poly_Mac.mk (S_poly_sum.mk (#v[r23.2, r44.1, band .u64 r45.1 3])) a3.gmade a3.gr0 a3.gr1 a3.gs0 a3.gs1 a3.grest a3.gall).gall)).gs1, (S_poly_Mac.mk (S_poly_sum.mk r47) ((S_poly_Mac.mk (S_poly_sum.mk (#v[r23.2, r44.1, band .u64 r45.1 3])) a3.gmade a3.gr0 a3.gr1 a3.gs0 a3.gs1 a3.grest a3.gall).gmade) ((S_poly_Mac.mk (S_poly_sum.mk (#v[r23.2, r44.1, band .u64 r45.1 3])) a3.gmade a3.gr0 a3.gr1 a3.gs0 a3.gs1 a3.grest a3.gall).gr0) ((S_poly_Mac.mk (S_poly_sum.mk (#v[r23.2, r44.1, band .u64 r45.1 3])) a3.gmade a3.gr0 a3.gr1 a3.gs0 a3.gs1 a3.grest a3.gall).gr1) ((S_poly_Mac.mk (S_poly_sum.mk (#v[r23.2, r44.1, band .u64 r45.1 3])) a3.gmade a3.gr0 a3.gr1 a3.gs0 a3.gs1 a3.grest a3.gall).gs0) ((S_poly_Mac.mk (S_poly_sum.mk (#v[r23.2, r44.1, band .u64 r45.1 3])) a3.gmade a3.gr0 a3.gr1 a3.gs0 a3.gs1 a3.grest a3.gall).gs1) ((S_poly_Mac.mk (S_poly_sum.mk (#v[r23.2, r44.1, band .u64 r45.1 3])) a3.gmade a3.gr0 a3.gr1 a3.gs0 a3.gs1 a3.grest a3.gall).grest) ((S_poly_Mac.mk (S_poly_sum.mk (#v[r23.2, r44.1, band .u64 r45.1 3])) a3.gmade a3.gr0 a3.gr1 a3.gs0 a3.gs1 a3.grest a3.gall).gall)).grest, (S_poly_Mac.mk (S_poly_sum.mk r47) ((S_poly_Mac.mk (S_poly_sum.mk (#v[r23.2, r44.1, band .u64 r45.1 3])) a3.gmade a3.gr0 a3.gr1 a3.gs0 a3.gs1 a3.grest a3.gall).gmade) ((S_poly_Mac.mk (S_poly_sum.mk (#v[r23.2, r44.1, band .u64 r45.1 3])) a3.gmade a3.gr0 a3.gr1 a3.gs0 a3.gs1 a3.grest a3.gall).gr0) ((S_poly_Mac.mk (S_poly_sum.mk (#v[r23.2, r44.1, band .u64 r45.1 3])) a3.gmade a3.gr0 a3.gr1 a3.gs0 a3.gs1 a3.grest a3.gall).gr1) ((S_poly_Mac.mk (S_poly_sum.mk (#v[r23.2, r44.1, band .u64 r45.1 3])) a3.gmade a3.gr0 a3.gr1 a3.gs0 a3.gs1 a3.grest a3.gall).gs0) ((S_poly_Mac.mk (S_poly_sum.mk (#v[r23.2, r44.1, band .u64 r45.1 3])) a3.gmade a3.gr0 a3.gr1 a3.gs0 a3.gs1 a3.grest a3.gall).gs1) ((S_poly_Mac.mk (S_poly_sum.mk (#v[r23.2, r44.1, band .u64 r45.1 3])) a3.gmade a3.gr0 a3.gr1 a3.gs0 a3.gs1 a3.grest a3.gall).grest) ((S_poly_Mac.mk (S_poly_sum.mk (#v[r23.2, r44.1, band .u64 r45.1 3])) a3.gmade a3.gr0 a3.gr1 a3.gs0 a3.gs1 a3.grest a3.gall).gall)).gall))

theorem poly_sum_step_rddd_q_ok {N a0 a1 a2 a3 r} (h : p_poly_sum_step_rddd_q N a0 a1 a2 a3 = some r) : FnM Tryz.prog 212 [.var (S_poly_Mac.enc a3)] [(.ref 0 [0] 0), (eA 17 1 k8 a0), (k64 a1), (k64 a2)] (.tup []) [.var (.st 10 [(.st 3 [(eA 3 1 k64 r.1)]), (eB r.2.1), (k64 r.2.2.1), (k64 r.2.2.2.1), (k64 r.2.2.2.2.1), (k64 r.2.2.2.2.2.1), (eL 1 k8 r.2.2.2.2.2.2.1), (j64 r.2.2.2.2.2.2.2)])] := by
 unfold p_poly_sum_step_rddd_q at h
 refine At.f m_poly_sum_step_rddd_q hT hmo Tryz.func212 rfl h ?_
 refine bi fun u1 hu1 => ?_
 refine bi fun e2 he2 => ?_
 refine bi fun s3 hs3 => ?_
 refine bi fun r4 hr4 => ?_
 refine bi fun r5 hr5 => ?_
 refine bi fun u6 hu6 => ?_
 refine bi fun e7 he7 => ?_
 refine At.d 8 (dE1 0 (fun _ => big_adR hT (k := 1) 1 [] 0 hu1) (dEL hT 1 (k64 e2) k64 0 he2 (dE1 2 (fun _ => big_slI hT (N := 17) (k := 1) k8 a0 hs3) (dE2 3 (k64 r4) (fun _ => big_C0 (poly_number_ok hr4)) (dE1 4 (fun _ => big_nat (n_Add64 hr5) (fun _ => rv_tup2)) (dE1 8 (fun _ => big_adR hT (k := 1) 1 [] 0 hu6) dE0)))))) (dF 9 (.v (.bool false)) [(1, .var (eA 3 1 k64 (a3.gsum.gh.setIfInBounds ((Int.toNat 0)) r5.1)))] [] (big_at (big_stV hT k64 0 a3.gsum.gh he7 r5.1 (by kernel_rfl) (by kernel_rfl) (H' := [.var (S_poly_Mac.enc a3), .var (eA 3 1 k64 (a3.gsum.gh.setIfInBounds ((Int.toNat 0)) r5.1))]))) dF0) ?_
 refine bi fun u8 hu8 => ?_
 refine bi fun e9 he9 => ?_
 refine bi fun s10 hs10 => ?_
 refine bi fun r11 hr11 => ?_
 refine bi fun r12 hr12 => ?_
 refine bi fun u13 hu13 => ?_
 refine bi fun e14 he14 => ?_
 refine At.d 0 (dE1 0 (fun _ => big_adR hT (k := 1) 1 [] 0 hu8) (dEL hT 1 (k64 e9) k64 0 he9 (dE1 2 (fun _ => big_slI hT (N := 17) (k := 1) k8 a0 hs10) (dE2 3 (k64 r11) (fun _ => big_C0 (poly_number_ok hr11)) (dE1 5 (fun _ => big_nat (n_Add64 hr12) (fun _ => rv_tup2)) (dE1 9 (fun _ => big_adR hT (k := 1) 1 [] 0 hu13) dE0)))))) (dF 10 (.v (.bool false)) [(1, .var (eA 3 1 k64 ((a3.gsum.gh.setIfInBounds ((Int.toNat 0)) r5.1).setIfInBounds ((Int.toNat 1)) r12.1)))] [] (big_at (big_stV hT k64 0 (a3.gsum.gh.setIfInBounds ((Int.toNat 0)) r5.1) he14 r12.1 (by kernel_rfl) (by kernel_rfl) (H' := [.var (S_poly_Mac.enc a3), .var (eA 3 1 k64 ((a3.gsum.gh.setIfInBounds ((Int.toNat 0)) r5.1).setIfInBounds ((Int.toNat 1)) r12.1))]))) dF0) ?_
 refine At.b 0 (fun _ e => big_adR hT (k := 1) 1 [] 0 e) fun u15 => ?_
 refine At.b 0 (fun _ e => big_ldE hT k64 0 e) fun e16 => ?_
 refine At.b 0 (fun _ e => big_adI hT (N := 17) (k := 1) k8 a0 e) fun e17 => ?_
 refine lx ?_; intro x18
 refine At.b 5 (fun _ e => big_adR hT (k := 1) 1 [] 0 e) fun u19 => ?_
 refine At.b 0 (fun _ e => big_stV hT k64 0 ((a3.gsum.gh.setIfInBounds ((Int.toNat 0)) r5.1).setIfInBounds ((Int.toNat 1)) r12.1) e (U64 (e16 + x18)) (by kernel_rfl) (by kernel_rfl) (H' := [.var (S_poly_Mac.enc a3), .var (eA 3 1 k64 (((a3.gsum.gh.setIfInBounds ((Int.toNat 0)) r5.1).setIfInBounds ((Int.toNat 1)) r12.1).setIfInBounds ((Int.toNat 2)) (U64 (e16 + x18))))])) fun e20 => ?_
 refine At.b 0 (fun _ e => big_adR hT (k := 1) 1 [] 0 e) fun u21 => ?_
 refine At.b 0 (fun _ e => big_ldE hT k64 0 e) fun e22 => ?_
 refine At.b 1 (fun _ e => big_C [] (math_bits_Mul64_ok e)) fun r23 => ?_
 refine At.b 5 (fun _ e => big_adR hT (k := 1) 1 [] 0 e) fun u24 => ?_
 refine At.b 0 (fun _ e => big_ldE hT k64 0 e) fun e25 => ?_
 refine At.b 1 (fun _ e => big_C [] (math_bits_Mul64_ok e)) fun r26 => ?_
 refine At.b 5 (fun _ e => big_adR hT (k := 1) 1 [] 0 e) fun u27 => ?_
 refine At.b 0 (fun _ e => big_ldE hT k64 0 e) fun e28 => ?_
 refine At.b 1 (fun _ e => big_C [] (math_bits_Mul64_ok e)) fun r29 => ?_
 refine At.b 5 (fun _ e => big_adR hT (k := 1) 1 [] 0 e) fun u30 => ?_
 refine At.b 0 (fun _ e => big_ldE hT k64 0 e) fun e31 => ?_
 refine At.b 1 (fun _ e => big_C [] (math_bits_Mul64_ok e)) fun r32 => ?_
 refine bi fun u33 hu33 => ?_
 refine bi fun e34 he34 => ?_
 refine bi fun u35 hu35 => ?_
 refine bi fun e36 he36 => ?_
 refine At.d 5 (dE1 0 (fun _ => big_adR hT (k := 1) 1 [] 0 hu33) (dEL hT 1 (k64 e34) k64 0 he34 (dE1 4 (fun _ => big_adR hT (k := 1) 1 [] 0 hu35) (dEL hT 5 (k64 e36) k64 0 he36 dE0)))) dF0 ?_
 refine At.b 2 (fun _ e => big_nat (n_Add64 e) (fun _ => rv_tup2)) fun r37 => ?_
 refine At.b 8 (fun _ e => big_nat (n_Add64 e) (fun _ => rv_tup2)) fun r38 => ?_
 refine At.b 6 (fun _ e => big_nat (n_Add64 e) (fun _ => rv_tup2)) fun r39 => ?_
 refine At.b 7 (fun _ e => big_nat (n_Add64 e) (fun _ => rv_tup2)) fun r40 => ?_
 refine At.b 8 (fun _ e => big_nat (n_Add64 e) (fun _ => rv_tup2)) fun r41 => ?_
 refine At.b 6 (fun _ e => big_nat (n_Add64 e) (fun _ => rv_tup2)) fun r42 => ?_
 refine At.b 8 (fun _ e => big_nat (n_Add64 e) (fun _ => rv_tup2)) fun r43 => ?_
 refine At.b 8 (fun _ e => big_nat (n_Add64 e) (fun _ => rv_tup2)) fun r44 => ?_
 refine At.b 7 (fun _ e => big_nat (n_Add64 e) (fun _ => rv_tup2)) fun r45 => ?_
 refine At.b 7 (fun _ e => big_nat (n_Add64 e) (fun _ => rv_tup2)) fun r46 => ?_
 refine At.b 18 (fun _ e => big_C [0] (poly_sum_add_rdd_q_ok e)) fun r47 => ?_
 refine lx ?_; intro x48
 refine At.b 8 (fun _ e => big_C [0] (poly_sum_add_rdd_q_ok e)) fun r49 => ?_
 apply rt; exact At.z 0

def p_poly_Mac_Add_rd_L1 (N : Nat) (a1 : (List (List Int))) : Nat → (List Int) → Int → Int → Option ((List Int) × Int)
 | 0, _, _, _ => none
 | k + 1, s2, s3, s4 =>
  letO (decide (s4 < ((a1.length : Int)))) fun x5 =>
  cond x5 (
   Option.bind (idx a1 s4) fun e6 =>
   letO (imin ((e6.length : Int)) (I64 (65536 - s3))) fun x7 =>
   Option.bind (slcO e6 0 x7) fun s8 =>
   letO (I64 (s3 + ((s8.length : Int)))) fun x9 =>
   Option.bind (appO 1 s2 s8) fun z10 =>
   p_poly_Mac_Add_rd_L1 N a1 k z10 ((I64 (s3 + ((s8.length : Int))))) (I64 (s4 + 1))) (
   some ((s2, s3)))

def p_poly_Mac_Add_rd_L2 (N : Nat)  : Nat → (Vector Int 3) → Bool → Int → Int → Int → Int → (List Int) → Int → Option ((Vector Int 3) × Bool × Int × Int × Int × Int × (List Int) × Int)
 | 0, _, _, _, _, _, _, _, _ => none
 | k + 1, s12, s13, s14, s15, s16, s17, s18, s19 =>
  letO (decide (((s18.length : Int)) ≥ 16)) fun x20 =>
  cond x20 (
   Option.bind (slcO s18 0 16) fun s21 =>
   Option.bind (p_poly_Blocks N s21) fun r22 =>
   Option.bind (idx r22 0) fun e23 =>
   Option.bind (p_poly_sum_step_rddd_q N e23 s14 s15 (S_poly_Mac.mk (S_poly_sum.mk s12) s13 s14 s15 s16 s17 s18 s19)) fun r24 =>
   Option.bind (slcO r24.2.2.2.2.2.2.1 16 ((r24.2.2.2.2.2.2.1.length : Int))) fun s25 =>
   p_poly_Mac_Add_rd_L2 N k r24.1 r24.2.1 r24.2.2.1 r24.2.2.2.1 r24.2.2.2.2.1 r24.2.2.2.2.2.1 s25 r24.2.2.2.2.2.2.2) (
   some ((s12, s13, s14, s15, s16, s17, s18, s19)))

def p_poly_Mac_Add_rd (N : Nat) (b1 : (List Int)) (a1 : (List (List Int))) (a2 : S_poly_sum) (a3 : Bool) (a4 : Int) (a5 : Int) (a6 : Int) (a7 : Int) (a8 : Int) : Option ((List Int) × (Vector Int 3) × Bool × Int × Int × Int × Int × (List Int) × Int) :=
 cond (!a3) (
  some ((b1, a2.gh, a3, a4, a5, a6, a7, b1, a8))) (
  Option.bind (p_poly_Mac_Add_rd_L1 N a1 N b1 a8 0) fun p1 =>
  Option.bind (p_poly_Mac_Add_rd_L2 N N a2.gh a3 a4 a5 a6 a7 p1.1 p1.2) fun p11 =>
  some ((p1.1, p11.1, p11.2.1, p11.2.2.1, p11.2.2.2.1, p11.2.2.2.2.1, p11.2.2.2.2.2.1, p11.2.2.2.2.2.2.1, p11.2.2.2.2.2.2.2)))

theorem poly_Mac_Add_rd_ok {N b1 a1 a2 a3 a4 a5 a6 a7 a8 r} (h : p_poly_Mac_Add_rd N b1 a1 a2 a3 a4 a5 a6 a7 a8 = some r) : FnM Tryz.prog 180 [.var (.st 10 [(S_poly_sum.enc a2), (eB a3), (k64 a4), (k64 a5), (k64 a6), (k64 a7), (eO 1 1 k8 b1), (j64 a8)]), .tail (b1.length * 1)] [(.ref 0 [] 0), (eL 1 (eL 1 k8) a1)] (.tup []) [.var (.st 10 [(.st 3 [(eA 3 1 k64 r.2.1)]), (eB r.2.2.1), (k64 r.2.2.2.1), (k64 r.2.2.2.2.1), (k64 r.2.2.2.2.2.1), (k64 r.2.2.2.2.2.2.1), (eL 1 k8 r.2.2.2.2.2.2.2.1), (j64 r.2.2.2.2.2.2.2.2)]), .tail (r.1.length * 1)] := by
 unfold p_poly_Mac_Add_rd at h
 refine At.f m_no hT hmo Tryz.func180 rfl h ?_
 refine At.o 1 (big_eqp hT (t := 256) (x := (.ref 0 [] 0)) (b := true) (by kernel_rfl) rfl rfl (by kernel_rfl)) ?_
 refine At.g [8] 7 ?_
 refine At.c 0 ?_ ?_
 ·apply rt; exact At.r 0
 ·refine At.L 3 [0] 2 (fun p1 => ([], [(0, .var (.st 10 [(S_poly_sum.enc a2), (eB a3), (k64 a4), (k64 a5), (k64 a6), (k64 a7), (eO 1 1 k8 p1.1), (j64 p1.2)])), (1, .tail (p1.1.length * 1))], [])) (fun p1 J k => ∃ s2 s3 s4, p_poly_Mac_Add_rd_L1 N a1 k s2 s3 s4 = some p1 ∧ J [0, 15, 16] 2 [(17, (j64 s4))] [(0, .var (.st 10 [(S_poly_sum.enc a2), (eB a3), (k64 a4), (k64 a5), (k64 a6), (k64 a7), (eO 1 1 k8 s2), (j64 s3)])), (1, .tail (s2.length * 1))] []) N (fun _ h => ⟨_, _, _, h, jr⟩) (fun p1 k s hI => ?_) fun p1 => ?_
  ·obtain ⟨s2, s3, s4, h, hj⟩ := hI
   cases k with
   | zero => cases h
   | succ k =>
    refine At.jr hj ?_ h
    refine lx ?_; intro x5
    refine At.c 1 ?_ ?_
    ·refine At.b 0 (fun _ e => big_idx hT (eL 1 k8) e) fun e6 => ?_
     refine lx ?_; intro x7
     refine At.b 11 (fun _ e => big_slc hT (k := 1) k8 e) fun s8 => ?_
     refine lx ?_; intro x9
     refine At.b 17 (fun _ e => big_app hT k8 (id := 1) (k := 1) e) fun z10 => ?_
     exact fun h => At.k 5 ⟨_, _, _, h, jr⟩
    ·apply rt; exact At.x 0
  ·refine At.L 0 [] 2 (fun p11 => ([], [(0, .var (.st 10 [(.st 3 [(eA 3 1 k64 p11.1)]), (eB p11.2.1), (k64 p11.2.2.1), (k64 p11.2.2.2.1), (k64 p11.2.2.2.2.1), (k64 p11.2.2.2.2.2.1), (eL 1 k8 p11.2.2.2.2.2.2.1), (j64 p11.2.2.2.2.2.2.2)]))], [])) (fun p11 J k => ∃ s12 s13 s14 s15 s16 s17 s18 s19, p_poly_Mac_Add_rd_L2 N k s12 s13 s14 s15 s16 s17 s18 s19 = some p11 ∧ J [0] 2 [] [(0, .var (.st 10 [(.st 3 [(eA 3 1 k64 s12)]), (eB s13), (k64 s14), (k64 s15), (k64 s16), (k64 s17), (eL 1 k8 s18), (j64 s19)]))] []) N (fun _ h => ⟨_, _, _, _, _, _, _, _, h, jr⟩) (fun p11 k s hI => ?_) fun p11 => ?_
   ·obtain ⟨s12, s13, s14, s15, s16, s17, s18, s19, h, hj⟩ := hI
    cases k with
    | zero => cases h
    | succ k =>
     refine At.jr hj ?_ h
     refine lx ?_; intro x20
     refine At.c 6 ?_ ?_
     ·refine bi fun s21 hs21 => ?_
      refine bi fun r22 hr22 => ?_
      refine bi fun e23 he23 => ?_
      refine bi fun r24 hr24 => ?_
      refine At.d 0 (dE1 7 (fun _ => big_slc hT (k := 1) k8 hs21) (dE2 8 (eL 17 (eA 17 1 k8) r22) (fun _ => big_C0 (poly_Blocks_ok hr22)) (dE1 9 (fun _ => big_idx hT (eA 17 1 k8) he23) dE0))) (dF 19 (.tup []) [(0, .var (.st 10 [(.st 3 [(eA 3 1 k64 r24.1)]), (eB r24.2.1), (k64 r24.2.2.1), (k64 r24.2.2.2.1), (k64 r24.2.2.2.2.1), (k64 r24.2.2.2.2.2.1), (eL 1 k8 r24.2.2.2.2.2.2.1), (j64 r24.2.2.2.2.2.2.2)]))] [] (big_at (big_C [0] (poly_sum_step_rddd_q_ok hr24))) dF0) ?_
      refine At.b 5 (fun _ e => big_slc hT (k := 1) k8 e) fun s25 => ?_
      exact fun h => At.k 3 ⟨_, _, _, _, _, _, _, _, h, jr⟩
     ·apply rt; exact At.x 0
   ·apply rt; exact At.z 0

def p_poly_sum_add_rdd_q_q (N : Nat) (a0 : Int) (a1 : Int) (a2 : S_poly_sum) : Option ((Vector Int 3)) :=
 Option.bind (inRO 0 3) fun _ =>
 Option.bind (a2.gh.toList[(Int.toNat 0)]?) fun e2 =>
 Option.bind (p_Add64 e2 a0 0) fun r3 =>
 Option.bind (inRO 0 3) fun _ =>
 Option.bind (a2.gh.toList[(Int.toNat 0)]?) fun e5 =>
 Option.bind (inRO 1 3) fun _ =>
 Option.bind ((a2.gh.setIfInBounds ((Int.toNat 0)) r3.1).toList[(Int.toNat 1)]?) fun e7 =>
 Option.bind (p_Add64 e7 a1 r3.2) fun r8 =>
 Option.bind (inRO 1 3) fun _ =>
 Option.bind ((a2.gh.setIfInBounds ((Int.toNat 0)) r3.1).toList[(Int.toNat 1)]?) fun e10 =>
 Option.bind (inRO 2 3) fun _ =>
 Option.bind (((a2.gh.setIfInBounds ((Int.toNat 0)) r3.1).setIfInBounds ((Int.toNat 1)) r8.1).toList[(Int.toNat 2)]?) fun e12 =>
 Option.bind (inRO 2 3) fun _ =>
 Option.bind (((a2.gh.setIfInBounds ((Int.toNat 0)) r3.1).setIfInBounds ((Int.toNat 1)) r8.1).toList[(Int.toNat 2)]?) fun e14 =>
 some (((a2.gh.setIfInBounds ((Int.toNat 0)) r3.1).setIfInBounds ((Int.toNat 1)) r8.1).setIfInBounds ((Int.toNat 2)) (U64 (e12 + r8.2)))

theorem poly_sum_add_rdd_q_q_ok {N a0 a1 a2 r} (h : p_poly_sum_add_rdd_q_q N a0 a1 a2 = some r) : FnM Tryz.prog 230 [.var (S_poly_sum.enc a2)] [(.ref 0 [] 0), (k64 a0), (k64 a1)] (.tup []) [.var (.st 3 [(eA 3 1 k64 r)])] := by
 unfold p_poly_sum_add_rdd_q_q at h
 refine At.f m_no hT hmo Tryz.func230 rfl h ?_
 refine bi fun u1 hu1 => ?_
 refine bi fun e2 he2 => ?_
 refine bi fun r3 hr3 => ?_
 refine bi fun u4 hu4 => ?_
 refine bi fun e5 he5 => ?_
 refine At.d 1 (dE1 4 (fun _ => big_adR hT (k := 1) 0 [0] 0 hu1) (dEL hT 5 (k64 e2) k64 1 he2 (dE1 7 (fun _ => big_nat (n_Add64 hr3) (fun _ => rv_tup2)) (dE1 13 (fun _ => big_adR hT (k := 1) 0 [0] 0 hu4) dE0)))) (dF 14 (.v (.bool false)) [(0, .var (.st 3 [(eA 3 1 k64 (a2.gh.setIfInBounds ((Int.toNat 0)) r3.1))]))] [] (big_at (big_stV hT k64 1 a2.gh he5 r3.1 (by kernel_rfl) (by kernel_rfl) (H' := [.var (.st 3 [(eA 3 1 k64 (a2.gh.setIfInBounds ((Int.toNat 0)) r3.1))])]))) dF0) ?_
 refine bi fun u6 hu6 => ?_
 refine bi fun e7 he7 => ?_
 refine bi fun r8 hr8 => ?_
 refine bi fun u9 hu9 => ?_
 refine bi fun e10 he10 => ?_
 refine At.d 0 (dE1 4 (fun _ => big_adR hT (k := 1) 0 [0] 0 hu6) (dEL hT 5 (k64 e7) k64 1 he7 (dE1 8 (fun _ => big_nat (n_Add64 hr8) (fun _ => rv_tup2)) (dE1 14 (fun _ => big_adR hT (k := 1) 0 [0] 0 hu9) dE0)))) (dF 15 (.v (.bool false)) [(0, .var (.st 3 [(eA 3 1 k64 ((a2.gh.setIfInBounds ((Int.toNat 0)) r3.1).setIfInBounds ((Int.toNat 1)) r8.1))]))] [] (big_at (big_stV hT k64 1 (a2.gh.setIfInBounds ((Int.toNat 0)) r3.1) he10 r8.1 (by kernel_rfl) (by kernel_rfl) (H' := [.var (.st 3 [(eA 3 1 k64 ((a2.gh.setIfInBounds ((Int.toNat 0)) r3.1).setIfInBounds ((Int.toNat 1)) r8.1))])]))) dF0) ?_
 refine bi fun u11 hu11 => ?_
 refine bi fun e12 he12 => ?_
 refine bi fun u13 hu13 => ?_
 refine bi fun e14 he14 => ?_
 refine At.d 0 (dE1 3 (fun _ => big_adR hT (k := 1) 0 [0] 0 hu11) (dEL hT 4 (k64 e12) k64 1 he12 (dE1 9 (fun _ => big_adR hT (k := 1) 0 [0] 0 hu13) dE0))) (dF 10 (.v (.bool false)) [(0, .var (.st 3 [(eA 3 1 k64 (((a2.gh.setIfInBounds ((Int.toNat 0)) r3.1).setIfInBounds ((Int.toNat 1)) r8.1).setIfInBounds ((Int.toNat 2)) (U64 (e12 + r8.2))))]))] [] (big_at (big_stV hT k64 1 ((a2.gh.setIfInBounds ((Int.toNat 0)) r3.1).setIfInBounds ((Int.toNat 1)) r8.1) he14 (U64 (e12 + r8.2)) (by kernel_rfl) (by kernel_rfl) (H' := [.var (.st 3 [(eA 3 1 k64 (((a2.gh.setIfInBounds ((Int.toNat 0)) r3.1).setIfInBounds ((Int.toNat 1)) r8.1).setIfInBounds ((Int.toNat 2)) (U64 (e12 + r8.2))))])]))) dF0) ?_
 apply rt; exact At.z 0

def m_poly_sum_step_rddd_q_q : Nat → Bool := imL [5]

def p_poly_sum_step_rddd_q_q (N : Nat) (a0 : (Vector Int 17)) (a1 : Int) (a2 : Int) (a3 : S_poly_sum) : Option ((Vector Int 3)) :=
 Option.bind (inRO 0 3) fun _ =>
 Option.bind (a3.gh.toList[(Int.toNat 0)]?) fun e2 =>
 Option.bind (slcO a0.toList 0 8) fun s3 =>
 Option.bind (p_poly_number N s3) fun r4 =>
 Option.bind (p_Add64 e2 r4 0) fun r5 =>
 Option.bind (inRO 0 3) fun _ =>
 Option.bind (a3.gh.toList[(Int.toNat 0)]?) fun e7 =>
 Option.bind (inRO 1 3) fun _ =>
 Option.bind ((a3.gh.setIfInBounds ((Int.toNat 0)) r5.1).toList[(Int.toNat 1)]?) fun e9 =>
 Option.bind (slcO a0.toList 8 16) fun s10 =>
 Option.bind (p_poly_number N s10) fun r11 =>
 Option.bind (p_Add64 e9 r11 r5.2) fun r12 =>
 Option.bind (inRO 1 3) fun _ =>
 Option.bind ((a3.gh.setIfInBounds ((Int.toNat 0)) r5.1).toList[(Int.toNat 1)]?) fun e14 =>
 Option.bind (inRO 2 3) fun _ =>
 Option.bind (((a3.gh.setIfInBounds ((Int.toNat 0)) r5.1).setIfInBounds ((Int.toNat 1)) r12.1).toList[(Int.toNat 2)]?) fun e16 =>
 Option.bind (idx a0.toList 16) fun e17 =>
 letO (U64 ((U64 e17) + r12.2)) fun x18 =>
 Option.bind (inRO 2 3) fun _ =>
 Option.bind (((a3.gh.setIfInBounds ((Int.toNat 0)) r5.1).setIfInBounds ((Int.toNat 1)) r12.1).toList[(Int.toNat 2)]?) fun e20 =>
 Option.bind (inRO 0 3) fun _ =>
 Option.bind ((((a3.gh.setIfInBounds ((Int.toNat 0)) r5.1).setIfInBounds ((Int.toNat 1)) r12.1).setIfInBounds ((Int.toNat 2)) (U64 (e16 + x18))).toList[(Int.toNat 0)]?) fun e22 =>
 Option.bind (p_math_bits_Mul64 N e22 a1) fun r23 =>
 Option.bind (inRO 1 3) fun _ =>
 Option.bind ((((a3.gh.setIfInBounds ((Int.toNat 0)) r5.1).setIfInBounds ((Int.toNat 1)) r12.1).setIfInBounds ((Int.toNat 2)) (U64 (e16 + x18))).toList[(Int.toNat 1)]?) fun e25 =>
 Option.bind (p_math_bits_Mul64 N e25 a1) fun r26 =>
 Option.bind (inRO 0 3) fun _ =>
 Option.bind ((((a3.gh.setIfInBounds ((Int.toNat 0)) r5.1).setIfInBounds ((Int.toNat 1)) r12.1).setIfInBounds ((Int.toNat 2)) (U64 (e16 + x18))).toList[(Int.toNat 0)]?) fun e28 =>
 Option.bind (p_math_bits_Mul64 N e28 a2) fun r29 =>
 Option.bind (inRO 1 3) fun _ =>
 Option.bind ((((a3.gh.setIfInBounds ((Int.toNat 0)) r5.1).setIfInBounds ((Int.toNat 1)) r12.1).setIfInBounds ((Int.toNat 2)) (U64 (e16 + x18))).toList[(Int.toNat 1)]?) fun e31 =>
 Option.bind (p_math_bits_Mul64 N e31 a2) fun r32 =>
 Option.bind (inRO 2 3) fun _ =>
 Option.bind ((((a3.gh.setIfInBounds ((Int.toNat 0)) r5.1).setIfInBounds ((Int.toNat 1)) r12.1).setIfInBounds ((Int.toNat 2)) (U64 (e16 + x18))).toList[(Int.toNat 2)]?) fun e34 =>
 Option.bind (inRO 2 3) fun _ =>
 Option.bind ((((a3.gh.setIfInBounds ((Int.toNat 0)) r5.1).setIfInBounds ((Int.toNat 1)) r12.1).setIfInBounds ((Int.toNat 2)) (U64 (e16 + x18))).toList[(Int.toNat 2)]?) fun e36 =>
 Option.bind (p_Add64 r26.2 r29.2 0) fun r37 =>
 Option.bind (p_Add64 r26.1 r29.1 r37.2) fun r38 =>
 Option.bind (p_Add64 0 0 r38.2) fun r39 =>
 Option.bind (p_Add64 r38.1 r32.2 0) fun r40 =>
 Option.bind (p_Add64 r39.1 r32.1 r40.2) fun r41 =>
 Option.bind (p_Add64 r40.1 (U64 (e34 * a1)) 0) fun r42 =>
 Option.bind (p_Add64 r41.1 (U64 (e36 * a2)) r42.2) fun r43 =>
 Option.bind (p_Add64 r37.1 r23.1 0) fun r44 =>
 Option.bind (p_Add64 r42.1 0 r44.2) fun r45 =>
 Option.bind (p_Add64 r43.1 0 r45.2) fun r46 =>
 Option.bind (p_poly_sum_add_rdd_q_q N (bandn .u64 r45.1 3) r46.1 (S_poly_sum.mk (#v[r23.2, r44.1, band .u64 r45.1 3]))) fun r47 =>
 letO (bor .u64 (shr .u64 r45.1 2) (shl .u64 r46.1 62)) fun x48 =>
 Option.bind (p_poly_sum_add_rdd_q_q N x48 (shr .u64 r46.1 2) (S_poly_sum.mk r47)) fun r49 =>
 some r49

theorem poly_sum_step_rddd_q_q_ok {N a0 a1 a2 a3 r} (h : p_poly_sum_step_rddd_q_q N a0 a1 a2 a3 = some r) : FnM Tryz.prog 212 [.var (S_poly_sum.enc a3)] [(.ref 0 [] 0), (eA 17 1 k8 a0), (k64 a1), (k64 a2)] (.tup []) [.var (.st 3 [(eA 3 1 k64 r)])] := by
 unfold p_poly_sum_step_rddd_q_q at h
 refine At.f m_poly_sum_step_rddd_q_q hT hmo Tryz.func212 rfl h ?_
 refine bi fun u1 hu1 => ?_
 refine bi fun e2 he2 => ?_
 refine bi fun s3 hs3 => ?_
 refine bi fun r4 hr4 => ?_
 refine bi fun r5 hr5 => ?_
 refine bi fun u6 hu6 => ?_
 refine bi fun e7 he7 => ?_
 refine At.d 8 (dE1 0 (fun _ => big_adR hT (k := 1) 1 [] 0 hu1) (dEL hT 1 (k64 e2) k64 0 he2 (dE1 2 (fun _ => big_slI hT (N := 17) (k := 1) k8 a0 hs3) (dE2 3 (k64 r4) (fun _ => big_C0 (poly_number_ok hr4)) (dE1 4 (fun _ => big_nat (n_Add64 hr5) (fun _ => rv_tup2)) (dE1 8 (fun _ => big_adR hT (k := 1) 1 [] 0 hu6) dE0)))))) (dF 9 (.v (.bool false)) [(1, .var (eA 3 1 k64 (a3.gh.setIfInBounds ((Int.toNat 0)) r5.1)))] [] (big_at (big_stV hT k64 0 a3.gh he7 r5.1 (by kernel_rfl) (by kernel_rfl) (H' := [.var (S_poly_sum.enc a3), .var (eA 3 1 k64 (a3.gh.setIfInBounds ((Int.toNat 0)) r5.1))]))) dF0) ?_
 refine bi fun u8 hu8 => ?_
 refine bi fun e9 he9 => ?_
 refine bi fun s10 hs10 => ?_
 refine bi fun r11 hr11 => ?_
 refine bi fun r12 hr12 => ?_
 refine bi fun u13 hu13 => ?_
 refine bi fun e14 he14 => ?_
 refine At.d 0 (dE1 0 (fun _ => big_adR hT (k := 1) 1 [] 0 hu8) (dEL hT 1 (k64 e9) k64 0 he9 (dE1 2 (fun _ => big_slI hT (N := 17) (k := 1) k8 a0 hs10) (dE2 3 (k64 r11) (fun _ => big_C0 (poly_number_ok hr11)) (dE1 5 (fun _ => big_nat (n_Add64 hr12) (fun _ => rv_tup2)) (dE1 9 (fun _ => big_adR hT (k := 1) 1 [] 0 hu13) dE0)))))) (dF 10 (.v (.bool false)) [(1, .var (eA 3 1 k64 ((a3.gh.setIfInBounds ((Int.toNat 0)) r5.1).setIfInBounds ((Int.toNat 1)) r12.1)))] [] (big_at (big_stV hT k64 0 (a3.gh.setIfInBounds ((Int.toNat 0)) r5.1) he14 r12.1 (by kernel_rfl) (by kernel_rfl) (H' := [.var (S_poly_sum.enc a3), .var (eA 3 1 k64 ((a3.gh.setIfInBounds ((Int.toNat 0)) r5.1).setIfInBounds ((Int.toNat 1)) r12.1))]))) dF0) ?_
 refine At.b 0 (fun _ e => big_adR hT (k := 1) 1 [] 0 e) fun u15 => ?_
 refine At.b 0 (fun _ e => big_ldE hT k64 0 e) fun e16 => ?_
 refine At.b 0 (fun _ e => big_adI hT (N := 17) (k := 1) k8 a0 e) fun e17 => ?_
 refine lx ?_; intro x18
 refine At.b 5 (fun _ e => big_adR hT (k := 1) 1 [] 0 e) fun u19 => ?_
 refine At.b 0 (fun _ e => big_stV hT k64 0 ((a3.gh.setIfInBounds ((Int.toNat 0)) r5.1).setIfInBounds ((Int.toNat 1)) r12.1) e (U64 (e16 + x18)) (by kernel_rfl) (by kernel_rfl) (H' := [.var (S_poly_sum.enc a3), .var (eA 3 1 k64 (((a3.gh.setIfInBounds ((Int.toNat 0)) r5.1).setIfInBounds ((Int.toNat 1)) r12.1).setIfInBounds ((Int.toNat 2)) (U64 (e16 + x18))))])) fun e20 => ?_
 refine At.b 0 (fun _ e => big_adR hT (k := 1) 1 [] 0 e) fun u21 => ?_
 refine At.b 0 (fun _ e => big_ldE hT k64 0 e) fun e22 => ?_
 refine At.b 1 (fun _ e => big_C [] (math_bits_Mul64_ok e)) fun r23 => ?_
 refine At.b 5 (fun _ e => big_adR hT (k := 1) 1 [] 0 e) fun u24 => ?_
 refine At.b 0 (fun _ e => big_ldE hT k64 0 e) fun e25 => ?_
 refine At.b 1 (fun _ e => big_C [] (math_bits_Mul64_ok e)) fun r26 => ?_
 refine At.b 5 (fun _ e => big_adR hT (k := 1) 1 [] 0 e) fun u27 => ?_
 refine At.b 0 (fun _ e => big_ldE hT k64 0 e) fun e28 => ?_
 refine At.b 1 (fun _ e => big_C [] (math_bits_Mul64_ok e)) fun r29 => ?_
 refine At.b 5 (fun _ e => big_adR hT (k := 1) 1 [] 0 e) fun u30 => ?_
 refine At.b 0 (fun _ e => big_ldE hT k64 0 e) fun e31 => ?_
 refine At.b 1 (fun _ e => big_C [] (math_bits_Mul64_ok e)) fun r32 => ?_
 refine bi fun u33 hu33 => ?_
 refine bi fun e34 he34 => ?_
 refine bi fun u35 hu35 => ?_
 refine bi fun e36 he36 => ?_
 refine At.d 5 (dE1 0 (fun _ => big_adR hT (k := 1) 1 [] 0 hu33) (dEL hT 1 (k64 e34) k64 0 he34 (dE1 4 (fun _ => big_adR hT (k := 1) 1 [] 0 hu35) (dEL hT 5 (k64 e36) k64 0 he36 dE0)))) dF0 ?_
 refine At.b 2 (fun _ e => big_nat (n_Add64 e) (fun _ => rv_tup2)) fun r37 => ?_
 refine At.b 8 (fun _ e => big_nat (n_Add64 e) (fun _ => rv_tup2)) fun r38 => ?_
 refine At.b 6 (fun _ e => big_nat (n_Add64 e) (fun _ => rv_tup2)) fun r39 => ?_
 refine At.b 7 (fun _ e => big_nat (n_Add64 e) (fun _ => rv_tup2)) fun r40 => ?_
 refine At.b 8 (fun _ e => big_nat (n_Add64 e) (fun _ => rv_tup2)) fun r41 => ?_
 refine At.b 6 (fun _ e => big_nat (n_Add64 e) (fun _ => rv_tup2)) fun r42 => ?_
 refine At.b 8 (fun _ e => big_nat (n_Add64 e) (fun _ => rv_tup2)) fun r43 => ?_
 refine At.b 8 (fun _ e => big_nat (n_Add64 e) (fun _ => rv_tup2)) fun r44 => ?_
 refine At.b 7 (fun _ e => big_nat (n_Add64 e) (fun _ => rv_tup2)) fun r45 => ?_
 refine At.b 7 (fun _ e => big_nat (n_Add64 e) (fun _ => rv_tup2)) fun r46 => ?_
 refine At.b 18 (fun _ e => big_C [0] (poly_sum_add_rdd_q_q_ok e)) fun r47 => ?_
 refine lx ?_; intro x48
 refine At.b 8 (fun _ e => big_C [0] (poly_sum_add_rdd_q_q_ok e)) fun r49 => ?_
 apply rt; exact At.z 0

def m_poly_sum_end : Nat → Bool := imL [3]

def p_poly_sum_end_L1 (N : Nat)  : Nat → (Vector Int 3) → Int → Option ((Vector Int 3))
 | 0, _, _ => none
 | k + 1, s2, s3 =>
  cond (decide (s3 < 2)) (
   Option.bind (Option.bind (inRO 0 3) fun _ =>
   Option.bind (s2.toList[(Int.toNat 0)]?) fun e6 =>
   Option.bind (p_Add64 e6 5 0) fun r7 =>
   Option.bind (inRO 1 3) fun _ =>
   Option.bind (s2.toList[(Int.toNat 1)]?) fun e9 =>
   Option.bind (p_Add64 e9 0 r7.2) fun r10 =>
   Option.bind (inRO 2 3) fun _ =>
   Option.bind (s2.toList[(Int.toNat 2)]?) fun e12 =>
   letO (decide ((U64 (e12 + r10.2)) ≥ 4)) fun x13 =>
   cond x13 (
    letO (U64 ((U64 (e12 + r10.2)) - 4)) fun x14 =>
    some (#v[r7.1, r10.1, (U64 ((U64 (e12 + r10.2)) - 4))])) (
    some s2)) fun p4 =>
   p_poly_sum_end_L1 N k p4 (I64 (s3 + 1))) (
   some s2)

def p_poly_sum_end_L2 (N : Nat) (r17 : Int × Int) (r20 : Int × Int) : Nat → (Vector Int 16) → Int → Option ((Vector Int 16))
 | 0, _, _ => none
 | k + 1, s22, s23 =>
  cond (decide (s23 < 8)) (
   Option.bind (shrO .u64 r17.1 (I64 (8 * s23))) fun x24 =>
   Option.bind (shrO .u64 r20.1 (I64 (8 * s23))) fun x25 =>
   Option.bind (inRO s23 16) fun _ =>
   Option.bind (s22.toList[s23.toNat]?) fun e27 =>
   Option.bind (inRO (I64 (8 + s23)) 16) fun _ =>
   Option.bind ((s22.setIfInBounds s23.toNat (U8 x24)).toList[(I64 (8 + s23)).toNat]?) fun e29 =>
   p_poly_sum_end_L2 N r17 r20 k ((s22.setIfInBounds s23.toNat (U8 x24)).setIfInBounds ((I64 (8 + s23)).toNat) (U8 x25)) (I64 (s23 + 1))) (
   some s22)

def p_poly_sum_end (N : Nat) (a0 : S_poly_sum) (a1 : Int) (a2 : Int) : Option ((Vector Int 16)) :=
 Option.bind (p_poly_sum_end_L1 N N a0.gh 0) fun p1 =>
 Option.bind (inRO 0 3) fun _ =>
 Option.bind (p1.toList[(Int.toNat 0)]?) fun e16 =>
 Option.bind (p_Add64 e16 a1 0) fun r17 =>
 Option.bind (inRO 1 3) fun _ =>
 Option.bind (p1.toList[(Int.toNat 1)]?) fun e19 =>
 Option.bind (p_Add64 e19 a2 r17.2) fun r20 =>
 Option.bind (p_poly_sum_end_L2 N r17 r20 N (Vector.replicate 16 0) 0) fun p21 =>
 some p21

theorem poly_sum_end_ok {N a0 a1 a2 r} (h : p_poly_sum_end N a0 a1 a2 = some r) : FnM Tryz.prog 214 [] [(S_poly_sum.enc a0), (k64 a1), (k64 a2)] (eA 16 1 k8 r) [] := by
 unfold p_poly_sum_end at h
 refine At.f m_poly_sum_end hT hmo Tryz.func214 rfl h ?_
 refine At.L 7 [1, 2, 6, 7] 2 (fun p1 => ([], [(1, .var (eA 3 1 k64 p1))], [])) (fun p1 J k => ∃ s2 s3, p_poly_sum_end_L1 N k s2 s3 = some p1 ∧ J [1, 2, 6, 7] 2 [(20, (j64 s3))] [(1, .var (eA 3 1 k64 s2))] []) N (fun _ h => ⟨_, _, h, jr⟩) (fun p1 k s hI => ?_) fun p1 => ?_
 ·obtain ⟨s2, s3, h, hj⟩ := hI
  cases k with
  | zero => cases h
  | succ k =>
   refine At.jr hj ?_ h
   refine At.c 1 ?_ ?_
   ·refine At.J 0 2 [1, 2, 6, 7, 20] 2 (fun p4 => ([], [(1, .var (eA 3 1 k64 p4))], [])) (fun p4 => ?_) fun p4 => ?_
    ·refine At.b 0 (fun _ e => big_adR hT (k := 1) 1 [] 0 e) fun u5 => ?_
     refine At.b 0 (fun _ e => big_ldE hT k64 0 e) fun e6 => ?_
     refine At.b 0 (fun _ e => big_nat (n_Add64 e) (fun _ => rv_tup2)) fun r7 => ?_
     refine At.b 5 (fun _ e => big_adR hT (k := 1) 1 [] 0 e) fun u8 => ?_
     refine At.b 0 (fun _ e => big_ldE hT k64 0 e) fun e9 => ?_
     refine At.b 1 (fun _ e => big_nat (n_Add64 e) (fun _ => rv_tup2)) fun r10 => ?_
     refine At.b 5 (fun _ e => big_adR hT (k := 1) 1 [] 0 e) fun u11 => ?_
     refine At.b 0 (fun _ e => big_ldE hT k64 0 e) fun e12 => ?_
     refine lx ?_; intro x13
     refine At.c 5 ?_ ?_
     ·refine lx ?_; intro x14
      apply rt; exact At.jn 6
     ·apply rt; exact At.jn 0
    ·exact fun h => At.k 2 ⟨_, _, h, jr⟩
   ·apply rt; exact At.x 0
 ·refine At.b 0 (fun _ e => big_adR hT (k := 1) 1 [] 0 e) fun u15 => ?_
  refine At.b 0 (fun _ e => big_ldE hT k64 0 e) fun e16 => ?_
  refine At.b 1 (fun _ e => big_nat (n_Add64 e) (fun _ => rv_tup2)) fun r17 => ?_
  refine At.b 5 (fun _ e => big_adR hT (k := 1) 1 [] 0 e) fun u18 => ?_
  refine At.b 0 (fun _ e => big_ldE hT k64 0 e) fun e19 => ?_
  refine At.b 2 (fun _ e => big_nat (n_Add64 e) (fun _ => rv_tup2)) fun r20 => ?_
  refine At.L 7 [6, 16] 3 (fun p21 => ([], [(2, .var (eA 16 1 k8 p21))], [])) (fun p21 J k => ∃ s22 s23, p_poly_sum_end_L2 N r17 r20 k s22 s23 = some p21 ∧ J [6, 12, 14, 16] 3 [(62, (j64 s23))] [(2, .var (eA 16 1 k8 s22))] []) N (fun _ h => ⟨_, _, h, jr⟩) (fun p21 k s hI => ?_) fun p21 => ?_
  ·obtain ⟨s22, s23, h, hj⟩ := hI
   cases k with
   | zero => cases h
   | succ k =>
    refine At.jr hj ?_ h
    refine At.c 1 ?_ ?_
    ·refine bi fun x24 hx24 => ?_
     refine bi fun x25 hx25 => ?_
     refine bi fun u26 hu26 => ?_
     refine bi fun e27 he27 => ?_
     refine bi fun u28 hu28 => ?_
     refine bi fun e29 he29 => ?_
     refine At.d 2 (dE1 6 (fun _ => big_shr hT (k' := .i64) hx24 (by kernel_rfl) (by kernel_rfl)) (dE1 11 (fun _ => big_shr hT (k' := .i64) hx25 (by kernel_rfl) (by kernel_rfl)) (dE1 13 (fun _ => big_adR hT (k := 1) 2 [] 0 hu26) (dE1 15 (fun _ => big_adR hT (k := 1) 2 [] 0 hu28) dE0)))) (dF 14 (.v (.bool false)) [(2, .var (eA 16 1 k8 (s22.setIfInBounds s23.toNat (U8 x24))))] [] (big_at (big_stV hT k8 0 s22 he27 (U8 x24) (by kernel_rfl) (by kernel_rfl) (H' := [.var (eA 16 1 k8 (Vector.replicate 16 0)), .var (eA 3 1 k64 p1), .var (eA 16 1 k8 (s22.setIfInBounds s23.toNat (U8 x24)))]))) (dF 16 (.v (.bool false)) [(2, .var (eA 16 1 k8 ((s22.setIfInBounds s23.toNat (U8 x24)).setIfInBounds ((I64 (8 + s23)).toNat) (U8 x25))))] [] (big_at (big_stV hT k8 0 (s22.setIfInBounds s23.toNat (U8 x24)) he29 (U8 x25) (by kernel_rfl) (by kernel_rfl) (H' := [.var (eA 16 1 k8 (Vector.replicate 16 0)), .var (eA 3 1 k64 p1), .var (eA 16 1 k8 ((s22.setIfInBounds s23.toNat (U8 x24)).setIfInBounds ((I64 (8 + s23)).toNat) (U8 x25)))]))) dF0)) ?_
     exact fun h => At.k 2 ⟨_, _, h, jr⟩
    ·apply rt; exact At.x 0
  ·apply rt; exact At.r 2

end Go.UK

