/- A part of the proof: what the functions of the program compute. -/
import Derived.Test.YtljnaeghnleipaaB6
namespace Go.UK
open Go Go.Proofs
set_option maxRecDepth 20000
set_option maxHeartbeats 4000000
set_option linter.all false

attribute [local irreducible] owp awl aw FnM NatFn opS Stab TOK Big
def p_poly_sum_add_rdd_q (N : Nat) (a0 : Int) (a1 : Int) (a2 : S_poly_Mac) : Option ((Vector Int 3)) :=
 Option.bind (inRO 0 3) fun _ =>
 Option.bind (a2.gsum.gh.toList[(Int.toNat 0)]?) fun e2 =>
 Option.bind (p_Add64 e2 a0 0) fun r3 =>
 Option.bind (inRO 0 3) fun _ =>
 Option.bind (a2.gsum.gh.toList[(Int.toNat 0)]?) fun e5 =>
 Option.bind (inRO 1 3) fun _ =>
 Option.bind ((a2.gsum.gh.setIfInBounds ((Int.toNat 0)) r3.1).toList[(Int.toNat 1)]?) fun e7 =>
 Option.bind (p_Add64 e7 a1 r3.2) fun r8 =>
 Option.bind (inRO 1 3) fun _ =>
 Option.bind ((a2.gsum.gh.setIfInBounds ((Int.toNat 0)) r3.1).toList[(Int.toNat 1)]?) fun e10 =>
 Option.bind (inRO 2 3) fun _ =>
 Option.bind (((a2.gsum.gh.setIfInBounds ((Int.toNat 0)) r3.1).setIfInBounds ((Int.toNat 1)) r8.1).toList[(Int.toNat 2)]?) fun e12 =>
 Option.bind (inRO 2 3) fun _ =>
 Option.bind (((a2.gsum.gh.setIfInBounds ((Int.toNat 0)) r3.1).setIfInBounds ((Int.toNat 1)) r8.1).toList[(Int.toNat 2)]?) fun e14 =>
 some (((a2.gsum.gh.setIfInBounds ((Int.toNat 0)) r3.1).setIfInBounds ((Int.toNat 1)) r8.1).setIfInBounds ((Int.toNat 2)) (U64 (e12 + r8.2)))

theorem poly_sum_add_rdd_q_ok {N : Nat} {a0 : Int} {a1 : Int} {a2 : S_poly_Mac} {r : (Vector Int 3)} (h : p_poly_sum_add_rdd_q N a0 a1 a2 = some r) : FnM Try.prog 99 [.var (S_poly_Mac.enc a2)] [(.ref 0 [0] 0), (k64 a0), (k64 a1)] (.tup []) [.var (.st 10 [(.st 3 [(eA 3 1 k64 r)]), (eB a2.gmade), (k64 a2.gr0), (k64 a2.gr1), (k64 a2.gs0), (k64 a2.gs1), (eL 1 k8 a2.grest), (j64 a2.gall)])] := by
 unfold p_poly_sum_add_rdd_q at h
 refine fnM_of_aw (m := 46) (lo := 1) (rs := []) hT Try.func99 rfl (by kernel_rfl) rfl ?_
 refine aw_sregU hT m_no [] (by kernel_rfl) ?_
 obtain ⟨u1, hu1, h⟩ := obind h
 obtain ⟨e2, he2, h⟩ := obind h
 obtain ⟨r3, hr3, h⟩ := obind h
 obtain ⟨u4, hu4, h⟩ := obind h
 obtain ⟨e5, he5, h⟩ := obind h
 refine aw_sdrawVS hT hmo m_no [(4, (.ref 0 [0, 0, (Int.toNat 0)] (0 + (Int.toNat 0) * 1))), (5, (k64 e2)), (7, (.tup [(k64 r3.1), (k64 r3.2)])), (13, (.ref 0 [0, 0, (Int.toNat 0)] (0 + (Int.toNat 0) * 1)))] [[[.var (S_poly_Mac.enc a2)]], [[.var (S_poly_Mac.enc a2)]], [[.var (S_poly_Mac.enc a2)]], [[.var (S_poly_Mac.enc a2)]]] [(14, fun _ => ((.v (.bool false)), [.var (.st 10 [(.st 3 [(eA 3 1 k64 (a2.gsum.gh.setIfInBounds ((Int.toNat 0)) r3.1))]), (eB a2.gmade), (k64 a2.gr0), (k64 a2.gr1), (k64 a2.gs0), (k64 a2.gs1), (eL 1 k8 a2.grest), (j64 a2.gall)])]))] (by kernel_rfl) (by kernel_rfl) (by kernel_rfl) (by kernel_rfl) ⟨⟨big_adR hT (k := 1) 0 [0, 0] 0 hu1, trivial⟩, ⟨big_at (big_ldE hT k64 2 he2), trivial⟩, ⟨big_nat (n_Add64 hr3) (fun _ => rv_tup2), trivial⟩, ⟨big_adR hT (k := 1) 0 [0, 0] 0 hu4, trivial⟩, trivial⟩ ⟨big_at (big_stV hT k64 2 a2.gsum.gh he5 r3.1 (by kernel_rfl) (by kernel_rfl) (H' := [.var (.st 10 [(.st 3 [(eA 3 1 k64 (a2.gsum.gh.setIfInBounds ((Int.toNat 0)) r3.1))]), (eB a2.gmade), (k64 a2.gr0), (k64 a2.gr1), (k64 a2.gs0), (k64 a2.gs1), (eL 1 k8 a2.grest), (j64 a2.gall)])])), trivial⟩ ?_
 obtain ⟨u6, hu6, h⟩ := obind h
 obtain ⟨e7, he7, h⟩ := obind h
 obtain ⟨r8, hr8, h⟩ := obind h
 obtain ⟨u9, hu9, h⟩ := obind h
 obtain ⟨e10, he10, h⟩ := obind h
 refine aw_sdrawVS hT hmo m_no [(4, (.ref 0 [0, 0, (Int.toNat 1)] (0 + (Int.toNat 1) * 1))), (5, (k64 e7)), (8, (.tup [(k64 r8.1), (k64 r8.2)])), (14, (.ref 0 [0, 0, (Int.toNat 1)] (0 + (Int.toNat 1) * 1)))] [[[.var (.st 10 [(.st 3 [(eA 3 1 k64 (a2.gsum.gh.setIfInBounds ((Int.toNat 0)) r3.1))]), (eB a2.gmade), (k64 a2.gr0), (k64 a2.gr1), (k64 a2.gs0), (k64 a2.gs1), (eL 1 k8 a2.grest), (j64 a2.gall)])]], [[.var (.st 10 [(.st 3 [(eA 3 1 k64 (a2.gsum.gh.setIfInBounds ((Int.toNat 0)) r3.1))]), (eB a2.gmade), (k64 a2.gr0), (k64 a2.gr1), (k64 a2.gs0), (k64 a2.gs1), (eL 1 k8 a2.grest), (j64 a2.gall)])]], [[.var (.st 10 [(.st 3 [(eA 3 1 k64 (a2.gsum.gh.setIfInBounds ((Int.toNat 0)) r3.1))]), (eB a2.gmade), (k64 a2.gr0), (k64 a2.gr1), (k64 a2.gs0), (k64 a2.gs1), (eL 1 k8 a2.grest), (j64 a2.gall)])]], [[.var (.st 10 [(.st 3 [(eA 3 1 k64 (a2.gsum.gh.setIfInBounds ((Int.toNat 0)) r3.1))]), (eB a2.gmade), (k64 a2.gr0), (k64 a2.gr1), (k64 a2.gs0), (k64 a2.gs1), (eL 1 k8 a2.grest), (j64 a2.gall)])]]] [(15, fun _ => ((.v (.bool false)), [.var (.st 10 [(.st 3 [(eA 3 1 k64 ((a2.gsum.gh.setIfInBounds ((Int.toNat 0)) r3.1).setIfInBounds ((Int.toNat 1)) r8.1))]), (eB a2.gmade), (k64 a2.gr0), (k64 a2.gr1), (k64 a2.gs0), (k64 a2.gs1), (eL 1 k8 a2.grest), (j64 a2.gall)])]))] (by kernel_rfl) (by kernel_rfl) (by kernel_rfl) (by kernel_rfl) ⟨⟨big_adR hT (k := 1) 0 [0, 0] 0 hu6, trivial⟩, ⟨big_at (big_ldE hT k64 2 he7), trivial⟩, ⟨big_nat (n_Add64 hr8) (fun _ => rv_tup2), trivial⟩, ⟨big_adR hT (k := 1) 0 [0, 0] 0 hu9, trivial⟩, trivial⟩ ⟨big_at (big_stV hT k64 2 (a2.gsum.gh.setIfInBounds ((Int.toNat 0)) r3.1) he10 r8.1 (by kernel_rfl) (by kernel_rfl) (H' := [.var (.st 10 [(.st 3 [(eA 3 1 k64 ((a2.gsum.gh.setIfInBounds ((Int.toNat 0)) r3.1).setIfInBounds ((Int.toNat 1)) r8.1))]), (eB a2.gmade), (k64 a2.gr0), (k64 a2.gr1), (k64 a2.gs0), (k64 a2.gs1), (eL 1 k8 a2.grest), (j64 a2.gall)])])), trivial⟩ ?_
 obtain ⟨u11, hu11, h⟩ := obind h
 obtain ⟨e12, he12, h⟩ := obind h
 obtain ⟨u13, hu13, h⟩ := obind h
 obtain ⟨e14, he14, h⟩ := obind h
 refine aw_drawMS hT hmo m_no [(3, (.ref 0 [0, 0, (Int.toNat 2)] (0 + (Int.toNat 2) * 1))), (4, (k64 e12)), (9, (.ref 0 [0, 0, (Int.toNat 2)] (0 + (Int.toNat 2) * 1)))] [[[.var (.st 10 [(.st 3 [(eA 3 1 k64 ((a2.gsum.gh.setIfInBounds ((Int.toNat 0)) r3.1).setIfInBounds ((Int.toNat 1)) r8.1))]), (eB a2.gmade), (k64 a2.gr0), (k64 a2.gr1), (k64 a2.gs0), (k64 a2.gs1), (eL 1 k8 a2.grest), (j64 a2.gall)])]], [[.var (.st 10 [(.st 3 [(eA 3 1 k64 ((a2.gsum.gh.setIfInBounds ((Int.toNat 0)) r3.1).setIfInBounds ((Int.toNat 1)) r8.1))]), (eB a2.gmade), (k64 a2.gr0), (k64 a2.gr1), (k64 a2.gs0), (k64 a2.gs1), (eL 1 k8 a2.grest), (j64 a2.gall)])]], [[.var (.st 10 [(.st 3 [(eA 3 1 k64 ((a2.gsum.gh.setIfInBounds ((Int.toNat 0)) r3.1).setIfInBounds ((Int.toNat 1)) r8.1))]), (eB a2.gmade), (k64 a2.gr0), (k64 a2.gr1), (k64 a2.gs0), (k64 a2.gs1), (eL 1 k8 a2.grest), (j64 a2.gall)])]]] [(10, fun _ => ((.v (.bool false)), [.var (.st 10 [(.st 3 [(eA 3 1 k64 (((a2.gsum.gh.setIfInBounds ((Int.toNat 0)) r3.1).setIfInBounds ((Int.toNat 1)) r8.1).setIfInBounds ((Int.toNat 2)) (U64 (e12 + r8.2))))]), (eB a2.gmade), (k64 a2.gr0), (k64 a2.gr1), (k64 a2.gs0), (k64 a2.gs1), (eL 1 k8 a2.grest), (j64 a2.gall)])]))] (by kernel_rfl) (by kernel_rfl) (by kernel_rfl) (by kernel_rfl) ⟨⟨big_adR hT (k := 1) 0 [0, 0] 0 hu11, trivial⟩, ⟨big_at (big_ldE hT k64 2 he12), trivial⟩, ⟨big_adR hT (k := 1) 0 [0, 0] 0 hu13, trivial⟩, trivial⟩ ⟨big_at (big_stV hT k64 2 ((a2.gsum.gh.setIfInBounds ((Int.toNat 0)) r3.1).setIfInBounds ((Int.toNat 1)) r8.1) he14 (U64 (e12 + r8.2)) (by kernel_rfl) (by kernel_rfl) (H' := [.var (.st 10 [(.st 3 [(eA 3 1 k64 (((a2.gsum.gh.setIfInBounds ((Int.toNat 0)) r3.1).setIfInBounds ((Int.toNat 1)) r8.1).setIfInBounds ((Int.toNat 2)) (U64 (e12 + r8.2))))]), (eB a2.gmade), (k64 a2.gr0), (k64 a2.gr1), (k64 a2.gs0), (k64 a2.gs1), (eL 1 k8 a2.grest), (j64 a2.gall)])])), trivial⟩ ?_
 cases h
 exact fin_n (by kernel_rfl)

theorem poly_sum_add_rdd_q_ok_c : callable Try.prog 99 := ⟨_, Try.func99, by decide, rfl⟩

def m_poly_sum_step_rddd_q : Nat → Bool := imL [5]

def p_poly_sum_step_rddd_q (N : Nat) (a0 : (Vector Int 17)) (a1 : Int) (a2 : Int) (a3 : S_poly_Mac) : Option ((Vector Int 3) × Bool × Int × Int × Int × Int × (List Int) × Int) :=
 Option.bind (inRO 0 3) fun _ =>
 Option.bind (a3.gsum.gh.toList[(Int.toNat 0)]?) fun e2 =>
 Option.bind (slcO a0.toList 0 8) fun s3 =>
 Option.bind (p_poly_number N s3) fun r4 =>
 Option.bind (p_Add64 e2 r4 0) fun r5 =>
 Option.bind (inRO 0 3) fun _ =>
 Option.bind (a3.gsum.gh.toList[(Int.toNat 0)]?) fun e7 =>
 Option.bind (inRO 1 3) fun _ =>
 Option.bind ((a3.gsum.gh.setIfInBounds ((Int.toNat 0)) r5.1).toList[(Int.toNat 1)]?) fun e9 =>
 Option.bind (slcO a0.toList 8 16) fun s10 =>
 Option.bind (p_poly_number N s10) fun r11 =>
 Option.bind (p_Add64 e9 r11 r5.2) fun r12 =>
 Option.bind (inRO 1 3) fun _ =>
 Option.bind ((a3.gsum.gh.setIfInBounds ((Int.toNat 0)) r5.1).toList[(Int.toNat 1)]?) fun e14 =>
 Option.bind (inRO 2 3) fun _ =>
 Option.bind (((a3.gsum.gh.setIfInBounds ((Int.toNat 0)) r5.1).setIfInBounds ((Int.toNat 1)) r12.1).toList[(Int.toNat 2)]?) fun e16 =>
 Option.bind (idx a0.toList 16) fun e17 =>
 letO (U64 ((U64 e17) + r12.2)) fun x18 =>
 Option.bind (inRO 2 3) fun _ =>
 Option.bind (((a3.gsum.gh.setIfInBounds ((Int.toNat 0)) r5.1).setIfInBounds ((Int.toNat 1)) r12.1).toList[(Int.toNat 2)]?) fun e20 =>
 Option.bind (inRO 0 3) fun _ =>
 Option.bind ((((a3.gsum.gh.setIfInBounds ((Int.toNat 0)) r5.1).setIfInBounds ((Int.toNat 1)) r12.1).setIfInBounds ((Int.toNat 2)) (U64 (e16 + x18))).toList[(Int.toNat 0)]?) fun e22 =>
 Option.bind (p_math_bits_Mul64 N e22 a1) fun r23 =>
 Option.bind (inRO 1 3) fun _ =>
 Option.bind ((((a3.gsum.gh.setIfInBounds ((Int.toNat 0)) r5.1).setIfInBounds ((Int.toNat 1)) r12.1).setIfInBounds ((Int.toNat 2)) (U64 (e16 + x18))).toList[(Int.toNat 1)]?) fun e25 =>
 Option.bind (p_math_bits_Mul64 N e25 a1) fun r26 =>
 Option.bind (inRO 0 3) fun _ =>
 Option.bind ((((a3.gsum.gh.setIfInBounds ((Int.toNat 0)) r5.1).setIfInBounds ((Int.toNat 1)) r12.1).setIfInBounds ((Int.toNat 2)) (U64 (e16 + x18))).toList[(Int.toNat 0)]?) fun e28 =>
 Option.bind (p_math_bits_Mul64 N e28 a2) fun r29 =>
 Option.bind (inRO 1 3) fun _ =>
 Option.bind ((((a3.gsum.gh.setIfInBounds ((Int.toNat 0)) r5.1).setIfInBounds ((Int.toNat 1)) r12.1).setIfInBounds ((Int.toNat 2)) (U64 (e16 + x18))).toList[(Int.toNat 1)]?) fun e31 =>
 Option.bind (p_math_bits_Mul64 N e31 a2) fun r32 =>
 Option.bind (inRO 2 3) fun _ =>
 Option.bind ((((a3.gsum.gh.setIfInBounds ((Int.toNat 0)) r5.1).setIfInBounds ((Int.toNat 1)) r12.1).setIfInBounds ((Int.toNat 2)) (U64 (e16 + x18))).toList[(Int.toNat 2)]?) fun e34 =>
 Option.bind (inRO 2 3) fun _ =>
 Option.bind ((((a3.gsum.gh.setIfInBounds ((Int.toNat 0)) r5.1).setIfInBounds ((Int.toNat 1)) r12.1).setIfInBounds ((Int.toNat 2)) (U64 (e16 + x18))).toList[(Int.toNat 2)]?) fun e36 =>
 Option.bind (p_Add64 r26.2 r29.2 0) fun r37 =>
 Option.bind (p_Add64 r26.1 r29.1 r37.2) fun r38 =>
 Option.bind (p_Add64 0 0 r38.2) fun r39 =>
 Option.bind (p_Add64 r38.1 r32.2 0) fun r40 =>
 Option.bind (p_Add64 r39.1 r32.1 r40.2) fun r41 =>
 Option.bind (p_Add64 r40.1 (U64 (e34 * a1)) 0) fun r42 =>
 Option.bind (p_Add64 r41.1 (U64 (e36 * a2)) r42.2) fun r43 =>
 Option.bind (p_Add64 r37.1 r23.1 0) fun r44 =>
 Option.bind (p_Add64 r42.1 0 r44.2) fun r45 =>
 Option.bind (p_Add64 r43.1 0 r45.2) fun r46 =>
 Option.bind (p_poly_sum_add_rdd_q N (bandn .u64 r45.1 3) r46.1 (S_poly_Mac.mk (S_poly_sum.mk (#v[r23.2, r44.1, band .u64 r45.1 3])) a3.gmade a3.gr0 a3.gr1 a3.gs0 a3.gs1 a3.grest a3.gall)) fun r47 =>
 letO (bor .u64 (shr .u64 r45.1 2) (shl .u64 r46.1 62)) fun x49 =>
 Option.bind (p_poly_sum_add_rdd_q N x49 (shr .u64 r46.1 2) (S_poly_Mac.mk (S_poly_sum.mk r47) ((S_poly_Mac.mk (S_poly_sum.mk (#v[r23.2, r44.1, band .u64 r45.1 3])) a3.gmade a3.gr0 a3.gr1 a3.gs0 a3.gs1 a3.grest a3.gall).gmade) ((S_poly_Mac.mk (S_poly_sum.mk (#v[r23.2, r44.1, band .u64 r45.1 3])) a3.gmade a3.gr0 a3.gr1 a3.gs0 a3.gs1 a3.grest a3.gall).gr0) ((S_poly_Mac.mk (S_poly_sum.mk (#v[r23.2, r44.1, band .u64 r45.1 3])) a3.gmade a3.gr0 a3.gr1 a3.gs0 a3.gs1 a3.grest a3.gall).gr1) ((S_poly_Mac.mk (S_poly_sum.mk (#v[r23.2, r44.1, band .u64 r45.1 3])) a3.gmade a3.gr0 a3.gr1 a3.gs0 a3.gs1 a3.grest a3.gall).gs0) ((S_poly_Mac.mk (S_poly_sum.mk (#v[r23.2, r44.1, band .u64 r45.1 3])) a3.gmade a3.gr0 a3.gr1 a3.gs0 a3.gs1 a3.grest a3.gall).gs1) ((S_poly_Mac.mk (S_poly_sum.mk (#v[r23.2, r44.1, band .u64 r45.1 3])) a3.gmade a3.gr0 a3.gr1 a3.gs0 a3.gs1 a3.grest a3.gall).grest) ((S_poly_Mac.mk (S_poly_sum.mk (#v[r23.2, r44.1, band .u64 r45.1 3])) a3.gmade a3.gr0 a3.gr1 a3.gs0 a3.gs1 a3.grest a3.gall).gall))) fun r50 =>
 some ((r50, (S_poly_Mac.mk (S_poly_sum.mk r47) ((S_poly_Mac.mk (S_poly_sum.mk (#v[r23.2, r44.1, band .u64 r45.1 3])) a3.gmade a3.gr0 a3.gr1 a3.gs0 a3.gs1 a3.grest a3.gall).gmade) ((S_poly_Mac.mk (S_poly_sum.mk (#v[r23.2, r44.1, band .u64 r45.1 3])) a3.gmade a3.gr0 a3.gr1 a3.gs0 a3.gs1 a3.grest a3.gall).gr0) ((S_poly_Mac.mk (S_poly_sum.mk (#v[r23.2, r44.1, band .u64 r45.1 3])) a3.gmade a3.gr0 a3.gr1 a3.gs0 a3.gs1 a3.grest a3.gall).gr1) ((S_poly_Mac.mk (S_poly_sum.mk (#v[r23.2, r44.1, band .u64 r45.1 3])) a3.gmade a3.gr0 a3.gr1 a3.gs0 a3.gs1 a3.grest a3.gall).gs0) ((S_poly_Mac.mk (S_poly_sum.mk (#v[r23.2, r44.1, band .u64 r45.1 3])) a3.gmade a3.gr0 a3.gr1 a3.gs0 a3.gs1 a3.grest a3.gall).gs1) ((S_poly_Mac.mk (S_poly_sum.mk (#v[r23.2, r44.1, band .u64 r45.1 3])) a3.gmade a3.gr0 a3.gr1 a3.gs0 a3.gs1 a3.grest a3.gall).grest) ((S_poly_Mac.mk (S_poly_sum.mk (#v[r23.2, r44.1, band .u64 r45.1 3])) a3.gmade a3.gr0 a3.gr1 a3.gs0 a3.gs1 a3.grest a3.gall).gall)).gmade, (S_poly_Mac.mk (S_poly_sum.mk r47) ((S_poly_Mac.mk (S_poly_sum.mk (#v[r23.2, r44.1, band .u64 r45.1 3])) a3.gmade a3.gr0 a3.gr1 a3.gs0 a3.gs1 a3.grest a3.gall).gmade) ((S_poly_Mac.mk (S_poly_sum.mk (#v[r23.2, r44.1, band .u64 r45.1 3])) a3.gmade a3.gr0 a3.gr1 a3.gs0 a3.gs1 a3.grest a3.gall).gr0) ((S_poly_Mac.mk (S_poly_sum.mk (#v[r23.2, r44.1, band .u64 r45.1 3])) a3.gmade a3.gr0 a3.gr1 a3.gs0 a3.gs1 a3.grest a3.gall).gr1) ((S_poly_Mac.mk (S_poly_sum.mk (#v[r23.2, r44.1, band .u64 r45.1 3])) a3.gmade a3.gr0 a3.gr1 a3.gs0 a3.gs1 a3.grest a3.gall).gs0) ((S_poly_Mac.mk (S_poly_sum.mk (#v[r23.2, r44.1, band .u64 r45.1 3])) a3.gmade a3.gr0 a3.gr1 a3.gs0 a3.gs1 a3.grest a3.gall).gs1) ((S_poly_Mac.mk (S_poly_sum.mk (#v[r23.2, r44.1, band .u64 r45.1 3])) a3.gmade a3.gr0 a3.gr1 a3.gs0 a3.gs1 a3.grest a3.gall).grest) ((S_poly_Mac.mk (S_poly_sum.mk (#v[r23.2, r44.1, band .u64 r45.1 3])) a3.gmade a3.gr0 a3.gr1 a3.gs0 a3.gs1 a3.grest a3.gall).gall)).gr0, (S_poly_Mac.mk (S_poly_sum.mk r47) ((S_poly_Mac.mk (S_poly_sum.mk (#v[r23.2, r44.1, band .u64 r45.1 3])) a3.gmade a3.gr0 a3.gr1 a3.gs0 a3.gs1 a3.grest a3.gall).gmade) ((S_poly_Mac.mk (S_poly_sum.mk (#v[r23.2, r44.1, band .u64 r45.1 3])) a3.gmade a3.gr0 a3.gr1 a3.gs0 a3.gs1 a3.grest a3.gall).gr0) ((S_poly_Mac.mk (S_poly_sum.mk (#v[r23.2, r44.1, band .u64 r45.1 3])) a3.gmade a3.gr0 a3.gr1 a3.gs0 a3.gs1 a3.grest a3.gall).gr1) ((S_poly_Mac.mk (S_poly_sum.mk (#v[r23.2, r44.1, band .u64 r45.1 3])) a3.gmade a3.gr0 a3.gr1 a3.gs0 a3.gs1 a3.grest a3.gall).gs0) ((S_poly_Mac.mk (S_poly_sum.mk (#v[r23.2, r44.1, band .u64 r45.1 3])) a3.gmade a3.gr0 a3.gr1 a3.gs0 a3.gs1 a3.grest a3.gall).gs1) ((S_poly_Mac.mk (S_poly_sum.mk (#v[r23.2, r44.1, band .u64 r45.1 3])) a3.gmade a3.gr0 a3.gr1 a3.gs0 a3.gs1 a3.grest a3.gall).grest) ((S_poly_Mac.mk (S_poly_sum.mk (#v[r23.2, r44.1, band .u64 r45.1 3])) a3.gmade a3.gr0 a3.gr1 a3.gs0 a3.gs1 a3.grest a3.gall).gall)).gr1, (S_poly_Mac.mk (S_poly_sum.mk r47) ((S_poly_Mac.mk (S_poly_sum.mk (#v[r23.2, r44.1, band .u64 r45.1 3])) a3.gmade a3.gr0 a3.gr1 a3.gs0 a3.gs1 a3.grest a3.gall).gmade) ((S_poly_Mac.mk (S_poly_sum.mk (#v[r23.2, r44.1, band .u64 r45.1 3])) a3.gmade a3.gr0 a3.gr1 a3.gs0 a3.gs1 a3.grest a3.gall).gr0) ((S_poly_Mac.mk (S_poly_sum.mk (#v[r23.2, r44.1, band .u64 r45.1 3])) a3.gmade a3.gr0 a3.gr1 a3.gs0 a3.gs1 a3.grest a3.gall).gr1) ((S_poly_Mac.mk (S_poly_sum.mk (#v[r23.2, r44.1, band .u64 r45.1 3])) a3.gmade a3.gr0 a3.gr1 a3.gs0 a3.gs1 a3.grest a3.gall).gs0) ((S_poly_Mac.mk (S_poly_sum.mk (#v[r23.2, r44.1, band .u64 r45.1 3])) a3.gmade a3.gr0 a3.gr1 a3.gs0 a3.gs1 a3.grest a3.gall).gs1) ((S_poly_Mac.mk (S_poly_sum.mk (#v[r23.2, r44.1, band .u64 r45.1 3])) a3.gmade a3.gr0 a3.gr1 a3.gs0 a3.gs1 a3.grest a3.gall).grest) ((S_poly_Mac.mk (S_poly_sum.mk (#v[r23.2, r44.1, band .u64 r45.1 3])) a3.gmade a3.gr0 a3.gr1 a3.gs0 a3.gs1 a3.grest a3.gall).gall)).gs0, (S_poly_Mac.mk (S_poly_sum.mk r47) ((S_poly_Mac.mk (S_poly_sum.mk (#v[r23.2, r44.1, band .u64 r45.1 3])) a3.gmade a3.gr0 a3.gr1 a3.gs0 a3.gs1 a3.grest a3.gall).gmade) ((S_poly_Mac.mk (S_poly_sum.mk (#v[r23.2, r44.1, band .u64 r45.1 3])) a3.gmade a3.gr0 a3.gr1 a3.gs0 a3.gs1 a3.grest a3.gall).gr0) ((S_poly_Mac.mk (S_poly_sum.mk (#v[r23.2, r44.1, band .u64 r45.1 3])) a3.gmade a3.gr0 a3.gr1 a3.gs0 a3.gs1 a3.grest a3.gall).gr1) ((S_poly_Mac.mk (S_poly_sum.mk (#v[r23.2, r44.1, band .u64 r45.1 3])) a3.gmade a3.gr0 a3.gr1 a3.gs0 a3.gs1 a3.grest a3.gall).gs0) ((S_poly_Mac.mk (S_poly_sum.mk (#v[r23.2, r44.1, band .u64 r45.1 3])) a3.gmade a3.gr0 a3.gr1 a3.gs0 a3.gs1 a3.grest a3.gall).gs1) ((S_poly_Mac.mk (S_poly_sum.mk (#v[r23.2, r44.1, band .u64 r45.1 3])) a3.gmade a3.gr0 a3.gr1 a3.gs0 a3.gs1 a3.grest a3.gall).grest) ((S_poly_Mac.mk (S_poly_sum.mk (#v[r23.2, r44.1, band .u64 r45.1 3])) a3.gmade a3.gr0 a3.gr1 a3.gs0 a3.gs1 a3.grest a3.gall).gall)).gs1, (S_poly_Mac.mk (S_poly_sum.mk r47) ((S_poly_Mac.mk (S_poly_sum.mk (#v[r23.2, r44.1, band .u64 r45.1 3])) a3.gmade a3.gr0 a3.gr1 a3.gs0 a3.gs1 a3.grest a3.gall).gmade) ((S_poly_Mac.mk (S_poly_sum.mk (#v[r23.2, r44.1, band .u64 r45.1 3])) a3.gmade a3.gr0 a3.gr1 a3.gs0 a3.gs1 a3.grest a3.gall).gr0) ((S_poly_Mac.mk (S_poly_sum.mk (#v[r23.2, r44.1, band .u64 r45.1 3])) a3.gmade a3.gr0 a3.gr1 a3.gs0 a3.gs1 a3.grest a3.gall).gr1) ((S_poly_Mac.mk (S_poly_sum.mk (#v[r23.2, r44.1, band .u64 r45.1 3])) a3.gmade a3.gr0 a3.gr1 a3.gs0 a3.gs1 a3.grest a3.gall).gs0) ((S_poly_Mac.mk (S_poly_sum.mk (#v[r23.2, r44.1, band .u64 r45.1 3])) a3.gmade a3.gr0 a3.gr1 a3.gs0 a3.gs1 a3.grest a3.gall).gs1) ((S_poly_Mac.mk (S_poly_sum.mk (#v[r23.2, r44.1, band .u64 r45.1 3])) a3.gmade a3.gr0 a3.gr1 a3.gs0 a3.gs1 a3.grest a3.gall).grest) ((S_poly_Mac.mk (S_poly_sum.mk (#v[r23.2, r44.1, band .u64 r45.1 3])) a3.gmade a3.gr0 a3.gr1 a3.gs0 a3.gs1 a3.grest a3.gall).gall)).grest, (S_poly_Mac.mk (S_poly_sum.mk r47) ((S_poly_Mac.mk (S_poly_sum.mk (#v[r23.2, r44.1, band .u64 r45.1 3])) a3.gmade a3.gr0 a3.gr1 a3.gs0 a3.gs1 a3.grest a3.gall).gmade) ((S_poly_Mac.mk (S_poly_sum.mk (#v[r23.2, r44.1, band .u64 r45.1 3])) a3.gmade a3.gr0 a3.gr1 a3.gs0 a3.gs1 a3.grest a3.gall).gr0) ((S_poly_Mac.mk (S_poly_sum.mk (#v[r23.2, r44.1, band .u64 r45.1 3])) a3.gmade a3.gr0 a3.gr1 a3.gs0 a3.gs1 a3.grest a3.gall).gr1) ((S_poly_Mac.mk (S_poly_sum.mk (#v[r23.2, r44.1, band .u64 r45.1 3])) a3.gmade a3.gr0 a3.gr1 a3.gs0 a3.gs1 a3.grest a3.gall).gs0) ((S_poly_Mac.mk (S_poly_sum.mk (#v[r23.2, r44.1, band .u64 r45.1 3])) a3.gmade a3.gr0 a3.gr1 a3.gs0 a3.gs1 a3.grest a3.gall).gs1) ((S_poly_Mac.mk (S_poly_sum.mk (#v[r23.2, r44.1, band .u64 r45.1 3])) a3.gmade a3.gr0 a3.gr1 a3.gs0 a3.gs1 a3.grest a3.gall).grest) ((S_poly_Mac.mk (S_poly_sum.mk (#v[r23.2, r44.1, band .u64 r45.1 3])) a3.gmade a3.gr0 a3.gr1 a3.gs0 a3.gs1 a3.grest a3.gall).gall)).gall))

theorem poly_sum_step_rddd_q_ok {N : Nat} {a0 : (Vector Int 17)} {a1 : Int} {a2 : Int} {a3 : S_poly_Mac} {r : (Vector Int 3) × Bool × Int × Int × Int × Int × (List Int) × Int} (h : p_poly_sum_step_rddd_q N a0 a1 a2 a3 = some r) : FnM Try.prog 86 [.var (S_poly_Mac.enc a3)] [(.ref 0 [0] 0), (eA 17 1 k8 a0), (k64 a1), (k64 a2)] (.tup []) [.var (.st 10 [(.st 3 [(eA 3 1 k64 r.1)]), (eB r.2.1), (k64 r.2.2.1), (k64 r.2.2.2.1), (k64 r.2.2.2.2.1), (k64 r.2.2.2.2.2.1), (eL 1 k8 r.2.2.2.2.2.2.1), (j64 r.2.2.2.2.2.2.2)])] := by
 unfold p_poly_sum_step_rddd_q at h
 refine fnM_of_aw (m := 184) (lo := 1) (rs := []) hT Try.func86 rfl (by kernel_rfl) rfl ?_
 refine aw_sregU hT m_poly_sum_step_rddd_q [] (by kernel_rfl) ?_
 refine aw_sregU hT m_poly_sum_step_rddd_q [] (by kernel_rfl) ?_
 refine aw_sregU hT m_poly_sum_step_rddd_q [] (by kernel_rfl) ?_
 obtain ⟨u1, hu1, h⟩ := obind h
 obtain ⟨e2, he2, h⟩ := obind h
 obtain ⟨s3, hs3, h⟩ := obind h
 obtain ⟨r4, hr4, h⟩ := obind h
 obtain ⟨r5, hr5, h⟩ := obind h
 obtain ⟨u6, hu6, h⟩ := obind h
 obtain ⟨e7, he7, h⟩ := obind h
 refine aw_sdrawVS hT hmo m_poly_sum_step_rddd_q [(0, (.ref 1 [(Int.toNat 0)] (0 + (Int.toNat 0) * 1))), (1, (k64 e2)), (2, (eL 1 k8 s3)), (3, (k64 r4)), (4, (.tup [(k64 r5.1), (k64 r5.2)])), (8, (.ref 1 [(Int.toNat 0)] (0 + (Int.toNat 0) * 1)))] [[[.var (S_poly_Mac.enc a3), .var (eA 3 1 k64 a3.gsum.gh)]], [[.var (S_poly_Mac.enc a3), .var (eA 3 1 k64 a3.gsum.gh)]], [[.var (S_poly_Mac.enc a3), .var (eA 3 1 k64 a3.gsum.gh)]], [[.var (S_poly_Mac.enc a3), .var (eA 3 1 k64 a3.gsum.gh)]], [[.var (S_poly_Mac.enc a3), .var (eA 3 1 k64 a3.gsum.gh)]], [[.var (S_poly_Mac.enc a3), .var (eA 3 1 k64 a3.gsum.gh)]]] [(9, fun _ => ((.v (.bool false)), [.var (S_poly_Mac.enc a3), .var (eA 3 1 k64 (a3.gsum.gh.setIfInBounds ((Int.toNat 0)) r5.1))]))] (by kernel_rfl) (by kernel_rfl) (by kernel_rfl) (by kernel_rfl) ⟨⟨big_adR hT (k := 1) 1 [] 0 hu1, trivial⟩, ⟨big_at (big_ldE hT k64 0 he2), trivial⟩, ⟨big_slI hT (N := 17) (k := 1) k8 a0 hs3, trivial⟩, ⟨big_call0 (poly_number_ok hr4) poly_number_ok_c (by kernel_rfl) (by kernel_rfl) (by kernel_rfl), trivial⟩, ⟨big_nat (n_Add64 hr5) (fun _ => rv_tup2), trivial⟩, ⟨big_adR hT (k := 1) 1 [] 0 hu6, trivial⟩, trivial⟩ ⟨big_at (big_stV hT k64 0 a3.gsum.gh he7 r5.1 (by kernel_rfl) (by kernel_rfl) (H' := [.var (S_poly_Mac.enc a3), .var (eA 3 1 k64 (a3.gsum.gh.setIfInBounds ((Int.toNat 0)) r5.1))])), trivial⟩ ?_
 obtain ⟨u8, hu8, h⟩ := obind h
 obtain ⟨e9, he9, h⟩ := obind h
 obtain ⟨s10, hs10, h⟩ := obind h
 obtain ⟨r11, hr11, h⟩ := obind h
 obtain ⟨r12, hr12, h⟩ := obind h
 obtain ⟨u13, hu13, h⟩ := obind h
 obtain ⟨e14, he14, h⟩ := obind h
 refine aw_sdrawVS hT hmo m_poly_sum_step_rddd_q [(0, (.ref 1 [(Int.toNat 1)] (0 + (Int.toNat 1) * 1))), (1, (k64 e9)), (2, (eL 1 k8 s10)), (3, (k64 r11)), (5, (.tup [(k64 r12.1), (k64 r12.2)])), (9, (.ref 1 [(Int.toNat 1)] (0 + (Int.toNat 1) * 1)))] [[[.var (S_poly_Mac.enc a3), .var (eA 3 1 k64 (a3.gsum.gh.setIfInBounds ((Int.toNat 0)) r5.1))]], [[.var (S_poly_Mac.enc a3), .var (eA 3 1 k64 (a3.gsum.gh.setIfInBounds ((Int.toNat 0)) r5.1))]], [[.var (S_poly_Mac.enc a3), .var (eA 3 1 k64 (a3.gsum.gh.setIfInBounds ((Int.toNat 0)) r5.1))]], [[.var (S_poly_Mac.enc a3), .var (eA 3 1 k64 (a3.gsum.gh.setIfInBounds ((Int.toNat 0)) r5.1))]], [[.var (S_poly_Mac.enc a3), .var (eA 3 1 k64 (a3.gsum.gh.setIfInBounds ((Int.toNat 0)) r5.1))]], [[.var (S_poly_Mac.enc a3), .var (eA 3 1 k64 (a3.gsum.gh.setIfInBounds ((Int.toNat 0)) r5.1))]]] [(10, fun _ => ((.v (.bool false)), [.var (S_poly_Mac.enc a3), .var (eA 3 1 k64 ((a3.gsum.gh.setIfInBounds ((Int.toNat 0)) r5.1).setIfInBounds ((Int.toNat 1)) r12.1))]))] (by kernel_rfl) (by kernel_rfl) (by kernel_rfl) (by kernel_rfl) ⟨⟨big_adR hT (k := 1) 1 [] 0 hu8, trivial⟩, ⟨big_at (big_ldE hT k64 0 he9), trivial⟩, ⟨big_slI hT (N := 17) (k := 1) k8 a0 hs10, trivial⟩, ⟨big_call0 (poly_number_ok hr11) poly_number_ok_c (by kernel_rfl) (by kernel_rfl) (by kernel_rfl), trivial⟩, ⟨big_nat (n_Add64 hr12) (fun _ => rv_tup2), trivial⟩, ⟨big_adR hT (k := 1) 1 [] 0 hu13, trivial⟩, trivial⟩ ⟨big_at (big_stV hT k64 0 (a3.gsum.gh.setIfInBounds ((Int.toNat 0)) r5.1) he14 r12.1 (by kernel_rfl) (by kernel_rfl) (H' := [.var (S_poly_Mac.enc a3), .var (eA 3 1 k64 ((a3.gsum.gh.setIfInBounds ((Int.toNat 0)) r5.1).setIfInBounds ((Int.toNat 1)) r12.1))])), trivial⟩ ?_
 refine aw_sreg ?_
 obtain ⟨u15, hu15, h⟩ := obind h
 refine awl_big (big_adR hT (k := 1) 1 [] 0 hu15) (by kernel_rfl) ?_
 obtain ⟨e16, he16, h⟩ := obind h
 refine awl_big (big_ldE hT k64 0 he16) (by kernel_rfl) ?_
 first | refine awl_to ⟨[en 0 (.ref 0 [0] 0), en 2 (k64 a1), en 3 (k64 a2), en 5 (.im (eA 17 1 k8 a0)), en 8 (.ref 1 [] 0), en 9 (k64 r12.2), en 55 (k64 e16)], [.var (S_poly_Mac.enc a3), .var (eA 3 1 k64 ((a3.gsum.gh.setIfInBounds ((Int.toNat 0)) r5.1).setIfInBounds ((Int.toNat 1)) r12.1))]⟩ (by kernel_rfl) ?_ | skip
 obtain ⟨e17, he17, h⟩ := obind h
 refine awl_big (big_adI hT (N := 17) (k := 1) k8 a0 he17) (by kernel_rfl) ?_
 obtain ⟨x18, hx18, h⟩ := letE h
 refine awl_u hT m_poly_sum_step_rddd_q [] 5 (by kernel_rfl) ?_
 refine awl_nms [(61, (k64 (U64 (e16 + x18))))] (by subst hx18; kernel_rfl) ?_
 obtain ⟨u19, hu19, h⟩ := obind h
 refine awl_big (big_adR hT (k := 1) 1 [] 0 hu19) (by kernel_rfl) ?_
 obtain ⟨e20, he20, h⟩ := obind h
 refine awl_big (big_stV hT k64 0 ((a3.gsum.gh.setIfInBounds ((Int.toNat 0)) r5.1).setIfInBounds ((Int.toNat 1)) r12.1) he20 (U64 (e16 + x18)) (by kernel_rfl) (by kernel_rfl) (H' := [.var (S_poly_Mac.enc a3), .var (eA 3 1 k64 (((a3.gsum.gh.setIfInBounds ((Int.toNat 0)) r5.1).setIfInBounds ((Int.toNat 1)) r12.1).setIfInBounds ((Int.toNat 2)) (U64 (e16 + x18))))])) (by kernel_rfl) ?_
 refine awl_nil ?_
 refine aw_sreg ?_
 obtain ⟨u21, hu21, h⟩ := obind h
 refine awl_big (big_adR hT (k := 1) 1 [] 0 hu21) (by kernel_rfl) ?_
 first | refine awl_to ⟨[en 0 (.ref 0 [0] 0), en 2 (k64 a1), en 3 (k64 a2), en 8 (.ref 1 [] 0), en 64 (.ref 1 [(Int.toNat 0)] (0 + (Int.toNat 0) * 1))], [.var (S_poly_Mac.enc a3), .var (eA 3 1 k64 (((a3.gsum.gh.setIfInBounds ((Int.toNat 0)) r5.1).setIfInBounds ((Int.toNat 1)) r12.1).setIfInBounds ((Int.toNat 2)) (U64 (e16 + x18))))]⟩ (by kernel_rfl) ?_ | skip
 obtain ⟨e22, he22, h⟩ := obind h
 refine awl_big (big_ldE hT k64 0 he22) (by kernel_rfl) ?_
 refine awl_u hT m_poly_sum_step_rddd_q [] 1 (by kernel_rfl) ?_
 obtain ⟨r23, hr23, h⟩ := obind h
 refine awl_big (big_call [] (math_bits_Mul64_ok hr23) math_bits_Mul64_ok_c) (by kernel_rfl) ?_
 refine awl_u hT m_poly_sum_step_rddd_q [] 5 (by kernel_rfl) ?_
 refine awl_nil ?_
 refine aw_sreg ?_
 obtain ⟨u24, hu24, h⟩ := obind h
 refine awl_big (big_adR hT (k := 1) 1 [] 0 hu24) (by kernel_rfl) ?_
 obtain ⟨e25, he25, h⟩ := obind h
 refine awl_big (big_ldE hT k64 0 he25) (by kernel_rfl) ?_
 first | refine awl_to ⟨[en 0 (.ref 0 [0] 0), en 2 (k64 a1), en 3 (k64 a2), en 8 (.ref 1 [] 0), en 10 (k64 r23.1), en 11 (k64 r23.2), en 72 (k64 e25)], [.var (S_poly_Mac.enc a3), .var (eA 3 1 k64 (((a3.gsum.gh.setIfInBounds ((Int.toNat 0)) r5.1).setIfInBounds ((Int.toNat 1)) r12.1).setIfInBounds ((Int.toNat 2)) (U64 (e16 + x18))))]⟩ (by kernel_rfl) ?_ | skip
 refine awl_u hT m_poly_sum_step_rddd_q [] 1 (by kernel_rfl) ?_
 obtain ⟨r26, hr26, h⟩ := obind h
 refine awl_big (big_call [] (math_bits_Mul64_ok hr26) math_bits_Mul64_ok_c) (by kernel_rfl) ?_
 refine awl_u hT m_poly_sum_step_rddd_q [] 5 (by kernel_rfl) ?_
 refine awl_nil ?_
 refine aw_sreg ?_
 obtain ⟨u27, hu27, h⟩ := obind h
 refine awl_big (big_adR hT (k := 1) 1 [] 0 hu27) (by kernel_rfl) ?_
 obtain ⟨e28, he28, h⟩ := obind h
 refine awl_big (big_ldE hT k64 0 he28) (by kernel_rfl) ?_
 refine awl_u hT m_poly_sum_step_rddd_q [] 1 (by kernel_rfl) ?_
 obtain ⟨r29, hr29, h⟩ := obind h
 refine awl_big (big_call [] (math_bits_Mul64_ok hr29) math_bits_Mul64_ok_c) (by kernel_rfl) ?_
 first | refine awl_to ⟨[en 0 (.ref 0 [0] 0), en 2 (k64 a1), en 3 (k64 a2), en 8 (.ref 1 [] 0), en 10 (k64 r23.1), en 11 (k64 r23.2), en 12 (k64 r26.1), en 13 (k64 r26.2), en 81 (.tup [(k64 r29.1), (k64 r29.2)])], [.var (S_poly_Mac.enc a3), .var (eA 3 1 k64 (((a3.gsum.gh.setIfInBounds ((Int.toNat 0)) r5.1).setIfInBounds ((Int.toNat 1)) r12.1).setIfInBounds ((Int.toNat 2)) (U64 (e16 + x18))))]⟩ (by kernel_rfl) ?_ | skip
 refine awl_u hT m_poly_sum_step_rddd_q [] 5 (by kernel_rfl) ?_
 refine awl_nil ?_
 refine aw_sreg ?_
 obtain ⟨u30, hu30, h⟩ := obind h
 refine awl_big (big_adR hT (k := 1) 1 [] 0 hu30) (by kernel_rfl) ?_
 obtain ⟨e31, he31, h⟩ := obind h
 refine awl_big (big_ldE hT k64 0 he31) (by kernel_rfl) ?_
 refine awl_u hT m_poly_sum_step_rddd_q [] 1 (by kernel_rfl) ?_
 obtain ⟨r32, hr32, h⟩ := obind h
 refine awl_big (big_call [] (math_bits_Mul64_ok hr32) math_bits_Mul64_ok_c) (by kernel_rfl) ?_
 refine awl_u hT m_poly_sum_step_rddd_q [] 5 (by kernel_rfl) ?_
 refine awl_nil ?_
 obtain ⟨u33, hu33, h⟩ := obind h
 obtain ⟨e34, he34, h⟩ := obind h
 obtain ⟨u35, hu35, h⟩ := obind h
 obtain ⟨e36, he36, h⟩ := obind h
 refine aw_sdrawVS hT hmo m_poly_sum_step_rddd_q [(0, (.ref 1 [(Int.toNat 2)] (0 + (Int.toNat 2) * 1))), (1, (k64 e34)), (4, (.ref 1 [(Int.toNat 2)] (0 + (Int.toNat 2) * 1))), (5, (k64 e36))] [[[.var (S_poly_Mac.enc a3), .var (eA 3 1 k64 (((a3.gsum.gh.setIfInBounds ((Int.toNat 0)) r5.1).setIfInBounds ((Int.toNat 1)) r12.1).setIfInBounds ((Int.toNat 2)) (U64 (e16 + x18))))]], [[.var (S_poly_Mac.enc a3), .var (eA 3 1 k64 (((a3.gsum.gh.setIfInBounds ((Int.toNat 0)) r5.1).setIfInBounds ((Int.toNat 1)) r12.1).setIfInBounds ((Int.toNat 2)) (U64 (e16 + x18))))]], [[.var (S_poly_Mac.enc a3), .var (eA 3 1 k64 (((a3.gsum.gh.setIfInBounds ((Int.toNat 0)) r5.1).setIfInBounds ((Int.toNat 1)) r12.1).setIfInBounds ((Int.toNat 2)) (U64 (e16 + x18))))]], [[.var (S_poly_Mac.enc a3), .var (eA 3 1 k64 (((a3.gsum.gh.setIfInBounds ((Int.toNat 0)) r5.1).setIfInBounds ((Int.toNat 1)) r12.1).setIfInBounds ((Int.toNat 2)) (U64 (e16 + x18))))]]] [] (by kernel_rfl) (by kernel_rfl) (by kernel_rfl) (by kernel_rfl) ⟨⟨big_adR hT (k := 1) 1 [] 0 hu33, trivial⟩, ⟨big_at (big_ldE hT k64 0 he34), trivial⟩, ⟨big_adR hT (k := 1) 1 [] 0 hu35, trivial⟩, ⟨big_at (big_ldE hT k64 0 he36), trivial⟩, trivial⟩ trivial ?_
 refine aw_sreg ?_
 refine awl_u hT m_poly_sum_step_rddd_q [] 2 (by kernel_rfl) ?_
 obtain ⟨r37, hr37, h⟩ := obind h
 refine awl_big (big_nat (n_Add64 hr37) (fun _ => rv_tup2)) (by kernel_rfl) ?_
 first | refine awl_to ⟨[en 0 (.ref 0 [0] 0), en 10 (k64 r23.1), en 11 (k64 r23.2), en 12 (k64 r26.1), en 14 (k64 r29.1), en 16 (k64 r32.1), en 17 (k64 r32.2), en 18 (k64 (U64 (e34 * a1))), en 19 (k64 (U64 (e36 * a2))), en 102 (.tup [(k64 r37.1), (k64 r37.2)])], [.var (S_poly_Mac.enc a3), .var (eA 3 1 k64 (((a3.gsum.gh.setIfInBounds ((Int.toNat 0)) r5.1).setIfInBounds ((Int.toNat 1)) r12.1).setIfInBounds ((Int.toNat 2)) (U64 (e16 + x18))))]⟩ (by kernel_rfl) ?_ | skip
 refine awl_u hT m_poly_sum_step_rddd_q [] 5 (by kernel_rfl) ?_
 refine awl_nil ?_
 refine aw_sreg ?_
 refine awl_u hT m_poly_sum_step_rddd_q [] 3 (by kernel_rfl) ?_
 obtain ⟨r38, hr38, h⟩ := obind h
 refine awl_big (big_nat (n_Add64 hr38) (fun _ => rv_tup2)) (by kernel_rfl) ?_
 refine awl_u hT m_poly_sum_step_rddd_q [] 5 (by kernel_rfl) ?_
 refine awl_nil ?_
 refine aw_sreg ?_
 refine awl_u hT m_poly_sum_step_rddd_q [] 1 (by kernel_rfl) ?_
 obtain ⟨r39, hr39, h⟩ := obind h
 refine awl_big (big_nat (n_Add64 hr39) (fun _ => rv_tup2)) (by kernel_rfl) ?_
 refine awl_u hT m_poly_sum_step_rddd_q [] 5 (by kernel_rfl) ?_
 refine awl_nil ?_
 refine aw_sreg ?_
 refine awl_u hT m_poly_sum_step_rddd_q [] 2 (by kernel_rfl) ?_
 obtain ⟨r40, hr40, h⟩ := obind h
 refine awl_big (big_nat (n_Add64 hr40) (fun _ => rv_tup2)) (by kernel_rfl) ?_
 refine awl_u hT m_poly_sum_step_rddd_q [] 5 (by kernel_rfl) ?_
 refine awl_nil ?_
 refine aw_sreg ?_
 refine awl_u hT m_poly_sum_step_rddd_q [] 3 (by kernel_rfl) ?_
 obtain ⟨r41, hr41, h⟩ := obind h
 refine awl_big (big_nat (n_Add64 hr41) (fun _ => rv_tup2)) (by kernel_rfl) ?_
 first | refine awl_to ⟨[en 0 (.ref 0 [0] 0), en 10 (k64 r23.1), en 11 (k64 r23.2), en 18 (k64 (U64 (e34 * a1))), en 19 (k64 (U64 (e36 * a2))), en 20 (k64 r37.1), en 22 (k64 r40.1), en 127 (.tup [(k64 r41.1), (k64 r41.2)])], [.var (S_poly_Mac.enc a3), .var (eA 3 1 k64 (((a3.gsum.gh.setIfInBounds ((Int.toNat 0)) r5.1).setIfInBounds ((Int.toNat 1)) r12.1).setIfInBounds ((Int.toNat 2)) (U64 (e16 + x18))))]⟩ (by kernel_rfl) ?_ | skip
 refine awl_u hT m_poly_sum_step_rddd_q [] 4 (by kernel_rfl) ?_
 refine awl_nil ?_
 refine aw_sreg ?_
 refine awl_u hT m_poly_sum_step_rddd_q [] 2 (by kernel_rfl) ?_
 obtain ⟨r42, hr42, h⟩ := obind h
 refine awl_big (big_nat (n_Add64 hr42) (fun _ => rv_tup2)) (by kernel_rfl) ?_
 refine awl_u hT m_poly_sum_step_rddd_q [] 5 (by kernel_rfl) ?_
 refine awl_nil ?_
 refine aw_sreg ?_
 refine awl_u hT m_poly_sum_step_rddd_q [] 3 (by kernel_rfl) ?_
 obtain ⟨r43, hr43, h⟩ := obind h
 refine awl_big (big_nat (n_Add64 hr43) (fun _ => rv_tup2)) (by kernel_rfl) ?_
 refine awl_u hT m_poly_sum_step_rddd_q [] 4 (by kernel_rfl) ?_
 refine awl_nil ?_
 refine aw_sregU hT m_poly_sum_step_rddd_q [] (by kernel_rfl) ?_
 refine aw_sreg ?_
 refine awl_u hT m_poly_sum_step_rddd_q [] 2 (by kernel_rfl) ?_
 obtain ⟨r44, hr44, h⟩ := obind h
 refine awl_big (big_nat (n_Add64 hr44) (fun _ => rv_tup2)) (by kernel_rfl) ?_
 refine awl_u hT m_poly_sum_step_rddd_q [] 5 (by kernel_rfl) ?_
 refine awl_nil ?_
 refine aw_sreg ?_
 refine awl_u hT m_poly_sum_step_rddd_q [] 2 (by kernel_rfl) ?_
 obtain ⟨r45, hr45, h⟩ := obind h
 refine awl_big (big_nat (n_Add64 hr45) (fun _ => rv_tup2)) (by kernel_rfl) ?_
 first | refine awl_to ⟨[en 0 (.ref 0 [0] 0), en 24 (k64 r43.1), en 26 (k64 r23.2), en 27 (k64 r44.1), en 153 (.tup [(k64 r45.1), (k64 r45.2)])], [.var (S_poly_Mac.enc a3), .var (eA 3 1 k64 (((a3.gsum.gh.setIfInBounds ((Int.toNat 0)) r5.1).setIfInBounds ((Int.toNat 1)) r12.1).setIfInBounds ((Int.toNat 2)) (U64 (e16 + x18))))]⟩ (by kernel_rfl) ?_ | skip
 refine awl_u hT m_poly_sum_step_rddd_q [] 5 (by kernel_rfl) ?_
 refine awl_nil ?_
 refine aw_sreg ?_
 refine awl_u hT m_poly_sum_step_rddd_q [] 2 (by kernel_rfl) ?_
 obtain ⟨r46, hr46, h⟩ := obind h
 refine awl_big (big_nat (n_Add64 hr46) (fun _ => rv_tup2)) (by kernel_rfl) ?_
 refine awl_u hT m_poly_sum_step_rddd_q [] 5 (by kernel_rfl) ?_
 refine awl_nil ?_
 refine aw_sregU hT m_poly_sum_step_rddd_q [] (by kernel_rfl) ?_
 refine aw_sreg ?_
 refine awl_u hT m_poly_sum_step_rddd_q [] 4 (by kernel_rfl) ?_
 obtain ⟨r47, hr47, h⟩ := obind h
 refine awl_big (big_call [0] (poly_sum_add_rdd_q_ok hr47) poly_sum_add_rdd_q_ok_c) (by kernel_rfl) ?_
 refine awl_nil ?_
 refine aw_region ?_
 obtain ⟨x49, hx49, h⟩ := letE h
 refine awl_u hT m_poly_sum_step_rddd_q [] 8 (by kernel_rfl) ?_
 refine awl_nms [(180, (k64 x49))] (by subst hx49; kernel_rfl) ?_
 obtain ⟨r50, hr50, h⟩ := obind h
 refine awl_big (big_call [0] (poly_sum_add_rdd_q_ok hr50) poly_sum_add_rdd_q_ok_c) (by kernel_rfl) ?_
 refine awl_nil ?_
 cases h
 exact fin_n (by kernel_rfl)

theorem poly_sum_step_rddd_q_ok_c : callable Try.prog 86 := ⟨_, Try.func86, by decide, rfl⟩

end Go.UK

