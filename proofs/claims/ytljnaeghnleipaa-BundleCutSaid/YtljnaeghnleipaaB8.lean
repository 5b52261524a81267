/- A part of the proof: what the functions of the program compute. -/
import Derived.Test.YtljnaeghnleipaaB7
namespace Go.UK
open Go Go.Proofs
set_option maxRecDepth 20000
set_option maxHeartbeats 4000000
set_option linter.all false

attribute [local irreducible] owp awl aw FnM NatFn opS Stab TOK Big
def p_poly_Mac_Add_rd_L1 (N : Nat) (a1 : (List (List Int))) : Nat → (List Int) → Int → Int → Option ((List Int) × Int)
 | 0, _, _, _ => none
 | k + 1, s2, s3, s4 =>
  letO (decide (s4 < ((a1.length : Int)))) fun x5 =>
  cond x5 (
   Option.bind (idx a1 s4) fun e6 =>
   letO (imin ((e6.length : Int)) (I64 (65536 - s3))) fun x8 =>
   Option.bind (slcO e6 0 x8) fun s9 =>
   letO (I64 (s3 + ((s9.length : Int)))) fun x10 =>
   Option.bind (appO 1 s2 s9) fun z11 =>
   p_poly_Mac_Add_rd_L1 N a1 k z11 ((I64 (s3 + ((s9.length : Int))))) (I64 (s4 + 1))) (
   some ((s2, s3)))

def p_poly_Mac_Add_rd_L2 (N : Nat)  : Nat → (Vector Int 3) → Bool → Int → Int → Int → Int → (List Int) → Int → Option ((Vector Int 3) × Bool × Int × Int × Int × Int × (List Int) × Int)
 | 0, _, _, _, _, _, _, _, _ => none
 | k + 1, s13, s14, s15, s16, s17, s18, s19, s20 =>
  letO (decide (((s19.length : Int)) ≥ 16)) fun x21 =>
  cond x21 (
   Option.bind (slcO s19 0 16) fun s22 =>
   Option.bind (p_poly_Blocks N s22) fun r23 =>
   Option.bind (idx r23 0) fun e24 =>
   Option.bind (p_poly_sum_step_rddd_q N e24 s15 s16 (S_poly_Mac.mk (S_poly_sum.mk s13) s14 s15 s16 s17 s18 s19 s20)) fun r25 =>
   Option.bind (slcO r25.2.2.2.2.2.2.1 16 ((r25.2.2.2.2.2.2.1.length : Int))) fun s26 =>
   p_poly_Mac_Add_rd_L2 N k r25.1 r25.2.1 r25.2.2.1 r25.2.2.2.1 r25.2.2.2.2.1 r25.2.2.2.2.2.1 s26 r25.2.2.2.2.2.2.2) (
   some ((s13, s14, s15, s16, s17, s18, s19, s20)))

def p_poly_Mac_Add_rd (N : Nat) (b1 : (List Int)) (a1 : (List (List Int))) (a2 : S_poly_sum) (a3 : Bool) (a4 : Int) (a5 : Int) (a6 : Int) (a7 : Int) (a8 : Int) : Option ((List Int) × (Vector Int 3) × Bool × Int × Int × Int × Int × (List Int) × Int) :=
 cond (!a3) (
  some ((b1, a2.gh, a3, a4, a5, a6, a7, b1, a8))) (
  Option.bind (p_poly_Mac_Add_rd_L1 N a1 N b1 a8 0) fun p1 =>
  Option.bind (p_poly_Mac_Add_rd_L2 N N a2.gh a3 a4 a5 a6 a7 p1.1 p1.2) fun p12 =>
  some ((p1.1, p12.1, p12.2.1, p12.2.2.1, p12.2.2.2.1, p12.2.2.2.2.1, p12.2.2.2.2.2.1, p12.2.2.2.2.2.2.1, p12.2.2.2.2.2.2.2)))

theorem poly_Mac_Add_rd_ok {N : Nat} {b1 : (List Int)} {a1 : (List (List Int))} {a2 : S_poly_sum} {a3 : Bool} {a4 : Int} {a5 : Int} {a6 : Int} {a7 : Int} {a8 : Int} {r : (List Int) × (Vector Int 3) × Bool × Int × Int × Int × Int × (List Int) × Int} (h : p_poly_Mac_Add_rd N b1 a1 a2 a3 a4 a5 a6 a7 a8 = some r) : FnM Try.prog 72 [.var (.st 10 [(S_poly_sum.enc a2), (eB a3), (k64 a4), (k64 a5), (k64 a6), (k64 a7), (eO 1 1 k8 b1), (j64 a8)]), .tail (b1.length * 1)] [(.ref 0 [] 0), (eL 1 (eL 1 k8) a1)] (.tup []) [.var (.st 10 [(.st 3 [(eA 3 1 k64 r.2.1)]), (eB r.2.2.1), (k64 r.2.2.2.1), (k64 r.2.2.2.2.1), (k64 r.2.2.2.2.2.1), (k64 r.2.2.2.2.2.2.1), (eL 1 k8 r.2.2.2.2.2.2.2.1), (j64 r.2.2.2.2.2.2.2.2)]), .tail (r.1.length * 1)] := by
 unfold p_poly_Mac_Add_rd at h
 refine fnM_of_aw (m := 84) (lo := 2) (rs := []) hT Try.func72 rfl (by kernel_rfl) rfl ?_
 refine aw_seq ?_
 refine aw_sreg ?_
 refine awl_u hT m_no [] 1 (by kernel_rfl) ?_
 refine awl_big (big_eqp hT (t := 124) (x := (.ref 0 [] 0)) (b := true) (by kernel_rfl) rfl rfl (by kernel_rfl)) (by kernel_rfl) ?_
 refine awl_u hT m_no [8] 7 (by kernel_rfl) ?_
 refine awl_nil ?_
 refine aw_condH h (by kernel_rfl) (fun _ h => ?_) (fun _ h => ?_)
 ·refine aw_ret (tn_r ?_)
  cases h
  exact fin_r
 ·refine aw_skip (tn_n ?_)
  refine aw_seq ?_
  refine aw_sregU hT m_no [] (by kernel_rfl) ?_
  obtain ⟨p1, h, g1⟩ := obind h
  refine aw_joinTK ⟨[en 0 (.ref 0 [] 0)], [.var (.st 10 [(S_poly_sum.enc a2), (eB a3), (k64 a4), (k64 a5), (k64 a6), (k64 a7), (eO 1 1 k8 p1.1), (j64 p1.2)]), .tail (p1.1.length * 1)]⟩ ?_ ?_
  ·refine aw_block (aw_loop (fun k s => ∃ s2 s3 s4, p_poly_Mac_Add_rd_L1 N a1 k s2 s3 s4 = some p1 ∧ JR (Fr.f 84 2) ⟨[en 0 (.ref 0 [] 0), en 15 (eL 1 (eL 1 k8) a1), en 16 (j64 ((a1.length : Int))), en 17 (j64 s4)], [.var (.st 10 [(S_poly_sum.enc a2), (eB a3), (k64 a4), (k64 a5), (k64 a6), (k64 a7), (eO 1 1 k8 s2), (j64 s3)]), .tail (s2.length * 1)]⟩ s) (fun k s hI => ?_) N _ ⟨_, _, _, h, jr⟩)
   obtain ⟨s2, s3, s4, h, hj⟩ := hI
   cases k with
   | zero => cases h
   | succ k =>
    refine aw_jr hj ?_
    obtain ⟨x5, hx5, h⟩ := letE h
    refine aw_sregU hT m_no [] (by kernel_rfl) ?_
    refine aw_nms [(18, (eB x5))] (by subst hx5; kernel_rfl) ?_
    refine aw_seq ?_
    refine aw_condH h (by kernel_rfl) (fun _ h => ?_) (fun _ h => ?_)
    ·refine aw_skip (tn_n ?_)
     refine aw_seq ?_
     refine aw_block ?_
     refine aw_sreg ?_
     obtain ⟨e6, he6, h⟩ := obind h
     refine awl_big (big_idx hT (eL 1 k8) he6) (by kernel_rfl) ?_
     refine awl_u hT m_no [] 2 (by kernel_rfl) ?_
     refine awl_nil ?_
     refine aw_sreg ?_
     obtain ⟨x8, hx8, h⟩ := letE h
     refine awl_u hT m_no [] 9 (by kernel_rfl) ?_
     refine awl_nms [(29, (j64 x8))] (by subst hx8; kernel_rfl) ?_
     obtain ⟨s9, hs9, h⟩ := obind h
     refine awl_big (big_slc hT (k := 1) k8 hs9) (by kernel_rfl) ?_
     refine awl_u hT m_no [] 1 (by kernel_rfl) ?_
     refine awl_nil ?_
     obtain ⟨x10, hx10, h⟩ := letE h
     refine aw_sregU hT m_no [] (by kernel_rfl) ?_
     refine aw_region ?_
     refine awl_u hT m_no [] 6 (by kernel_rfl) ?_
     obtain ⟨z11, hz11, h⟩ := obind h
     refine awl_big (big_app hT k8 (id := 1) (k := 1) hz11) (by kernel_rfl) ?_
     refine awl_u hT m_no [] 3 (by kernel_rfl) ?_
     refine awl_nil (inB_n (tn_n ?_))
     refine aw_regU hT m_no [] (by kernel_rfl) (tn_n ?_)
     exact ⟨k, Nat.lt_succ_self k, _, _, _, h, jr⟩
    ·refine aw_exit (tn_x (tn_x (inB_e (tn_n ?_))))
     cases h
     exact jr
  ·have h := g1
   refine (tn_n ?_)
   obtain ⟨p12, h, g12⟩ := obind h
   refine aw_joinTK ⟨[], [.var (.st 10 [(.st 3 [(eA 3 1 k64 p12.1)]), (eB p12.2.1), (k64 p12.2.2.1), (k64 p12.2.2.2.1), (k64 p12.2.2.2.2.1), (k64 p12.2.2.2.2.2.1), (eL 1 k8 p12.2.2.2.2.2.2.1), (j64 p12.2.2.2.2.2.2.2)]), .tail (p1.1.length * 1)]⟩ ?_ ?_
   ·refine aw_block (aw_loop (fun k s => ∃ s13 s14 s15 s16 s17 s18 s19 s20, p_poly_Mac_Add_rd_L2 N k s13 s14 s15 s16 s17 s18 s19 s20 = some p12 ∧ JR (Fr.f 84 2) ⟨[en 0 (.ref 0 [] 0)], [.var (.st 10 [(.st 3 [(eA 3 1 k64 s13)]), (eB s14), (k64 s15), (k64 s16), (k64 s17), (k64 s18), (eL 1 k8 s19), (j64 s20)]), .tail (p1.1.length * 1)]⟩ s) (fun k s hI => ?_) N _ ⟨_, _, _, _, _, _, _, _, h, jr⟩)
    obtain ⟨s13, s14, s15, s16, s17, s18, s19, s20, h, hj⟩ := hI
    cases k with
    | zero => cases h
    | succ k =>
     refine aw_jr hj ?_
     refine aw_seq ?_
     obtain ⟨x21, hx21, h⟩ := letE h
     refine aw_sregU hT m_no [] (by kernel_rfl) ?_
     refine aw_nms [(55, (eB x21))] (by subst hx21; kernel_rfl) ?_
     refine aw_condH h (by kernel_rfl) (fun _ h => ?_) (fun _ h => ?_)
     ·refine aw_skip (tn_n ?_)
      refine aw_block ?_
      obtain ⟨s22, hs22, h⟩ := obind h
      obtain ⟨r23, hr23, h⟩ := obind h
      obtain ⟨e24, he24, h⟩ := obind h
      obtain ⟨r25, hr25, h⟩ := obind h
      refine aw_sdrawV hT hmo m_no [(7, (eL 1 k8 s22)), (8, (eL 17 (eA 17 1 k8) r23)), (9, (.im (eA 17 1 k8 e24)))] [(19, fun _ => ((.tup []), [.var (.st 10 [(.st 3 [(eA 3 1 k64 r25.1)]), (eB r25.2.1), (k64 r25.2.2.1), (k64 r25.2.2.2.1), (k64 r25.2.2.2.2.1), (k64 r25.2.2.2.2.2.1), (eL 1 k8 r25.2.2.2.2.2.2.1), (j64 r25.2.2.2.2.2.2.2)]), .tail (p1.1.length * 1)]))] (by kernel_rfl) (by kernel_rfl) (by kernel_rfl) ⟨fun _ => big_slc hT (k := 1) k8 hs22, fun _ => big_call0 (poly_Blocks_ok hr23) poly_Blocks_ok_c (by kernel_rfl) (by kernel_rfl) (by kernel_rfl), fun _ => big_idx hT (eA 17 1 k8) he24, trivial⟩ ⟨big_at (big_call [0] (poly_sum_step_rddd_q_ok hr25) poly_sum_step_rddd_q_ok_c), trivial⟩ ?_
      refine aw_region ?_
      refine awl_u hT m_no [] 5 (by kernel_rfl) ?_
      obtain ⟨s26, hs26, h⟩ := obind h
      refine awl_big (big_slc hT (k := 1) k8 hs26) (by kernel_rfl) ?_
      refine awl_u hT m_no [] 3 (by kernel_rfl) ?_
      refine awl_nil (inB_n (tn_n ?_))
      exact ⟨k, Nat.lt_succ_self k, _, _, _, _, _, _, _, _, h, jr⟩
     ·refine aw_exit (tn_x (tn_x (inB_e (tn_n ?_))))
      cases h
      exact jr
   ·have h := g12
    refine ?_
    cases h
    exact fin_n (by kernel_rfl)

theorem poly_Mac_Add_rd_ok_c : callable Try.prog 72 := ⟨_, Try.func72, by decide, rfl⟩

def p_poly_sum_add_rdd_q_q (N : Nat) (a0 : Int) (a1 : Int) (a2 : S_poly_sum) : Option ((Vector Int 3)) :=
 Option.bind (inRO 0 3) fun _ =>
 Option.bind (a2.gh.toList[(Int.toNat 0)]?) fun e2 =>
 Option.bind (p_Add64 e2 a0 0) fun r3 =>
 Option.bind (inRO 0 3) fun _ =>
 Option.bind (a2.gh.toList[(Int.toNat 0)]?) fun e5 =>
 Option.bind (inRO 1 3) fun _ =>
 Option.bind ((a2.gh.setIfInBounds ((Int.toNat 0)) r3.1).toList[(Int.toNat 1)]?) fun e7 =>
 Option.bind (p_Add64 e7 a1 r3.2) fun r8 =>
 Option.bind (inRO 1 3) fun _ =>
 Option.bind ((a2.gh.setIfInBounds ((Int.toNat 0)) r3.1).toList[(Int.toNat 1)]?) fun e10 =>
 Option.bind (inRO 2 3) fun _ =>
 Option.bind (((a2.gh.setIfInBounds ((Int.toNat 0)) r3.1).setIfInBounds ((Int.toNat 1)) r8.1).toList[(Int.toNat 2)]?) fun e12 =>
 Option.bind (inRO 2 3) fun _ =>
 Option.bind (((a2.gh.setIfInBounds ((Int.toNat 0)) r3.1).setIfInBounds ((Int.toNat 1)) r8.1).toList[(Int.toNat 2)]?) fun e14 =>
 some (((a2.gh.setIfInBounds ((Int.toNat 0)) r3.1).setIfInBounds ((Int.toNat 1)) r8.1).setIfInBounds ((Int.toNat 2)) (U64 (e12 + r8.2)))

theorem poly_sum_add_rdd_q_q_ok {N : Nat} {a0 : Int} {a1 : Int} {a2 : S_poly_sum} {r : (Vector Int 3)} (h : p_poly_sum_add_rdd_q_q N a0 a1 a2 = some r) : FnM Try.prog 99 [.var (S_poly_sum.enc a2)] [(.ref 0 [] 0), (k64 a0), (k64 a1)] (.tup []) [.var (.st 3 [(eA 3 1 k64 r)])] := by
 unfold p_poly_sum_add_rdd_q_q at h
 refine fnM_of_aw (m := 46) (lo := 1) (rs := []) hT Try.func99 rfl (by kernel_rfl) rfl ?_
 refine aw_sregU hT m_no [] (by kernel_rfl) ?_
 obtain ⟨u1, hu1, h⟩ := obind h
 obtain ⟨e2, he2, h⟩ := obind h
 obtain ⟨r3, hr3, h⟩ := obind h
 obtain ⟨u4, hu4, h⟩ := obind h
 obtain ⟨e5, he5, h⟩ := obind h
 refine aw_sdrawVS hT hmo m_no [(4, (.ref 0 [0, (Int.toNat 0)] (0 + (Int.toNat 0) * 1))), (5, (k64 e2)), (7, (.tup [(k64 r3.1), (k64 r3.2)])), (13, (.ref 0 [0, (Int.toNat 0)] (0 + (Int.toNat 0) * 1)))] [[[.var (S_poly_sum.enc a2)]], [[.var (S_poly_sum.enc a2)]], [[.var (S_poly_sum.enc a2)]], [[.var (S_poly_sum.enc a2)]]] [(14, fun _ => ((.v (.bool false)), [.var (.st 3 [(eA 3 1 k64 (a2.gh.setIfInBounds ((Int.toNat 0)) r3.1))])]))] (by kernel_rfl) (by kernel_rfl) (by kernel_rfl) (by kernel_rfl) ⟨⟨big_adR hT (k := 1) 0 [0] 0 hu1, trivial⟩, ⟨big_at (big_ldE hT k64 1 he2), trivial⟩, ⟨big_nat (n_Add64 hr3) (fun _ => rv_tup2), trivial⟩, ⟨big_adR hT (k := 1) 0 [0] 0 hu4, trivial⟩, trivial⟩ ⟨big_at (big_stV hT k64 1 a2.gh he5 r3.1 (by kernel_rfl) (by kernel_rfl) (H' := [.var (.st 3 [(eA 3 1 k64 (a2.gh.setIfInBounds ((Int.toNat 0)) r3.1))])])), trivial⟩ ?_
 obtain ⟨u6, hu6, h⟩ := obind h
 obtain ⟨e7, he7, h⟩ := obind h
 obtain ⟨r8, hr8, h⟩ := obind h
 obtain ⟨u9, hu9, h⟩ := obind h
 obtain ⟨e10, he10, h⟩ := obind h
 refine aw_sdrawVS hT hmo m_no [(4, (.ref 0 [0, (Int.toNat 1)] (0 + (Int.toNat 1) * 1))), (5, (k64 e7)), (8, (.tup [(k64 r8.1), (k64 r8.2)])), (14, (.ref 0 [0, (Int.toNat 1)] (0 + (Int.toNat 1) * 1)))] [[[.var (.st 3 [(eA 3 1 k64 (a2.gh.setIfInBounds ((Int.toNat 0)) r3.1))])]], [[.var (.st 3 [(eA 3 1 k64 (a2.gh.setIfInBounds ((Int.toNat 0)) r3.1))])]], [[.var (.st 3 [(eA 3 1 k64 (a2.gh.setIfInBounds ((Int.toNat 0)) r3.1))])]], [[.var (.st 3 [(eA 3 1 k64 (a2.gh.setIfInBounds ((Int.toNat 0)) r3.1))])]]] [(15, fun _ => ((.v (.bool false)), [.var (.st 3 [(eA 3 1 k64 ((a2.gh.setIfInBounds ((Int.toNat 0)) r3.1).setIfInBounds ((Int.toNat 1)) r8.1))])]))] (by kernel_rfl) (by kernel_rfl) (by kernel_rfl) (by kernel_rfl) ⟨⟨big_adR hT (k := 1) 0 [0] 0 hu6, trivial⟩, ⟨big_at (big_ldE hT k64 1 he7), trivial⟩, ⟨big_nat (n_Add64 hr8) (fun _ => rv_tup2), trivial⟩, ⟨big_adR hT (k := 1) 0 [0] 0 hu9, trivial⟩, trivial⟩ ⟨big_at (big_stV hT k64 1 (a2.gh.setIfInBounds ((Int.toNat 0)) r3.1) he10 r8.1 (by kernel_rfl) (by kernel_rfl) (H' := [.var (.st 3 [(eA 3 1 k64 ((a2.gh.setIfInBounds ((Int.toNat 0)) r3.1).setIfInBounds ((Int.toNat 1)) r8.1))])])), trivial⟩ ?_
 obtain ⟨u11, hu11, h⟩ := obind h
 obtain ⟨e12, he12, h⟩ := obind h
 obtain ⟨u13, hu13, h⟩ := obind h
 obtain ⟨e14, he14, h⟩ := obind h
 refine aw_drawMS hT hmo m_no [(3, (.ref 0 [0, (Int.toNat 2)] (0 + (Int.toNat 2) * 1))), (4, (k64 e12)), (9, (.ref 0 [0, (Int.toNat 2)] (0 + (Int.toNat 2) * 1)))] [[[.var (.st 3 [(eA 3 1 k64 ((a2.gh.setIfInBounds ((Int.toNat 0)) r3.1).setIfInBounds ((Int.toNat 1)) r8.1))])]], [[.var (.st 3 [(eA 3 1 k64 ((a2.gh.setIfInBounds ((Int.toNat 0)) r3.1).setIfInBounds ((Int.toNat 1)) r8.1))])]], [[.var (.st 3 [(eA 3 1 k64 ((a2.gh.setIfInBounds ((Int.toNat 0)) r3.1).setIfInBounds ((Int.toNat 1)) r8.1))])]]] [(10, fun _ => ((.v (.bool false)), [.var (.st 3 [(eA 3 1 k64 (((a2.gh.setIfInBounds ((Int.toNat 0)) r3.1).setIfInBounds ((Int.toNat 1)) r8.1).setIfInBounds ((Int.toNat 2)) (U64 (e12 + r8.2))))])]))] (by kernel_rfl) (by kernel_rfl) (by kernel_rfl) (by kernel_rfl) ⟨⟨big_adR hT (k := 1) 0 [0] 0 hu11, trivial⟩, ⟨big_at (big_ldE hT k64 1 he12), trivial⟩, ⟨big_adR hT (k := 1) 0 [0] 0 hu13, trivial⟩, trivial⟩ ⟨big_at (big_stV hT k64 1 ((a2.gh.setIfInBounds ((Int.toNat 0)) r3.1).setIfInBounds ((Int.toNat 1)) r8.1) he14 (U64 (e12 + r8.2)) (by kernel_rfl) (by kernel_rfl) (H' := [.var (.st 3 [(eA 3 1 k64 (((a2.gh.setIfInBounds ((Int.toNat 0)) r3.1).setIfInBounds ((Int.toNat 1)) r8.1).setIfInBounds ((Int.toNat 2)) (U64 (e12 + r8.2))))])])), trivial⟩ ?_
 cases h
 exact fin_n (by kernel_rfl)

theorem poly_sum_add_rdd_q_q_ok_c : callable Try.prog 99 := ⟨_, Try.func99, by decide, rfl⟩

def m_poly_sum_step_rddd_q_q : Nat → Bool := imL [5]

def p_poly_sum_step_rddd_q_q (N : Nat) (a0 : (Vector Int 17)) (a1 : Int) (a2 : Int) (a3 : S_poly_sum) : Option ((Vector Int 3)) :=
 Option.bind (inRO 0 3) fun _ =>
 Option.bind (a3.gh.toList[(Int.toNat 0)]?) fun e2 =>
 Option.bind (slcO a0.toList 0 8) fun s3 =>
 Option.bind (p_poly_number N s3) fun r4 =>
 Option.bind (p_Add64 e2 r4 0) fun r5 =>
 Option.bind (inRO 0 3) fun _ =>
 Option.bind (a3.gh.toList[(Int.toNat 0)]?) fun e7 =>
 Option.bind (inRO 1 3) fun _ =>
 Option.bind ((a3.gh.setIfInBounds ((Int.toNat 0)) r5.1).toList[(Int.toNat 1)]?) fun e9 =>
 Option.bind (slcO a0.toList 8 16) fun s10 =>
 Option.bind (p_poly_number N s10) fun r11 =>
 Option.bind (p_Add64 e9 r11 r5.2) fun r12 =>
 Option.bind (inRO 1 3) fun _ =>
 Option.bind ((a3.gh.setIfInBounds ((Int.toNat 0)) r5.1).toList[(Int.toNat 1)]?) fun e14 =>
 Option.bind (inRO 2 3) fun _ =>
 Option.bind (((a3.gh.setIfInBounds ((Int.toNat 0)) r5.1).setIfInBounds ((Int.toNat 1)) r12.1).toList[(Int.toNat 2)]?) fun e16 =>
 Option.bind (idx a0.toList 16) fun e17 =>
 letO (U64 ((U64 e17) + r12.2)) fun x18 =>
 Option.bind (inRO 2 3) fun _ =>
 Option.bind (((a3.gh.setIfInBounds ((Int.toNat 0)) r5.1).setIfInBounds ((Int.toNat 1)) r12.1).toList[(Int.toNat 2)]?) fun e20 =>
 Option.bind (inRO 0 3) fun _ =>
 Option.bind ((((a3.gh.setIfInBounds ((Int.toNat 0)) r5.1).setIfInBounds ((Int.toNat 1)) r12.1).setIfInBounds ((Int.toNat 2)) (U64 (e16 + x18))).toList[(Int.toNat 0)]?) fun e22 =>
 Option.bind (p_math_bits_Mul64 N e22 a1) fun r23 =>
 Option.bind (inRO 1 3) fun _ =>
 Option.bind ((((a3.gh.setIfInBounds ((Int.toNat 0)) r5.1).setIfInBounds ((Int.toNat 1)) r12.1).setIfInBounds ((Int.toNat 2)) (U64 (e16 + x18))).toList[(Int.toNat 1)]?) fun e25 =>
 Option.bind (p_math_bits_Mul64 N e25 a1) fun r26 =>
 Option.bind (inRO 0 3) fun _ =>
 Option.bind ((((a3.gh.setIfInBounds ((Int.toNat 0)) r5.1).setIfInBounds ((Int.toNat 1)) r12.1).setIfInBounds ((Int.toNat 2)) (U64 (e16 + x18))).toList[(Int.toNat 0)]?) fun e28 =>
 Option.bind (p_math_bits_Mul64 N e28 a2) fun r29 =>
 Option.bind (inRO 1 3) fun _ =>
 Option.bind ((((a3.gh.setIfInBounds ((Int.toNat 0)) r5.1).setIfInBounds ((Int.toNat 1)) r12.1).setIfInBounds ((Int.toNat 2)) (U64 (e16 + x18))).toList[(Int.toNat 1)]?) fun e31 =>
 Option.bind (p_math_bits_Mul64 N e31 a2) fun r32 =>
 Option.bind (inRO 2 3) fun _ =>
 Option.bind ((((a3.gh.setIfInBounds ((Int.toNat 0)) r5.1).setIfInBounds ((Int.toNat 1)) r12.1).setIfInBounds ((Int.toNat 2)) (U64 (e16 + x18))).toList[(Int.toNat 2)]?) fun e34 =>
 Option.bind (inRO 2 3) fun _ =>
 Option.bind ((((a3.gh.setIfInBounds ((Int.toNat 0)) r5.1).setIfInBounds ((Int.toNat 1)) r12.1).setIfInBounds ((Int.toNat 2)) (U64 (e16 + x18))).toList[(Int.toNat 2)]?) fun e36 =>
 Option.bind (p_Add64 r26.2 r29.2 0) fun r37 =>
 Option.bind (p_Add64 r26.1 r29.1 r37.2) fun r38 =>
 Option.bind (p_Add64 0 0 r38.2) fun r39 =>
 Option.bind (p_Add64 r38.1 r32.2 0) fun r40 =>
 Option.bind (p_Add64 r39.1 r32.1 r40.2) fun r41 =>
 Option.bind (p_Add64 r40.1 (U64 (e34 * a1)) 0) fun r42 =>
 Option.bind (p_Add64 r41.1 (U64 (e36 * a2)) r42.2) fun r43 =>
 Option.bind (p_Add64 r37.1 r23.1 0) fun r44 =>
 Option.bind (p_Add64 r42.1 0 r44.2) fun r45 =>
 Option.bind (p_Add64 r43.1 0 r45.2) fun r46 =>
 Option.bind (p_poly_sum_add_rdd_q_q N (bandn .u64 r45.1 3) r46.1 (S_poly_sum.mk (#v[r23.2, r44.1, band .u64 r45.1 3]))) fun r47 =>
 letO (bor .u64 (shr .u64 r45.1 2) (shl .u64 r46.1 62)) fun x49 =>
 Option.bind (p_poly_sum_add_rdd_q_q N x49 (shr .u64 r46.1 2) (S_poly_sum.mk r47)) fun r50 =>
 some r50

theorem poly_sum_step_rddd_q_q_ok {N : Nat} {a0 : (Vector Int 17)} {a1 : Int} {a2 : Int} {a3 : S_poly_sum} {r : (Vector Int 3)} (h : p_poly_sum_step_rddd_q_q N a0 a1 a2 a3 = some r) : FnM Try.prog 86 [.var (S_poly_sum.enc a3)] [(.ref 0 [] 0), (eA 17 1 k8 a0), (k64 a1), (k64 a2)] (.tup []) [.var (.st 3 [(eA 3 1 k64 r)])] := by
 unfold p_poly_sum_step_rddd_q_q at h
 refine fnM_of_aw (m := 184) (lo := 1) (rs := []) hT Try.func86 rfl (by kernel_rfl) rfl ?_
 refine aw_sregU hT m_poly_sum_step_rddd_q_q [] (by kernel_rfl) ?_
 refine aw_sregU hT m_poly_sum_step_rddd_q_q [] (by kernel_rfl) ?_
 refine aw_sregU hT m_poly_sum_step_rddd_q_q [] (by kernel_rfl) ?_
 obtain ⟨u1, hu1, h⟩ := obind h
 obtain ⟨e2, he2, h⟩ := obind h
 obtain ⟨s3, hs3, h⟩ := obind h
 obtain ⟨r4, hr4, h⟩ := obind h
 obtain ⟨r5, hr5, h⟩ := obind h
 obtain ⟨u6, hu6, h⟩ := obind h
 obtain ⟨e7, he7, h⟩ := obind h
 refine aw_sdrawVS hT hmo m_poly_sum_step_rddd_q_q [(0, (.ref 1 [(Int.toNat 0)] (0 + (Int.toNat 0) * 1))), (1, (k64 e2)), (2, (eL 1 k8 s3)), (3, (k64 r4)), (4, (.tup [(k64 r5.1), (k64 r5.2)])), (8, (.ref 1 [(Int.toNat 0)] (0 + (Int.toNat 0) * 1)))] [[[.var (S_poly_sum.enc a3), .var (eA 3 1 k64 a3.gh)]], [[.var (S_poly_sum.enc a3), .var (eA 3 1 k64 a3.gh)]], [[.var (S_poly_sum.enc a3), .var (eA 3 1 k64 a3.gh)]], [[.var (S_poly_sum.enc a3), .var (eA 3 1 k64 a3.gh)]], [[.var (S_poly_sum.enc a3), .var (eA 3 1 k64 a3.gh)]], [[.var (S_poly_sum.enc a3), .var (eA 3 1 k64 a3.gh)]]] [(9, fun _ => ((.v (.bool false)), [.var (S_poly_sum.enc a3), .var (eA 3 1 k64 (a3.gh.setIfInBounds ((Int.toNat 0)) r5.1))]))] (by kernel_rfl) (by kernel_rfl) (by kernel_rfl) (by kernel_rfl) ⟨⟨big_adR hT (k := 1) 1 [] 0 hu1, trivial⟩, ⟨big_at (big_ldE hT k64 0 he2), trivial⟩, ⟨big_slI hT (N := 17) (k := 1) k8 a0 hs3, trivial⟩, ⟨big_call0 (poly_number_ok hr4) poly_number_ok_c (by kernel_rfl) (by kernel_rfl) (by kernel_rfl), trivial⟩, ⟨big_nat (n_Add64 hr5) (fun _ => rv_tup2), trivial⟩, ⟨big_adR hT (k := 1) 1 [] 0 hu6, trivial⟩, trivial⟩ ⟨big_at (big_stV hT k64 0 a3.gh he7 r5.1 (by kernel_rfl) (by kernel_rfl) (H' := [.var (S_poly_sum.enc a3), .var (eA 3 1 k64 (a3.gh.setIfInBounds ((Int.toNat 0)) r5.1))])), trivial⟩ ?_
 obtain ⟨u8, hu8, h⟩ := obind h
 obtain ⟨e9, he9, h⟩ := obind h
 obtain ⟨s10, hs10, h⟩ := obind h
 obtain ⟨r11, hr11, h⟩ := obind h
 obtain ⟨r12, hr12, h⟩ := obind h
 obtain ⟨u13, hu13, h⟩ := obind h
 obtain ⟨e14, he14, h⟩ := obind h
 refine aw_sdrawVS hT hmo m_poly_sum_step_rddd_q_q [(0, (.ref 1 [(Int.toNat 1)] (0 + (Int.toNat 1) * 1))), (1, (k64 e9)), (2, (eL 1 k8 s10)), (3, (k64 r11)), (5, (.tup [(k64 r12.1), (k64 r12.2)])), (9, (.ref 1 [(Int.toNat 1)] (0 + (Int.toNat 1) * 1)))] [[[.var (S_poly_sum.enc a3), .var (eA 3 1 k64 (a3.gh.setIfInBounds ((Int.toNat 0)) r5.1))]], [[.var (S_poly_sum.enc a3), .var (eA 3 1 k64 (a3.gh.setIfInBounds ((Int.toNat 0)) r5.1))]], [[.var (S_poly_sum.enc a3), .var (eA 3 1 k64 (a3.gh.setIfInBounds ((Int.toNat 0)) r5.1))]], [[.var (S_poly_sum.enc a3), .var (eA 3 1 k64 (a3.gh.setIfInBounds ((Int.toNat 0)) r5.1))]], [[.var (S_poly_sum.enc a3), .var (eA 3 1 k64 (a3.gh.setIfInBounds ((Int.toNat 0)) r5.1))]], [[.var (S_poly_sum.enc a3), .var (eA 3 1 k64 (a3.gh.setIfInBounds ((Int.toNat 0)) r5.1))]]] [(10, fun _ => ((.v (.bool false)), [.var (S_poly_sum.enc a3), .var (eA 3 1 k64 ((a3.gh.setIfInBounds ((Int.toNat 0)) r5.1).setIfInBounds ((Int.toNat 1)) r12.1))]))] (by kernel_rfl) (by kernel_rfl) (by kernel_rfl) (by kernel_rfl) ⟨⟨big_adR hT (k := 1) 1 [] 0 hu8, trivial⟩, ⟨big_at (big_ldE hT k64 0 he9), trivial⟩, ⟨big_slI hT (N := 17) (k := 1) k8 a0 hs10, trivial⟩, ⟨big_call0 (poly_number_ok hr11) poly_number_ok_c (by kernel_rfl) (by kernel_rfl) (by kernel_rfl), trivial⟩, ⟨big_nat (n_Add64 hr12) (fun _ => rv_tup2), trivial⟩, ⟨big_adR hT (k := 1) 1 [] 0 hu13, trivial⟩, trivial⟩ ⟨big_at (big_stV hT k64 0 (a3.gh.setIfInBounds ((Int.toNat 0)) r5.1) he14 r12.1 (by kernel_rfl) (by kernel_rfl) (H' := [.var (S_poly_sum.enc a3), .var (eA 3 1 k64 ((a3.gh.setIfInBounds ((Int.toNat 0)) r5.1).setIfInBounds ((Int.toNat 1)) r12.1))])), trivial⟩ ?_
 refine aw_sreg ?_
 obtain ⟨u15, hu15, h⟩ := obind h
 refine awl_big (big_adR hT (k := 1) 1 [] 0 hu15) (by kernel_rfl) ?_
 obtain ⟨e16, he16, h⟩ := obind h
 refine awl_big (big_ldE hT k64 0 he16) (by kernel_rfl) ?_
 first | refine awl_to ⟨[en 0 (.ref 0 [] 0), en 2 (k64 a1), en 3 (k64 a2), en 5 (.im (eA 17 1 k8 a0)), en 8 (.ref 1 [] 0), en 9 (k64 r12.2), en 55 (k64 e16)], [.var (S_poly_sum.enc a3), .var (eA 3 1 k64 ((a3.gh.setIfInBounds ((Int.toNat 0)) r5.1).setIfInBounds ((Int.toNat 1)) r12.1))]⟩ (by kernel_rfl) ?_ | skip
 obtain ⟨e17, he17, h⟩ := obind h
 refine awl_big (big_adI hT (N := 17) (k := 1) k8 a0 he17) (by kernel_rfl) ?_
 obtain ⟨x18, hx18, h⟩ := letE h
 refine awl_u hT m_poly_sum_step_rddd_q_q [] 5 (by kernel_rfl) ?_
 refine awl_nms [(61, (k64 (U64 (e16 + x18))))] (by subst hx18; kernel_rfl) ?_
 obtain ⟨u19, hu19, h⟩ := obind h
 refine awl_big (big_adR hT (k := 1) 1 [] 0 hu19) (by kernel_rfl) ?_
 obtain ⟨e20, he20, h⟩ := obind h
 refine awl_big (big_stV hT k64 0 ((a3.gh.setIfInBounds ((Int.toNat 0)) r5.1).setIfInBounds ((Int.toNat 1)) r12.1) he20 (U64 (e16 + x18)) (by kernel_rfl) (by kernel_rfl) (H' := [.var (S_poly_sum.enc a3), .var (eA 3 1 k64 (((a3.gh.setIfInBounds ((Int.toNat 0)) r5.1).setIfInBounds ((Int.toNat 1)) r12.1).setIfInBounds ((Int.toNat 2)) (U64 (e16 + x18))))])) (by kernel_rfl) ?_
 refine awl_nil ?_
 refine aw_sreg ?_
 obtain ⟨u21, hu21, h⟩ := obind h
 refine awl_big (big_adR hT (k := 1) 1 [] 0 hu21) (by kernel_rfl) ?_
 first | refine awl_to ⟨[en 0 (.ref 0 [] 0), en 2 (k64 a1), en 3 (k64 a2), en 8 (.ref 1 [] 0), en 64 (.ref 1 [(Int.toNat 0)] (0 + (Int.toNat 0) * 1))], [.var (S_poly_sum.enc a3), .var (eA 3 1 k64 (((a3.gh.setIfInBounds ((Int.toNat 0)) r5.1).setIfInBounds ((Int.toNat 1)) r12.1).setIfInBounds ((Int.toNat 2)) (U64 (e16 + x18))))]⟩ (by kernel_rfl) ?_ | skip
 obtain ⟨e22, he22, h⟩ := obind h
 refine awl_big (big_ldE hT k64 0 he22) (by kernel_rfl) ?_
 refine awl_u hT m_poly_sum_step_rddd_q_q [] 1 (by kernel_rfl) ?_
 obtain ⟨r23, hr23, h⟩ := obind h
 refine awl_big (big_call [] (math_bits_Mul64_ok hr23) math_bits_Mul64_ok_c) (by kernel_rfl) ?_
 refine awl_u hT m_poly_sum_step_rddd_q_q [] 5 (by kernel_rfl) ?_
 refine awl_nil ?_
 refine aw_sreg ?_
 obtain ⟨u24, hu24, h⟩ := obind h
 refine awl_big (big_adR hT (k := 1) 1 [] 0 hu24) (by kernel_rfl) ?_
 obtain ⟨e25, he25, h⟩ := obind h
 refine awl_big (big_ldE hT k64 0 he25) (by kernel_rfl) ?_
 first | refine awl_to ⟨[en 0 (.ref 0 [] 0), en 2 (k64 a1), en 3 (k64 a2), en 8 (.ref 1 [] 0), en 10 (k64 r23.1), en 11 (k64 r23.2), en 72 (k64 e25)], [.var (S_poly_sum.enc a3), .var (eA 3 1 k64 (((a3.gh.setIfInBounds ((Int.toNat 0)) r5.1).setIfInBounds ((Int.toNat 1)) r12.1).setIfInBounds ((Int.toNat 2)) (U64 (e16 + x18))))]⟩ (by kernel_rfl) ?_ | skip
 refine awl_u hT m_poly_sum_step_rddd_q_q [] 1 (by kernel_rfl) ?_
 obtain ⟨r26, hr26, h⟩ := obind h
 refine awl_big (big_call [] (math_bits_Mul64_ok hr26) math_bits_Mul64_ok_c) (by kernel_rfl) ?_
 refine awl_u hT m_poly_sum_step_rddd_q_q [] 5 (by kernel_rfl) ?_
 refine awl_nil ?_
 refine aw_sreg ?_
 obtain ⟨u27, hu27, h⟩ := obind h
 refine awl_big (big_adR hT (k := 1) 1 [] 0 hu27) (by kernel_rfl) ?_
 obtain ⟨e28, he28, h⟩ := obind h
 refine awl_big (big_ldE hT k64 0 he28) (by kernel_rfl) ?_
 refine awl_u hT m_poly_sum_step_rddd_q_q [] 1 (by kernel_rfl) ?_
 obtain ⟨r29, hr29, h⟩ := obind h
 refine awl_big (big_call [] (math_bits_Mul64_ok hr29) math_bits_Mul64_ok_c) (by kernel_rfl) ?_
 first | refine awl_to ⟨[en 0 (.ref 0 [] 0), en 2 (k64 a1), en 3 (k64 a2), en 8 (.ref 1 [] 0), en 10 (k64 r23.1), en 11 (k64 r23.2), en 12 (k64 r26.1), en 13 (k64 r26.2), en 81 (.tup [(k64 r29.1), (k64 r29.2)])], [.var (S_poly_sum.enc a3), .var (eA 3 1 k64 (((a3.gh.setIfInBounds ((Int.toNat 0)) r5.1).setIfInBounds ((Int.toNat 1)) r12.1).setIfInBounds ((Int.toNat 2)) (U64 (e16 + x18))))]⟩ (by kernel_rfl) ?_ | skip
 refine awl_u hT m_poly_sum_step_rddd_q_q [] 5 (by kernel_rfl) ?_
 refine awl_nil ?_
 refine aw_sreg ?_
 obtain ⟨u30, hu30, h⟩ := obind h
 refine awl_big (big_adR hT (k := 1) 1 [] 0 hu30) (by kernel_rfl) ?_
 obtain ⟨e31, he31, h⟩ := obind h
 refine awl_big (big_ldE hT k64 0 he31) (by kernel_rfl) ?_
 refine awl_u hT m_poly_sum_step_rddd_q_q [] 1 (by kernel_rfl) ?_
 obtain ⟨r32, hr32, h⟩ := obind h
 refine awl_big (big_call [] (math_bits_Mul64_ok hr32) math_bits_Mul64_ok_c) (by kernel_rfl) ?_
 refine awl_u hT m_poly_sum_step_rddd_q_q [] 5 (by kernel_rfl) ?_
 refine awl_nil ?_
 obtain ⟨u33, hu33, h⟩ := obind h
 obtain ⟨e34, he34, h⟩ := obind h
 obtain ⟨u35, hu35, h⟩ := obind h
 obtain ⟨e36, he36, h⟩ := obind h
 refine aw_sdrawVS hT hmo m_poly_sum_step_rddd_q_q [(0, (.ref 1 [(Int.toNat 2)] (0 + (Int.toNat 2) * 1))), (1, (k64 e34)), (4, (.ref 1 [(Int.toNat 2)] (0 + (Int.toNat 2) * 1))), (5, (k64 e36))] [[[.var (S_poly_sum.enc a3), .var (eA 3 1 k64 (((a3.gh.setIfInBounds ((Int.toNat 0)) r5.1).setIfInBounds ((Int.toNat 1)) r12.1).setIfInBounds ((Int.toNat 2)) (U64 (e16 + x18))))]], [[.var (S_poly_sum.enc a3), .var (eA 3 1 k64 (((a3.gh.setIfInBounds ((Int.toNat 0)) r5.1).setIfInBounds ((Int.toNat 1)) r12.1).setIfInBounds ((Int.toNat 2)) (U64 (e16 + x18))))]], [[.var (S_poly_sum.enc a3), .var (eA 3 1 k64 (((a3.gh.setIfInBounds ((Int.toNat 0)) r5.1).setIfInBounds ((Int.toNat 1)) r12.1).setIfInBounds ((Int.toNat 2)) (U64 (e16 + x18))))]], [[.var (S_poly_sum.enc a3), .var (eA 3 1 k64 (((a3.gh.setIfInBounds ((Int.toNat 0)) r5.1).setIfInBounds ((Int.toNat 1)) r12.1).setIfInBounds ((Int.toNat 2)) (U64 (e16 + x18))))]]] [] (by kernel_rfl) (by kernel_rfl) (by kernel_rfl) (by kernel_rfl) ⟨⟨big_adR hT (k := 1) 1 [] 0 hu33, trivial⟩, ⟨big_at (big_ldE hT k64 0 he34), trivial⟩, ⟨big_adR hT (k := 1) 1 [] 0 hu35, trivial⟩, ⟨big_at (big_ldE hT k64 0 he36), trivial⟩, trivial⟩ trivial ?_
 refine aw_sreg ?_
 refine awl_u hT m_poly_sum_step_rddd_q_q [] 2 (by kernel_rfl) ?_
 obtain ⟨r37, hr37, h⟩ := obind h
 refine awl_big (big_nat (n_Add64 hr37) (fun _ => rv_tup2)) (by kernel_rfl) ?_
 first | refine awl_to ⟨[en 0 (.ref 0 [] 0), en 10 (k64 r23.1), en 11 (k64 r23.2), en 12 (k64 r26.1), en 14 (k64 r29.1), en 16 (k64 r32.1), en 17 (k64 r32.2), en 18 (k64 (U64 (e34 * a1))), en 19 (k64 (U64 (e36 * a2))), en 102 (.tup [(k64 r37.1), (k64 r37.2)])], [.var (S_poly_sum.enc a3), .var (eA 3 1 k64 (((a3.gh.setIfInBounds ((Int.toNat 0)) r5.1).setIfInBounds ((Int.toNat 1)) r12.1).setIfInBounds ((Int.toNat 2)) (U64 (e16 + x18))))]⟩ (by kernel_rfl) ?_ | skip
 refine awl_u hT m_poly_sum_step_rddd_q_q [] 5 (by kernel_rfl) ?_
 refine awl_nil ?_
 refine aw_sreg ?_
 refine awl_u hT m_poly_sum_step_rddd_q_q [] 3 (by kernel_rfl) ?_
 obtain ⟨r38, hr38, h⟩ := obind h
 refine awl_big (big_nat (n_Add64 hr38) (fun _ => rv_tup2)) (by kernel_rfl) ?_
 refine awl_u hT m_poly_sum_step_rddd_q_q [] 5 (by kernel_rfl) ?_
 refine awl_nil ?_
 refine aw_sreg ?_
 refine awl_u hT m_poly_sum_step_rddd_q_q [] 1 (by kernel_rfl) ?_
 obtain ⟨r39, hr39, h⟩ := obind h
 refine awl_big (big_nat (n_Add64 hr39) (fun _ => rv_tup2)) (by kernel_rfl) ?_
 refine awl_u hT m_poly_sum_step_rddd_q_q [] 5 (by kernel_rfl) ?_
 refine awl_nil ?_
 refine aw_sreg ?_
 refine awl_u hT m_poly_sum_step_rddd_q_q [] 2 (by kernel_rfl) ?_
 obtain ⟨r40, hr40, h⟩ := obind h
 refine awl_big (big_nat (n_Add64 hr40) (fun _ => rv_tup2)) (by kernel_rfl) ?_
 refine awl_u hT m_poly_sum_step_rddd_q_q [] 5 (by kernel_rfl) ?_
 refine awl_nil ?_
 refine aw_sreg ?_
 refine awl_u hT m_poly_sum_step_rddd_q_q [] 3 (by kernel_rfl) ?_
 obtain ⟨r41, hr41, h⟩ := obind h
 refine awl_big (big_nat (n_Add64 hr41) (fun _ => rv_tup2)) (by kernel_rfl) ?_
 first | refine awl_to ⟨[en 0 (.ref 0 [] 0), en 10 (k64 r23.1), en 11 (k64 r23.2), en 18 (k64 (U64 (e34 * a1))), en 19 (k64 (U64 (e36 * a2))), en 20 (k64 r37.1), en 22 (k64 r40.1), en 127 (.tup [(k64 r41.1), (k64 r41.2)])], [.var (S_poly_sum.enc a3), .var (eA 3 1 k64 (((a3.gh.setIfInBounds ((Int.toNat 0)) r5.1).setIfInBounds ((Int.toNat 1)) r12.1).setIfInBounds ((Int.toNat 2)) (U64 (e16 + x18))))]⟩ (by kernel_rfl) ?_ | skip
 refine awl_u hT m_poly_sum_step_rddd_q_q [] 4 (by kernel_rfl) ?_
 refine awl_nil ?_
 refine aw_sreg ?_
 refine awl_u hT m_poly_sum_step_rddd_q_q [] 2 (by kernel_rfl) ?_
 obtain ⟨r42, hr42, h⟩ := obind h
 refine awl_big (big_nat (n_Add64 hr42) (fun _ => rv_tup2)) (by kernel_rfl) ?_
 refine awl_u hT m_poly_sum_step_rddd_q_q [] 5 (by kernel_rfl) ?_
 refine awl_nil ?_
 refine aw_sreg ?_
 refine awl_u hT m_poly_sum_step_rddd_q_q [] 3 (by kernel_rfl) ?_
 obtain ⟨r43, hr43, h⟩ := obind h
 refine awl_big (big_nat (n_Add64 hr43) (fun _ => rv_tup2)) (by kernel_rfl) ?_
 refine awl_u hT m_poly_sum_step_rddd_q_q [] 4 (by kernel_rfl) ?_
 refine awl_nil ?_
 refine aw_sregU hT m_poly_sum_step_rddd_q_q [] (by kernel_rfl) ?_
 refine aw_sreg ?_
 refine awl_u hT m_poly_sum_step_rddd_q_q [] 2 (by kernel_rfl) ?_
 obtain ⟨r44, hr44, h⟩ := obind h
 refine awl_big (big_nat (n_Add64 hr44) (fun _ => rv_tup2)) (by kernel_rfl) ?_
 refine awl_u hT m_poly_sum_step_rddd_q_q [] 5 (by kernel_rfl) ?_
 refine awl_nil ?_
 refine aw_sreg ?_
 refine awl_u hT m_poly_sum_step_rddd_q_q [] 2 (by kernel_rfl) ?_
 obtain ⟨r45, hr45, h⟩ := obind h
 refine awl_big (big_nat (n_Add64 hr45) (fun _ => rv_tup2)) (by kernel_rfl) ?_
 first | refine awl_to ⟨[en 0 (.ref 0 [] 0), en 24 (k64 r43.1), en 26 (k64 r23.2), en 27 (k64 r44.1), en 153 (.tup [(k64 r45.1), (k64 r45.2)])], [.var (S_poly_sum.enc a3), .var (eA 3 1 k64 (((a3.gh.setIfInBounds ((Int.toNat 0)) r5.1).setIfInBounds ((Int.toNat 1)) r12.1).setIfInBounds ((Int.toNat 2)) (U64 (e16 + x18))))]⟩ (by kernel_rfl) ?_ | skip
 refine awl_u hT m_poly_sum_step_rddd_q_q [] 5 (by kernel_rfl) ?_
 refine awl_nil ?_
 refine aw_sreg ?_
 refine awl_u hT m_poly_sum_step_rddd_q_q [] 2 (by kernel_rfl) ?_
 obtain ⟨r46, hr46, h⟩ := obind h
 refine awl_big (big_nat (n_Add64 hr46) (fun _ => rv_tup2)) (by kernel_rfl) ?_
 refine awl_u hT m_poly_sum_step_rddd_q_q [] 5 (by kernel_rfl) ?_
 refine awl_nil ?_
 refine aw_sregU hT m_poly_sum_step_rddd_q_q [] (by kernel_rfl) ?_
 refine aw_sreg ?_
 refine awl_u hT m_poly_sum_step_rddd_q_q [] 4 (by kernel_rfl) ?_
 obtain ⟨r47, hr47, h⟩ := obind h
 refine awl_big (big_call [0] (poly_sum_add_rdd_q_q_ok hr47) poly_sum_add_rdd_q_q_ok_c) (by kernel_rfl) ?_
 refine awl_nil ?_
 refine aw_region ?_
 obtain ⟨x49, hx49, h⟩ := letE h
 refine awl_u hT m_poly_sum_step_rddd_q_q [] 8 (by kernel_rfl) ?_
 refine awl_nms [(180, (k64 x49))] (by subst hx49; kernel_rfl) ?_
 obtain ⟨r50, hr50, h⟩ := obind h
 refine awl_big (big_call [0] (poly_sum_add_rdd_q_q_ok hr50) poly_sum_add_rdd_q_q_ok_c) (by kernel_rfl) ?_
 refine awl_nil ?_
 cases h
 exact fin_n (by kernel_rfl)

theorem poly_sum_step_rddd_q_q_ok_c : callable Try.prog 86 := ⟨_, Try.func86, by decide, rfl⟩

def m_poly_sum_end : Nat → Bool := imL [3]

def p_poly_sum_end_L1 (N : Nat)  : Nat → (Vector Int 3) → Int → Option ((Vector Int 3))
 | 0, _, _ => none
 | k + 1, s2, s3 =>
  cond (decide (s3 < 2)) (
   Option.bind (Option.bind (inRO 0 3) fun _ =>
   Option.bind (s2.toList[(Int.toNat 0)]?) fun e6 =>
   Option.bind (p_Add64 e6 5 0) fun r7 =>
   Option.bind (inRO 1 3) fun _ =>
   Option.bind (s2.toList[(Int.toNat 1)]?) fun e9 =>
   Option.bind (p_Add64 e9 0 r7.2) fun r10 =>
   Option.bind (inRO 2 3) fun _ =>
   Option.bind (s2.toList[(Int.toNat 2)]?) fun e12 =>
   letO (decide ((U64 (e12 + r10.2)) ≥ 4)) fun x13 =>
   cond x13 (
    letO (U64 ((U64 (e12 + r10.2)) - 4)) fun x15 =>
    some (#v[r7.1, r10.1, (U64 ((U64 (e12 + r10.2)) - 4))])) (
    some s2)) fun p4 =>
   p_poly_sum_end_L1 N k p4 (I64 (s3 + 1))) (
   some s2)

def p_poly_sum_end_L2 (N : Nat) (r18 : Int × Int) (r21 : Int × Int) : Nat → (Vector Int 16) → Int → Option ((Vector Int 16))
 | 0, _, _ => none
 | k + 1, s23, s24 =>
  cond (decide (s24 < 8)) (
   Option.bind (shrO .u64 r18.1 (I64 (8 * s24))) fun x25 =>
   Option.bind (shrO .u64 r21.1 (I64 (8 * s24))) fun x26 =>
   Option.bind (inRO s24 16) fun _ =>
   Option.bind (s23.toList[s24.toNat]?) fun e28 =>
   Option.bind (inRO (I64 (8 + s24)) 16) fun _ =>
   Option.bind ((s23.setIfInBounds s24.toNat (U8 x25)).toList[(I64 (8 + s24)).toNat]?) fun e30 =>
   p_poly_sum_end_L2 N r18 r21 k ((s23.setIfInBounds s24.toNat (U8 x25)).setIfInBounds ((I64 (8 + s24)).toNat) (U8 x26)) (I64 (s24 + 1))) (
   some s23)

def p_poly_sum_end (N : Nat) (a0 : S_poly_sum) (a1 : Int) (a2 : Int) : Option ((Vector Int 16)) :=
 Option.bind (p_poly_sum_end_L1 N N a0.gh 0) fun p1 =>
 Option.bind (inRO 0 3) fun _ =>
 Option.bind (p1.toList[(Int.toNat 0)]?) fun e17 =>
 Option.bind (p_Add64 e17 a1 0) fun r18 =>
 Option.bind (inRO 1 3) fun _ =>
 Option.bind (p1.toList[(Int.toNat 1)]?) fun e20 =>
 Option.bind (p_Add64 e20 a2 r18.2) fun r21 =>
 Option.bind (p_poly_sum_end_L2 N r18 r21 N (Vector.replicate 16 0) 0) fun p22 =>
 some p22

theorem poly_sum_end_ok {N : Nat} {a0 : S_poly_sum} {a1 : Int} {a2 : Int} {r : (Vector Int 16)} (h : p_poly_sum_end N a0 a1 a2 = some r) : FnM Try.prog 88 [] [(S_poly_sum.enc a0), (k64 a1), (k64 a2)] (eA 16 1 k8 r) [] := by
 unfold p_poly_sum_end at h
 refine fnM_of_aw (m := 82) (lo := 0) (rs := [.cell 6 88]) hT Try.func88 rfl (by kernel_rfl) rfl ?_
 refine aw_sregU hT m_poly_sum_end [] (by kernel_rfl) ?_
 refine aw_sregU hT m_poly_sum_end [] (by kernel_rfl) ?_
 refine aw_seq ?_
 refine aw_sregU hT m_poly_sum_end [] (by kernel_rfl) ?_
 obtain ⟨p1, h, g1⟩ := obind h
 refine aw_joinTK ⟨[en 1 (k64 a1), en 2 (k64 a2), en 6 (.ref 0 [] 0), en 7 (.ref 1 [] 0)], [.var (eA 16 1 k8 (Vector.replicate 16 0)), .var (eA 3 1 k64 p1)]⟩ ?_ ?_
 ·refine aw_block (aw_loop (fun k s => ∃ s2 s3, p_poly_sum_end_L1 N k s2 s3 = some p1 ∧ JR (Fr.f 82 0) ⟨[en 1 (k64 a1), en 2 (k64 a2), en 6 (.ref 0 [] 0), en 7 (.ref 1 [] 0), en 20 (j64 s3)], [.var (eA 16 1 k8 (Vector.replicate 16 0)), .var (eA 3 1 k64 s2)]⟩ s) (fun k s hI => ?_) N _ ⟨_, _, h, jr⟩)
  obtain ⟨s2, s3, h, hj⟩ := hI
  cases k with
  | zero => cases h
  | succ k =>
   refine aw_jr hj ?_
   refine aw_sregU hT m_poly_sum_end [] (by kernel_rfl) ?_
   refine aw_seq ?_
   refine aw_condH h (by kernel_rfl) (fun _ h => ?_) (fun _ h => ?_)
   ·refine aw_skip (tn_n ?_)
    obtain ⟨p4, h, g4⟩ := obind h
    refine aw_joinT ⟨[en 1 (k64 a1), en 2 (k64 a2), en 6 (.ref 0 [] 0), en 7 (.ref 1 [] 0), en 20 (j64 s3)], [.var (eA 16 1 k8 (Vector.replicate 16 0)), .var (eA 3 1 k64 p4)]⟩ ?_ ?_
    ·refine aw_block ?_
     refine aw_sreg ?_
     obtain ⟨u5, hu5, h⟩ := obind h
     refine awl_big (big_adR hT (k := 1) 1 [] 0 hu5) (by kernel_rfl) ?_
     first | refine awl_to ⟨[en 1 (k64 a1), en 2 (k64 a2), en 6 (.ref 0 [] 0), en 7 (.ref 1 [] 0), en 20 (j64 s3), en 23 (.ref 1 [(Int.toNat 0)] (0 + (Int.toNat 0) * 1))], [.var (eA 16 1 k8 (Vector.replicate 16 0)), .var (eA 3 1 k64 s2)]⟩ (by kernel_rfl) ?_ | skip
     obtain ⟨e6, he6, h⟩ := obind h
     refine awl_big (big_ldE hT k64 0 he6) (by kernel_rfl) ?_
     obtain ⟨r7, hr7, h⟩ := obind h
     refine awl_big (big_nat (n_Add64 hr7) (fun _ => rv_tup2)) (by kernel_rfl) ?_
     refine awl_u hT m_poly_sum_end [] 5 (by kernel_rfl) ?_
     refine awl_nil ?_
     refine aw_sreg ?_
     obtain ⟨u8, hu8, h⟩ := obind h
     refine awl_big (big_adR hT (k := 1) 1 [] 0 hu8) (by kernel_rfl) ?_
     obtain ⟨e9, he9, h⟩ := obind h
     refine awl_big (big_ldE hT k64 0 he9) (by kernel_rfl) ?_
     first | refine awl_to ⟨[en 1 (k64 a1), en 2 (k64 a2), en 6 (.ref 0 [] 0), en 7 (.ref 1 [] 0), en 8 (k64 r7.1), en 9 (k64 r7.2), en 20 (j64 s3), en 30 (k64 e9)], [.var (eA 16 1 k8 (Vector.replicate 16 0)), .var (eA 3 1 k64 s2)]⟩ (by kernel_rfl) ?_ | skip
     refine awl_u hT m_poly_sum_end [] 1 (by kernel_rfl) ?_
     obtain ⟨r10, hr10, h⟩ := obind h
     refine awl_big (big_nat (n_Add64 hr10) (fun _ => rv_tup2)) (by kernel_rfl) ?_
     refine awl_u hT m_poly_sum_end [] 5 (by kernel_rfl) ?_
     refine awl_nil ?_
     refine aw_sreg ?_
     obtain ⟨u11, hu11, h⟩ := obind h
     refine awl_big (big_adR hT (k := 1) 1 [] 0 hu11) (by kernel_rfl) ?_
     obtain ⟨e12, he12, h⟩ := obind h
     refine awl_big (big_ldE hT k64 0 he12) (by kernel_rfl) ?_
     refine awl_u hT m_poly_sum_end [] 3 (by kernel_rfl) ?_
     refine awl_nil ?_
     obtain ⟨x13, hx13, h⟩ := letE h
     refine aw_sregU hT m_poly_sum_end [] (by kernel_rfl) ?_
     refine aw_nms [(40, (eB x13))] (by subst hx13; kernel_rfl) ?_
     refine aw_condH h (by kernel_rfl) (fun _ h => ?_) (fun _ h => ?_)
     ·refine aw_region ?_
      obtain ⟨x15, hx15, h⟩ := letE h
      refine awl_u hT m_poly_sum_end [] 6 (by kernel_rfl) ?_
      refine awl_nil (inB_n (tn_n ?_))
      cases h
      exact jr
     ·refine aw_skip (inB_n (tn_n ?_))
      cases h
      exact jr
    ·have h := g4
     refine aw_regU hT m_poly_sum_end [] (by kernel_rfl) (tn_n ?_)
     exact ⟨k, Nat.lt_succ_self k, _, _, h, jr⟩
   ·refine aw_exit (tn_x (tn_x (inB_e (tn_n ?_))))
    cases h
    exact jr
 ·have h := g1
  refine (tn_n ?_)
  refine aw_sreg ?_
  obtain ⟨u16, hu16, h⟩ := obind h
  refine awl_big (big_adR hT (k := 1) 1 [] 0 hu16) (by kernel_rfl) ?_
  obtain ⟨e17, he17, h⟩ := obind h
  refine awl_big (big_ldE hT k64 0 he17) (by kernel_rfl) ?_
  refine awl_u hT m_poly_sum_end [] 1 (by kernel_rfl) ?_
  obtain ⟨r18, hr18, h⟩ := obind h
  refine awl_big (big_nat (n_Add64 hr18) (fun _ => rv_tup2)) (by kernel_rfl) ?_
  first | refine awl_to ⟨[en 2 (k64 a2), en 6 (.ref 0 [] 0), en 7 (.ref 1 [] 0), en 51 (.tup [(k64 r18.1), (k64 r18.2)])], [.var (eA 16 1 k8 (Vector.replicate 16 0)), .var (eA 3 1 k64 p1)]⟩ (by kernel_rfl) ?_ | skip
  refine awl_u hT m_poly_sum_end [] 5 (by kernel_rfl) ?_
  refine awl_nil ?_
  refine aw_sreg ?_
  obtain ⟨u19, hu19, h⟩ := obind h
  refine awl_big (big_adR hT (k := 1) 1 [] 0 hu19) (by kernel_rfl) ?_
  obtain ⟨e20, he20, h⟩ := obind h
  refine awl_big (big_ldE hT k64 0 he20) (by kernel_rfl) ?_
  refine awl_u hT m_poly_sum_end [] 2 (by kernel_rfl) ?_
  obtain ⟨r21, hr21, h⟩ := obind h
  refine awl_big (big_nat (n_Add64 hr21) (fun _ => rv_tup2)) (by kernel_rfl) ?_
  refine awl_u hT m_poly_sum_end [] 5 (by kernel_rfl) ?_
  refine awl_nil ?_
  refine aw_sregU hT m_poly_sum_end [] (by kernel_rfl) ?_
  refine aw_seq ?_
  refine aw_sregU hT m_poly_sum_end [] (by kernel_rfl) ?_
  obtain ⟨p22, h, g22⟩ := obind h
  refine aw_joinTK ⟨[en 6 (.ref 0 [] 0), en 16 (.ref 2 [] 0)], [.var (eA 16 1 k8 (Vector.replicate 16 0)), .var (eA 3 1 k64 p1), .var (eA 16 1 k8 p22)]⟩ ?_ ?_
  ·refine aw_block (aw_loop (fun k s => ∃ s23 s24, p_poly_sum_end_L2 N r18 r21 k s23 s24 = some p22 ∧ JR (Fr.f 82 0) ⟨[en 6 (.ref 0 [] 0), en 12 (k64 r18.1), en 14 (k64 r21.1), en 16 (.ref 2 [] 0), en 62 (j64 s24)], [.var (eA 16 1 k8 (Vector.replicate 16 0)), .var (eA 3 1 k64 p1), .var (eA 16 1 k8 s23)]⟩ s) (fun k s hI => ?_) N _ ⟨_, _, h, jr⟩)
   obtain ⟨s23, s24, h, hj⟩ := hI
   cases k with
   | zero => cases h
   | succ k =>
    refine aw_jr hj ?_
    refine aw_sregU hT m_poly_sum_end [] (by kernel_rfl) ?_
    refine aw_seq ?_
    refine aw_condH h (by kernel_rfl) (fun _ h => ?_) (fun _ h => ?_)
    ·refine aw_skip (tn_n ?_)
     refine aw_seq ?_
     refine aw_block ?_
     refine aw_sregU hT m_poly_sum_end [] (by kernel_rfl) ?_
     obtain ⟨x25, hx25, h⟩ := obind h
     obtain ⟨x26, hx26, h⟩ := obind h
     obtain ⟨u27, hu27, h⟩ := obind h
     obtain ⟨e28, he28, h⟩ := obind h
     obtain ⟨u29, hu29, h⟩ := obind h
     obtain ⟨e30, he30, h⟩ := obind h
     refine aw_drawM hT hmo m_poly_sum_end [(6, (k64 x25)), (11, (k64 x26)), (13, (.ref 2 [s24.toNat] (0 + s24.toNat * 1))), (15, (.ref 2 [(I64 (8 + s24)).toNat] (0 + (I64 (8 + s24)).toNat * 1)))] [(14, fun _ => ((.v (.bool false)), [.var (eA 16 1 k8 (Vector.replicate 16 0)), .var (eA 3 1 k64 p1), .var (eA 16 1 k8 (s23.setIfInBounds s24.toNat (U8 x25)))])), (16, fun _ => ((.v (.bool false)), [.var (eA 16 1 k8 (Vector.replicate 16 0)), .var (eA 3 1 k64 p1), .var (eA 16 1 k8 ((s23.setIfInBounds s24.toNat (U8 x25)).setIfInBounds ((I64 (8 + s24)).toNat) (U8 x26)))]))] (by kernel_rfl) (by kernel_rfl) (by kernel_rfl) ⟨fun _ => big_shr hT (k' := .i64) hx25 (by kernel_rfl) (by kernel_rfl), fun _ => big_shr hT (k' := .i64) hx26 (by kernel_rfl) (by kernel_rfl), fun _ => big_adR hT (k := 1) 2 [] 0 hu27, fun _ => big_adR hT (k := 1) 2 [] 0 hu29, trivial⟩ ⟨big_at (big_stV hT k8 0 s23 he28 (U8 x25) (by kernel_rfl) (by kernel_rfl) (H' := [.var (eA 16 1 k8 (Vector.replicate 16 0)), .var (eA 3 1 k64 p1), .var (eA 16 1 k8 (s23.setIfInBounds s24.toNat (U8 x25)))])), big_at (big_stV hT k8 0 (s23.setIfInBounds s24.toNat (U8 x25)) he30 (U8 x26) (by kernel_rfl) (by kernel_rfl) (H' := [.var (eA 16 1 k8 (Vector.replicate 16 0)), .var (eA 3 1 k64 p1), .var (eA 16 1 k8 ((s23.setIfInBounds s24.toNat (U8 x25)).setIfInBounds ((I64 (8 + s24)).toNat) (U8 x26)))])), trivial⟩ (inB_n (tn_n ?_))
     refine aw_regU hT m_poly_sum_end [] (by kernel_rfl) (tn_n ?_)
     exact ⟨k, Nat.lt_succ_self k, _, _, h, jr⟩
    ·refine aw_exit (tn_x (tn_x (inB_e (tn_n ?_))))
     cases h
     exact jr
  ·have h := g22
   refine (tn_n ?_)
   refine aw_sregU hT m_poly_sum_end [] (by kernel_rfl) ?_
   refine aw_ret ?_
   cases h
   exact fin_r

theorem poly_sum_end_ok_c : callable Try.prog 88 := ⟨_, Try.func88, by decide, rfl⟩

end Go.UK

