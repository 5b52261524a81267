/- A part of the proof: what the functions of the program compute. -/
import Derived.Test.YtcaadpceoajapaaC3
namespace Go.UK
open Go Go.Proofs
set_option maxRecDepth 20000
set_option maxHeartbeats 4000000
set_option linter.all false

attribute [local irreducible] owp awl aw FnM NatFn opS Stab TOK Big

/-! umbra/umbraref09.rot -/
def p_umbraref09_rot (N : Nat) (a0 : Int) (a1 : Int) : Option (Int) :=
  Option.bind (shrO .u32 a0 a1) fun x1 =>
  Option.bind (shlO .u32 a0 (I64 (32 - a1))) fun x2 =>
  some (bor .u32 x1 x2)

theorem umbraref09_rot_ok {N : Nat} {a0 : Int} {a1 : Int} {r : Int} (h : p_umbraref09_rot N a0 a1 = some r) : FnM Try.prog 217 [] [(k32 a0), (j64 a1)] (k32 r) [] := by
  unfold p_umbraref09_rot at h
  refine fnM_of_aw (m := 13) (lo := 0) (rs := [.tmp 4]) hT Try.func217 rfl (by kernel_rfl) rfl ?_
  refine aw_sregU hT m_no [] (by kernel_rfl) ?_
  obtain ⟨x1, hx1, h⟩ := obind h
  obtain ⟨x2, hx2, h⟩ := obind h
  refine aw_sdrawV hT hmo m_no [(2, (k32 x1)), (6, (k32 x2))] [] (by kernel_rfl) (by kernel_rfl) (by kernel_rfl) ⟨fun _ => big_shr hT (k' := .i64) hx1 (by kernel_rfl) (by kernel_rfl), fun _ => big_shl hT (k' := .i64) hx2 (by kernel_rfl) (by kernel_rfl), trivial⟩ trivial ?_
  refine aw_ret ?_
  cases h
  exact fin_r (by kernel_rfl)

theorem umbraref09_rot_ok_c : callable Try.prog 217 := ⟨_, Try.func217, by decide, rfl⟩

/-! umbra/umbraref09.By -/
def m_umbraref09_By : Nat → Bool := imL [3, 4, 5]

def p_umbraref09_By_L1 (N : Nat) (a2 : (Vector Int 64)) : Nat → (List Int) → Int → Option ((List Int))
  | 0, _, _ => none
  | k + 1, s2, s3 =>
    cond (decide (s3 < 16)) (
      Option.bind (idx a2.toList (I64 (4 * s3))) fun e4 =>
      letO (I64 ((I64 (4 * s3)) + 1)) fun x5 =>
      Option.bind (idx a2.toList x5) fun e6 =>
      letO (U32 ((U32 ((U32 e4) * 256)) + (U32 e6))) fun x7 =>
      letO (I64 ((I64 (4 * s3)) + 2)) fun x8 =>
      Option.bind (idx a2.toList x8) fun e9 =>
      letO (U32 ((U32 (x7 * 256)) + (U32 e9))) fun x10 =>
      letO (I64 ((I64 (4 * s3)) + 3)) fun x11 =>
      Option.bind (idx a2.toList x11) fun e12 =>
      letO (U32 ((U32 (x10 * 256)) + (U32 e12))) fun x13 =>
      Option.bind (appO 4 s2 (([x13] : List Int))) fun z14 =>
      p_umbraref09_By_L1 N a2 k z14 (I64 (s3 + 1))) (
      some s2)

def p_umbraref09_By_L2 (N : Nat)  : Nat → (List Int) → Int → Option ((List Int))
  | 0, _, _ => none
  | k + 1, s16, s17 =>
    cond (decide (s17 < 64)) (
      Option.bind (idx s16 (I64 (s17 - 15))) fun e18 =>
      Option.bind (p_umbraref09_rot N e18 7) fun r19 =>
      Option.bind (idx s16 (I64 (s17 - 15))) fun e20 =>
      Option.bind (p_umbraref09_rot N e20 18) fun r21 =>
      Option.bind (idx s16 (I64 (s17 - 15))) fun e22 =>
      letO (bxor .u32 (bxor .u32 r19 r21) (shr .u32 e22 3)) fun x23 =>
      Option.bind (idx s16 (I64 (s17 - 2))) fun e24 =>
      Option.bind (p_umbraref09_rot N e24 17) fun r25 =>
      Option.bind (idx s16 (I64 (s17 - 2))) fun e26 =>
      Option.bind (p_umbraref09_rot N e26 19) fun r27 =>
      Option.bind (idx s16 (I64 (s17 - 2))) fun e28 =>
      letO (bxor .u32 (bxor .u32 r25 r27) (shr .u32 e28 10)) fun x29 =>
      Option.bind (idx s16 (I64 (s17 - 7))) fun e30 =>
      letO (U32 ((U32 (x29 + e30)) + x23)) fun x31 =>
      Option.bind (idx s16 (I64 (s17 - 16))) fun e32 =>
      Option.bind (appO 4 s16 (([U32 (x31 + e32)] : List Int))) fun z33 =>
      p_umbraref09_By_L2 N k z33 (I64 (s17 + 1))) (
      some s16)

def p_umbraref09_By_L4 (N : Nat)  : Nat → (Vector Int 8) → Int → Option ((Vector Int 8))
  | 0, _, _ => none
  | k + 1, s88, s89 =>
    cond (decide (s89 > 0)) (
      Option.bind (inRO (I64 (s89 - 1)) 8) fun _ =>
      Option.bind (s88.toList[(I64 (s89 - 1)).toNat]?) fun e91 =>
      Option.bind (inRO s89 8) fun _ =>
      Option.bind (s88.toList[s89.toNat]?) fun e93 =>
      p_umbraref09_By_L4 N k (s88.setIfInBounds s89.toNat e91) (I64 (s89 - 1))) (
      some s88)

def p_umbraref09_By_L3 (N : Nat) (a0 : (Vector Int 64)) (p15 : (List Int)) : Nat → (Vector Int 8) → Int → Option ((Vector Int 8))
  | 0, _, _ => none
  | k + 1, s35, s36 =>
    cond (decide (s36 < 64)) (
      Option.bind (inRO 7 8) fun _ =>
      Option.bind (s35.toList[((7 : Int).toNat)]?) fun e38 =>
      Option.bind (inRO 4 8) fun _ =>
      Option.bind (s35.toList[((4 : Int).toNat)]?) fun e40 =>
      Option.bind (p_umbraref09_rot N e40 6) fun r41 =>
      Option.bind (inRO 4 8) fun _ =>
      Option.bind (s35.toList[((4 : Int).toNat)]?) fun e43 =>
      Option.bind (p_umbraref09_rot N e43 11) fun r44 =>
      Option.bind (inRO 4 8) fun _ =>
      Option.bind (s35.toList[((4 : Int).toNat)]?) fun e46 =>
      Option.bind (p_umbraref09_rot N e46 25) fun r47 =>
      letO (bxor .u32 (bxor .u32 r41 r44) r47) fun x48 =>
      Option.bind (inRO 4 8) fun _ =>
      Option.bind (s35.toList[((4 : Int).toNat)]?) fun e50 =>
      Option.bind (inRO 5 8) fun _ =>
      Option.bind (s35.toList[((5 : Int).toNat)]?) fun e52 =>
      Option.bind (inRO 4 8) fun _ =>
      Option.bind (s35.toList[((4 : Int).toNat)]?) fun e54 =>
      Option.bind (inRO 6 8) fun _ =>
      Option.bind (s35.toList[((6 : Int).toNat)]?) fun e56 =>
      letO (band .u32 (bnot .u32 e54) e56) fun x57 =>
      letO (bxor .u32 (band .u32 e50 e52) x57) fun x58 =>
      letO (U32 ((U32 (e38 + x48)) + x58)) fun x59 =>
      Option.bind (idx a0.toList s36) fun e60 =>
      Option.bind (idx p15 s36) fun e61 =>
      letO (U32 ((U32 (x59 + e60)) + e61)) fun x62 =>
      Option.bind (inRO 0 8) fun _ =>
      Option.bind (s35.toList[((0 : Int).toNat)]?) fun e64 =>
      Option.bind (p_umbraref09_rot N e64 2) fun r65 =>
      Option.bind (inRO 0 8) fun _ =>
      Option.bind (s35.toList[((0 : Int).toNat)]?) fun e67 =>
      Option.bind (p_umbraref09_rot N e67 13) fun r68 =>
      Option.bind (inRO 0 8) fun _ =>
      Option.bind (s35.toList[((0 : Int).toNat)]?) fun e70 =>
      Option.bind (p_umbraref09_rot N e70 22) fun r71 =>
      letO (bxor .u32 (bxor .u32 r65 r68) r71) fun x72 =>
      Option.bind (inRO 0 8) fun _ =>
      Option.bind (s35.toList[((0 : Int).toNat)]?) fun e74 =>
      Option.bind (inRO 1 8) fun _ =>
      Option.bind (s35.toList[((1 : Int).toNat)]?) fun e76 =>
      Option.bind (inRO 0 8) fun _ =>
      Option.bind (s35.toList[((0 : Int).toNat)]?) fun e78 =>
      Option.bind (inRO 2 8) fun _ =>
      Option.bind (s35.toList[((2 : Int).toNat)]?) fun e80 =>
      letO (bxor .u32 (band .u32 e74 e76) (band .u32 e78 e80)) fun x81 =>
      Option.bind (inRO 1 8) fun _ =>
      Option.bind (s35.toList[((1 : Int).toNat)]?) fun e83 =>
      Option.bind (inRO 2 8) fun _ =>
      Option.bind (s35.toList[((2 : Int).toNat)]?) fun e85 =>
      letO (bxor .u32 x81 (band .u32 e83 e85)) fun x86 =>
      Option.bind (p_umbraref09_By_L4 N N s35 7) fun p87 =>
      Option.bind (inRO 4 8) fun _ =>
      Option.bind (p87.toList[((4 : Int).toNat)]?) fun e95 =>
      Option.bind (inRO 4 8) fun _ =>
      Option.bind (p87.toList[((4 : Int).toNat)]?) fun e97 =>
      letO (U32 (x62 + (U32 (x72 + x86)))) fun x99 =>
      Option.bind (inRO 0 8) fun _ =>
      Option.bind ((p87.setIfInBounds (((4 : Int).toNat)) (U32 (e95 + x62))).toList[((0 : Int).toNat)]?) fun e101 =>
      p_umbraref09_By_L3 N a0 p15 k ((p87.setIfInBounds (((4 : Int).toNat)) (U32 (e95 + x62))).setIfInBounds (((0 : Int).toNat)) x99) (I64 (s36 + 1))) (
      some s35)

def p_umbraref09_By_L5 (N : Nat) (a1 : (Vector Int 8)) : Nat → (Vector Int 8) → Int → Option ((Vector Int 8))
  | 0, _, _ => none
  | k + 1, s103, s104 =>
    cond (decide (s104 < 8)) (
      Option.bind (inRO s104 8) fun _ =>
      Option.bind (s103.toList[s104.toNat]?) fun e106 =>
      Option.bind (idx a1.toList s104) fun e107 =>
      Option.bind (inRO s104 8) fun _ =>
      Option.bind (s103.toList[s104.toNat]?) fun e109 =>
      p_umbraref09_By_L5 N a1 k (s103.setIfInBounds s104.toNat (U32 (e106 + e107))) (I64 (s104 + 1))) (
      some s103)

def p_umbraref09_By (N : Nat) (a0 : (Vector Int 64)) (a1 : (Vector Int 8)) (a2 : (Vector Int 64)) : Option ((Vector Int 8)) :=
  Option.bind (p_umbraref09_By_L1 N a2 N [] 0) fun p1 =>
  Option.bind (p_umbraref09_By_L2 N N p1 16) fun p15 =>
  Option.bind (p_umbraref09_By_L3 N a0 p15 N a1 0) fun p34 =>
  Option.bind (p_umbraref09_By_L5 N a1 N p34 0) fun p102 =>
  some p102

theorem umbraref09_By_ok {N : Nat} {a0 : (Vector Int 64)} {a1 : (Vector Int 8)} {a2 : (Vector Int 64)} {r : (Vector Int 8)} (h : p_umbraref09_By N a0 a1 a2 = some r) : FnM Try.prog 214 [] [(eA 64 1 k32 a0), (eA 8 1 k32 a1), (eA 64 1 k8 a2)] (eA 8 1 k32 r) [] := by
  unfold p_umbraref09_By at h
  refine fnM_of_aw (m := 219) (lo := 0) (rs := [.cell 6 254]) hT Try.func214 rfl (by kernel_rfl) rfl ?_
  refine aw_sregU hT m_umbraref09_By [] (by kernel_rfl) ?_
  refine aw_sregU hT m_umbraref09_By [] (by kernel_rfl) ?_
  refine aw_seq ?_
  refine aw_sregU hT m_umbraref09_By [] (by kernel_rfl) ?_
  refine aw_own_nil 7 1 (by kernel_rfl) ?_
  obtain ⟨p1, h, g1⟩ := obind h
  refine aw_joinTK ⟨[en 3 (.im (eA 64 1 k32 a0)), en 4 (.im (eA 8 1 k32 a1)), en 6 (.ref 0 [] 0), en 7 (eO 1 1 k32 p1)], [.var (eA 8 1 k32 (Vector.replicate 8 0)), .tail (p1.length * 1)]⟩ ?_ ?_
  · refine aw_block (aw_loop (fun k s => ∃ s2 s3, p_umbraref09_By_L1 N a2 k s2 s3 = some p1 ∧ JR (Fr.f 219 0) ⟨[en 3 (.im (eA 64 1 k32 a0)), en 4 (.im (eA 8 1 k32 a1)), en 5 (.im (eA 64 1 k8 a2)), en 6 (.ref 0 [] 0), en 7 (eO 1 1 k32 s2), en 8 (j64 s3)], [.var (eA 8 1 k32 (Vector.replicate 8 0)), .tail (s2.length * 1)]⟩ s) (fun k s hI => ?_) N _ ⟨_, _, h, jr (by kernel_rfl)⟩)
    obtain ⟨s2, s3, h, hj⟩ := hI
    cases k with
    | zero => cases h
    | succ k =>
      refine aw_jr hj ?_
      refine aw_seq ?_
      refine aw_sregU hT m_umbraref09_By [] (by kernel_rfl) ?_
      refine aw_condH h (by kernel_rfl) (fun _ h => ?_) (fun _ h => ?_)
      · refine aw_skip (tn_n ?_)
        refine aw_seq ?_
        refine aw_block ?_
        obtain ⟨e4, he4, h⟩ := obind h
        obtain ⟨x5, hx5, h⟩ := letE h
        obtain ⟨e6, he6, h⟩ := obind h
        obtain ⟨x7, hx7, h⟩ := letE h
        obtain ⟨x8, hx8, h⟩ := letE h
        obtain ⟨e9, he9, h⟩ := obind h
        obtain ⟨x10, hx10, h⟩ := letE h
        obtain ⟨x11, hx11, h⟩ := letE h
        obtain ⟨e12, he12, h⟩ := obind h
        obtain ⟨x13, hx13, h⟩ := letE h
        obtain ⟨z14, hz14, h⟩ := obind h
        refine aw_drawN hT hmo m_umbraref09_By [(3, (.im (k8 e4))), (10, (.im (k8 e6))), (18, (.im (k8 e9))), (26, (.im (k8 e12))), (30, (.sl 1 1 [(k32 x13)]))] [(31, fun _ => ((eO 1 1 k32 z14), [.var (eA 8 1 k32 (Vector.replicate 8 0)), .tail (z14.length * 1)]))] (by subst hx13 hx11 hx10 hx8 hx7 hx5; kernel_rfl) (by subst hx13 hx11 hx10 hx8 hx7 hx5; kernel_rfl) (by kernel_rfl) ⟨fun _ => big_adI hT (N := 64) (k := 1) k8 a2 he4 (by kernel_rfl) (by kernel_rfl), fun _ => big_adI hT (N := 64) (k := 1) k8 a2 he6 (by subst hx5; kernel_rfl) (by subst hx5; kernel_rfl), fun _ => big_adI hT (N := 64) (k := 1) k8 a2 he9 (by subst hx8 hx7 hx5; kernel_rfl) (by subst hx8 hx7 hx5; kernel_rfl), fun _ => big_adI hT (N := 64) (k := 1) k8 a2 he12 (by subst hx11 hx10 hx8 hx7 hx5; kernel_rfl) (by subst hx11 hx10 hx8 hx7 hx5; kernel_rfl), fun _ => big_row hT (x := (.sl 1 1 [(k32 x13)])) (by subst hx13 hx11 hx10 hx8 hx7 hx5; kernel_rfl) (by subst hx13 hx11 hx10 hx8 hx7 hx5; kernel_rfl), trivial⟩ ⟨big_at (big_app hT k32 (id := 1) (k := 1) hz14 (by subst hx13 hx11 hx10 hx8 hx7 hx5; kernel_rfl) (by subst hx13 hx11 hx10 hx8 hx7 hx5; kernel_rfl)) (by subst hx13 hx11 hx10 hx8 hx7 hx5; kernel_rfl), trivial⟩ [] (by subst hx13 hx11 hx10 hx8 hx7 hx5; kernel_rfl) (inB_n (tn_n ?_))
        refine aw_regU hT m_umbraref09_By [] (by kernel_rfl) (tn_n ?_)
        exact ⟨k, Nat.lt_succ_self k, _, _, h, jr (by kernel_rfl)⟩
      · refine aw_exit (tn_x (tn_x (inB_e (tn_n ?_))))
        cases h
        exact jr (by kernel_rfl)
  · have h := g1
    refine (tn_n ?_)
    refine aw_seq ?_
    refine aw_sregU hT m_umbraref09_By [] (by kernel_rfl) ?_
    obtain ⟨p15, h, g15⟩ := obind h
    refine aw_joinTK ⟨[en 3 (.im (eA 64 1 k32 a0)), en 4 (.im (eA 8 1 k32 a1)), en 6 (.ref 0 [] 0), en 7 (eO 1 1 k32 p15)], [.var (eA 8 1 k32 (Vector.replicate 8 0)), .tail (p15.length * 1)]⟩ ?_ ?_
    · refine aw_block (aw_loop (fun k s => ∃ s16 s17, p_umbraref09_By_L2 N k s16 s17 = some p15 ∧ JR (Fr.f 219 0) ⟨[en 3 (.im (eA 64 1 k32 a0)), en 4 (.im (eA 8 1 k32 a1)), en 6 (.ref 0 [] 0), en 7 (eO 1 1 k32 s16), en 9 (j64 s17)], [.var (eA 8 1 k32 (Vector.replicate 8 0)), .tail (s16.length * 1)]⟩ s) (fun k s hI => ?_) N _ ⟨_, _, h, jr (by kernel_rfl)⟩)
      obtain ⟨s16, s17, h, hj⟩ := hI
      cases k with
      | zero => cases h
      | succ k =>
        refine aw_jr hj ?_
        refine aw_seq ?_
        refine aw_sregU hT m_umbraref09_By [] (by kernel_rfl) ?_
        refine aw_condH h (by kernel_rfl) (fun _ h => ?_) (fun _ h => ?_)
        · refine aw_skip (tn_n ?_)
          refine aw_seq ?_
          refine aw_block ?_
          obtain ⟨e18, he18, h⟩ := obind h
          obtain ⟨r19, hr19, h⟩ := obind h
          obtain ⟨e20, he20, h⟩ := obind h
          obtain ⟨r21, hr21, h⟩ := obind h
          obtain ⟨e22, he22, h⟩ := obind h
          obtain ⟨x23, hx23, h⟩ := letE h
          refine aw_sdrawV hT hmo m_umbraref09_By [(3, (.im (k32 e18))), (5, (k32 r19)), (9, (.im (k32 e20))), (11, (k32 r21)), (16, (.im (k32 e22)))] [] (by subst hx23; kernel_rfl) (by subst hx23; kernel_rfl) (by kernel_rfl) ⟨fun _ => big_idx hT k32 he18 (by kernel_rfl) (by kernel_rfl), fun _ => big_call0 (umbraref09_rot_ok hr19) umbraref09_rot_ok_c (by kernel_rfl) (by kernel_rfl) (by kernel_rfl), fun _ => big_idx hT k32 he20 (by kernel_rfl) (by kernel_rfl), fun _ => big_call0 (umbraref09_rot_ok hr21) umbraref09_rot_ok_c (by kernel_rfl) (by kernel_rfl) (by kernel_rfl), fun _ => big_idx hT k32 he22 (by kernel_rfl) (by kernel_rfl), trivial⟩ trivial ?_
          refine aw_nms [(10, (k32 x23))] (by subst hx23; kernel_rfl) ?_
          obtain ⟨e24, he24, h⟩ := obind h
          obtain ⟨r25, hr25, h⟩ := obind h
          obtain ⟨e26, he26, h⟩ := obind h
          obtain ⟨r27, hr27, h⟩ := obind h
          obtain ⟨e28, he28, h⟩ := obind h
          obtain ⟨x29, hx29, h⟩ := letE h
          refine aw_sdrawV hT hmo m_umbraref09_By [(3, (.im (k32 e24))), (5, (k32 r25)), (9, (.im (k32 e26))), (11, (k32 r27)), (16, (.im (k32 e28)))] [] (by subst hx29; kernel_rfl) (by subst hx29; kernel_rfl) (by kernel_rfl) ⟨fun _ => big_idx hT k32 he24 (by kernel_rfl) (by kernel_rfl), fun _ => big_call0 (umbraref09_rot_ok hr25) umbraref09_rot_ok_c (by kernel_rfl) (by kernel_rfl) (by kernel_rfl), fun _ => big_idx hT k32 he26 (by kernel_rfl) (by kernel_rfl), fun _ => big_call0 (umbraref09_rot_ok hr27) umbraref09_rot_ok_c (by kernel_rfl) (by kernel_rfl) (by kernel_rfl), fun _ => big_idx hT k32 he28 (by kernel_rfl) (by kernel_rfl), trivial⟩ trivial ?_
          refine aw_nms [(11, (k32 x29))] (by subst hx29; kernel_rfl) ?_
          obtain ⟨e30, he30, h⟩ := obind h
          obtain ⟨x31, hx31, h⟩ := letE h
          obtain ⟨e32, he32, h⟩ := obind h
          obtain ⟨z33, hz33, h⟩ := obind h
          refine aw_drawN hT hmo m_umbraref09_By [(5, (.im (k32 e30))), (13, (.im (k32 e32))), (16, (.sl 1 1 [(k32 (U32 (x31 + e32)))]))] [(17, fun _ => ((eO 1 1 k32 z33), [.var (eA 8 1 k32 (Vector.replicate 8 0)), .tail (z33.length * 1)]))] (by subst hx31; kernel_rfl) (by subst hx31; kernel_rfl) (by kernel_rfl) ⟨fun _ => big_idx hT k32 he30 (by kernel_rfl) (by kernel_rfl), fun _ => big_idx hT k32 he32 (by subst hx31; kernel_rfl) (by subst hx31; kernel_rfl), fun _ => big_row hT (x := (.sl 1 1 [(k32 (U32 (x31 + e32)))])) (by subst hx31; kernel_rfl) (by subst hx31; kernel_rfl), trivial⟩ ⟨big_at (big_app hT k32 (id := 1) (k := 1) hz33 (by subst hx31; kernel_rfl) (by subst hx31; kernel_rfl)) (by subst hx31; kernel_rfl), trivial⟩ [] (by subst hx31; kernel_rfl) (inB_n (tn_n ?_))
          refine aw_regU hT m_umbraref09_By [] (by kernel_rfl) (tn_n ?_)
          exact ⟨k, Nat.lt_succ_self k, _, _, h, jr (by kernel_rfl)⟩
        · refine aw_exit (tn_x (tn_x (inB_e (tn_n ?_))))
          cases h
          exact jr (by kernel_rfl)
    · have h := g15
      refine (tn_n ?_)
      refine aw_sregU hT m_umbraref09_By [] (by kernel_rfl) ?_
      refine aw_seq ?_
      refine aw_sregU hT m_umbraref09_By [] (by kernel_rfl) ?_
      obtain ⟨p34, h, g34⟩ := obind h
      refine aw_joinTK ⟨[en 4 (.im (eA 8 1 k32 a1)), en 6 (.ref 0 [] 0), en 12 (.ref 2 [] 0)], [.var (eA 8 1 k32 (Vector.replicate 8 0)), .tail (p15.length * 1), .var (eA 8 1 k32 p34)]⟩ ?_ ?_
      · refine aw_block (aw_loop (fun k s => ∃ s35 s36, p_umbraref09_By_L3 N a0 p15 k s35 s36 = some p34 ∧ JR (Fr.f 219 0) ⟨[en 3 (.im (eA 64 1 k32 a0)), en 4 (.im (eA 8 1 k32 a1)), en 6 (.ref 0 [] 0), en 7 (eO 1 1 k32 p15), en 12 (.ref 2 [] 0), en 13 (j64 s36)], [.var (eA 8 1 k32 (Vector.replicate 8 0)), .tail (p15.length * 1), .var (eA 8 1 k32 s35)]⟩ s) (fun k s hI => ?_) N _ ⟨_, _, h, jr (by kernel_rfl)⟩)
        obtain ⟨s35, s36, h, hj⟩ := hI
        cases k with
        | zero => cases h
        | succ k =>
          refine aw_jr hj ?_
          refine aw_seq ?_
          refine aw_sregU hT m_umbraref09_By [] (by kernel_rfl) ?_
          refine aw_condH h (by kernel_rfl) (fun _ h => ?_) (fun _ h => ?_)
          · refine aw_skip (tn_n ?_)
            refine aw_seq ?_
            refine aw_block ?_
            obtain ⟨u37, hu37, h⟩ := obind h
            obtain ⟨e38, he38, h⟩ := obind h
            obtain ⟨u39, hu39, h⟩ := obind h
            obtain ⟨e40, he40, h⟩ := obind h
            obtain ⟨r41, hr41, h⟩ := obind h
            obtain ⟨u42, hu42, h⟩ := obind h
            obtain ⟨e43, he43, h⟩ := obind h
            obtain ⟨r44, hr44, h⟩ := obind h
            obtain ⟨u45, hu45, h⟩ := obind h
            obtain ⟨e46, he46, h⟩ := obind h
            obtain ⟨r47, hr47, h⟩ := obind h
            obtain ⟨x48, hx48, h⟩ := letE h
            obtain ⟨u49, hu49, h⟩ := obind h
            obtain ⟨e50, he50, h⟩ := obind h
            obtain ⟨u51, hu51, h⟩ := obind h
            obtain ⟨e52, he52, h⟩ := obind h
            obtain ⟨u53, hu53, h⟩ := obind h
            obtain ⟨e54, he54, h⟩ := obind h
            obtain ⟨u55, hu55, h⟩ := obind h
            obtain ⟨e56, he56, h⟩ := obind h
            obtain ⟨x57, hx57, h⟩ := letE h
            obtain ⟨x58, hx58, h⟩ := letE h
            obtain ⟨x59, hx59, h⟩ := letE h
            obtain ⟨e60, he60, h⟩ := obind h
            obtain ⟨e61, he61, h⟩ := obind h
            obtain ⟨x62, hx62, h⟩ := letE h
            refine aw_sdrawVS hT hmo m_umbraref09_By [(0, (.ref 2 [((7 : Int).toNat)] (0 + ((7 : Int).toNat) * 1))), (1, (k32 e38)), (2, (.ref 2 [((4 : Int).toNat)] (0 + ((4 : Int).toNat) * 1))), (3, (k32 e40)), (4, (k32 r41)), (5, (.ref 2 [((4 : Int).toNat)] (0 + ((4 : Int).toNat) * 1))), (6, (k32 e43)), (7, (k32 r44)), (9, (.ref 2 [((4 : Int).toNat)] (0 + ((4 : Int).toNat) * 1))), (10, (k32 e46)), (11, (k32 r47)), (14, (.ref 2 [((4 : Int).toNat)] (0 + ((4 : Int).toNat) * 1))), (15, (k32 e50)), (16, (.ref 2 [((5 : Int).toNat)] (0 + ((5 : Int).toNat) * 1))), (17, (k32 e52)), (19, (.ref 2 [((4 : Int).toNat)] (0 + ((4 : Int).toNat) * 1))), (20, (k32 e54)), (22, (.ref 2 [((6 : Int).toNat)] (0 + ((6 : Int).toNat) * 1))), (23, (k32 e56)), (28, (.im (k32 e60))), (33, (.im (k32 e61)))] [[[.var (eA 8 1 k32 (Vector.replicate 8 0)), .tail (p15.length * 1), .var (eA 8 1 k32 s35)]], [[.var (eA 8 1 k32 (Vector.replicate 8 0)), .tail (p15.length * 1), .var (eA 8 1 k32 s35)]], [[.var (eA 8 1 k32 (Vector.replicate 8 0)), .tail (p15.length * 1), .var (eA 8 1 k32 s35)]], [[.var (eA 8 1 k32 (Vector.replicate 8 0)), .tail (p15.length * 1), .var (eA 8 1 k32 s35)]], [[.var (eA 8 1 k32 (Vector.replicate 8 0)), .tail (p15.length * 1), .var (eA 8 1 k32 s35)]], [[.var (eA 8 1 k32 (Vector.replicate 8 0)), .tail (p15.length * 1), .var (eA 8 1 k32 s35)]], [[.var (eA 8 1 k32 (Vector.replicate 8 0)), .tail (p15.length * 1), .var (eA 8 1 k32 s35)]], [[.var (eA 8 1 k32 (Vector.replicate 8 0)), .tail (p15.length * 1), .var (eA 8 1 k32 s35)]], [[.var (eA 8 1 k32 (Vector.replicate 8 0)), .tail (p15.length * 1), .var (eA 8 1 k32 s35)]], [[.var (eA 8 1 k32 (Vector.replicate 8 0)), .tail (p15.length * 1), .var (eA 8 1 k32 s35)]], [[.var (eA 8 1 k32 (Vector.replicate 8 0)), .tail (p15.length * 1), .var (eA 8 1 k32 s35)]], [[.var (eA 8 1 k32 (Vector.replicate 8 0)), .tail (p15.length * 1), .var (eA 8 1 k32 s35)]], [[.var (eA 8 1 k32 (Vector.replicate 8 0)), .tail (p15.length * 1), .var (eA 8 1 k32 s35)]], [[.var (eA 8 1 k32 (Vector.replicate 8 0)), .tail (p15.length * 1), .var (eA 8 1 k32 s35)]], [[.var (eA 8 1 k32 (Vector.replicate 8 0)), .tail (p15.length * 1), .var (eA 8 1 k32 s35)]], [[.var (eA 8 1 k32 (Vector.replicate 8 0)), .tail (p15.length * 1), .var (eA 8 1 k32 s35)]], [[.var (eA 8 1 k32 (Vector.replicate 8 0)), .tail (p15.length * 1), .var (eA 8 1 k32 s35)]], [[.var (eA 8 1 k32 (Vector.replicate 8 0)), .tail (p15.length * 1), .var (eA 8 1 k32 s35)]], [[.var (eA 8 1 k32 (Vector.replicate 8 0)), .tail (p15.length * 1), .var (eA 8 1 k32 s35)]], [[.var (eA 8 1 k32 (Vector.replicate 8 0)), .tail (p15.length * 1), .var (eA 8 1 k32 s35)]], [[.var (eA 8 1 k32 (Vector.replicate 8 0)), .tail (p15.length * 1), .var (eA 8 1 k32 s35)]]] [] (by subst hx62 hx59 hx58 hx57 hx48; kernel_rfl) (by subst hx62 hx59 hx58 hx57 hx48; kernel_rfl) (by kernel_rfl) (by kernel_rfl) ⟨⟨big_adR hT (k := 1) 2 [] 0 hu37 (by kernel_rfl) (by kernel_rfl), trivial⟩, ⟨big_at (big_ldE hT k32 0 he38 (by kernel_rfl) (by kernel_rfl)) (by kernel_rfl), trivial⟩, ⟨big_adR hT (k := 1) 2 [] 0 hu39 (by kernel_rfl) (by kernel_rfl), trivial⟩, ⟨big_at (big_ldE hT k32 0 he40 (by kernel_rfl) (by kernel_rfl)) (by kernel_rfl), trivial⟩, ⟨big_call0 (umbraref09_rot_ok hr41) umbraref09_rot_ok_c (by kernel_rfl) (by kernel_rfl) (by kernel_rfl), trivial⟩, ⟨big_adR hT (k := 1) 2 [] 0 hu42 (by kernel_rfl) (by kernel_rfl), trivial⟩, ⟨big_at (big_ldE hT k32 0 he43 (by kernel_rfl) (by kernel_rfl)) (by kernel_rfl), trivial⟩, ⟨big_call0 (umbraref09_rot_ok hr44) umbraref09_rot_ok_c (by kernel_rfl) (by kernel_rfl) (by kernel_rfl), trivial⟩, ⟨big_adR hT (k := 1) 2 [] 0 hu45 (by kernel_rfl) (by kernel_rfl), trivial⟩, ⟨big_at (big_ldE hT k32 0 he46 (by kernel_rfl) (by kernel_rfl)) (by kernel_rfl), trivial⟩, ⟨big_call0 (umbraref09_rot_ok hr47) umbraref09_rot_ok_c (by kernel_rfl) (by kernel_rfl) (by kernel_rfl), trivial⟩, ⟨big_adR hT (k := 1) 2 [] 0 hu49 (by subst hx48; kernel_rfl) (by subst hx48; kernel_rfl), trivial⟩, ⟨big_at (big_ldE hT k32 0 he50 (by subst hx48; kernel_rfl) (by subst hx48; kernel_rfl)) (by subst hx48; kernel_rfl), trivial⟩, ⟨big_adR hT (k := 1) 2 [] 0 hu51 (by subst hx48; kernel_rfl) (by subst hx48; kernel_rfl), trivial⟩, ⟨big_at (big_ldE hT k32 0 he52 (by subst hx48; kernel_rfl) (by subst hx48; kernel_rfl)) (by subst hx48; kernel_rfl), trivial⟩, ⟨big_adR hT (k := 1) 2 [] 0 hu53 (by subst hx48; kernel_rfl) (by subst hx48; kernel_rfl), trivial⟩, ⟨big_at (big_ldE hT k32 0 he54 (by subst hx48; kernel_rfl) (by subst hx48; kernel_rfl)) (by subst hx48; kernel_rfl), trivial⟩, ⟨big_adR hT (k := 1) 2 [] 0 hu55 (by subst hx48; kernel_rfl) (by subst hx48; kernel_rfl), trivial⟩, ⟨big_at (big_ldE hT k32 0 he56 (by subst hx48; kernel_rfl) (by subst hx48; kernel_rfl)) (by subst hx48; kernel_rfl), trivial⟩, ⟨big_adI hT (N := 64) (k := 1) k32 a0 he60 (by subst hx59 hx58 hx57 hx48; kernel_rfl) (by subst hx59 hx58 hx57 hx48; kernel_rfl), trivial⟩, ⟨big_idx hT k32 he61 (by subst hx59 hx58 hx57 hx48; kernel_rfl) (by subst hx59 hx58 hx57 hx48; kernel_rfl), trivial⟩, trivial⟩ trivial ?_
            refine aw_nms [(14, (k32 x62))] (by subst hx62 hx59 hx58 hx57 hx48; kernel_rfl) ?_
            obtain ⟨u63, hu63, h⟩ := obind h
            obtain ⟨e64, he64, h⟩ := obind h
            obtain ⟨r65, hr65, h⟩ := obind h
            obtain ⟨u66, hu66, h⟩ := obind h
            obtain ⟨e67, he67, h⟩ := obind h
            obtain ⟨r68, hr68, h⟩ := obind h
            obtain ⟨u69, hu69, h⟩ := obind h
            obtain ⟨e70, he70, h⟩ := obind h
            obtain ⟨r71, hr71, h⟩ := obind h
            obtain ⟨x72, hx72, h⟩ := letE h
            obtain ⟨u73, hu73, h⟩ := obind h
            obtain ⟨e74, he74, h⟩ := obind h
            obtain ⟨u75, hu75, h⟩ := obind h
            obtain ⟨e76, he76, h⟩ := obind h
            obtain ⟨u77, hu77, h⟩ := obind h
            obtain ⟨e78, he78, h⟩ := obind h
            obtain ⟨u79, hu79, h⟩ := obind h
            obtain ⟨e80, he80, h⟩ := obind h
            obtain ⟨x81, hx81, h⟩ := letE h
            obtain ⟨u82, hu82, h⟩ := obind h
            obtain ⟨e83, he83, h⟩ := obind h
            obtain ⟨u84, hu84, h⟩ := obind h
            obtain ⟨e85, he85, h⟩ := obind h
            obtain ⟨x86, hx86, h⟩ := letE h
            refine aw_sdrawVS hT hmo m_umbraref09_By [(0, (.ref 2 [((0 : Int).toNat)] (0 + ((0 : Int).toNat) * 1))), (1, (k32 e64)), (2, (k32 r65)), (3, (.ref 2 [((0 : Int).toNat)] (0 + ((0 : Int).toNat) * 1))), (4, (k32 e67)), (5, (k32 r68)), (7, (.ref 2 [((0 : Int).toNat)] (0 + ((0 : Int).toNat) * 1))), (8, (k32 e70)), (9, (k32 r71)), (11, (.ref 2 [((0 : Int).toNat)] (0 + ((0 : Int).toNat) * 1))), (12, (k32 e74)), (13, (.ref 2 [((1 : Int).toNat)] (0 + ((1 : Int).toNat) * 1))), (14, (k32 e76)), (16, (.ref 2 [((0 : Int).toNat)] (0 + ((0 : Int).toNat) * 1))), (17, (k32 e78)), (18, (.ref 2 [((2 : Int).toNat)] (0 + ((2 : Int).toNat) * 1))), (19, (k32 e80)), (22, (.ref 2 [((1 : Int).toNat)] (0 + ((1 : Int).toNat) * 1))), (23, (k32 e83)), (24, (.ref 2 [((2 : Int).toNat)] (0 + ((2 : Int).toNat) * 1))), (25, (k32 e85))] [[[.var (eA 8 1 k32 (Vector.replicate 8 0)), .tail (p15.length * 1), .var (eA 8 1 k32 s35)]], [[.var (eA 8 1 k32 (Vector.replicate 8 0)), .tail (p15.length * 1), .var (eA 8 1 k32 s35)]], [[.var (eA 8 1 k32 (Vector.replicate 8 0)), .tail (p15.length * 1), .var (eA 8 1 k32 s35)]], [[.var (eA 8 1 k32 (Vector.replicate 8 0)), .tail (p15.length * 1), .var (eA 8 1 k32 s35)]], [[.var (eA 8 1 k32 (Vector.replicate 8 0)), .tail (p15.length * 1), .var (eA 8 1 k32 s35)]], [[.var (eA 8 1 k32 (Vector.replicate 8 0)), .tail (p15.length * 1), .var (eA 8 1 k32 s35)]], [[.var (eA 8 1 k32 (Vector.replicate 8 0)), .tail (p15.length * 1), .var (eA 8 1 k32 s35)]], [[.var (eA 8 1 k32 (Vector.replicate 8 0)), .tail (p15.length * 1), .var (eA 8 1 k32 s35)]], [[.var (eA 8 1 k32 (Vector.replicate 8 0)), .tail (p15.length * 1), .var (eA 8 1 k32 s35)]], [[.var (eA 8 1 k32 (Vector.replicate 8 0)), .tail (p15.length * 1), .var (eA 8 1 k32 s35)]], [[.var (eA 8 1 k32 (Vector.replicate 8 0)), .tail (p15.length * 1), .var (eA 8 1 k32 s35)]], [[.var (eA 8 1 k32 (Vector.replicate 8 0)), .tail (p15.length * 1), .var (eA 8 1 k32 s35)]], [[.var (eA 8 1 k32 (Vector.replicate 8 0)), .tail (p15.length * 1), .var (eA 8 1 k32 s35)]], [[.var (eA 8 1 k32 (Vector.replicate 8 0)), .tail (p15.length * 1), .var (eA 8 1 k32 s35)]], [[.var (eA 8 1 k32 (Vector.replicate 8 0)), .tail (p15.length * 1), .var (eA 8 1 k32 s35)]], [[.var (eA 8 1 k32 (Vector.replicate 8 0)), .tail (p15.length * 1), .var (eA 8 1 k32 s35)]], [[.var (eA 8 1 k32 (Vector.replicate 8 0)), .tail (p15.length * 1), .var (eA 8 1 k32 s35)]], [[.var (eA 8 1 k32 (Vector.replicate 8 0)), .tail (p15.length * 1), .var (eA 8 1 k32 s35)]], [[.var (eA 8 1 k32 (Vector.replicate 8 0)), .tail (p15.length * 1), .var (eA 8 1 k32 s35)]], [[.var (eA 8 1 k32 (Vector.replicate 8 0)), .tail (p15.length * 1), .var (eA 8 1 k32 s35)]], [[.var (eA 8 1 k32 (Vector.replicate 8 0)), .tail (p15.length * 1), .var (eA 8 1 k32 s35)]]] [] (by subst hx86 hx81 hx72; kernel_rfl) (by subst hx86 hx81 hx72; kernel_rfl) (by kernel_rfl) (by kernel_rfl) ⟨⟨big_adR hT (k := 1) 2 [] 0 hu63 (by kernel_rfl) (by kernel_rfl), trivial⟩, ⟨big_at (big_ldE hT k32 0 he64 (by kernel_rfl) (by kernel_rfl)) (by kernel_rfl), trivial⟩, ⟨big_call0 (umbraref09_rot_ok hr65) umbraref09_rot_ok_c (by kernel_rfl) (by kernel_rfl) (by kernel_rfl), trivial⟩, ⟨big_adR hT (k := 1) 2 [] 0 hu66 (by kernel_rfl) (by kernel_rfl), trivial⟩, ⟨big_at (big_ldE hT k32 0 he67 (by kernel_rfl) (by kernel_rfl)) (by kernel_rfl), trivial⟩, ⟨big_call0 (umbraref09_rot_ok hr68) umbraref09_rot_ok_c (by kernel_rfl) (by kernel_rfl) (by kernel_rfl), trivial⟩, ⟨big_adR hT (k := 1) 2 [] 0 hu69 (by kernel_rfl) (by kernel_rfl), trivial⟩, ⟨big_at (big_ldE hT k32 0 he70 (by kernel_rfl) (by kernel_rfl)) (by kernel_rfl), trivial⟩, ⟨big_call0 (umbraref09_rot_ok hr71) umbraref09_rot_ok_c (by kernel_rfl) (by kernel_rfl) (by kernel_rfl), trivial⟩, ⟨big_adR hT (k := 1) 2 [] 0 hu73 (by subst hx72; kernel_rfl) (by subst hx72; kernel_rfl), trivial⟩, ⟨big_at (big_ldE hT k32 0 he74 (by subst hx72; kernel_rfl) (by subst hx72; kernel_rfl)) (by subst hx72; kernel_rfl), trivial⟩, ⟨big_adR hT (k := 1) 2 [] 0 hu75 (by subst hx72; kernel_rfl) (by subst hx72; kernel_rfl), trivial⟩, ⟨big_at (big_ldE hT k32 0 he76 (by subst hx72; kernel_rfl) (by subst hx72; kernel_rfl)) (by subst hx72; kernel_rfl), trivial⟩, ⟨big_adR hT (k := 1) 2 [] 0 hu77 (by subst hx72; kernel_rfl) (by subst hx72; kernel_rfl), trivial⟩, ⟨big_at (big_ldE hT k32 0 he78 (by subst hx72; kernel_rfl) (by subst hx72; kernel_rfl)) (by subst hx72; kernel_rfl), trivial⟩, ⟨big_adR hT (k := 1) 2 [] 0 hu79 (by subst hx72; kernel_rfl) (by subst hx72; kernel_rfl), trivial⟩, ⟨big_at (big_ldE hT k32 0 he80 (by subst hx72; kernel_rfl) (by subst hx72; kernel_rfl)) (by subst hx72; kernel_rfl), trivial⟩, ⟨big_adR hT (k := 1) 2 [] 0 hu82 (by subst hx81 hx72; kernel_rfl) (by subst hx81 hx72; kernel_rfl), trivial⟩, ⟨big_at (big_ldE hT k32 0 he83 (by subst hx81 hx72; kernel_rfl) (by subst hx81 hx72; kernel_rfl)) (by subst hx81 hx72; kernel_rfl), trivial⟩, ⟨big_adR hT (k := 1) 2 [] 0 hu84 (by subst hx81 hx72; kernel_rfl) (by subst hx81 hx72; kernel_rfl), trivial⟩, ⟨big_at (big_ldE hT k32 0 he85 (by subst hx81 hx72; kernel_rfl) (by subst hx81 hx72; kernel_rfl)) (by subst hx81 hx72; kernel_rfl), trivial⟩, trivial⟩ trivial ?_
            refine aw_nms [(15, (k32 (U32 (x72 + x86))))] (by subst hx86 hx81 hx72; kernel_rfl) ?_
            refine aw_seq ?_
            refine aw_sregU hT m_umbraref09_By [] (by kernel_rfl) ?_
            obtain ⟨p87, h, g87⟩ := obind h
            refine aw_joinTK ⟨[en 3 (.im (eA 64 1 k32 a0)), en 4 (.im (eA 8 1 k32 a1)), en 6 (.ref 0 [] 0), en 7 (eO 1 1 k32 p15), en 12 (.ref 2 [] 0), en 13 (j64 s36), en 14 (k32 x62), en 15 (k32 (U32 (x72 + x86)))], [.var (eA 8 1 k32 (Vector.replicate 8 0)), .tail (p15.length * 1), .var (eA 8 1 k32 p87)]⟩ ?_ ?_
            · refine aw_block (aw_loop (fun k s => ∃ s88 s89, p_umbraref09_By_L4 N k s88 s89 = some p87 ∧ JR (Fr.f 219 0) ⟨[en 3 (.im (eA 64 1 k32 a0)), en 4 (.im (eA 8 1 k32 a1)), en 6 (.ref 0 [] 0), en 7 (eO 1 1 k32 p15), en 12 (.ref 2 [] 0), en 13 (j64 s36), en 14 (k32 x62), en 15 (k32 (U32 (x72 + x86))), en 16 (j64 s89)], [.var (eA 8 1 k32 (Vector.replicate 8 0)), .tail (p15.length * 1), .var (eA 8 1 k32 s88)]⟩ s) (fun k s hI => ?_) N _ ⟨_, _, h, jr (by kernel_rfl)⟩)
              obtain ⟨s88, s89, h, hj⟩ := hI
              cases k with
              | zero => cases h
              | succ k =>
                refine aw_jr hj ?_
                refine aw_seq ?_
                refine aw_sregU hT m_umbraref09_By [] (by kernel_rfl) ?_
                refine aw_condH h (by kernel_rfl) (fun _ h => ?_) (fun _ h => ?_)
                · refine aw_skip (tn_n ?_)
                  refine aw_seq ?_
                  refine aw_block ?_
                  refine aw_region ?_
                  refine awl_u hT m_umbraref09_By [] 3 (by kernel_rfl) ?_
                  obtain ⟨u90, hu90, h⟩ := obind h
                  refine awl_big (big_adR hT (k := 1) 2 [] 0 hu90 (by kernel_rfl) (by kernel_rfl)) (by kernel_rfl) ?_
                  first | refine awl_to ⟨[en 3 (.im (eA 64 1 k32 a0)), en 4 (.im (eA 8 1 k32 a1)), en 6 (.ref 0 [] 0), en 7 (eO 1 1 k32 p15), en 12 (.ref 2 [] 0), en 13 (j64 s36), en 14 (k32 x62), en 15 (k32 (U32 (x72 + x86))), en 16 (j64 s89), en 190 (j64 s89), en 193 (.ref 2 [(I64 (s89 - 1)).toNat] (0 + (I64 (s89 - 1)).toNat * 1))], [.var (eA 8 1 k32 (Vector.replicate 8 0)), .tail (p15.length * 1), .var (eA 8 1 k32 s88)]⟩ (by kernel_rfl) ?_ | skip
                  obtain ⟨e91, he91, h⟩ := obind h
                  refine awl_big (big_ldE hT k32 0 he91 (by kernel_rfl) (by kernel_rfl)) (by kernel_rfl) ?_
                  obtain ⟨u92, hu92, h⟩ := obind h
                  refine awl_big (big_adR hT (k := 1) 2 [] 0 hu92 (by kernel_rfl) (by kernel_rfl)) (by kernel_rfl) ?_
                  obtain ⟨e93, he93, h⟩ := obind h
                  refine awl_big (big_stV hT k32 0 s88 he93 e91 (by kernel_rfl) (by kernel_rfl) (H' := [.var (eA 8 1 k32 (Vector.replicate 8 0)), .tail (p15.length * 1), .var (eA 8 1 k32 (s88.setIfInBounds s89.toNat e91))]) (by kernel_rfl)) (by kernel_rfl) ?_
                  refine awl_nil (inB_n (tn_n ?_))
                  refine aw_regU hT m_umbraref09_By [] (by kernel_rfl) (tn_n ?_)
                  exact ⟨k, Nat.lt_succ_self k, _, _, h, jr (by kernel_rfl)⟩
                · refine aw_exit (tn_x (tn_x (inB_e (tn_n ?_))))
                  cases h
                  exact jr (by kernel_rfl)
            · have h := g87
              refine (tn_n ?_)
              refine aw_sreg ?_
              obtain ⟨u94, hu94, h⟩ := obind h
              refine awl_big (big_adR hT (k := 1) 2 [] 0 hu94 (by kernel_rfl) (by kernel_rfl)) (by kernel_rfl) ?_
              obtain ⟨e95, he95, h⟩ := obind h
              refine awl_big (big_ldE hT k32 0 he95 (by kernel_rfl) (by kernel_rfl)) (by kernel_rfl) ?_
              refine awl_u hT m_umbraref09_By [] 2 (by kernel_rfl) ?_
              obtain ⟨u96, hu96, h⟩ := obind h
              refine awl_big (big_adR hT (k := 1) 2 [] 0 hu96 (by kernel_rfl) (by kernel_rfl)) (by kernel_rfl) ?_
              first | refine awl_to ⟨[en 3 (.im (eA 64 1 k32 a0)), en 4 (.im (eA 8 1 k32 a1)), en 6 (.ref 0 [] 0), en 7 (eO 1 1 k32 p15), en 12 (.ref 2 [] 0), en 13 (j64 s36), en 14 (k32 x62), en 15 (k32 (U32 (x72 + x86))), en 199 (k32 (U32 (e95 + x62))), en 200 (.ref 2 [((4 : Int).toNat)] (0 + ((4 : Int).toNat) * 1))], [.var (eA 8 1 k32 (Vector.replicate 8 0)), .tail (p15.length * 1), .var (eA 8 1 k32 p87)]⟩ (by kernel_rfl) ?_ | skip
              obtain ⟨e97, he97, h⟩ := obind h
              refine awl_big (big_stV hT k32 0 p87 he97 (U32 (e95 + x62)) (by kernel_rfl) (by kernel_rfl) (H' := [.var (eA 8 1 k32 (Vector.replicate 8 0)), .tail (p15.length * 1), .var (eA 8 1 k32 (p87.setIfInBounds (((4 : Int).toNat)) (U32 (e95 + x62))))]) (by kernel_rfl)) (by kernel_rfl) ?_
              refine awl_nil ?_
              refine aw_region ?_
              obtain ⟨x99, hx99, h⟩ := letE h
              refine awl_u hT m_umbraref09_By [] 3 (by kernel_rfl) ?_
              refine awl_nms [(203, (k32 x99))] (by subst hx99; kernel_rfl) ?_
              obtain ⟨u100, hu100, h⟩ := obind h
              refine awl_big (big_adR hT (k := 1) 2 [] 0 hu100 (by kernel_rfl) (by kernel_rfl)) (by kernel_rfl) ?_
              obtain ⟨e101, he101, h⟩ := obind h
              refine awl_big (big_stV hT k32 0 (p87.setIfInBounds (((4 : Int).toNat)) (U32 (e95 + x62))) he101 x99 (by kernel_rfl) (by kernel_rfl) (H' := [.var (eA 8 1 k32 (Vector.replicate 8 0)), .tail (p15.length * 1), .var (eA 8 1 k32 ((p87.setIfInBounds (((4 : Int).toNat)) (U32 (e95 + x62))).setIfInBounds (((0 : Int).toNat)) x99))]) (by kernel_rfl)) (by kernel_rfl) ?_
              refine awl_nil (inB_n (tn_n ?_))
              refine aw_regU hT m_umbraref09_By [] (by kernel_rfl) (tn_n ?_)
              exact ⟨k, Nat.lt_succ_self k, _, _, h, jr (by kernel_rfl)⟩
          · refine aw_exit (tn_x (tn_x (inB_e (tn_n ?_))))
            cases h
            exact jr (by kernel_rfl)
      · have h := g34
        refine (tn_n ?_)
        refine aw_seq ?_
        refine aw_sregU hT m_umbraref09_By [] (by kernel_rfl) ?_
        obtain ⟨p102, h, g102⟩ := obind h
        refine aw_joinTK ⟨[en 6 (.ref 0 [] 0), en 12 (.ref 2 [] 0)], [.var (eA 8 1 k32 (Vector.replicate 8 0)), .tail (p15.length * 1), .var (eA 8 1 k32 p102)]⟩ ?_ ?_
        · refine aw_block (aw_loop (fun k s => ∃ s103 s104, p_umbraref09_By_L5 N a1 k s103 s104 = some p102 ∧ JR (Fr.f 219 0) ⟨[en 4 (.im (eA 8 1 k32 a1)), en 6 (.ref 0 [] 0), en 12 (.ref 2 [] 0), en 17 (j64 s104)], [.var (eA 8 1 k32 (Vector.replicate 8 0)), .tail (p15.length * 1), .var (eA 8 1 k32 s103)]⟩ s) (fun k s hI => ?_) N _ ⟨_, _, h, jr (by kernel_rfl)⟩)
          obtain ⟨s103, s104, h, hj⟩ := hI
          cases k with
          | zero => cases h
          | succ k =>
            refine aw_jr hj ?_
            refine aw_seq ?_
            refine aw_sregU hT m_umbraref09_By [] (by kernel_rfl) ?_
            refine aw_condH h (by kernel_rfl) (fun _ h => ?_) (fun _ h => ?_)
            · refine aw_skip (tn_n ?_)
              refine aw_seq ?_
              refine aw_block ?_
              obtain ⟨u105, hu105, h⟩ := obind h
              obtain ⟨e106, he106, h⟩ := obind h
              obtain ⟨e107, he107, h⟩ := obind h
              obtain ⟨u108, hu108, h⟩ := obind h
              obtain ⟨e109, he109, h⟩ := obind h
              refine aw_drawMS hT hmo m_umbraref09_By [(2, (.ref 2 [s104.toNat] (0 + s104.toNat * 1))), (3, (k32 e106)), (5, (.im (k32 e107))), (8, (.ref 2 [s104.toNat] (0 + s104.toNat * 1)))] [[[.var (eA 8 1 k32 (Vector.replicate 8 0)), .tail (p15.length * 1), .var (eA 8 1 k32 s103)]], [[.var (eA 8 1 k32 (Vector.replicate 8 0)), .tail (p15.length * 1), .var (eA 8 1 k32 s103)]], [[.var (eA 8 1 k32 (Vector.replicate 8 0)), .tail (p15.length * 1), .var (eA 8 1 k32 s103)]], [[.var (eA 8 1 k32 (Vector.replicate 8 0)), .tail (p15.length * 1), .var (eA 8 1 k32 s103)]]] [(9, fun _ => ((.v (.bool false)), [.var (eA 8 1 k32 (Vector.replicate 8 0)), .tail (p15.length * 1), .var (eA 8 1 k32 (s103.setIfInBounds s104.toNat (U32 (e106 + e107))))]))] (by kernel_rfl) (by kernel_rfl) (by kernel_rfl) (by kernel_rfl) ⟨⟨big_adR hT (k := 1) 2 [] 0 hu105 (by kernel_rfl) (by kernel_rfl), trivial⟩, ⟨big_at (big_ldE hT k32 0 he106 (by kernel_rfl) (by kernel_rfl)) (by kernel_rfl), trivial⟩, ⟨big_adI hT (N := 8) (k := 1) k32 a1 he107 (by kernel_rfl) (by kernel_rfl), trivial⟩, ⟨big_adR hT (k := 1) 2 [] 0 hu108 (by kernel_rfl) (by kernel_rfl), trivial⟩, trivial⟩ ⟨big_at (big_stV hT k32 0 s103 he109 (U32 (e106 + e107)) (by kernel_rfl) (by kernel_rfl) (H' := [.var (eA 8 1 k32 (Vector.replicate 8 0)), .tail (p15.length * 1), .var (eA 8 1 k32 (s103.setIfInBounds s104.toNat (U32 (e106 + e107))))]) (by kernel_rfl)) (by kernel_rfl), trivial⟩ (inB_n (tn_n ?_))
              refine aw_regU hT m_umbraref09_By [] (by kernel_rfl) (tn_n ?_)
              exact ⟨k, Nat.lt_succ_self k, _, _, h, jr (by kernel_rfl)⟩
            · refine aw_exit (tn_x (tn_x (inB_e (tn_n ?_))))
              cases h
              exact jr (by kernel_rfl)
        · have h := g102
          refine (tn_n ?_)
          refine aw_sregU hT m_umbraref09_By [] (by kernel_rfl) ?_
          refine aw_ret ?_
          cases h
          exact fin_r (by kernel_rfl)

theorem umbraref09_By_ok_c : callable Try.prog 214 := ⟨_, Try.func214, by decide, rfl⟩

/-! umbra/umbraref09.Compress -/
def m_umbraref09_Compress : Nat → Bool := imL [2, 3]

def cst_p_umbraref09_Compress_058597 : (Vector Int 64) := #v[1116352408, 1899447441, 3049323471, 3921009573, 961987163, 1508970993, 2453635748, 2870763221, 3624381080, 310598401, 607225278, 1426881987, 1925078388, 2162078206, 2614888103, 3248222580, 3835390401, 4022224774, 264347078, 604807628, 770255983, 1249150122, 1555081692, 1996064986, 2554220882, 2821834349, 2952996808, 3210313671, 3336571891, 3584528711, 113926993, 338241895, 666307205, 773529912, 1294757372, 1396182291, 1695183700, 1986661051, 2177026350, 2456956037, 2730485921, 2820302411, 3259730800, 3345764771, 3516065817, 3600352804, 4094571909, 275423344, 430227734, 506948616, 659060556, 883997877, 958139571, 1322822218, 1537002063, 1747873779, 1955562222, 2024104815, 2227730452, 2361852424, 2428436474, 2756734187, 3204031479, 3329325298]

def p_umbraref09_Compress (N : Nat) (a0 : (Vector Int 8)) (a1 : (Vector Int 64)) : Option ((Vector Int 8)) :=
  Option.bind (p_umbraref09_By N cst_p_umbraref09_Compress_058597 a0 a1) fun r1 =>
  some r1

theorem umbraref09_Compress_ok {N : Nat} {a0 : (Vector Int 8)} {a1 : (Vector Int 64)} {r : (Vector Int 8)} (h : p_umbraref09_Compress N a0 a1 = some r) : FnM Try.prog 206 [] [(eA 8 1 k32 a0), (eA 64 1 k8 a1)] (eA 8 1 k32 r) [] := by
  unfold p_umbraref09_Compress at h
  refine fnM_of_aw (m := 9) (lo := 0) (rs := [.cell 4 254]) hT Try.func206 rfl (by kernel_rfl) rfl ?_
  refine aw_sregU hT m_umbraref09_Compress [] (by kernel_rfl) ?_
  refine aw_sreg ?_
  refine awl_u hT m_umbraref09_Compress [] 3 (by kernel_rfl) ?_
  obtain ⟨r1, hr1, h⟩ := obind h
  refine awl_big (big_call [] (umbraref09_By_ok hr1) umbraref09_By_ok_c (by kernel_rfl) (by kernel_rfl)) (by kernel_rfl) ?_
  refine awl_u hT m_umbraref09_Compress [] 1 (by kernel_rfl) ?_
  refine awl_nil ?_
  refine aw_ret ?_
  cases h
  exact fin_r (by kernel_rfl)

theorem umbraref09_Compress_ok_c : callable Try.prog 206 := ⟨_, Try.func206, by decide, rfl⟩

end Go.UK
