/- A part of the proof: what the functions of the program compute. -/
import Derived.Test.YtcaadpceoajapaaDT
namespace Go.UK
open Go Go.Proofs
set_option maxRecDepth 20000
set_option maxHeartbeats 4000000
set_option linter.all false

attribute [local irreducible] owp awl aw FnM NatFn opS Stab TOK Big

/-! umbra/tiles.between -/
def p_tiles_between (N : Nat) (a0 : Int) : Option (Bool) :=
  letO (cond (decide (a0 ≥ 1)) (decide (a0 ≤ 64)) false) fun x1 =>
  some x1

theorem tiles_between_ok {N : Nat} {a0 : Int} {r : Bool} (h : p_tiles_between N a0 = some r) : FnM Try.prog 71 [] [(j64 a0)] (eB r) [] := by
  unfold p_tiles_between at h
  refine fnM_of_aw (m := 9) (lo := 0) (rs := [.tmp 2]) hT Try.func71 rfl (by kernel_rfl) rfl ?_
  refine aw_sregU hT m_no [] (by kernel_rfl) ?_
  obtain ⟨x1, hx1, h⟩ := letE h
  refine aw_sregU hT m_no [] (by kernel_rfl) ?_
  refine aw_nms [(2, (eB x1))] (by subst hx1; kernel_rfl) ?_
  refine aw_ret ?_
  cases h
  exact fin_r (by kernel_rfl)

theorem tiles_between_ok_c : callable Try.prog 71 := ⟨_, Try.func71, by decide, rfl⟩

/-! umbra/tiles.tiles -/
def m_tiles_tiles : Nat → Bool := imL [3, 4, 5]

def p_tiles_tiles (N : Nat) (a0 : Int) (a1 : Int) (a2 : Int) : Option (Unit) :=
  some (())

theorem tiles_tiles_ok {N : Nat} {a0 : Int} {a1 : Int} {a2 : Int} {r : Unit} (h : p_tiles_tiles N a0 a1 a2 = some r) : FnM Try.prog 72 [] [(j64 a0), (j64 a1), (j64 a2)] (.fn (.func 138) [] [(.im (j64 a1)), (.im (j64 a2)), (.im (j64 a0))]) [] := by
  unfold p_tiles_tiles at h
  refine fnM_of_aw (m := 8) (lo := 0) (rs := [.tmp 6]) hT Try.func72 rfl (by kernel_rfl) rfl ?_
  refine aw_sregU hT m_tiles_tiles [] (by kernel_rfl) ?_
  refine aw_sreg ?_
  refine awl_big (big_mkf (x := (.fn (.func 138) [] [(.im (j64 a1)), (.im (j64 a2)), (.im (j64 a0))])) (by kernel_rfl) (by kernel_rfl)) (by kernel_rfl) ?_
  refine awl_u hT m_tiles_tiles [] 1 (by kernel_rfl) ?_
  refine awl_nil ?_
  refine aw_ret ?_
  cases h
  exact fin_r (by kernel_rfl)

theorem tiles_tiles_ok_c : callable Try.prog 72 := ⟨_, Try.func72, by decide, rfl⟩

/-! umbra/tiles.Cover: a round -/
def p_tiles_Cover_R2 (N : Nat) (b1 : (List (Vector Int 4))) (a1 : S_tiles_tile) : Option ((List (Vector Int 4))) :=
  Option.bind (appO 32 b1 (([#v[a1.gx, a1.gy, a1.gw, a1.gh]] : List (Vector Int 4)))) fun z1 =>
  some z1

theorem tiles_Cover_R2_ok {N : Nat} {b1 : (List (Vector Int 4))} {a1 : S_tiles_tile} {r : (List (Vector Int 4))} (h : p_tiles_Cover_R2 N b1 a1 = some r) : YldM Try.prog (siteAt 41 Try.f19.body [1, 1, 1, 0, 1, 0]) [en 8 (.ref 0 [] 0)] [.var (eO 1 4 (eA 4 1 j64) b1), .tail (b1.length * 4)] [(S_tiles_tile.enc a1)] [.var (eO 1 4 (eA 4 1 j64) r), .tail (r.length * 4)] none := by
  unfold p_tiles_Cover_R2 at h
  refine yldM_of_aw (lo := 3) (by kernel_rfl) (fun bk rl => ?_)
  refine aw_to ⟨[en 8 (.ref 0 [] 0), en 27 (S_tiles_tile.enc a1)], [.var (eO 1 4 (eA 4 1 j64) b1), .tail (b1.length * 4), .loop rl]⟩ (by kernel_rfl) ?_
  refine aw_regU hT m_no [] (by kernel_rfl) ?_
  refine mid_n (by kernel_rfl) (fun rl2 => ?_)
  refine aw_block ?_
  refine aw_region ?_
  refine awl_u hT m_no [] 10 (by kernel_rfl) ?_
  refine awl_big (big_row hT (x := (.sl 4 1 [(.arr 4 1 [(j64 a1.gx), (j64 a1.gy), (j64 a1.gw), (j64 a1.gh)])])) (by kernel_rfl) (by kernel_rfl)) (by kernel_rfl) ?_
  obtain ⟨z1, hz1, h⟩ := obind h
  refine awl_big (big_app hT (eA 4 1 j64) (id := 1) (k := 4) hz1 (by kernel_rfl) (by kernel_rfl)) (by kernel_rfl) ?_
  refine awl_u hT m_no [] 1 (by kernel_rfl) ?_
  refine awl_nil (inB_n ?_)
  cases h
  exact rnd_n (by kernel_rfl)

/-! umbra/tiles.tiles$1, for a range -/
def p_tiles_tiles_1_for_tiles_Cover_R2_L2 (N : Nat) (a3 : Int) (a2 : Int) (a1 : Int) (s3 : Int) : Nat → (List (Vector Int 4)) → Int → Option ((List (Vector Int 4)))
  | 0, _, _ => none
  | k + 1, s5, s6 =>
    cond (decide (s6 < a3)) (
      letO (imin a2 (I64 (a3 - s6))) fun x9 =>
      letO (imin a2 (I64 (a1 - s3))) fun x10 =>
      Option.bind (p_tiles_Cover_R2 N s5 (S_tiles_tile.mk s6 s3 x9 x10)) fun r11 =>
      p_tiles_tiles_1_for_tiles_Cover_R2_L2 N a3 a2 a1 s3 k r11 (I64 (s6 + a2))) (
      some s5)

def p_tiles_tiles_1_for_tiles_Cover_R2_L1 (N : Nat) (a1 : Int) (a3 : Int) (a2 : Int) : Nat → (List (Vector Int 4)) → Int → Option ((List (Vector Int 4)))
  | 0, _, _ => none
  | k + 1, s2, s3 =>
    cond (decide (s3 < a1)) (
      Option.bind (p_tiles_tiles_1_for_tiles_Cover_R2_L2 N a3 a2 a1 s3 N s2 0) fun p4 =>
      p_tiles_tiles_1_for_tiles_Cover_R2_L1 N a1 a3 a2 k p4 (I64 (s3 + a2))) (
      some s2)

def p_tiles_tiles_1_for_tiles_Cover_R2 (N : Nat) (b1 : (List (Vector Int 4))) (a1 : Int) (a2 : Int) (a3 : Int) : Option ((List (Vector Int 4))) :=
  Option.bind (p_tiles_tiles_1_for_tiles_Cover_R2_L1 N a1 a3 a2 N b1 0) fun p1 =>
  some p1

theorem tiles_tiles_1_for_tiles_Cover_R2_ok {N : Nat} {b1 : (List (Vector Int 4))} {a1 : Int} {a2 : Int} {a3 : Int} {r : (List (Vector Int 4))} (h : p_tiles_tiles_1_for_tiles_Cover_R2 N b1 a1 a2 a3 = some r) : ItM Try.prog 138 (siteAt 41 Try.f19.body [1, 1, 1, 0, 1, 0]) [en 8 (.ref 0 [] 0)] [.var (eO 1 4 (eA 4 1 j64) b1), .tail (b1.length * 4)] [(.yld 2), (.im (j64 a1)), (.im (j64 a2)), (.im (j64 a3))] (.tup []) [.var (eO 1 4 (eA 4 1 j64) r), .tail (r.length * 4)] none := by
  unfold p_tiles_tiles_1_for_tiles_Cover_R2 at h
  refine itM_of_aw (m := 35) (lo := 3) (rs := []) hT Try.func138 rfl (by kernel_rfl) rfl (fun fn tmps D hsz => ?_)
  refine aw_sregU hT m_no [] (by kernel_rfl) ?_
  obtain ⟨p1, h, g1⟩ := obind h
  refine aw_joinTK ⟨[], [.var (eO 1 4 (eA 4 1 j64) p1), .tail (p1.length * 4), .loop (((siteAt 41 Try.f19.body [1, 1, 1, 0, 1, 0]).rcd fn tmps D none))]⟩ ?_ ?_
  · refine aw_block (aw_loop (fun k s => ∃ s2 s3, p_tiles_tiles_1_for_tiles_Cover_R2_L1 N a1 a3 a2 k s2 s3 = some p1 ∧ JR (Fr.mk 35 3 none [([en 8 (.ref 0 [] 0)], tmps)] false) ⟨[en 0 (.yld 2), en 1 (.im (j64 a1)), en 2 (.im (j64 a2)), en 3 (.im (j64 a3)), en 5 (j64 s3)], [.var (eO 1 4 (eA 4 1 j64) s2), .tail (s2.length * 4), .loop (((siteAt 41 Try.f19.body [1, 1, 1, 0, 1, 0]).rcd fn tmps D none))]⟩ s) (fun k s hI => ?_) N _ ⟨_, _, h, jr (by kernel_rfl)⟩)
    obtain ⟨s2, s3, h, hj⟩ := hI
    cases k with
    | zero => cases h
    | succ k =>
      refine aw_jr hj ?_
      refine aw_seq ?_
      refine aw_sregU hT m_no [] (by kernel_rfl) ?_
      refine aw_condH h (by kernel_rfl) (fun _ h => ?_) (fun _ h => ?_)
      · refine aw_skip (tn_n ?_)
        refine aw_seq ?_
        refine aw_block ?_
        refine aw_sregU hT m_no [] (by kernel_rfl) ?_
        obtain ⟨p4, h, g4⟩ := obind h
        refine aw_joinTK ⟨[en 0 (.yld 2), en 1 (.im (j64 a1)), en 2 (.im (j64 a2)), en 3 (.im (j64 a3)), en 5 (j64 s3)], [.var (eO 1 4 (eA 4 1 j64) p4), .tail (p4.length * 4), .loop (((siteAt 41 Try.f19.body [1, 1, 1, 0, 1, 0]).rcd fn tmps D none))]⟩ ?_ ?_
        · refine aw_block (aw_loop (fun k s => ∃ s5 s6, p_tiles_tiles_1_for_tiles_Cover_R2_L2 N a3 a2 a1 s3 k s5 s6 = some p4 ∧ JR (Fr.mk 35 3 none [([en 8 (.ref 0 [] 0)], tmps)] false) ⟨[en 0 (.yld 2), en 1 (.im (j64 a1)), en 2 (.im (j64 a2)), en 3 (.im (j64 a3)), en 5 (j64 s3), en 6 (j64 s6)], [.var (eO 1 4 (eA 4 1 j64) s5), .tail (s5.length * 4), .loop (((siteAt 41 Try.f19.body [1, 1, 1, 0, 1, 0]).rcd fn tmps D none))]⟩ s) (fun k s hI => ?_) N _ ⟨_, _, h, jr (by kernel_rfl)⟩)
          obtain ⟨s5, s6, h, hj⟩ := hI
          cases k with
          | zero => cases h
          | succ k =>
            refine aw_jr hj ?_
            refine aw_seq ?_
            refine aw_sregU hT m_no [] (by kernel_rfl) ?_
            refine aw_condH h (by kernel_rfl) (fun _ h => ?_) (fun _ h => ?_)
            · refine aw_skip (tn_n ?_)
              refine aw_seq ?_
              refine aw_block ?_
              refine aw_sreg ?_
              obtain ⟨x9, hx9, h⟩ := letE h
              obtain ⟨x10, hx10, h⟩ := letE h
              refine awl_u hT m_no [] 14 (by kernel_rfl) ?_
              refine awl_nms [(32, (.st 4 [(j64 s6), (j64 s3), (j64 x9), (j64 x10)]))] (by subst hx10 hx9; kernel_rfl) ?_
              obtain ⟨r11, hr11, h⟩ := obind h
              refine awl_big (big_yld (tiles_Cover_R2_ok hr11) (fn := fn) (D := D) hsz rfl (List.mem_singleton.2 rfl) (by kernel_rfl) (by kernel_rfl)) (by kernel_rfl) ?_
              refine awl_u hT m_no [] 1 (by kernel_rfl) ?_
              refine awl_nil ?_
              refine aw_condB (b := false) (c := false) rfl (by kernel_rfl) ?_
              refine aw_skip (inB_n (tn_n ?_))
              refine aw_regU hT m_no [] (by kernel_rfl) (tn_n ?_)
              exact ⟨k, Nat.lt_succ_self k, _, _, h, jr (by kernel_rfl)⟩
            · refine aw_exit (tn_x (tn_x (inB_e (tn_n ?_))))
              cases h
              exact jr (by kernel_rfl)
        · have h := g4
          refine (inB_n (tn_n ?_))
          refine aw_regU hT m_no [] (by kernel_rfl) (tn_n ?_)
          exact ⟨k, Nat.lt_succ_self k, _, _, h, jr (by kernel_rfl)⟩
      · refine aw_exit (tn_x (tn_x (inB_e (tn_n ?_))))
        cases h
        exact jr (by kernel_rfl)
  · have h := g1
    refine ?_
    cases h
    exact fin_n (by kernel_rfl)

theorem tiles_tiles_1_for_tiles_Cover_R2_ok_c : callable Try.prog 138 := ⟨_, Try.func138, by decide, rfl⟩

/-! umbra/tiles.Cover -/
def p_tiles_Cover (N : Nat) (a0 : Int) (a1 : Int) (a2 : Int) : Option ((List (Vector Int 4)) × Int) :=
  Option.bind (Option.bind (p_tiles_between N a0) fun r2 =>
  cond (!r2) (
    some true) (
    Option.bind (p_tiles_between N a1) fun r3 =>
    cond (!r3) (
      some true) (
      Option.bind (p_tiles_between N a2) fun r4 =>
      some (!r4)))) fun p1 =>
  cond p1 (
    some (([], 2))) (
    Option.bind (p_tiles_tiles N a0 a1 a2) fun r5 =>
    Option.bind (p_tiles_tiles_1_for_tiles_Cover_R2 N [] a1 a2 a0) fun r6 =>
    some ((r6, 0)))

theorem tiles_Cover_ok {N : Nat} {a0 : Int} {a1 : Int} {a2 : Int} {r : (List (Vector Int 4)) × Int} (h : p_tiles_Cover N a0 a1 a2 = some r) : FnM Try.prog 19 [] [(j64 a0), (j64 a1), (j64 a2)] (.tup [(eL 4 (eA 4 1 j64) r.1), (j64 r.2)]) [] := by
  unfold p_tiles_Cover at h
  refine fnM_of_awR (m := 41) (lo := 0) (rs := [.tmp 6, .tmp 7]) hT Try.func19 rfl (by kernel_rfl) rfl ?_
  refine aw_sregU hT m_no [] (by kernel_rfl) ?_
  refine aw_seq ?_
  obtain ⟨p1, h, g1⟩ := obind h
  refine aw_joinT ⟨[en 0 (j64 a0), en 1 (j64 a1), en 2 (j64 a2), en 22 (eB p1)], []⟩ ?_ ?_
  · refine aw_region ?_
    refine awl_u hT m_no [] 1 (by kernel_rfl) ?_
    obtain ⟨r2, hr2, h⟩ := obind h
    refine awl_big (big_call [] (tiles_between_ok hr2) tiles_between_ok_c (by kernel_rfl) (by kernel_rfl)) (by kernel_rfl) ?_
    refine awl_u hT m_no [] 2 (by kernel_rfl) ?_
    refine awl_split 13 h (by kernel_rfl) (fun h => ?_) (fun h => ?_)
    · refine awl_u hT m_no [13, 18] 9 (by kernel_rfl) ?_
      refine awl_nil (tn_n ?_)
      cases h
      exact jr (by kernel_rfl)
    · refine awl_u hT m_no [13] 1 (by kernel_rfl) ?_
      obtain ⟨r3, hr3, h⟩ := obind h
      refine awl_big (big_call [] (tiles_between_ok hr3) tiles_between_ok_c (by kernel_rfl) (by kernel_rfl)) (by kernel_rfl) ?_
      refine awl_u hT m_no [13] 3 (by kernel_rfl) ?_
      refine awl_split 18 h (by kernel_rfl) (fun h => ?_) (fun h => ?_)
      · refine awl_u hT m_no [18] 4 (by kernel_rfl) ?_
        refine awl_nil (tn_n ?_)
        cases h
        exact jr (by kernel_rfl)
      · refine awl_u hT m_no [18] 1 (by kernel_rfl) ?_
        obtain ⟨r4, hr4, h⟩ := obind h
        refine awl_big (big_call [] (tiles_between_ok hr4) tiles_between_ok_c (by kernel_rfl) (by kernel_rfl)) (by kernel_rfl) ?_
        refine awl_u hT m_no [18] 2 (by kernel_rfl) ?_
        refine awl_nil (tn_n ?_)
        cases h
        exact jr (by kernel_rfl)
  · have h := g1
    refine aw_condH h (by kernel_rfl) (fun _ h => ?_) (fun _ h => ?_)
    · refine aw_sregU hT m_no [] (by kernel_rfl) ?_
      refine aw_ret (tn_r ?_)
      cases h
      exact fin_r (by kernel_rfl)
    · refine aw_skip (tn_n ?_)
      refine aw_sregU hT m_no [] (by kernel_rfl) ?_
      refine aw_seq ?_
      refine aw_sreg ?_
      refine awl_u hT m_no [] 3 (by kernel_rfl) ?_
      obtain ⟨r5, hr5, h⟩ := obind h
      refine awl_big (big_call [] (tiles_tiles_ok hr5) tiles_tiles_ok_c (by kernel_rfl) (by kernel_rfl)) (by kernel_rfl) ?_
      refine awl_nil ?_
      refine aw_block ?_
      refine aw_own_box 0 4 [] ?_
      obtain ⟨r6, hr6, h⟩ := obind h
      refine aw_range (n := (Fr.f 41 0 true)) (t := ⟨[en 8 (.ref 0 [] 0)], [.var (eO 1 4 (eA 4 1 j64) r6), .tail (r6.length * 4)]⟩) (caps := [(.im (j64 a1)), (.im (j64 a2)), (.im (j64 a0))]) (g := .tmp 26) (σ0 := [0, 1]) (tiles_tiles_1_for_tiles_Cover_R2_ok hr6) tiles_tiles_1_for_tiles_Cover_R2_ok_c (by kernel_rfl) rfl rfl rfl (by kernel_rfl) (fun _ => by kernel_rfl) (fun _ => by kernel_rfl) (fun _ => jr (by kernel_rfl)) (inB_n (tn_n ?_))
      refine aw_sregU hT m_no [] (by kernel_rfl) ?_
      refine aw_ret ?_
      cases h
      exact fin_r (by kernel_rfl)

theorem tiles_Cover_ok_c : callable Try.prog 19 := ⟨_, Try.func19, by decide, rfl⟩

/-! umbra/umbraref40.Cover -/
def p_umbraref40_Cover_L2 (N : Nat) (a0 : Int) (a2 : Int) (a1 : Int) (s8 : Int) : Nat → (List (Vector Int 4)) → Int → Option ((List (Vector Int 4)))
  | 0, _, _ => none
  | k + 1, s10, s11 =>
    cond (decide (s11 < a0)) (
      letO (imin a2 (I64 (a0 - s11))) fun x14 =>
      letO (imin a2 (I64 (a1 - s8))) fun x15 =>
      Option.bind (appO 32 s10 (([#v[s11, s8, x14, x15]] : List (Vector Int 4)))) fun z16 =>
      p_umbraref40_Cover_L2 N a0 a2 a1 s8 k z16 (I64 (s11 + a2))) (
      some s10)

def p_umbraref40_Cover_L1 (N : Nat) (a1 : Int) (a0 : Int) (a2 : Int) : Nat → (List (Vector Int 4)) → Int → Option ((List (Vector Int 4)))
  | 0, _, _ => none
  | k + 1, s7, s8 =>
    cond (decide (s8 < a1)) (
      Option.bind (p_umbraref40_Cover_L2 N a0 a2 a1 s8 N s7 0) fun p9 =>
      p_umbraref40_Cover_L1 N a1 a0 a2 k p9 (I64 (s8 + a2))) (
      some s7)

def p_umbraref40_Cover (N : Nat) (a0 : Int) (a1 : Int) (a2 : Int) : Option ((List (Vector Int 4)) × Int) :=
  letO (cond (decide (a0 < 1)) true (decide (a0 > 64))) fun x1 =>
  letO (cond x1 true (decide (a1 < 1))) fun x2 =>
  letO (cond x2 true (decide (a1 > 64))) fun x3 =>
  letO (cond x3 true (decide (a2 < 1))) fun x4 =>
  letO (cond x4 true (decide (a2 > 64))) fun x5 =>
  cond x5 (
    some (([], 2))) (
    Option.bind (p_umbraref40_Cover_L1 N a1 a0 a2 N [] 0) fun p6 =>
    some ((p6, 0)))

theorem umbraref40_Cover_ok {N : Nat} {a0 : Int} {a1 : Int} {a2 : Int} {r : (List (Vector Int 4)) × Int} (h : p_umbraref40_Cover N a0 a1 a2 = some r) : FnM Try.prog 20 [] [(j64 a0), (j64 a1), (j64 a2)] (.tup [(eL 4 (eA 4 1 j64) r.1), (j64 r.2)]) [] := by
  unfold p_umbraref40_Cover at h
  refine fnM_of_aw (m := 62) (lo := 0) (rs := [.tmp 6, .tmp 7]) hT Try.func20 rfl (by kernel_rfl) rfl ?_
  refine aw_sregU hT m_no [] (by kernel_rfl) ?_
  refine aw_seq ?_
  obtain ⟨x1, hx1, h⟩ := letE h
  obtain ⟨x2, hx2, h⟩ := letE h
  obtain ⟨x3, hx3, h⟩ := letE h
  obtain ⟨x4, hx4, h⟩ := letE h
  obtain ⟨x5, hx5, h⟩ := letE h
  refine aw_sregU hT m_no [] (by kernel_rfl) ?_
  refine aw_nms [(32, (eB x5))] (by subst hx5 hx4 hx3 hx2 hx1; kernel_rfl) ?_
  refine aw_condH h (by kernel_rfl) (fun _ h => ?_) (fun _ h => ?_)
  · refine aw_sregU hT m_no [] (by kernel_rfl) ?_
    refine aw_ret (tn_r ?_)
    cases h
    exact fin_r (by kernel_rfl)
  · refine aw_skip (tn_n ?_)
    refine aw_sregU hT m_no [] (by kernel_rfl) ?_
    refine aw_seq ?_
    refine aw_sregU hT m_no [] (by kernel_rfl) ?_
    refine aw_own_nil 8 4 (by kernel_rfl) ?_
    obtain ⟨p6, h, g6⟩ := obind h
    refine aw_joinTK ⟨[en 8 (eO 0 4 (eA 4 1 j64) p6)], [.tail (p6.length * 4)]⟩ ?_ ?_
    · refine aw_block (aw_loop (fun k s => ∃ s7 s8, p_umbraref40_Cover_L1 N a1 a0 a2 k s7 s8 = some p6 ∧ JR (Fr.f 62 0) ⟨[en 0 (j64 a0), en 1 (j64 a1), en 2 (j64 a2), en 8 (eO 0 4 (eA 4 1 j64) s7), en 9 (j64 s8)], [.tail (s7.length * 4)]⟩ s) (fun k s hI => ?_) N _ ⟨_, _, h, jr (by kernel_rfl)⟩)
      obtain ⟨s7, s8, h, hj⟩ := hI
      cases k with
      | zero => cases h
      | succ k =>
        refine aw_jr hj ?_
        refine aw_seq ?_
        refine aw_sregU hT m_no [] (by kernel_rfl) ?_
        refine aw_condH h (by kernel_rfl) (fun _ h => ?_) (fun _ h => ?_)
        · refine aw_skip (tn_n ?_)
          refine aw_seq ?_
          refine aw_block ?_
          refine aw_sregU hT m_no [] (by kernel_rfl) ?_
          obtain ⟨p9, h, g9⟩ := obind h
          refine aw_joinTK ⟨[en 0 (j64 a0), en 1 (j64 a1), en 2 (j64 a2), en 8 (eO 0 4 (eA 4 1 j64) p9), en 9 (j64 s8)], [.tail (p9.length * 4)]⟩ ?_ ?_
          · refine aw_block (aw_loop (fun k s => ∃ s10 s11, p_umbraref40_Cover_L2 N a0 a2 a1 s8 k s10 s11 = some p9 ∧ JR (Fr.f 62 0) ⟨[en 0 (j64 a0), en 1 (j64 a1), en 2 (j64 a2), en 8 (eO 0 4 (eA 4 1 j64) s10), en 9 (j64 s8), en 10 (j64 s11)], [.tail (s10.length * 4)]⟩ s) (fun k s hI => ?_) N _ ⟨_, _, h, jr (by kernel_rfl)⟩)
            obtain ⟨s10, s11, h, hj⟩ := hI
            cases k with
            | zero => cases h
            | succ k =>
              refine aw_jr hj ?_
              refine aw_seq ?_
              refine aw_sregU hT m_no [] (by kernel_rfl) ?_
              refine aw_condH h (by kernel_rfl) (fun _ h => ?_) (fun _ h => ?_)
              · refine aw_skip (tn_n ?_)
                refine aw_seq ?_
                refine aw_block ?_
                refine aw_region ?_
                obtain ⟨x14, hx14, h⟩ := letE h
                obtain ⟨x15, hx15, h⟩ := letE h
                refine awl_u hT m_no [] 14 (by kernel_rfl) ?_
                refine awl_nms [(58, (.arr 4 1 [(j64 s11), (j64 s8), (j64 x14), (j64 x15)]))] (by subst hx15 hx14; kernel_rfl) ?_
                refine awl_big (big_row hT (x := (.sl 4 1 [(.arr 4 1 [(j64 s11), (j64 s8), (j64 x14), (j64 x15)])])) (by kernel_rfl) (by kernel_rfl)) (by kernel_rfl) ?_
                obtain ⟨z16, hz16, h⟩ := obind h
                refine awl_big (big_app hT (eA 4 1 j64) (id := 0) (k := 4) hz16 (by kernel_rfl) (by kernel_rfl)) (by kernel_rfl) ?_
                refine awl_u hT m_no [] 1 (by kernel_rfl) ?_
                refine awl_nil (inB_n (tn_n ?_))
                refine aw_regU hT m_no [] (by kernel_rfl) (tn_n ?_)
                exact ⟨k, Nat.lt_succ_self k, _, _, h, jr (by kernel_rfl)⟩
              · refine aw_exit (tn_x (tn_x (inB_e (tn_n ?_))))
                cases h
                exact jr (by kernel_rfl)
          · have h := g9
            refine (inB_n (tn_n ?_))
            refine aw_regU hT m_no [] (by kernel_rfl) (tn_n ?_)
            exact ⟨k, Nat.lt_succ_self k, _, _, h, jr (by kernel_rfl)⟩
        · refine aw_exit (tn_x (tn_x (inB_e (tn_n ?_))))
          cases h
          exact jr (by kernel_rfl)
    · have h := g6
      refine (tn_n ?_)
      refine aw_sregU hT m_no [] (by kernel_rfl) ?_
      refine aw_ret ?_
      cases h
      exact fin_r (by kernel_rfl)

theorem umbraref40_Cover_ok_c : callable Try.prog 20 := ⟨_, Try.func20, by decide, rfl⟩

/-! umbra/umbralaw40.works -/
def p_umbralaw40_works (N : Nat) : Option (Bool) :=
  Option.bind (p_tiles_Cover N 5 3 2) fun r1 =>
  Option.bind (letO (((r1.1.length : Int)) == 6) fun x3 =>
  letO (cond (r1.2 == 0) x3 false) fun x4 =>
  cond x4 (
    Option.bind (idx r1.1 5) fun e5 =>
    letO ((eqV (fun a b => a == b)) e5 (#v[4, 2, 1, 1])) fun x6 =>
    some x6) (
    some false)) fun p2 =>
  some p2

theorem umbralaw40_works_ok {N : Nat} {r : Bool} (h : p_umbralaw40_works N = some r) : FnM Try.prog 21 [] [] (eB r) [] := by
  unfold p_umbralaw40_works at h
  refine fnM_of_aw (m := 21) (lo := 0) (rs := [.tmp 0]) hT Try.func21 rfl (by kernel_rfl) rfl ?_
  refine aw_sregU hT m_no [] (by kernel_rfl) ?_
  refine aw_sreg ?_
  obtain ⟨r1, hr1, h⟩ := obind h
  refine awl_big (big_call [] (tiles_Cover_ok hr1) tiles_Cover_ok_c (by kernel_rfl) (by kernel_rfl)) (by kernel_rfl) ?_
  refine awl_u hT m_no [] 5 (by kernel_rfl) ?_
  refine awl_nil ?_
  obtain ⟨p2, h, g2⟩ := obind h
  refine aw_joinT ⟨[en 0 (eB p2)], []⟩ ?_ ?_
  · refine aw_region ?_
    obtain ⟨x3, hx3, h⟩ := letE h
    obtain ⟨x4, hx4, h⟩ := letE h
    refine awl_u hT m_no [] 8 (by kernel_rfl) ?_
    refine awl_nms [(14, (eB x4))] (by subst hx4 hx3; kernel_rfl) ?_
    refine awl_split 14 h (by kernel_rfl) (fun h => ?_) (fun h => ?_)
    · refine awl_u hT m_no [14] 1 (by kernel_rfl) ?_
      obtain ⟨e5, he5, h⟩ := obind h
      refine awl_big (big_idx hT (eA 4 1 j64) he5 (by kernel_rfl) (by kernel_rfl)) (by kernel_rfl) ?_
      refine awl_u hT m_no [14] 2 (by kernel_rfl) ?_
      refine awl_big (big_eql eqT_28 (e5 : (Vector Int 4)) (#v[4, 2, 1, 1] : (Vector Int 4)) (by kernel_rfl) (by kernel_rfl) (fun _ => rfl) (fun _ => rfl) (by kernel_rfl) (by kernel_rfl)) (by kernel_rfl) ?_
      obtain ⟨x6, hx6, h⟩ := letE h
      refine awl_u hT m_no [14] 2 (by kernel_rfl) ?_
      refine awl_nms [(0, (eB x6))] (by subst hx6; kernel_rfl) ?_
      refine awl_nil (tn_n ?_)
      cases h
      exact jr (by kernel_rfl)
    · refine awl_u hT m_no [14] 7 (by kernel_rfl) ?_
      refine awl_nil (tn_n ?_)
      cases h
      exact jr (by kernel_rfl)
  · have h := g2
    refine aw_ret ?_
    cases h
    exact fin_r (by kernel_rfl)

theorem umbralaw40_works_ok_c : callable Try.prog 21 := ⟨_, Try.func21, by decide, rfl⟩

/-! umbra/umbralaw40.TilesCover -/
def p_umbralaw40_TilesCover_L1 (N : Nat) (r1 : (List (Vector Int 4)) × Int) (r2 : (List (Vector Int 4)) × Int) : Nat → Int → Option (Sum (Unit) (Bool))
  | 0, _ => none
  | k + 1, s6 =>
    letO (decide (s6 < ((r1.1.length : Int)))) fun x7 =>
    cond x7 (
      Option.bind (idx r1.1 s6) fun e8 =>
      Option.bind (idx r2.1 s6) fun e9 =>
      cond (!((eqV (fun a b => a == b)) e8 e9)) (
        some (Sum.inr false)) (
        p_umbralaw40_TilesCover_L1 N r1 r2 k (I64 (s6 + 1)))) (
      some (Sum.inl (())))

def p_umbralaw40_TilesCover (N : Nat) (a0 : Int) (a1 : Int) (a2 : Int) : Option (Bool) :=
  Option.bind (p_tiles_Cover N a0 a1 a2) fun r1 =>
  Option.bind (p_umbraref40_Cover N a0 a1 a2) fun r2 =>
  letO (((r1.1.length : Int)) != ((r2.1.length : Int))) fun x3 =>
  letO (cond x3 true (r1.2 != r2.2)) fun x4 =>
  cond x4 (
    some false) (
    Option.bind (p_umbralaw40_TilesCover_L1 N r1 r2 N 0) fun o => sumC o (fun p5 =>
      Option.bind (p_umbralaw40_works N ) fun r10 =>
      some r10) (fun r => some r))

theorem umbralaw40_TilesCover_ok {N : Nat} {a0 : Int} {a1 : Int} {a2 : Int} {r : Bool} (h : p_umbralaw40_TilesCover N a0 a1 a2 = some r) : FnM Try.prog 3 [] [(j64 a0), (j64 a1), (j64 a2)] (eB r) [] := by
  unfold p_umbralaw40_TilesCover at h
  refine fnM_of_aw (m := 52) (lo := 0) (rs := [.tmp 6]) hT Try.func3 rfl (by kernel_rfl) rfl ?_
  refine aw_sregU hT m_no [] (by kernel_rfl) ?_
  refine aw_sreg ?_
  refine awl_u hT m_no [] 3 (by kernel_rfl) ?_
  obtain ⟨r1, hr1, h⟩ := obind h
  refine awl_big (big_call [] (tiles_Cover_ok hr1) tiles_Cover_ok_c (by kernel_rfl) (by kernel_rfl)) (by kernel_rfl) ?_
  refine awl_u hT m_no [] 5 (by kernel_rfl) ?_
  refine awl_nil ?_
  refine aw_sreg ?_
  refine awl_u hT m_no [] 3 (by kernel_rfl) ?_
  obtain ⟨r2, hr2, h⟩ := obind h
  refine awl_big (big_call [] (umbraref40_Cover_ok hr2) umbraref40_Cover_ok_c (by kernel_rfl) (by kernel_rfl)) (by kernel_rfl) ?_
  refine awl_u hT m_no [] 5 (by kernel_rfl) ?_
  refine awl_nil ?_
  refine aw_seq ?_
  obtain ⟨x3, hx3, h⟩ := letE h
  obtain ⟨x4, hx4, h⟩ := letE h
  refine aw_sregU hT m_no [] (by kernel_rfl) ?_
  refine aw_nms [(35, (eB x4))] (by subst hx4 hx3; kernel_rfl) ?_
  refine aw_condH h (by kernel_rfl) (fun _ h => ?_) (fun _ h => ?_)
  · refine aw_sregU hT m_no [] (by kernel_rfl) ?_
    refine aw_ret (tn_r ?_)
    cases h
    exact fin_r (by kernel_rfl)
  · refine aw_skip (tn_n ?_)
    refine aw_seq ?_
    refine aw_sregU hT m_no [] (by kernel_rfl) ?_
    obtain ⟨op5, h, g5⟩ := obind h
    refine aw_joinSK (fun p5 => ⟨[], []⟩) g5 ?_ (fun p5 h => ?_)
    · refine aw_block (aw_loop (fun k s => ∃ s6, p_umbralaw40_TilesCover_L1 N r1 r2 k s6 = some op5 ∧ JR (Fr.f 52 0) ⟨[en 7 (eL 4 (eA 4 1 j64) r1.1), en 9 (eL 4 (eA 4 1 j64) r2.1), en 37 (j64 ((r1.1.length : Int))), en 38 (j64 s6)], []⟩ s) (fun k s hI => ?_) N _ ⟨_, h, jr (by kernel_rfl)⟩)
      obtain ⟨s6, h, hj⟩ := hI
      cases k with
      | zero => cases h
      | succ k =>
        refine aw_jr hj ?_
        obtain ⟨x7, hx7, h⟩ := letE h
        refine aw_sregU hT m_no [] (by kernel_rfl) ?_
        refine aw_nms [(39, (eB x7))] (by subst hx7; kernel_rfl) ?_
        refine aw_seq ?_
        refine aw_condH h (by kernel_rfl) (fun _ h => ?_) (fun _ h => ?_)
        · refine aw_skip (tn_n ?_)
          refine aw_seq ?_
          refine aw_block ?_
          refine aw_sregU hT m_no [] (by kernel_rfl) ?_
          obtain ⟨e8, he8, h⟩ := obind h
          obtain ⟨e9, he9, h⟩ := obind h
          refine aw_sdrawV hT hmo m_no [(2, (.im (eA 4 1 j64 e8))), (6, (.im (eA 4 1 j64 e9))), (8, (eB (!((eqV (fun a b => a == b)) e8 e9))))] [] (by kernel_rfl) (by kernel_rfl) (by kernel_rfl) ⟨fun _ => big_idx hT (eA 4 1 j64) he8 (by kernel_rfl) (by kernel_rfl), fun _ => big_idx hT (eA 4 1 j64) he9 (by kernel_rfl) (by kernel_rfl), fun _ => big_neq eqT_28 (e8 : (Vector Int 4)) (e9 : (Vector Int 4)) (by kernel_rfl) (by kernel_rfl) (fun _ => rfl) (fun _ => rfl) (by kernel_rfl) (by kernel_rfl), trivial⟩ trivial ?_
          refine aw_condH h (by kernel_rfl) (fun _ h => ?_) (fun _ h => ?_)
          · refine aw_sregU hT m_no [] (by kernel_rfl) ?_
            cases h
            have h := g5
            refine aw_ret (inB_r (tn_r (tn_r (inB_r (tn_r (tn_r ?_))))))
            obtain rfl := sum_e h
            exact fin_r (by kernel_rfl)
          · refine aw_skip (inB_n (tn_n ?_))
            refine aw_regU hT m_no [] (by kernel_rfl) (tn_n ?_)
            exact ⟨k, Nat.lt_succ_self k, _, h, jr (by kernel_rfl)⟩
        · refine aw_exit (tn_x (tn_x (inB_e (tn_n ?_))))
          cases h
          exact ⟨_, rfl, jr (by kernel_rfl)⟩
    · refine (tn_n ?_)
      refine aw_sreg ?_
      obtain ⟨r10, hr10, h⟩ := obind h
      refine awl_big (big_call [] (umbralaw40_works_ok hr10) umbralaw40_works_ok_c (by kernel_rfl) (by kernel_rfl)) (by kernel_rfl) ?_
      refine awl_u hT m_no [] 1 (by kernel_rfl) ?_
      refine awl_nil ?_
      refine aw_ret ?_
      cases h
      exact fin_r (by kernel_rfl)

theorem umbralaw40_TilesCover_ok_c : callable Try.prog 3 := ⟨_, Try.func3, by decide, rfl⟩

/-! umbra/umbralaw40.TilesOnce -/
def p_umbralaw40_TilesOnce_L2 (N : Nat) (e36 : Int) (e38 : Int) (e10 : (Vector Int 4)) (x1 : Int) (x2 : Int) : Nat → (List Int) → Int → Option ((List Int))
  | 0, _, _ => none
  | k + 1, s40, s41 =>
    letO (decide (s41 < (I64 (e36 * e38)))) fun x42 =>
    cond x42 (
      Option.bind (inRO 1 4) fun _ =>
      Option.bind (e10.toList[((1 : Int).toNat)]?) fun e44 =>
      Option.bind (inRO 2 4) fun _ =>
      Option.bind (e10.toList[((2 : Int).toNat)]?) fun e46 =>
      Option.bind (quoO .i64 s41 e46) fun x47 =>
      letO (I64 ((I64 (e44 + x47)) * x1)) fun x48 =>
      Option.bind (inRO 0 4) fun _ =>
      Option.bind (e10.toList[((0 : Int).toNat)]?) fun e50 =>
      Option.bind (inRO 2 4) fun _ =>
      Option.bind (e10.toList[((2 : Int).toNat)]?) fun e52 =>
      Option.bind (remO .i64 s41 e52) fun x53 =>
      letO (I64 ((I64 (x48 + e50)) + x53)) fun x54 =>
      Option.bind (inRO x54 ((I64 (x1 * x2)).toNat)) fun _ =>
      Option.bind (s40[x54.toNat]?) fun e56 =>
      Option.bind (inRO x54 ((I64 (x1 * x2)).toNat)) fun _ =>
      Option.bind (s40[x54.toNat]?) fun e58 =>
      p_umbralaw40_TilesOnce_L2 N e36 e38 e10 x1 x2 k (s40.set x54.toNat (I64 (e56 + 1))) (I64 (s41 + 1))) (
      some s40)

def p_umbralaw40_TilesOnce_L1 (N : Nat) (r4 : (List (Vector Int 4)) × Int) (x1 : Int) (x2 : Int) (x3 : Int) : Nat → (List Int) → Int → Option (Sum ((List Int)) (Bool))
  | 0, _, _ => none
  | k + 1, s7, s8 =>
    letO (decide (s8 < ((r4.1.length : Int)))) fun x9 =>
    cond x9 (
      Option.bind (idx r4.1 s8) fun e10 =>
      Option.bind (Option.bind (inRO 0 4) fun _ =>
      Option.bind (e10.toList[((0 : Int).toNat)]?) fun e13 =>
      cond (decide (e13 < 0)) (
        some true) (
        Option.bind (inRO 1 4) fun _ =>
        Option.bind (e10.toList[((1 : Int).toNat)]?) fun e15 =>
        cond (decide (e15 < 0)) (
          some true) (
          Option.bind (inRO 2 4) fun _ =>
          Option.bind (e10.toList[((2 : Int).toNat)]?) fun e17 =>
          cond (decide (e17 < 1)) (
            some true) (
            Option.bind (inRO 3 4) fun _ =>
            Option.bind (e10.toList[((3 : Int).toNat)]?) fun e19 =>
            cond (decide (e19 < 1)) (
              some true) (
              Option.bind (inRO 0 4) fun _ =>
              Option.bind (e10.toList[((0 : Int).toNat)]?) fun e21 =>
              Option.bind (inRO 2 4) fun _ =>
              Option.bind (e10.toList[((2 : Int).toNat)]?) fun e23 =>
              letO (decide ((I64 (e21 + e23)) > x1)) fun x24 =>
              cond x24 (
                some true) (
                Option.bind (inRO 1 4) fun _ =>
                Option.bind (e10.toList[((1 : Int).toNat)]?) fun e26 =>
                Option.bind (inRO 3 4) fun _ =>
                Option.bind (e10.toList[((3 : Int).toNat)]?) fun e28 =>
                letO (decide ((I64 (e26 + e28)) > x2)) fun x29 =>
                cond x29 (
                  some true) (
                  Option.bind (inRO 2 4) fun _ =>
                  Option.bind (e10.toList[((2 : Int).toNat)]?) fun e31 =>
                  Option.bind (inRO 3 4) fun _ =>
                  Option.bind (e10.toList[((3 : Int).toNat)]?) fun e33 =>
                  letO (decide ((imax e31 e33) > x3)) fun x34 =>
                  some x34))))))) fun p11 =>
      cond p11 (
        some (Sum.inr false)) (
        Option.bind (inRO 2 4) fun _ =>
        Option.bind (e10.toList[((2 : Int).toNat)]?) fun e36 =>
        Option.bind (inRO 3 4) fun _ =>
        Option.bind (e10.toList[((3 : Int).toNat)]?) fun e38 =>
        Option.bind (p_umbralaw40_TilesOnce_L2 N e36 e38 e10 x1 x2 N s7 0) fun p39 =>
        p_umbralaw40_TilesOnce_L1 N r4 x1 x2 x3 k p39 (I64 (s8 + 1)))) (
      some (Sum.inl s7))

def p_umbralaw40_TilesOnce_L3 (N : Nat) (x59 : Int) (x1 : Int) (x2 : Int) (p6 : (List Int)) : Nat → Int → Option (Sum (Unit) (Bool))
  | 0, _ => none
  | k + 1, s61 =>
    cond (decide (s61 < x59)) (
      Option.bind (inRO s61 ((I64 (x1 * x2)).toNat)) fun _ =>
      Option.bind (p6[s61.toNat]?) fun e63 =>
      cond (e63 != 1) (
        some (Sum.inr false)) (
        p_umbralaw40_TilesOnce_L3 N x59 x1 x2 p6 k (I64 (s61 + 1)))) (
      some (Sum.inl (())))

def p_umbralaw40_TilesOnce (N : Nat) (a0 : Int) (a1 : Int) (a2 : Int) : Option (Bool) :=
  letO (I64 ((I64 (Int.tmod a0 64)) + 1)) fun x1 =>
  letO (I64 ((I64 (Int.tmod a1 64)) + 1)) fun x2 =>
  letO (I64 ((I64 (Int.tmod a2 64)) + 1)) fun x3 =>
  Option.bind (p_tiles_Cover N x1 x2 x3) fun r4 =>
  cond (r4.2 != 0) (
    some false) (
    Option.bind (mkO 8 (I64 (x1 * x2))) fun _ =>
    Option.bind (p_umbralaw40_TilesOnce_L1 N r4 x1 x2 x3 N (List.replicate ((I64 (x1 * x2)).toNat) (0 : Int)) 0) fun o => sumC o (fun p6 =>
      letO (((I64 (x1 * x2)).toNat : Int)) fun x59 =>
      Option.bind (p_umbralaw40_TilesOnce_L3 N x59 x1 x2 p6 N 0) fun o => sumC o (fun p60 =>
        Option.bind (p_umbralaw40_works N ) fun r64 =>
        some r64) (fun r => some r)) (fun r => some r))

theorem umbralaw40_TilesOnce_ok {N : Nat} {a0 : Int} {a1 : Int} {a2 : Int} {r : Bool} (h : p_umbralaw40_TilesOnce N a0 a1 a2 = some r) : FnM Try.prog 4 [] [(k8 a0), (k8 a1), (k8 a2)] (eB r) [] := by
  unfold p_umbralaw40_TilesOnce at h
  refine fnM_of_aw (m := 136) (lo := 0) (rs := [.tmp 6]) hT Try.func4 rfl (by kernel_rfl) rfl ?_
  refine aw_sregU hT m_no [] (by kernel_rfl) ?_
  obtain ⟨x1, hx1, h⟩ := letE h
  obtain ⟨x2, hx2, h⟩ := letE h
  obtain ⟨x3, hx3, h⟩ := letE h
  refine aw_sregU hT m_no [] (by kernel_rfl) ?_
  refine aw_nms [(7, (j64 x1)), (8, (j64 x2)), (9, (j64 x3))] (by subst hx3 hx2 hx1; kernel_rfl) ?_
  refine aw_sreg ?_
  refine awl_u hT m_no [] 3 (by kernel_rfl) ?_
  obtain ⟨r4, hr4, h⟩ := obind h
  refine awl_big (big_call [] (tiles_Cover_ok hr4) tiles_Cover_ok_c (by kernel_rfl) (by kernel_rfl)) (by kernel_rfl) ?_
  refine awl_u hT m_no [] 5 (by kernel_rfl) ?_
  refine awl_nil ?_
  refine aw_seq ?_
  refine aw_sregU hT m_no [] (by kernel_rfl) ?_
  refine aw_condH h (by kernel_rfl) (fun _ h => ?_) (fun _ h => ?_)
  · refine aw_sregU hT m_no [] (by kernel_rfl) ?_
    refine aw_ret (tn_r ?_)
    cases h
    exact fin_r (by kernel_rfl)
  · refine aw_skip (tn_n ?_)
    refine aw_sreg ?_
    refine awl_u hT m_no [] 3 (by kernel_rfl) ?_
    obtain ⟨u5, hu5, h⟩ := obind h
    refine awl_big (big_mk hT j64 ((0 : Int)) (k := 1) (kd := .int .i64) hu5 (by kernel_rfl) (by kernel_rfl) rfl) (by kernel_rfl) ?_
    refine awl_u hT m_no [] 1 (by kernel_rfl) ?_
    refine awl_nil ?_
    refine aw_seq ?_
    refine aw_sregU hT m_no [] (by kernel_rfl) ?_
    obtain ⟨op6, h, g6⟩ := obind h
    refine aw_joinSK (fun p6 => ⟨[en 12 (.bsl 0 [] 0 1 0 ((I64 (x1 * x2)).toNat))], [.var (.arr (((I64 (x1 * x2)).toNat) * 1) 1 (List.map j64 p6))]⟩) g6 ?_ (fun p6 h => ?_)
    · refine aw_block (aw_loop (fun k s => ∃ s7 s8, p_umbralaw40_TilesOnce_L1 N r4 x1 x2 x3 k s7 s8 = some op6 ∧ JR (Fr.f 136 0) ⟨[en 7 (j64 x1), en 8 (j64 x2), en 9 (j64 x3), en 12 (.bsl 0 [] 0 1 0 ((I64 (x1 * x2)).toNat)), en 43 (eL 4 (eA 4 1 j64) r4.1), en 44 (j64 ((r4.1.length : Int))), en 45 (j64 s8)], [.var (.arr (((I64 (x1 * x2)).toNat) * 1) 1 (List.map j64 s7))]⟩ s) (fun k s hI => ?_) N _ ⟨_, _, h, jr (by kernel_rfl)⟩)
      obtain ⟨s7, s8, h, hj⟩ := hI
      cases k with
      | zero => cases h
      | succ k =>
        refine aw_jr hj ?_
        obtain ⟨x9, hx9, h⟩ := letE h
        refine aw_sregU hT m_no [] (by kernel_rfl) ?_
        refine aw_nms [(46, (eB x9))] (by subst hx9; kernel_rfl) ?_
        refine aw_seq ?_
        refine aw_condH h (by kernel_rfl) (fun _ h => ?_) (fun _ h => ?_)
        · refine aw_skip (tn_n ?_)
          refine aw_seq ?_
          refine aw_block ?_
          refine aw_sreg ?_
          obtain ⟨e10, he10, h⟩ := obind h
          refine awl_big (big_idx hT (eA 4 1 j64) he10 (by kernel_rfl) (by kernel_rfl)) (by kernel_rfl) ?_
          refine awl_u hT m_no [] 3 (by kernel_rfl) ?_
          refine awl_nil ?_
          refine aw_seq ?_
          obtain ⟨p11, h, g11⟩ := obind h
          refine aw_joinT ⟨[en 7 (j64 x1), en 8 (j64 x2), en 9 (j64 x3), en 12 (.bsl 0 [] 0 1 0 ((I64 (x1 * x2)).toNat)), en 14 (.ref 1 [] 0), en 43 (eL 4 (eA 4 1 j64) r4.1), en 44 (j64 ((r4.1.length : Int))), en 45 (j64 s8), en 93 (eB p11)], [.var (.arr (((I64 (x1 * x2)).toNat) * 1) 1 (List.map j64 s7)), .var (eA 4 1 j64 e10)]⟩ ?_ ?_
          · refine aw_region ?_
            obtain ⟨u12, hu12, h⟩ := obind h
            refine awl_big (big_adR hT (k := 1) 1 [] 0 hu12 (by kernel_rfl) (by kernel_rfl)) (by kernel_rfl) ?_
            obtain ⟨e13, he13, h⟩ := obind h
            refine awl_big (big_ldE hT j64 0 he13 (by kernel_rfl) (by kernel_rfl)) (by kernel_rfl) ?_
            refine awl_u hT m_no [] 2 (by kernel_rfl) ?_
            refine awl_split 52 h (by kernel_rfl) (fun h => ?_) (fun h => ?_)
            · refine awl_u hT m_no [52, 57, 62, 67, 76, 85] 41 (by kernel_rfl) ?_
              refine awl_nil (tn_n ?_)
              cases h
              exact jr (by kernel_rfl)
            · obtain ⟨u14, hu14, h⟩ := obind h
              refine awl_big (big_adR hT (k := 1) 1 [] 0 hu14 (by kernel_rfl) (by kernel_rfl)) (by kernel_rfl) ?_
              obtain ⟨e15, he15, h⟩ := obind h
              refine awl_big (big_ldE hT j64 0 he15 (by kernel_rfl) (by kernel_rfl)) (by kernel_rfl) ?_
              refine awl_u hT m_no [52] 3 (by kernel_rfl) ?_
              refine awl_split 57 h (by kernel_rfl) (fun h => ?_) (fun h => ?_)
              · refine awl_u hT m_no [57, 62, 67, 76, 85] 36 (by kernel_rfl) ?_
                refine awl_nil (tn_n ?_)
                cases h
                exact jr (by kernel_rfl)
              · obtain ⟨u16, hu16, h⟩ := obind h
                refine awl_big (big_adR hT (k := 1) 1 [] 0 hu16 (by kernel_rfl) (by kernel_rfl)) (by kernel_rfl) ?_
                obtain ⟨e17, he17, h⟩ := obind h
                refine awl_big (big_ldE hT j64 0 he17 (by kernel_rfl) (by kernel_rfl)) (by kernel_rfl) ?_
                refine awl_u hT m_no [57] 3 (by kernel_rfl) ?_
                refine awl_split 62 h (by kernel_rfl) (fun h => ?_) (fun h => ?_)
                · refine awl_u hT m_no [62, 67, 76, 85] 31 (by kernel_rfl) ?_
                  refine awl_nil (tn_n ?_)
                  cases h
                  exact jr (by kernel_rfl)
                · obtain ⟨u18, hu18, h⟩ := obind h
                  refine awl_big (big_adR hT (k := 1) 1 [] 0 hu18 (by kernel_rfl) (by kernel_rfl)) (by kernel_rfl) ?_
                  obtain ⟨e19, he19, h⟩ := obind h
                  refine awl_big (big_ldE hT j64 0 he19 (by kernel_rfl) (by kernel_rfl)) (by kernel_rfl) ?_
                  refine awl_u hT m_no [62] 3 (by kernel_rfl) ?_
                  refine awl_split 67 h (by kernel_rfl) (fun h => ?_) (fun h => ?_)
                  · refine awl_u hT m_no [67, 76, 85] 26 (by kernel_rfl) ?_
                    refine awl_nil (tn_n ?_)
                    cases h
                    exact jr (by kernel_rfl)
                  · obtain ⟨u20, hu20, h⟩ := obind h
                    refine awl_big (big_adR hT (k := 1) 1 [] 0 hu20 (by kernel_rfl) (by kernel_rfl)) (by kernel_rfl) ?_
                    first | refine awl_to ⟨[en 7 (j64 x1), en 8 (j64 x2), en 9 (j64 x3), en 12 (.bsl 0 [] 0 1 0 ((I64 (x1 * x2)).toNat)), en 14 (.ref 1 [] 0), en 43 (eL 4 (eA 4 1 j64) r4.1), en 44 (j64 ((r4.1.length : Int))), en 45 (j64 s8), en 67 (eB false), en 68 (.ref 1 [((0 : Int).toNat)] (0 + ((0 : Int).toNat) * 1))], [.var (.arr (((I64 (x1 * x2)).toNat) * 1) 1 (List.map j64 s7)), .var (eA 4 1 j64 e10)]⟩ (by kernel_rfl) ?_ | skip
                    obtain ⟨e21, he21, h⟩ := obind h
                    refine awl_big (big_ldE hT j64 0 he21 (by kernel_rfl) (by kernel_rfl)) (by kernel_rfl) ?_
                    obtain ⟨u22, hu22, h⟩ := obind h
                    refine awl_big (big_adR hT (k := 1) 1 [] 0 hu22 (by kernel_rfl) (by kernel_rfl)) (by kernel_rfl) ?_
                    obtain ⟨e23, he23, h⟩ := obind h
                    refine awl_big (big_ldE hT j64 0 he23 (by kernel_rfl) (by kernel_rfl)) (by kernel_rfl) ?_
                    obtain ⟨x24, hx24, h⟩ := letE h
                    refine awl_u hT m_no [67] 5 (by kernel_rfl) ?_
                    refine awl_nms [(76, (eB x24))] (by subst hx24; kernel_rfl) ?_
                    refine awl_split 76 h (by kernel_rfl) (fun h => ?_) (fun h => ?_)
                    · refine awl_u hT m_no [76, 85] 17 (by kernel_rfl) ?_
                      refine awl_nil (tn_n ?_)
                      cases h
                      exact jr (by kernel_rfl)
                    · obtain ⟨u25, hu25, h⟩ := obind h
                      refine awl_big (big_adR hT (k := 1) 1 [] 0 hu25 (by kernel_rfl) (by kernel_rfl)) (by kernel_rfl) ?_
                      first | refine awl_to ⟨[en 7 (j64 x1), en 8 (j64 x2), en 9 (j64 x3), en 12 (.bsl 0 [] 0 1 0 ((I64 (x1 * x2)).toNat)), en 14 (.ref 1 [] 0), en 43 (eL 4 (eA 4 1 j64) r4.1), en 44 (j64 ((r4.1.length : Int))), en 45 (j64 s8), en 76 (eB false), en 77 (.ref 1 [((1 : Int).toNat)] (0 + ((1 : Int).toNat) * 1))], [.var (.arr (((I64 (x1 * x2)).toNat) * 1) 1 (List.map j64 s7)), .var (eA 4 1 j64 e10)]⟩ (by kernel_rfl) ?_ | skip
                      obtain ⟨e26, he26, h⟩ := obind h
                      refine awl_big (big_ldE hT j64 0 he26 (by kernel_rfl) (by kernel_rfl)) (by kernel_rfl) ?_
                      obtain ⟨u27, hu27, h⟩ := obind h
                      refine awl_big (big_adR hT (k := 1) 1 [] 0 hu27 (by kernel_rfl) (by kernel_rfl)) (by kernel_rfl) ?_
                      obtain ⟨e28, he28, h⟩ := obind h
                      refine awl_big (big_ldE hT j64 0 he28 (by kernel_rfl) (by kernel_rfl)) (by kernel_rfl) ?_
                      obtain ⟨x29, hx29, h⟩ := letE h
                      refine awl_u hT m_no [76] 5 (by kernel_rfl) ?_
                      refine awl_nms [(85, (eB x29))] (by subst hx29; kernel_rfl) ?_
                      refine awl_split 85 h (by kernel_rfl) (fun h => ?_) (fun h => ?_)
                      · refine awl_u hT m_no [85] 8 (by kernel_rfl) ?_
                        refine awl_nil (tn_n ?_)
                        cases h
                        exact jr (by kernel_rfl)
                      · obtain ⟨u30, hu30, h⟩ := obind h
                        refine awl_big (big_adR hT (k := 1) 1 [] 0 hu30 (by kernel_rfl) (by kernel_rfl)) (by kernel_rfl) ?_
                        first | refine awl_to ⟨[en 7 (j64 x1), en 8 (j64 x2), en 9 (j64 x3), en 12 (.bsl 0 [] 0 1 0 ((I64 (x1 * x2)).toNat)), en 14 (.ref 1 [] 0), en 43 (eL 4 (eA 4 1 j64) r4.1), en 44 (j64 ((r4.1.length : Int))), en 45 (j64 s8), en 85 (eB false), en 86 (.ref 1 [((2 : Int).toNat)] (0 + ((2 : Int).toNat) * 1))], [.var (.arr (((I64 (x1 * x2)).toNat) * 1) 1 (List.map j64 s7)), .var (eA 4 1 j64 e10)]⟩ (by kernel_rfl) ?_ | skip
                        obtain ⟨e31, he31, h⟩ := obind h
                        refine awl_big (big_ldE hT j64 0 he31 (by kernel_rfl) (by kernel_rfl)) (by kernel_rfl) ?_
                        obtain ⟨u32, hu32, h⟩ := obind h
                        refine awl_big (big_adR hT (k := 1) 1 [] 0 hu32 (by kernel_rfl) (by kernel_rfl)) (by kernel_rfl) ?_
                        obtain ⟨e33, he33, h⟩ := obind h
                        refine awl_big (big_ldE hT j64 0 he33 (by kernel_rfl) (by kernel_rfl)) (by kernel_rfl) ?_
                        obtain ⟨x34, hx34, h⟩ := letE h
                        refine awl_u hT m_no [85] 4 (by kernel_rfl) ?_
                        refine awl_nms [(93, (eB x34))] (by subst hx34; kernel_rfl) ?_
                        refine awl_nil (tn_n ?_)
                        cases h
                        exact jr (by kernel_rfl)
          · have h := g11
            refine aw_condH h (by kernel_rfl) (fun _ h => ?_) (fun _ h => ?_)
            · refine aw_sregU hT m_no [] (by kernel_rfl) ?_
              cases h
              have h := g6
              refine aw_ret (tn_r (inB_r (tn_r (tn_r (inB_r (tn_r (tn_r ?_)))))))
              obtain rfl := sum_e h
              exact fin_r (by kernel_rfl)
            · refine aw_skip (tn_n ?_)
              refine aw_sreg ?_
              obtain ⟨u35, hu35, h⟩ := obind h
              refine awl_big (big_adR hT (k := 1) 1 [] 0 hu35 (by kernel_rfl) (by kernel_rfl)) (by kernel_rfl) ?_
              first | refine awl_to ⟨[en 7 (j64 x1), en 8 (j64 x2), en 9 (j64 x3), en 12 (.bsl 0 [] 0 1 0 ((I64 (x1 * x2)).toNat)), en 14 (.ref 1 [] 0), en 43 (eL 4 (eA 4 1 j64) r4.1), en 44 (j64 ((r4.1.length : Int))), en 45 (j64 s8), en 94 (.ref 1 [((2 : Int).toNat)] (0 + ((2 : Int).toNat) * 1))], [.var (.arr (((I64 (x1 * x2)).toNat) * 1) 1 (List.map j64 s7)), .var (eA 4 1 j64 e10)]⟩ (by kernel_rfl) ?_ | skip
              obtain ⟨e36, he36, h⟩ := obind h
              refine awl_big (big_ldE hT j64 0 he36 (by kernel_rfl) (by kernel_rfl)) (by kernel_rfl) ?_
              obtain ⟨u37, hu37, h⟩ := obind h
              refine awl_big (big_adR hT (k := 1) 1 [] 0 hu37 (by kernel_rfl) (by kernel_rfl)) (by kernel_rfl) ?_
              obtain ⟨e38, he38, h⟩ := obind h
              refine awl_big (big_ldE hT j64 0 he38 (by kernel_rfl) (by kernel_rfl)) (by kernel_rfl) ?_
              refine awl_u hT m_no [] 2 (by kernel_rfl) ?_
              refine awl_nil ?_
              obtain ⟨p39, h, g39⟩ := obind h
              refine aw_joinTK ⟨[en 7 (j64 x1), en 8 (j64 x2), en 9 (j64 x3), en 12 (.bsl 0 [] 0 1 0 ((I64 (x1 * x2)).toNat)), en 43 (eL 4 (eA 4 1 j64) r4.1), en 44 (j64 ((r4.1.length : Int))), en 45 (j64 s8)], [.var (.arr (((I64 (x1 * x2)).toNat) * 1) 1 (List.map j64 p39)), .var (eA 4 1 j64 e10)]⟩ ?_ ?_
              · refine aw_block (aw_loop (fun k s => ∃ s40 s41, p_umbralaw40_TilesOnce_L2 N e36 e38 e10 x1 x2 k s40 s41 = some p39 ∧ JR (Fr.f 136 0) ⟨[en 7 (j64 x1), en 8 (j64 x2), en 9 (j64 x3), en 12 (.bsl 0 [] 0 1 0 ((I64 (x1 * x2)).toNat)), en 14 (.ref 1 [] 0), en 43 (eL 4 (eA 4 1 j64) r4.1), en 44 (j64 ((r4.1.length : Int))), en 45 (j64 s8), en 98 (j64 (I64 (e36 * e38))), en 99 (j64 s41)], [.var (.arr (((I64 (x1 * x2)).toNat) * 1) 1 (List.map j64 s40)), .var (eA 4 1 j64 e10)]⟩ s) (fun k s hI => ?_) N _ ⟨_, _, h, jr (by kernel_rfl)⟩)
                obtain ⟨s40, s41, h, hj⟩ := hI
                cases k with
                | zero => cases h
                | succ k =>
                  refine aw_jr hj ?_
                  obtain ⟨x42, hx42, h⟩ := letE h
                  refine aw_sregU hT m_no [] (by kernel_rfl) ?_
                  refine aw_nms [(100, (eB x42))] (by subst hx42; kernel_rfl) ?_
                  refine aw_seq ?_
                  refine aw_condH h (by kernel_rfl) (fun _ h => ?_) (fun _ h => ?_)
                  · refine aw_skip (tn_n ?_)
                    refine aw_seq ?_
                    refine aw_block ?_
                    refine aw_sregU hT m_no [] (by kernel_rfl) ?_
                    obtain ⟨u43, hu43, h⟩ := obind h
                    obtain ⟨e44, he44, h⟩ := obind h
                    obtain ⟨u45, hu45, h⟩ := obind h
                    obtain ⟨e46, he46, h⟩ := obind h
                    obtain ⟨x47, hx47, h⟩ := obind h
                    obtain ⟨x48, hx48, h⟩ := letE h
                    obtain ⟨u49, hu49, h⟩ := obind h
                    obtain ⟨e50, he50, h⟩ := obind h
                    obtain ⟨u51, hu51, h⟩ := obind h
                    obtain ⟨e52, he52, h⟩ := obind h
                    obtain ⟨x53, hx53, h⟩ := obind h
                    obtain ⟨x54, hx54, h⟩ := letE h
                    obtain ⟨u55, hu55, h⟩ := obind h
                    obtain ⟨e56, he56, h⟩ := obind h
                    obtain ⟨u57, hu57, h⟩ := obind h
                    obtain ⟨e58, he58, h⟩ := obind h
                    refine aw_drawNS hT hmo m_no [(1, (.ref 1 [((1 : Int).toNat)] (0 + ((1 : Int).toNat) * 1))), (2, (j64 e44)), (4, (.ref 1 [((2 : Int).toNat)] (0 + ((2 : Int).toNat) * 1))), (5, (j64 e46)), (6, (j64 x47)), (10, (.ref 1 [((0 : Int).toNat)] (0 + ((0 : Int).toNat) * 1))), (11, (j64 e50)), (14, (.ref 1 [((2 : Int).toNat)] (0 + ((2 : Int).toNat) * 1))), (15, (j64 e52)), (16, (j64 x53)), (18, (.ref 0 [x54.toNat] (0 + x54.toNat * 1))), (19, (j64 e56)), (21, (.ref 0 [x54.toNat] (0 + x54.toNat * 1)))] [[[.var (.arr (((I64 (x1 * x2)).toNat) * 1) 1 (List.map j64 s40)), .var (eA 4 1 j64 e10)]], [[.var (.arr (((I64 (x1 * x2)).toNat) * 1) 1 (List.map j64 s40)), .var (eA 4 1 j64 e10)]], [[.var (.arr (((I64 (x1 * x2)).toNat) * 1) 1 (List.map j64 s40)), .var (eA 4 1 j64 e10)]], [[.var (.arr (((I64 (x1 * x2)).toNat) * 1) 1 (List.map j64 s40)), .var (eA 4 1 j64 e10)]], [[.var (.arr (((I64 (x1 * x2)).toNat) * 1) 1 (List.map j64 s40)), .var (eA 4 1 j64 e10)]], [[.var (.arr (((I64 (x1 * x2)).toNat) * 1) 1 (List.map j64 s40)), .var (eA 4 1 j64 e10)]], [[.var (.arr (((I64 (x1 * x2)).toNat) * 1) 1 (List.map j64 s40)), .var (eA 4 1 j64 e10)]], [[.var (.arr (((I64 (x1 * x2)).toNat) * 1) 1 (List.map j64 s40)), .var (eA 4 1 j64 e10)]], [[.var (.arr (((I64 (x1 * x2)).toNat) * 1) 1 (List.map j64 s40)), .var (eA 4 1 j64 e10)]], [[.var (.arr (((I64 (x1 * x2)).toNat) * 1) 1 (List.map j64 s40)), .var (eA 4 1 j64 e10)]], [[.var (.arr (((I64 (x1 * x2)).toNat) * 1) 1 (List.map j64 s40)), .var (eA 4 1 j64 e10)]], [[.var (.arr (((I64 (x1 * x2)).toNat) * 1) 1 (List.map j64 s40)), .var (eA 4 1 j64 e10)]], [[.var (.arr (((I64 (x1 * x2)).toNat) * 1) 1 (List.map j64 s40)), .var (eA 4 1 j64 e10)]]] [(22, fun _ => ((.v (.bool false)), [.var (.arr (((I64 (x1 * x2)).toNat) * 1) 1 (List.map j64 (s40.set x54.toNat (I64 (e56 + 1))))), .var (eA 4 1 j64 e10)]))] (by subst hx54 hx48; kernel_rfl) (by subst hx54 hx48; kernel_rfl) (by kernel_rfl) (by kernel_rfl) ⟨⟨big_adR hT (k := 1) 1 [] 0 hu43 (by kernel_rfl) (by kernel_rfl), trivial⟩, ⟨big_at (big_ldE hT j64 0 he44 (by kernel_rfl) (by kernel_rfl)) (by kernel_rfl), trivial⟩, ⟨big_adR hT (k := 1) 1 [] 0 hu45 (by kernel_rfl) (by kernel_rfl), trivial⟩, ⟨big_at (big_ldE hT j64 0 he46 (by kernel_rfl) (by kernel_rfl)) (by kernel_rfl), trivial⟩, ⟨big_quo hT hx47 (by kernel_rfl) (by kernel_rfl), trivial⟩, ⟨big_adR hT (k := 1) 1 [] 0 hu49 (by subst hx48; kernel_rfl) (by subst hx48; kernel_rfl), trivial⟩, ⟨big_at (big_ldE hT j64 0 he50 (by subst hx48; kernel_rfl) (by subst hx48; kernel_rfl)) (by subst hx48; kernel_rfl), trivial⟩, ⟨big_adR hT (k := 1) 1 [] 0 hu51 (by subst hx48; kernel_rfl) (by subst hx48; kernel_rfl), trivial⟩, ⟨big_at (big_ldE hT j64 0 he52 (by subst hx48; kernel_rfl) (by subst hx48; kernel_rfl)) (by subst hx48; kernel_rfl), trivial⟩, ⟨big_rem hT hx53 (by subst hx48; kernel_rfl) (by subst hx48; kernel_rfl), trivial⟩, ⟨big_adS hT 0 [] 0 0 ((I64 (x1 * x2)).toNat) (k := 1) hu55 (by subst hx54 hx48; kernel_rfl) (by subst hx54 hx48; kernel_rfl), trivial⟩, ⟨big_at (big_ldE hT j64 0 he56 (by subst hx54 hx48; kernel_rfl) (by subst hx54 hx48; kernel_rfl)) (by subst hx54 hx48; kernel_rfl), trivial⟩, ⟨big_adS hT 0 [] 0 0 ((I64 (x1 * x2)).toNat) (k := 1) hu57 (by subst hx54 hx48; kernel_rfl) (by subst hx54 hx48; kernel_rfl), trivial⟩, trivial⟩ ⟨big_at (big_stE hT j64 0 he58 (I64 (e56 + 1)) (by subst hx54 hx48; kernel_rfl) (by subst hx54 hx48; kernel_rfl) (by subst hx54 hx48; kernel_rfl)) (by subst hx54 hx48; kernel_rfl), trivial⟩ [] (by subst hx54 hx48; kernel_rfl) (inB_n (tn_n ?_))
                    refine aw_regU hT m_no [] (by kernel_rfl) (tn_n ?_)
                    exact ⟨k, Nat.lt_succ_self k, _, _, h, jr (by kernel_rfl)⟩
                  · refine aw_exit (tn_x (tn_x (inB_e (tn_n ?_))))
                    cases h
                    exact jr (by kernel_rfl)
              · have h := g39
                refine (inB_n (tn_n ?_))
                refine aw_regU hT m_no [] (by kernel_rfl) (tn_n ?_)
                exact ⟨k, Nat.lt_succ_self k, _, _, h, jr (by kernel_rfl)⟩
        · refine aw_exit (tn_x (tn_x (inB_e (tn_n ?_))))
          cases h
          exact ⟨_, rfl, jr (by kernel_rfl)⟩
    · refine (tn_n ?_)
      refine aw_seq ?_
      obtain ⟨x59, hx59, h⟩ := letE h
      refine aw_sregU hT m_no [] (by kernel_rfl) ?_
      refine aw_nms [(127, (j64 x59))] (by subst hx59; kernel_rfl) ?_
      obtain ⟨op60, h, g60⟩ := obind h
      refine aw_joinSK (fun p60 => ⟨[], [.var (.arr (((I64 (x1 * x2)).toNat) * 1) 1 (List.map j64 p6))]⟩) g60 ?_ (fun p60 h => ?_)
      · refine aw_block (aw_loop (fun k s => ∃ s61, p_umbralaw40_TilesOnce_L3 N x59 x1 x2 p6 k s61 = some op60 ∧ JR (Fr.f 136 0) ⟨[en 126 (.bsl 0 [] 0 1 0 ((I64 (x1 * x2)).toNat)), en 127 (j64 x59), en 128 (j64 s61)], [.var (.arr (((I64 (x1 * x2)).toNat) * 1) 1 (List.map j64 p6))]⟩ s) (fun k s hI => ?_) N _ ⟨_, h, jr (by kernel_rfl)⟩)
        obtain ⟨s61, h, hj⟩ := hI
        cases k with
        | zero => cases h
        | succ k =>
          refine aw_jr hj ?_
          refine aw_sregU hT m_no [] (by kernel_rfl) ?_
          refine aw_seq ?_
          refine aw_condH h (by kernel_rfl) (fun _ h => ?_) (fun _ h => ?_)
          · refine aw_skip (tn_n ?_)
            refine aw_seq ?_
            refine aw_block ?_
            refine aw_sreg ?_
            obtain ⟨u62, hu62, h⟩ := obind h
            refine awl_big (big_adS hT 0 [] 0 0 ((I64 (x1 * x2)).toNat) (k := 1) hu62 (by kernel_rfl) (by kernel_rfl)) (by kernel_rfl) ?_
            obtain ⟨e63, he63, h⟩ := obind h
            refine awl_big (big_ldE hT j64 0 he63 (by kernel_rfl) (by kernel_rfl)) (by kernel_rfl) ?_
            refine awl_u hT m_no [] 1 (by kernel_rfl) ?_
            refine awl_nil ?_
            refine aw_sregU hT m_no [] (by kernel_rfl) ?_
            refine aw_condH h (by kernel_rfl) (fun _ h => ?_) (fun _ h => ?_)
            · refine aw_sregU hT m_no [] (by kernel_rfl) ?_
              cases h
              have h := g60
              refine aw_ret (inB_r (tn_r (tn_r (inB_r (tn_r (tn_r ?_))))))
              obtain rfl := sum_e h
              exact fin_r (by kernel_rfl)
            · refine aw_skip (inB_n (tn_n ?_))
              refine aw_regU hT m_no [] (by kernel_rfl) (tn_n ?_)
              exact ⟨k, Nat.lt_succ_self k, _, h, jr (by kernel_rfl)⟩
          · refine aw_exit (tn_x (tn_x (inB_e (tn_n ?_))))
            cases h
            exact ⟨_, rfl, jr (by kernel_rfl)⟩
      · refine (tn_n ?_)
        refine aw_sreg ?_
        obtain ⟨r64, hr64, h⟩ := obind h
        refine awl_big (big_call [] (umbralaw40_works_ok hr64) umbralaw40_works_ok_c (by kernel_rfl) (by kernel_rfl)) (by kernel_rfl) ?_
        refine awl_u hT m_no [] 1 (by kernel_rfl) ?_
        refine awl_nil ?_
        refine aw_ret ?_
        cases h
        exact fin_r (by kernel_rfl)

theorem umbralaw40_TilesOnce_ok_c : callable Try.prog 4 := ⟨_, Try.func4, by decide, rfl⟩

end Go.UK
