/- A part of the proof: what the functions of the program compute. -/
import Derived.Test.YtcaadpceoajapaaPT
namespace Go.UK
open Go Go.Proofs
set_option maxRecDepth 20000
set_option maxHeartbeats 4000000
set_option linter.all false

attribute [local irreducible] owp awl aw FnM NatFn opS Stab TOK Big

/-! umbra/umbralaw28.Few -/
def m_umbralaw28_Few : Nat → Bool := imL [1]

def p_umbralaw28_Few_L1 (N : Nat) (a0 : S_api_Scene) : Nat → (List S_api_Texture) → Int → Option ((List S_api_Texture))
  | 0, _, _ => none
  | k + 1, s2, s3 =>
    letO ((a0.gTexs.length : Int)) fun x4 =>
    letO (cond (decide (s3 < x4)) (decide (s3 < 4)) false) fun x5 =>
    cond x5 (
      Option.bind (idx a0.gTexs s3) fun e6 =>
      letO ((e6.gTexels.length : Int)) fun x7 =>
      Option.bind (slcO e6.gTexels 0 (imin x7 260)) fun s8 =>
      Option.bind (appO 32 s2 (([S_api_Texture.mk e6.gSide s8] : List S_api_Texture))) fun a9 =>
      p_umbralaw28_Few_L1 N a0 k a9 (I64 (s3 + 1))) (
      some s2)

def p_umbralaw28_Few (N : Nat) (a0 : S_api_Scene) : Option (S_api_Scene) :=
  Option.bind (p_umbralaw28_Few_L1 N a0 N [] 0) fun p1 =>
  letO ((a0.gTris.length : Int)) fun x10 =>
  Option.bind (slcO a0.gTris 0 (imin x10 20)) fun s11 =>
  letO ((a0.gMats.length : Int)) fun x12 =>
  Option.bind (slcO a0.gMats 0 (imin x12 8)) fun s13 =>
  letO ((a0.gLights.length : Int)) fun x14 =>
  Option.bind (slcO a0.gLights 0 (imin x14 5)) fun s15 =>
  letO (imin ((a0.gIds.length : Int)) 20) fun x16 =>
  Option.bind (slcO a0.gIds 0 x16) fun s17 =>
  letO ((a0.gLabels.length : Int)) fun x18 =>
  Option.bind (slcO a0.gLabels 0 (imin x18 20)) fun s19 =>
  some (S_api_Scene.mk s11 s13 p1 s15 s17 s19 a0.gLabel a0.gFrom a0.gTo)

theorem umbralaw28_Few_ok {N : Nat} {a0 : S_api_Scene} {r : S_api_Scene} (h : p_umbralaw28_Few N a0 = some r) : FnM Try.prog 55 [] [(S_api_Scene.enc a0)] (S_api_Scene.enc r) [] := by
  unfold p_umbralaw28_Few at h
  refine fnM_of_aw (m := 78) (lo := 0) (rs := [.cell 2 89]) hT Try.func55 rfl (by kernel_rfl) rfl ?_
  refine aw_sregU hT m_umbralaw28_Few [] (by kernel_rfl) ?_
  refine aw_sregU hT m_umbralaw28_Few [] (by kernel_rfl) ?_
  refine aw_seq ?_
  refine aw_sregU hT m_umbralaw28_Few [] (by kernel_rfl) ?_
  refine aw_own_nil 3 2 (by kernel_rfl) ?_
  obtain ⟨p1, h, g1⟩ := obind h
  refine aw_joinTK ⟨[en 1 (.im (S_api_Scene.enc a0)), en 2 (.ref 0 [] 0), en 3 (eO 1 2 S_api_Texture.enc p1)], [.var (.st 9 [(.v (.slice none 0 0)), (.v (.slice none 0 0)), (.v (.slice none 0 0)), (.v (.slice none 0 0)), (.v (.slice none 0 0)), (.v (.slice none 0 0)), (k32 0), (k32 0), (k32 0)]), .tail (p1.length * 2)]⟩ ?_ ?_
  · refine aw_block (aw_loop (fun k s => ∃ s2 s3, p_umbralaw28_Few_L1 N a0 k s2 s3 = some p1 ∧ JR (Fr.f 78 0) ⟨[en 1 (.im (S_api_Scene.enc a0)), en 2 (.ref 0 [] 0), en 3 (eO 1 2 S_api_Texture.enc s2), en 4 (j64 s3)], [.var (.st 9 [(.v (.slice none 0 0)), (.v (.slice none 0 0)), (.v (.slice none 0 0)), (.v (.slice none 0 0)), (.v (.slice none 0 0)), (.v (.slice none 0 0)), (k32 0), (k32 0), (k32 0)]), .tail (s2.length * 2)]⟩ s) (fun k s hI => ?_) N _ ⟨_, _, h, jr (by kernel_rfl)⟩)
    obtain ⟨s2, s3, h, hj⟩ := hI
    cases k with
    | zero => cases h
    | succ k =>
      refine aw_to _ hj ?_
      refine aw_seq ?_
      obtain ⟨x4, hx4, h⟩ := letE h
      obtain ⟨x5, hx5, h⟩ := letE h
      refine aw_sregU hT m_umbralaw28_Few [] (by kernel_rfl) ?_
      refine aw_nms [(14, (eB x5))] (by subst hx5 hx4; kernel_rfl) ?_
      refine aw_condH h (by kernel_rfl) (fun _ h => ?_) (fun _ h => ?_)
      · refine aw_skip (tn_n ?_)
        refine aw_seq ?_
        refine aw_block ?_
        refine aw_sreg ?_
        refine awl_u hT m_umbralaw28_Few [] 3 (by kernel_rfl) ?_
        obtain ⟨e6, he6, h⟩ := obind h
        refine awl_big (big_idx hT S_api_Texture.enc he6 (by kernel_rfl) (by kernel_rfl)) (by kernel_rfl) ?_
        refine awl_u hT m_umbralaw28_Few [] 3 (by kernel_rfl) ?_
        refine awl_nil ?_
        obtain ⟨x7, hx7, h⟩ := letE h
        obtain ⟨s8, hs8, h⟩ := obind h
        obtain ⟨a9, ha9, h⟩ := obind h
        refine aw_drawN hT hmo m_umbralaw28_Few [(9, (eL 3 (eA 3 1 j64) s8)), (11, (.sl 2 1 [(.st 2 [(j64 e6.gSide), (eL 3 (eA 3 1 j64) s8)])]))] [(12, fun _ => ((eO 1 2 S_api_Texture.enc a9), [.var (.st 9 [(.v (.slice none 0 0)), (.v (.slice none 0 0)), (.v (.slice none 0 0)), (.v (.slice none 0 0)), (.v (.slice none 0 0)), (.v (.slice none 0 0)), (k32 0), (k32 0), (k32 0)]), .tail (a9.length * 2), .var (S_api_Texture.enc e6)]))] (by subst hx7; kernel_rfl) (by subst hx7; kernel_rfl) (by kernel_rfl) ⟨fun _ => big_slc hT (k := 3) (eA 3 1 j64) hs8 (by subst hx7; kernel_rfl) (by subst hx7; kernel_rfl), fun _ => big_row hT (x := (.sl 2 1 [(.st 2 [(j64 e6.gSide), (eL 3 (eA 3 1 j64) s8)])])) (by subst hx7; kernel_rfl) (by subst hx7; kernel_rfl), trivial⟩ ⟨big_at (big_app hT S_api_Texture.enc (id := 1) (k := 2) ha9 (by subst hx7; kernel_rfl) (by subst hx7; kernel_rfl)) (by subst hx7; kernel_rfl), trivial⟩ [] (by subst hx7; kernel_rfl) (inB_n (tn_n ?_))
        refine aw_regU hT m_umbralaw28_Few [] (by kernel_rfl) (tn_n ?_)
        exact ⟨k, Nat.lt_succ_self k, _, _, h, jr (by kernel_rfl)⟩
      · refine aw_exit (tn_x (tn_x (inB_e (tn_n ?_))))
        cases h
        exact jr (by kernel_rfl)
  · have h := g1
    refine (tn_n ?_)
    obtain ⟨x10, hx10, h⟩ := letE h
    obtain ⟨s11, hs11, h⟩ := obind h
    obtain ⟨x12, hx12, h⟩ := letE h
    obtain ⟨s13, hs13, h⟩ := obind h
    obtain ⟨x14, hx14, h⟩ := letE h
    obtain ⟨s15, hs15, h⟩ := obind h
    obtain ⟨x16, hx16, h⟩ := letE h
    obtain ⟨s17, hs17, h⟩ := obind h
    obtain ⟨x18, hx18, h⟩ := letE h
    obtain ⟨s19, hs19, h⟩ := obind h
    refine aw_sdrawV hT hmo m_umbralaw28_Few [(6, (eL 19 S_api_Tri.enc s11)), (13, (eL 5 S_api_Material.enc s13)), (21, (eL 13 S_api_Light.enc s15)), (28, (eL 1 k64 s17)), (35, (eL 1 k32 s19))] [] (by subst hx18 hx16 hx14 hx12 hx10; kernel_rfl) (by subst hx18 hx16 hx14 hx12 hx10; kernel_rfl) (by kernel_rfl) ⟨fun _ => big_slc hT (k := 19) S_api_Tri.enc hs11 (by subst hx10; kernel_rfl) (by subst hx10; kernel_rfl), fun _ => big_slc hT (k := 5) S_api_Material.enc hs13 (by subst hx12 hx10; kernel_rfl) (by subst hx12 hx10; kernel_rfl), fun _ => big_slc hT (k := 13) S_api_Light.enc hs15 (by subst hx14 hx12 hx10; kernel_rfl) (by subst hx14 hx12 hx10; kernel_rfl), fun _ => big_slc hT (k := 1) k64 hs17 (by subst hx16 hx14 hx12 hx10; kernel_rfl) (by subst hx16 hx14 hx12 hx10; kernel_rfl), fun _ => big_slc hT (k := 1) k32 hs19 (by subst hx18 hx16 hx14 hx12 hx10; kernel_rfl) (by subst hx18 hx16 hx14 hx12 hx10; kernel_rfl), trivial⟩ trivial ?_
    refine aw_ret ?_
    cases h
    exact fin_r (by kernel_rfl)

theorem umbralaw28_Few_ok_c : callable Try.prog 55 := ⟨_, Try.func55, by decide, rfl⟩

/-! umbra/film.may -/
def m_film_may : Nat → Bool := imL [3]

def p_film_may_L1 (N : Nat) (a0 : (List S_api_Sample)) (a1 : S_api_Scene) : Nat → Int → Option (Sum (Unit) (Int))
  | 0, _ => none
  | k + 1, s4 =>
    letO (decide (s4 < ((a0.length : Int)))) fun x5 =>
    cond x5 (
      Option.bind (idx a0 s4) fun e6 =>
      Option.bind (letO (decide (e6.gObj < (-1))) fun x8 =>
      letO ((a1.gLabels.length : Int)) fun x9 =>
      letO (imin ((a1.gIds.length : Int)) x9) fun x10 =>
      letO (cond x8 true (decide (e6.gObj ≥ x10))) fun x11 =>
      cond x11 (
        some true) (
        letO (cond (e6.gAlpha != 0) (e6.gAlpha != 1) false) fun x12 =>
        some x12)) fun p7 =>
      cond p7 (some (Sum.inr 5)) (p_film_may_L1 N a0 a1 k (I64 (s4 + 1)))) (
      some (Sum.inl (())))

def p_film_may (N : Nat) (a0 : (List S_api_Sample)) (a1 : S_api_Scene) : Option (Int) :=
  letO (((a0.length : Int)) == 0) fun x1 =>
  letO (decide (((a0.length : Int)) > 16)) fun x2 =>
  cond (cond x1 true x2) (
    some 2) (
    Option.bind (p_film_may_L1 N a0 a1 N 0) fun o => sumC o (fun p3 =>
      some 0) (fun r => some r))

theorem film_may_ok {N : Nat} {a0 : (List S_api_Sample)} {a1 : S_api_Scene} {r : Int} (h : p_film_may N a0 a1 = some r) : FnM Try.prog 118 [] [(eL 9 S_api_Sample.enc a0), (S_api_Scene.enc a1)] (j64 r) [] := by
  unfold p_film_may at h
  refine fnM_of_aw (m := 47) (lo := 0) (rs := [.tmp 4]) hT Try.func118 rfl (by kernel_rfl) rfl ?_
  refine aw_sregU hT m_film_may [] (by kernel_rfl) ?_
  refine aw_seq ?_
  obtain ⟨x1, hx1, h⟩ := letE h
  obtain ⟨x2, hx2, h⟩ := letE h
  refine aw_sregU hT m_film_may [] (by kernel_rfl) ?_
  refine aw_nms [(14, (eB (cond x1 true x2)))] (by subst hx2 hx1; kernel_rfl) ?_
  refine aw_condH h (by kernel_rfl) (fun _ h => ?_) (fun _ h => ?_)
  · refine aw_sregU hT m_film_may [] (by kernel_rfl) ?_
    refine aw_ret (tn_r ?_)
    cases h
    exact fin_r (by kernel_rfl)
  · refine aw_skip (tn_n ?_)
    refine aw_seq ?_
    refine aw_sregU hT m_film_may [] (by kernel_rfl) ?_
    obtain ⟨op3, h, g3⟩ := obind h
    refine aw_joinSK (fun p3 => ⟨[], []⟩) g3 ?_ (fun p3 h => ?_)
    · refine aw_block (aw_loop (fun k s => ∃ s4, p_film_may_L1 N a0 a1 k s4 = some op3 ∧ JR (Fr.f 47 0) ⟨[en 3 (.im (S_api_Scene.enc a1)), en 15 (eL 9 S_api_Sample.enc a0), en 16 (j64 ((a0.length : Int))), en 17 (j64 s4)], []⟩ s) (fun k s hI => ?_) N _ ⟨_, h, jr (by kernel_rfl)⟩)
      obtain ⟨s4, h, hj⟩ := hI
      cases k with
      | zero => cases h
      | succ k =>
        refine aw_to _ hj ?_
        obtain ⟨x5, hx5, h⟩ := letE h
        refine aw_sregU hT m_film_may [] (by kernel_rfl) ?_
        refine aw_nms [(18, (eB x5))] (by subst hx5; kernel_rfl) ?_
        refine aw_seq ?_
        refine aw_condH h (by kernel_rfl) (fun _ h => ?_) (fun _ h => ?_)
        · refine aw_skip (tn_n ?_)
          refine aw_seq ?_
          refine aw_block ?_
          refine aw_sreg ?_
          obtain ⟨e6, he6, h⟩ := obind h
          refine awl_big (big_idx hT S_api_Sample.enc he6 (by kernel_rfl) (by kernel_rfl)) (by kernel_rfl) ?_
          refine awl_u hT m_film_may [] 3 (by kernel_rfl) ?_
          refine awl_nil ?_
          obtain ⟨p7, h, g7⟩ := obind h
          refine aw_joinT ⟨[en 3 (.im (S_api_Scene.enc a1)), en 15 (eL 9 S_api_Sample.enc a0), en 16 (j64 ((a0.length : Int))), en 17 (j64 s4), en 45 (eB p7)], [.var (S_api_Sample.enc e6)]⟩ ?_ ?_
          · refine aw_region ?_
            obtain ⟨x8, hx8, h⟩ := letE h
            obtain ⟨x9, hx9, h⟩ := letE h
            obtain ⟨x10, hx10, h⟩ := letE h
            obtain ⟨x11, hx11, h⟩ := letE h
            refine awl_u hT m_film_may [] 16 (by kernel_rfl) ?_
            refine awl_nms [(36, (eB x11))] (by subst hx11 hx10 hx9 hx8; kernel_rfl) ?_
            refine awl_split 36 h (by kernel_rfl) (fun h => ?_) (fun h => ?_)
            · refine awl_u hT m_film_may [36, 40] 9 (by kernel_rfl) ?_
              refine awl_nil (tn_n ?_)
              cases h
              exact jr (by kernel_rfl)
            · obtain ⟨x12, hx12, h⟩ := letE h
              refine awl_u hT m_film_may [36] 9 (by kernel_rfl) ?_
              refine awl_nms [(45, (eB x12))] (by subst hx12; kernel_rfl) ?_
              refine awl_nil (tn_n ?_)
              cases h
              exact jr (by kernel_rfl)
          · have h := g7
            refine aw_condH h (by kernel_rfl) (fun _ h => ?_) (fun _ h => ?_)
            · refine aw_sregU hT m_film_may [] (by kernel_rfl) ?_
              cases h
              have h := g3
              refine aw_ret (inB_r (tn_r (tn_r (inB_r (tn_r (tn_r ?_))))))
              obtain rfl := sum_e h
              exact fin_r (by kernel_rfl)
            · refine aw_skip (inB_n (tn_n ?_))
              refine aw_regU hT m_film_may [] (by kernel_rfl) (tn_n ?_)
              exact ⟨k, Nat.lt_succ_self k, _, h, jr (by kernel_rfl)⟩
        · refine aw_exit (tn_x (tn_x (inB_e (tn_n ?_))))
          cases h
          exact ⟨_, rfl, jr (by kernel_rfl)⟩
    · refine (tn_n ?_)
      refine aw_sregU hT m_film_may [] (by kernel_rfl) ?_
      refine aw_ret ?_
      cases h
      exact fin_r (by kernel_rfl)

theorem film_may_ok_c : callable Try.prog 118 := ⟨_, Try.func118, by decide, rfl⟩

/-! umbra/fix.Add -/
def p_fix_Add_L1 (N : Nat) (a0 : (List Int)) : Nat → Int → Int → Option (Int)
  | 0, _, _ => none
  | k + 1, s2, s3 =>
    letO (decide (s3 < ((a0.length : Int)))) fun x4 =>
    cond x4 (
      Option.bind (idx a0 s3) fun e5 =>
      Option.bind (letO (cond (decide (s2 > 0)) (decide (e5 > 0)) false) fun x7 =>
      letO (decide ((I64 (s2 + e5)) < 0)) fun x8 =>
      cond (cond x7 x8 false) (
        some 9223372036854775807) (
        letO (cond (decide (s2 < 0)) (decide (e5 < 0)) false) fun x9 =>
        letO (decide ((I64 (s2 + e5)) ≥ 0)) fun x10 =>
        cond (cond x9 x10 false) (some (-9223372036854775808)) (some (I64 (s2 + e5))))) fun p6 =>
      p_fix_Add_L1 N a0 k p6 (I64 (s3 + 1))) (
      some s2)

def p_fix_Add (N : Nat) (a0 : (List Int)) : Option (Int) :=
  Option.bind (p_fix_Add_L1 N a0 N 0 0) fun p1 =>
  some p1

theorem fix_Add_ok {N : Nat} {a0 : (List Int)} {r : Int} (h : p_fix_Add N a0 = some r) : FnM Try.prog 86 [] [(eL 1 j64 a0)] (j64 r) [] := by
  unfold p_fix_Add at h
  refine fnM_of_aw (m := 41) (lo := 0) (rs := [.tmp 2]) hT Try.func86 rfl (by kernel_rfl) rfl ?_
  refine aw_sregU hT m_no [] (by kernel_rfl) ?_
  refine aw_sregU hT m_no [] (by kernel_rfl) ?_
  refine aw_seq ?_
  refine aw_sregU hT m_no [] (by kernel_rfl) ?_
  obtain ⟨p1, h, g1⟩ := obind h
  refine aw_joinTK ⟨[en 3 (j64 p1)], []⟩ ?_ ?_
  · refine aw_block (aw_loop (fun k s => ∃ s2 s3, p_fix_Add_L1 N a0 k s2 s3 = some p1 ∧ JR (Fr.f 41 0) ⟨[en 3 (j64 s2), en 7 (eL 1 j64 a0), en 8 (j64 ((a0.length : Int))), en 9 (j64 s3)], []⟩ s) (fun k s hI => ?_) N _ ⟨_, _, h, jr (by kernel_rfl)⟩)
    obtain ⟨s2, s3, h, hj⟩ := hI
    cases k with
    | zero => cases h
    | succ k =>
      refine aw_to _ hj ?_
      obtain ⟨x4, hx4, h⟩ := letE h
      refine aw_sregU hT m_no [] (by kernel_rfl) ?_
      refine aw_nms [(10, (eB x4))] (by subst hx4; kernel_rfl) ?_
      refine aw_seq ?_
      refine aw_condH h (by kernel_rfl) (fun _ h => ?_) (fun _ h => ?_)
      · refine aw_skip (tn_n ?_)
        refine aw_seq ?_
        refine aw_block ?_
        refine aw_sreg ?_
        obtain ⟨e5, he5, h⟩ := obind h
        refine awl_big (big_idx hT j64 he5 (by kernel_rfl) (by kernel_rfl)) (by kernel_rfl) ?_
        refine awl_u hT m_no [] 2 (by kernel_rfl) ?_
        refine awl_nil ?_
        refine aw_sregU hT m_no [] (by kernel_rfl) ?_
        obtain ⟨p6, h, g6⟩ := obind h
        refine aw_joinT ⟨[en 6 (j64 p6), en 7 (eL 1 j64 a0), en 8 (j64 ((a0.length : Int))), en 9 (j64 s3)], []⟩ ?_ ?_
        · refine aw_block ?_
          obtain ⟨x7, hx7, h⟩ := letE h
          obtain ⟨x8, hx8, h⟩ := letE h
          refine aw_sregU hT m_no [] (by kernel_rfl) ?_
          refine aw_nms [(16, (eB (cond x7 x8 false)))] (by subst hx8 hx7; kernel_rfl) ?_
          refine aw_condH h (by kernel_rfl) (fun _ h => ?_) (fun _ h => ?_)
          · refine aw_regU hT m_no [] (by kernel_rfl) (inB_n (tn_n ?_))
            cases h
            exact jr (by kernel_rfl)
          · obtain ⟨x9, hx9, h⟩ := letE h
            obtain ⟨x10, hx10, h⟩ := letE h
            refine aw_sregU hT m_no [] (by kernel_rfl) ?_
            refine aw_nms [(27, (eB (cond x9 x10 false)))] (by subst hx10 hx9; kernel_rfl) ?_
            refine aw_condH h (by kernel_rfl) (fun _ h => ?_) (fun _ h => ?_)
            · refine aw_regU hT m_no [] (by kernel_rfl) (inB_n (tn_n ?_))
              cases h
              exact jr (by kernel_rfl)
            · refine aw_skip (inB_n (tn_n ?_))
              cases h
              exact jr (by kernel_rfl)
        · have h := g6
          refine aw_regU hT m_no [] (by kernel_rfl) (inB_n (tn_n ?_))
          refine aw_regU hT m_no [] (by kernel_rfl) (tn_n ?_)
          exact ⟨k, Nat.lt_succ_self k, _, _, h, jr (by kernel_rfl)⟩
      · refine aw_exit (tn_x (tn_x (inB_e (tn_n ?_))))
        cases h
        exact jr (by kernel_rfl)
  · have h := g1
    refine (tn_n ?_)
    refine aw_sregU hT m_no [] (by kernel_rfl) ?_
    refine aw_ret ?_
    cases h
    exact fin_r (by kernel_rfl)

theorem fix_Add_ok_c : callable Try.prog 86 := ⟨_, Try.func86, by decide, rfl⟩

/-! umbra/vec.Add$1 -/
def p_vec_Add_1 (N : Nat) (a0 : Int) (a1 : Int) : Option (Int) :=
  Option.bind (p_fix_Add N ([a0, a1])) fun r1 =>
  some r1

theorem vec_Add_1_ok {N : Nat} {a0 : Int} {a1 : Int} {r : Int} (h : p_vec_Add_1 N a0 a1 = some r) : FnM Try.prog 159 [] [(j64 a0), (j64 a1)] (j64 r) [] := by
  unfold p_vec_Add_1 at h
  refine fnM_of_aw (m := 9) (lo := 0) (rs := [.tmp 4]) hT Try.func159 rfl (by kernel_rfl) rfl ?_
  refine aw_sregU hT m_no [] (by kernel_rfl) ?_
  refine aw_sreg ?_
  refine awl_u hT m_no [] 2 (by kernel_rfl) ?_
  refine awl_big (big_row hT (x := (.sl 1 2 [(j64 a0), (j64 a1)])) (by kernel_rfl) (by kernel_rfl)) (by kernel_rfl) ?_
  obtain ⟨r1, hr1, h⟩ := obind h
  refine awl_big (big_call [] (fix_Add_ok hr1) fix_Add_ok_c (by kernel_rfl) (by kernel_rfl)) (by kernel_rfl) ?_
  refine awl_u hT m_no [] 1 (by kernel_rfl) ?_
  refine awl_nil ?_
  refine aw_ret ?_
  cases h
  exact fin_r (by kernel_rfl)

theorem vec_Add_1_ok_c : callable Try.prog 159 := ⟨_, Try.func159, by decide, rfl⟩

/-! umbra/vec.each -/
def m_vec_each_v0 : Nat → Bool := imL [3, 4]

def p_vec_each_v0 (N : Nat) (a0 : S_api_Vec) (a1 : S_api_Vec) : Option (S_api_Vec) :=
  Option.bind (p_vec_Add_1 N a0.gX a1.gX) fun r1 =>
  Option.bind (p_vec_Add_1 N a0.gY a1.gY) fun r2 =>
  Option.bind (p_vec_Add_1 N a0.gZ a1.gZ) fun r3 =>
  some (S_api_Vec.mk r1 r2 r3)

theorem vec_each_v0_ok {N : Nat} {a0 : S_api_Vec} {a1 : S_api_Vec} {r : S_api_Vec} (h : p_vec_each_v0 N a0 a1 = some r) : FnM Try.prog 158 [] [(S_api_Vec.enc a0), (S_api_Vec.enc a1), (.fn (.func 159) [] [])] (S_api_Vec.enc r) [] := by
  unfold p_vec_each_v0 at h
  refine fnM_of_aw (m := 26) (lo := 0) (rs := [.cell 6 167]) hT Try.func158 rfl (by kernel_rfl) rfl ?_
  refine aw_sregU hT m_vec_each_v0 [] (by kernel_rfl) ?_
  obtain ⟨r1, hr1, h⟩ := obind h
  obtain ⟨r2, hr2, h⟩ := obind h
  obtain ⟨r3, hr3, h⟩ := obind h
  refine aw_sdrawV hT hmo m_vec_each_v0 [(5, (j64 r1)), (11, (j64 r2)), (17, (j64 r3))] [] (by kernel_rfl) (by kernel_rfl) (by kernel_rfl) ⟨fun _ => big_call0 (vec_Add_1_ok hr1) vec_Add_1_ok_c (by kernel_rfl) (by kernel_rfl) (by kernel_rfl), fun _ => big_call0 (vec_Add_1_ok hr2) vec_Add_1_ok_c (by kernel_rfl) (by kernel_rfl) (by kernel_rfl), fun _ => big_call0 (vec_Add_1_ok hr3) vec_Add_1_ok_c (by kernel_rfl) (by kernel_rfl) (by kernel_rfl), trivial⟩ trivial ?_
  refine aw_ret ?_
  cases h
  exact fin_r (by kernel_rfl)

theorem vec_each_v0_ok_c : callable Try.prog 158 := ⟨_, Try.func158, by decide, rfl⟩

/-! umbra/vec.Add -/
def p_vec_Add_L1 (N : Nat) (a0 : (List S_api_Vec)) : Nat → Int → Int → Int → Int → Option (Int × Int × Int)
  | 0, _, _, _, _ => none
  | k + 1, s2, s3, s4, s5 =>
    letO (decide (s5 < ((a0.length : Int)))) fun x6 =>
    cond x6 (
      Option.bind (idx a0 s5) fun e7 =>
      Option.bind (p_vec_each_v0 N (S_api_Vec.mk s2 s3 s4) e7) fun r8 =>
      p_vec_Add_L1 N a0 k r8.gX r8.gY r8.gZ (I64 (s5 + 1))) (
      some ((s2, s3, s4)))

def p_vec_Add (N : Nat) (a0 : (List S_api_Vec)) : Option (S_api_Vec) :=
  Option.bind (p_vec_Add_L1 N a0 N 0 0 0 0) fun p1 =>
  some (S_api_Vec.mk p1.1 p1.2.1 p1.2.2)

theorem vec_Add_ok {N : Nat} {a0 : (List S_api_Vec)} {r : S_api_Vec} (h : p_vec_Add N a0 = some r) : FnM Try.prog 119 [] [(eL 3 S_api_Vec.enc a0)] (S_api_Vec.enc r) [] := by
  unfold p_vec_Add at h
  refine fnM_of_aw (m := 17) (lo := 0) (rs := [.cell 2 167]) hT Try.func119 rfl (by kernel_rfl) rfl ?_
  refine aw_sregU hT m_no [] (by kernel_rfl) ?_
  refine aw_sregU hT m_no [] (by kernel_rfl) ?_
  refine aw_seq ?_
  refine aw_sregU hT m_no [] (by kernel_rfl) ?_
  obtain ⟨p1, h, g1⟩ := obind h
  refine aw_joinTK ⟨[en 2 (.ref 0 [] 0), en 3 (.ref 1 [] 0)], [.var (.st 3 [(j64 0), (j64 0), (j64 0)]), .var (.st 3 [(j64 p1.1), (j64 p1.2.1), (j64 p1.2.2)])]⟩ ?_ ?_
  · refine aw_block (aw_loop (fun k s => ∃ s2 s3 s4 s5, p_vec_Add_L1 N a0 k s2 s3 s4 s5 = some p1 ∧ JR (Fr.f 17 0) ⟨[en 2 (.ref 0 [] 0), en 3 (.ref 1 [] 0), en 6 (eL 3 S_api_Vec.enc a0), en 7 (j64 ((a0.length : Int))), en 8 (j64 s5)], [.var (.st 3 [(j64 0), (j64 0), (j64 0)]), .var (.st 3 [(j64 s2), (j64 s3), (j64 s4)])]⟩ s) (fun k s hI => ?_) N _ ⟨_, _, _, _, h, jr (by kernel_rfl)⟩)
    obtain ⟨s2, s3, s4, s5, h, hj⟩ := hI
    cases k with
    | zero => cases h
    | succ k =>
      refine aw_to _ hj ?_
      obtain ⟨x6, hx6, h⟩ := letE h
      refine aw_sregU hT m_no [] (by kernel_rfl) ?_
      refine aw_nms [(9, (eB x6))] (by subst hx6; kernel_rfl) ?_
      refine aw_seq ?_
      refine aw_condH h (by kernel_rfl) (fun _ h => ?_) (fun _ h => ?_)
      · refine aw_skip (tn_n ?_)
        refine aw_seq ?_
        refine aw_block ?_
        refine aw_sreg ?_
        obtain ⟨e7, he7, h⟩ := obind h
        refine awl_big (big_idx hT S_api_Vec.enc he7 (by kernel_rfl) (by kernel_rfl)) (by kernel_rfl) ?_
        refine awl_u hT m_no [] 3 (by kernel_rfl) ?_
        refine awl_nil ?_
        refine aw_region ?_
        refine awl_u hT m_no [] 2 (by kernel_rfl) ?_
        obtain ⟨r8, hr8, h⟩ := obind h
        refine awl_big (big_call [] (vec_each_v0_ok hr8) vec_each_v0_ok_c (by kernel_rfl) (by kernel_rfl)) (by kernel_rfl) ?_
        refine awl_u hT m_no [] 1 (by kernel_rfl) ?_
        refine awl_nil (inB_n (tn_n ?_))
        refine aw_regU hT m_no [] (by kernel_rfl) (tn_n ?_)
        exact ⟨k, Nat.lt_succ_self k, _, _, _, _, h, jr (by kernel_rfl)⟩
      · refine aw_exit (tn_x (tn_x (inB_e (tn_n ?_))))
        cases h
        exact jr (by kernel_rfl)
  · have h := g1
    refine (tn_n ?_)
    refine aw_sregU hT m_no [] (by kernel_rfl) ?_
    refine aw_ret ?_
    cases h
    exact fin_r (by kernel_rfl)

theorem vec_Add_ok_c : callable Try.prog 119 := ⟨_, Try.func119, by decide, rfl⟩

/-! umbra/wide.size -/
def p_wide_size (N : Nat) (a0 : Int) : Option (Int × Bool) :=
  cond (decide (a0 < 0)) (some ((U64 (0 - (U64 a0)), true))) (some ((U64 a0, false)))

theorem wide_size_ok {N : Nat} {a0 : Int} {r : Int × Bool} (h : p_wide_size N a0 = some r) : FnM Try.prog 171 [] [(j64 a0)] (.tup [(k64 r.1), (eB r.2)]) [] := by
  unfold p_wide_size at h
  refine fnM_of_aw (m := 11) (lo := 0) (rs := [.tmp 2, .tmp 3]) hT Try.func171 rfl (by kernel_rfl) rfl ?_
  refine aw_sregU hT m_no [] (by kernel_rfl) ?_
  refine aw_seq ?_
  refine aw_sregU hT m_no [] (by kernel_rfl) ?_
  refine aw_condH h (by kernel_rfl) (fun _ h => ?_) (fun _ h => ?_)
  · refine aw_sregU hT m_no [] (by kernel_rfl) ?_
    refine aw_ret (tn_r ?_)
    cases h
    exact fin_r (by kernel_rfl)
  · refine aw_skip (tn_n ?_)
    refine aw_sregU hT m_no [] (by kernel_rfl) ?_
    refine aw_ret ?_
    cases h
    exact fin_r (by kernel_rfl)

theorem wide_size_ok_c : callable Try.prog 171 := ⟨_, Try.func171, by decide, rfl⟩

/-! math/bits.Mul64 -/
def p_math_bits_Mul64 (N : Nat) (a0 : Int) (a1 : Int) : Option (Int × Int) :=
  letO (band .u64 a0 4294967295) fun x1 =>
  letO (band .u64 a1 4294967295) fun x2 =>
  letO (U64 ((shr .u64 a0 32) * x2)) fun x3 =>
  letO (shr .u64 (U64 (x1 * x2)) 32) fun x4 =>
  letO (band .u64 (U64 (x3 + x4)) 4294967295) fun x5 =>
  letO (shr .u64 (U64 (x3 + x4)) 32) fun x6 =>
  letO (U64 (x1 * (shr .u64 a1 32))) fun x7 =>
  letO (U64 ((shr .u64 a0 32) * (shr .u64 a1 32))) fun x8 =>
  letO (shr .u64 (U64 (x5 + x7)) 32) fun x9 =>
  letO (U64 ((U64 (x8 + x6)) + x9)) fun x10 =>
  some ((x10, U64 (a0 * a1)))

theorem math_bits_Mul64_ok {N : Nat} {a0 : Int} {a1 : Int} {r : Int × Int} (h : p_math_bits_Mul64 N a0 a1 = some r) : FnM Try.prog 144 [] [(k64 a0), (k64 a1)] (.tup [(k64 r.1), (k64 r.2)]) [] := by
  unfold p_math_bits_Mul64 at h
  refine fnM_of_aw (m := 51) (lo := 0) (rs := [.tmp 4, .tmp 5]) hT Try.func144 rfl (by kernel_rfl) rfl ?_
  refine aw_sregU hT m_no [] (by kernel_rfl) ?_
  obtain ⟨x1, hx1, h⟩ := letE h
  refine aw_sregU hT m_no [] (by kernel_rfl) ?_
  refine aw_nms [(6, (k64 x1))] (by subst hx1; kernel_rfl) ?_
  refine aw_sregU hT m_no [] (by kernel_rfl) ?_
  obtain ⟨x2, hx2, h⟩ := letE h
  refine aw_sregU hT m_no [] (by kernel_rfl) ?_
  refine aw_nms [(8, (k64 x2))] (by subst hx2; kernel_rfl) ?_
  refine aw_sregU hT m_no [] (by kernel_rfl) ?_
  refine aw_sregU hT m_no [] (by kernel_rfl) ?_
  obtain ⟨x3, hx3, h⟩ := letE h
  obtain ⟨x4, hx4, h⟩ := letE h
  refine aw_sregU hT m_no [] (by kernel_rfl) ?_
  refine aw_nms [(11, (k64 (U64 (x3 + x4))))] (by subst hx4 hx3; kernel_rfl) ?_
  obtain ⟨x5, hx5, h⟩ := letE h
  refine aw_sregU hT m_no [] (by kernel_rfl) ?_
  refine aw_nms [(12, (k64 x5))] (by subst hx5; kernel_rfl) ?_
  obtain ⟨x6, hx6, h⟩ := letE h
  refine aw_sregU hT m_no [] (by kernel_rfl) ?_
  refine aw_nms [(13, (k64 x6))] (by subst hx6; kernel_rfl) ?_
  obtain ⟨x7, hx7, h⟩ := letE h
  refine aw_sregU hT m_no [] (by kernel_rfl) ?_
  refine aw_nms [(12, (k64 (U64 (x5 + x7))))] (by subst hx7; kernel_rfl) ?_
  obtain ⟨x8, hx8, h⟩ := letE h
  obtain ⟨x9, hx9, h⟩ := letE h
  obtain ⟨x10, hx10, h⟩ := letE h
  refine aw_sregU hT m_no [] (by kernel_rfl) ?_
  refine aw_nms [(4, (k64 x10))] (by subst hx10 hx9 hx8; kernel_rfl) ?_
  refine aw_sregU hT m_no [] (by kernel_rfl) ?_
  refine aw_ret ?_
  cases h
  exact fin_r (by kernel_rfl)

theorem math_bits_Mul64_ok_c : callable Try.prog 144 := ⟨_, Try.func144, by decide, rfl⟩

theorem n_Sub64 {x y c : Int} {r : Int × Int} (h : p_Sub64 x y c = some r) : NatFn Try.prog 201 [.int .u64 x, .int .u64 y, .int .u64 c] (.tuple #[.int .u64 r.1, .int .u64 r.2]) :=
  nat_Sub64 Try.func201 (by kernel_rfl) (by kernel_rfl) (by kernel_rfl) (by kernel_rfl) h

/-! umbra/wide.turned -/
def p_wide_turned (N : Nat) (a0 : Int) (a1 : Int) : Option (Int × Int) :=
  Option.bind (p_Sub64 0 a1 0) fun r1 =>
  Option.bind (p_Sub64 0 a0 r1.2) fun r2 =>
  some ((r2.1, r1.1))

theorem wide_turned_ok {N : Nat} {a0 : Int} {a1 : Int} {r : Int × Int} (h : p_wide_turned N a0 a1 = some r) : FnM Try.prog 173 [] [(k64 a0), (k64 a1)] (.tup [(k64 r.1), (k64 r.2)]) [] := by
  unfold p_wide_turned at h
  refine fnM_of_aw (m := 20) (lo := 0) (rs := [.tmp 4, .tmp 5]) hT Try.func173 rfl (by kernel_rfl) rfl ?_
  refine aw_sregU hT m_no [] (by kernel_rfl) ?_
  refine aw_sreg ?_
  refine awl_u hT m_no [] 1 (by kernel_rfl) ?_
  obtain ⟨r1, hr1, h⟩ := obind h
  refine awl_big (big_nat (n_Sub64 hr1) (fun _ => rv_tup2) (by kernel_rfl) (by kernel_rfl)) (by kernel_rfl) ?_
  refine awl_u hT m_no [] 5 (by kernel_rfl) ?_
  refine awl_nil ?_
  refine aw_sreg ?_
  refine awl_u hT m_no [] 2 (by kernel_rfl) ?_
  obtain ⟨r2, hr2, h⟩ := obind h
  refine awl_big (big_nat (n_Sub64 hr2) (fun _ => rv_tup2) (by kernel_rfl) (by kernel_rfl)) (by kernel_rfl) ?_
  refine awl_u hT m_no [] 4 (by kernel_rfl) ?_
  refine awl_nil ?_
  refine aw_sregU hT m_no [] (by kernel_rfl) ?_
  refine aw_ret ?_
  cases h
  exact fin_r (by kernel_rfl)

theorem wide_turned_ok_c : callable Try.prog 173 := ⟨_, Try.func173, by decide, rfl⟩

/-! umbra/wide.signed -/
def p_wide_signed (N : Nat) (a0 : Int) (a1 : Int) (a2 : Bool) : Option (S_api_Wide × Bool) :=
  Option.bind (cond a2 (
    Option.bind (p_wide_turned N a0 a1) fun r2 =>
    some ((r2.1, r2.2))) (
    some ((a0, a1)))) fun p1 =>
  letO (decide ((I64 p1.1) < 0)) fun x3 =>
  letO ((bor .u64 p1.1 p1.2) == 0) fun x4 =>
  letO (cond (x3 == a2) true x4) fun x5 =>
  some ((S_api_Wide.mk (I64 p1.1) p1.2, x5))

theorem wide_signed_ok {N : Nat} {a0 : Int} {a1 : Int} {a2 : Bool} {r : S_api_Wide × Bool} (h : p_wide_signed N a0 a1 a2 = some r) : FnM Try.prog 172 [] [(k64 a0), (k64 a1), (eB a2)] (.tup [(S_api_Wide.enc r.1), (eB r.2)]) [] := by
  unfold p_wide_signed at h
  refine fnM_of_aw (m := 32) (lo := 0) (rs := [.cell 6 192, .tmp 7]) hT Try.func172 rfl (by kernel_rfl) rfl ?_
  refine aw_sregU hT m_no [] (by kernel_rfl) ?_
  obtain ⟨p1, h, g1⟩ := obind h
  refine aw_joinT ⟨[en 0 (k64 p1.1), en 1 (k64 p1.2), en 2 (eB a2), en 6 (.ref 0 [] 0)], [.var (.st 2 [(j64 0), (k64 0)])]⟩ ?_ ?_
  · refine aw_sregU hT m_no [] (by kernel_rfl) ?_
    refine aw_condH h (by kernel_rfl) (fun _ h => ?_) (fun _ h => ?_)
    · refine aw_region ?_
      refine awl_u hT m_no [] 2 (by kernel_rfl) ?_
      obtain ⟨r2, hr2, h⟩ := obind h
      refine awl_big (big_call [] (wide_turned_ok hr2) wide_turned_ok_c (by kernel_rfl) (by kernel_rfl)) (by kernel_rfl) ?_
      refine awl_u hT m_no [] 5 (by kernel_rfl) ?_
      refine awl_nil (tn_n ?_)
      cases h
      exact jr (by kernel_rfl)
    · refine aw_skip (tn_n ?_)
      cases h
      exact jr (by kernel_rfl)
  · have h := g1
    refine aw_sregU hT m_no [] (by kernel_rfl) ?_
    obtain ⟨x3, hx3, h⟩ := letE h
    obtain ⟨x4, hx4, h⟩ := letE h
    obtain ⟨x5, hx5, h⟩ := letE h
    refine aw_sregU hT m_no [] (by kernel_rfl) ?_
    refine aw_nms [(7, (eB x5))] (by subst hx5 hx4 hx3; kernel_rfl) ?_
    refine aw_ret ?_
    cases h
    exact fin_r (by kernel_rfl)

theorem wide_signed_ok_c : callable Try.prog 172 := ⟨_, Try.func172, by decide, rfl⟩

/-! umbra/wide.Mul -/
def p_wide_Mul (N : Nat) (a0 : Int) (a1 : Int) : Option (S_api_Wide) :=
  Option.bind (p_wide_size N a0) fun r1 =>
  Option.bind (p_wide_size N a1) fun r2 =>
  Option.bind (p_math_bits_Mul64 N r1.1 r2.1) fun r3 =>
  Option.bind (p_wide_signed N r3.1 r3.2 (!(r1.2 == r2.2))) fun r4 =>
  some r4.1

theorem wide_Mul_ok {N : Nat} {a0 : Int} {a1 : Int} {r : S_api_Wide} (h : p_wide_Mul N a0 a1 = some r) : FnM Try.prog 141 [] [(j64 a0), (j64 a1)] (S_api_Wide.enc r) [] := by
  unfold p_wide_Mul at h
  refine fnM_of_aw (m := 39) (lo := 0) (rs := [.cell 4 192]) hT Try.func141 rfl (by kernel_rfl) rfl ?_
  refine aw_sregU hT m_no [] (by kernel_rfl) ?_
  refine aw_sreg ?_
  refine awl_u hT m_no [] 1 (by kernel_rfl) ?_
  obtain ⟨r1, hr1, h⟩ := obind h
  refine awl_big (big_call [] (wide_size_ok hr1) wide_size_ok_c (by kernel_rfl) (by kernel_rfl)) (by kernel_rfl) ?_
  refine awl_u hT m_no [] 5 (by kernel_rfl) ?_
  refine awl_nil ?_
  refine aw_sreg ?_
  refine awl_u hT m_no [] 1 (by kernel_rfl) ?_
  obtain ⟨r2, hr2, h⟩ := obind h
  refine awl_big (big_call [] (wide_size_ok hr2) wide_size_ok_c (by kernel_rfl) (by kernel_rfl)) (by kernel_rfl) ?_
  refine awl_u hT m_no [] 5 (by kernel_rfl) ?_
  refine awl_nil ?_
  refine aw_sreg ?_
  refine awl_u hT m_no [] 2 (by kernel_rfl) ?_
  obtain ⟨r3, hr3, h⟩ := obind h
  refine awl_big (big_call [] (math_bits_Mul64_ok hr3) math_bits_Mul64_ok_c (by kernel_rfl) (by kernel_rfl)) (by kernel_rfl) ?_
  refine awl_u hT m_no [] 5 (by kernel_rfl) ?_
  refine awl_nil ?_
  refine aw_sreg ?_
  refine awl_u hT m_no [] 5 (by kernel_rfl) ?_
  obtain ⟨r4, hr4, h⟩ := obind h
  refine awl_big (big_call [] (wide_signed_ok hr4) wide_signed_ok_c (by kernel_rfl) (by kernel_rfl)) (by kernel_rfl) ?_
  refine awl_u hT m_no [] 6 (by kernel_rfl) ?_
  refine awl_nil ?_
  refine aw_sregU hT m_no [] (by kernel_rfl) ?_
  refine aw_ret ?_
  cases h
  exact fin_r (by kernel_rfl)

theorem wide_Mul_ok_c : callable Try.prog 141 := ⟨_, Try.func141, by decide, rfl⟩

/-! umbra/wide.Int -/
def m_wide_Int : Nat → Bool := imL [1]

def p_wide_Int (N : Nat) (a0 : S_api_Wide) : Option (Int × Bool) :=
  letO (shr .i64 (I64 a0.gLo) 63) fun x1 =>
  cond (a0.gHi != x1) (some ((0, false))) (some ((I64 a0.gLo, true)))

theorem wide_Int_ok {N : Nat} {a0 : S_api_Wide} {r : Int × Bool} (h : p_wide_Int N a0 = some r) : FnM Try.prog 169 [] [(S_api_Wide.enc a0)] (.tup [(j64 r.1), (eB r.2)]) [] := by
  unfold p_wide_Int at h
  refine fnM_of_aw (m := 13) (lo := 0) (rs := [.tmp 2, .tmp 3]) hT Try.func169 rfl (by kernel_rfl) rfl ?_
  refine aw_sregU hT m_wide_Int [] (by kernel_rfl) ?_
  refine aw_seq ?_
  refine aw_sregU hT m_wide_Int [] (by kernel_rfl) ?_
  obtain ⟨x1, hx1, h⟩ := letE h
  refine aw_sregU hT m_wide_Int [] (by kernel_rfl) ?_
  refine aw_nms [(11, (eB (a0.gHi != x1)))] (by subst hx1; kernel_rfl) ?_
  refine aw_condH h (by kernel_rfl) (fun _ h => ?_) (fun _ h => ?_)
  · refine aw_sregU hT m_wide_Int [] (by kernel_rfl) ?_
    refine aw_ret (tn_r ?_)
    cases h
    exact fin_r (by kernel_rfl)
  · refine aw_skip (tn_n ?_)
    refine aw_sregU hT m_wide_Int [] (by kernel_rfl) ?_
    refine aw_ret ?_
    cases h
    exact fin_r (by kernel_rfl)

theorem wide_Int_ok_c : callable Try.prog 169 := ⟨_, Try.func169, by decide, rfl⟩

/-! umbra/fix.near -/
def m_fix_near : Nat → Bool := imL [1]

def p_fix_near (N : Nat) (a0 : S_api_Wide) : Option (Int) :=
  Option.bind (p_wide_Int N a0) fun r1 =>
  cond r1.2 (
    some r1.1) (
    cond (decide (a0.gHi < 0)) (some (-9223372036854775808)) (some 9223372036854775807))

theorem fix_near_ok {N : Nat} {a0 : S_api_Wide} {r : Int} (h : p_fix_near N a0 = some r) : FnM Try.prog 139 [] [(S_api_Wide.enc a0)] (j64 r) [] := by
  unfold p_fix_near at h
  refine fnM_of_aw (m := 15) (lo := 0) (rs := [.tmp 2]) hT Try.func139 rfl (by kernel_rfl) rfl ?_
  refine aw_sregU hT m_fix_near [] (by kernel_rfl) ?_
  refine aw_seq ?_
  refine aw_sreg ?_
  refine awl_u hT m_fix_near [] 1 (by kernel_rfl) ?_
  obtain ⟨r1, hr1, h⟩ := obind h
  refine awl_big (big_call [] (wide_Int_ok hr1) wide_Int_ok_c (by kernel_rfl) (by kernel_rfl)) (by kernel_rfl) ?_
  refine awl_u hT m_fix_near [] 5 (by kernel_rfl) ?_
  refine awl_nil ?_
  refine aw_sregU hT m_fix_near [] (by kernel_rfl) ?_
  refine aw_condH h (by kernel_rfl) (fun _ h => ?_) (fun _ h => ?_)
  · refine aw_sregU hT m_fix_near [] (by kernel_rfl) ?_
    refine aw_ret (tn_r ?_)
    cases h
    exact fin_r (by kernel_rfl)
  · refine aw_skip (tn_n ?_)
    refine aw_seq ?_
    refine aw_sregU hT m_fix_near [] (by kernel_rfl) ?_
    refine aw_condH h (by kernel_rfl) (fun _ h => ?_) (fun _ h => ?_)
    · refine aw_sregU hT m_fix_near [] (by kernel_rfl) ?_
      refine aw_ret (tn_r ?_)
      cases h
      exact fin_r (by kernel_rfl)
    · refine aw_skip (tn_n ?_)
      refine aw_sregU hT m_fix_near [] (by kernel_rfl) ?_
      refine aw_ret ?_
      cases h
      exact fin_r (by kernel_rfl)

theorem fix_near_ok_c : callable Try.prog 139 := ⟨_, Try.func139, by decide, rfl⟩

/-! umbra/fix.Of -/
def p_fix_Of (N : Nat) (a0 : Int) : Option (Int) :=
  Option.bind (p_wide_Mul N a0 4294967296) fun r1 =>
  Option.bind (p_fix_near N r1) fun r2 =>
  some r2

theorem fix_Of_ok {N : Nat} {a0 : Int} {r : Int} (h : p_fix_Of N a0 = some r) : FnM Try.prog 87 [] [(j64 a0)] (j64 r) [] := by
  unfold p_fix_Of at h
  refine fnM_of_aw (m := 6) (lo := 0) (rs := [.tmp 2]) hT Try.func87 rfl (by kernel_rfl) rfl ?_
  refine aw_sregU hT m_no [] (by kernel_rfl) ?_
  refine aw_sreg ?_
  refine awl_u hT m_no [] 1 (by kernel_rfl) ?_
  obtain ⟨r1, hr1, h⟩ := obind h
  refine awl_big (big_call [] (wide_Mul_ok hr1) wide_Mul_ok_c (by kernel_rfl) (by kernel_rfl)) (by kernel_rfl) ?_
  obtain ⟨r2, hr2, h⟩ := obind h
  refine awl_big (big_call [] (fix_near_ok hr2) fix_near_ok_c (by kernel_rfl) (by kernel_rfl)) (by kernel_rfl) ?_
  refine awl_u hT m_no [] 1 (by kernel_rfl) ?_
  refine awl_nil ?_
  refine aw_ret ?_
  cases h
  exact fin_r (by kernel_rfl)

theorem fix_Of_ok_c : callable Try.prog 87 := ⟨_, Try.func87, by decide, rfl⟩

/-! math/bits.Len64 -/
def p_math_bits_Len64 (N : Nat) (a0 : Int) : Option (Int) :=
  Option.bind (letO (decide (a0 ≥ 4294967296)) fun x2 =>
  cond x2 (some ((shr .u64 a0 32, 32))) (some ((a0, 0)))) fun p1 =>
  Option.bind (cond (decide (p1.1 ≥ 65536)) (
    some ((shr .u64 p1.1 16, I64 (p1.2 + 16)))) (
    some ((p1.1, p1.2)))) fun p3 =>
  Option.bind (cond (decide (p3.1 ≥ 256)) (some ((shr .u64 p3.1 8, I64 (p3.2 + 8)))) (some ((p3.1, p3.2)))) fun p4 =>
  Option.bind (idx str_0.data.toList (U8 p4.1)) fun c5 =>
  letO (I64 ((UInt8.toNat c5 : Int))) fun x6 =>
  some (I64 (p4.2 + x6))

theorem math_bits_Len64_ok {N : Nat} {a0 : Int} {r : Int} (h : p_math_bits_Len64 N a0 = some r) : FnM Try.prog 198 [] [(k64 a0)] (j64 r) [] := by
  unfold p_math_bits_Len64 at h
  refine fnM_of_aw (m := 25) (lo := 0) (rs := [.tmp 2]) hT Try.func198 rfl (by kernel_rfl) rfl ?_
  refine aw_sregU hT m_no [] (by kernel_rfl) ?_
  obtain ⟨p1, h, g1⟩ := obind h
  refine aw_joinT ⟨[en 0 (k64 p1.1), en 2 (j64 p1.2)], []⟩ ?_ ?_
  · obtain ⟨x2, hx2, h⟩ := letE h
    refine aw_sregU hT m_no [] (by kernel_rfl) ?_
    refine aw_nms [(4, (eB x2))] (by subst hx2; kernel_rfl) ?_
    refine aw_condH h (by kernel_rfl) (fun _ h => ?_) (fun _ h => ?_)
    · refine aw_sregU hT m_no [] (by kernel_rfl) ?_
      refine aw_regU hT m_no [] (by kernel_rfl) (tn_n ?_)
      cases h
      exact jr (by kernel_rfl)
    · refine aw_skip (tn_n ?_)
      cases h
      exact jr (by kernel_rfl)
  · have h := g1
    obtain ⟨p3, h, g3⟩ := obind h
    refine aw_joinT ⟨[en 0 (k64 p3.1), en 2 (j64 p3.2)], []⟩ ?_ ?_
    · refine aw_sregU hT m_no [] (by kernel_rfl) ?_
      refine aw_condH h (by kernel_rfl) (fun _ h => ?_) (fun _ h => ?_)
      · refine aw_sregU hT m_no [] (by kernel_rfl) ?_
        refine aw_regU hT m_no [] (by kernel_rfl) (tn_n ?_)
        cases h
        exact jr (by kernel_rfl)
      · refine aw_skip (tn_n ?_)
        cases h
        exact jr (by kernel_rfl)
    · have h := g3
      obtain ⟨p4, h, g4⟩ := obind h
      refine aw_joinT ⟨[en 0 (k64 p4.1), en 2 (j64 p4.2)], []⟩ ?_ ?_
      · refine aw_sregU hT m_no [] (by kernel_rfl) ?_
        refine aw_condH h (by kernel_rfl) (fun _ h => ?_) (fun _ h => ?_)
        · refine aw_sregU hT m_no [] (by kernel_rfl) ?_
          refine aw_regU hT m_no [] (by kernel_rfl) (tn_n ?_)
          cases h
          exact jr (by kernel_rfl)
        · refine aw_skip (tn_n ?_)
          cases h
          exact jr (by kernel_rfl)
      · have h := g4
        refine aw_sreg ?_
        refine awl_u hT m_no [] 3 (by kernel_rfl) ?_
        obtain ⟨c5, hc5, h⟩ := obind h
        refine awl_big (big_ixS hT hc5 (by kernel_rfl) (by kernel_rfl)) (by kernel_rfl) ?_
        obtain ⟨x6, hx6, h⟩ := letE h
        refine awl_u hT m_no [] 3 (by kernel_rfl) ?_
        refine awl_nms [(2, (j64 (I64 (p4.2 + x6))))] (by subst hx6; kernel_rfl) ?_
        refine awl_nil ?_
        refine aw_ret ?_
        cases h
        exact fin_r (by kernel_rfl)

theorem math_bits_Len64_ok_c : callable Try.prog 198 := ⟨_, Try.func198, by decide, rfl⟩

/-! math/bits.LeadingZeros64 -/
def p_math_bits_LeadingZeros64 (N : Nat) (a0 : Int) : Option (Int) :=
  Option.bind (p_math_bits_Len64 N a0) fun r1 =>
  some (I64 (64 - r1))

theorem math_bits_LeadingZeros64_ok {N : Nat} {a0 : Int} {r : Int} (h : p_math_bits_LeadingZeros64 N a0 = some r) : FnM Try.prog 175 [] [(k64 a0)] (j64 r) [] := by
  unfold p_math_bits_LeadingZeros64 at h
  refine fnM_of_aw (m := 6) (lo := 0) (rs := [.tmp 2]) hT Try.func175 rfl (by kernel_rfl) rfl ?_
  refine aw_sregU hT m_no [] (by kernel_rfl) ?_
  refine aw_sreg ?_
  refine awl_u hT m_no [] 1 (by kernel_rfl) ?_
  obtain ⟨r1, hr1, h⟩ := obind h
  refine awl_big (big_call [] (math_bits_Len64_ok hr1) math_bits_Len64_ok_c (by kernel_rfl) (by kernel_rfl)) (by kernel_rfl) ?_
  refine awl_u hT m_no [] 2 (by kernel_rfl) ?_
  refine awl_nil ?_
  refine aw_ret ?_
  cases h
  exact fin_r (by kernel_rfl)

theorem math_bits_LeadingZeros64_ok_c : callable Try.prog 175 := ⟨_, Try.func175, by decide, rfl⟩

/-! math/bits.Div64 -/
def p_math_bits_Div64_L1 (N : Nat) (x8 : Int) (x5 : Int) (x4 : Int) : Nat → Int → Int → Option (Int)
  | 0, _, _ => none
  | k + 1, s14, s15 =>
    letO (decide (s14 ≥ 4294967296)) fun x16 =>
    letO (U64 ((U64 (4294967296 * s15)) + (shr .u64 x8 32))) fun x17 =>
    letO (decide ((U64 (s14 * x5)) > x17)) fun x18 =>
    cond (cond x16 true x18) (
      letO (U64 (s15 + (shr .u64 x4 32))) fun x19 =>
      letO (decide (x19 ≥ 4294967296)) fun x20 =>
      cond x20 (
        some (U64 (s14 - 1))) (
        p_math_bits_Div64_L1 N x8 x5 x4 k (U64 (s14 - 1)) x19)) (
      some s14)

def p_math_bits_Div64_L2 (N : Nat) (x9 : Int) (x5 : Int) (x4 : Int) : Nat → Int → Int → Option (Int)
  | 0, _, _ => none
  | k + 1, s27, s28 =>
    letO (decide (s28 ≥ 4294967296)) fun x29 =>
    letO (U64 ((U64 (4294967296 * s27)) + x9)) fun x30 =>
    letO (decide ((U64 (s28 * x5)) > x30)) fun x31 =>
    cond (cond x29 true x31) (
      letO (U64 (s27 + (shr .u64 x4 32))) fun x32 =>
      letO (decide (x32 ≥ 4294967296)) fun x33 =>
      cond x33 (
        some (U64 (s28 - 1))) (
        p_math_bits_Div64_L2 N x9 x5 x4 k x32 (U64 (s28 - 1)))) (
      some s28)

def p_math_bits_Div64 (N : Nat) (a0 : Int) (a1 : Int) (a2 : Int) : Option (Int × Int) :=
  cond (a2 == 0) (
    none) (
    cond (decide (a2 ≤ a0)) (
      none) (
      cond (a0 == 0) (
        Option.bind (quoO .u64 a1 a2) fun x1 =>
        Option.bind (remO .u64 a1 a2) fun x2 =>
        some ((x1, x2))) (
        Option.bind (p_math_bits_LeadingZeros64 N a2) fun r3 =>
        Option.bind (shlO .u64 a2 (U64 r3)) fun x4 =>
        letO (band .u64 x4 4294967295) fun x5 =>
        Option.bind (shlO .u64 a0 (U64 r3)) fun x6 =>
        Option.bind (shrO .u64 a1 (U64 (64 - (U64 r3)))) fun x7 =>
        Option.bind (shlO .u64 a1 (U64 r3)) fun x8 =>
        letO (band .u64 x8 4294967295) fun x9 =>
        Option.bind (quoO .u64 (bor .u64 x6 x7) (shr .u64 x4 32)) fun x10 =>
        letO (U64 (x10 * (shr .u64 x4 32))) fun x11 =>
        letO (U64 ((bor .u64 x6 x7) - x11)) fun x12 =>
        Option.bind (p_math_bits_Div64_L1 N x8 x5 x4 N x10 x12) fun p13 =>
        letO (U64 ((bor .u64 x6 x7) * 4294967296)) fun x21 =>
        letO (U64 (x21 + (shr .u64 x8 32))) fun x22 =>
        letO (U64 (x22 - (U64 (p13 * x4)))) fun x23 =>
        Option.bind (quoO .u64 x23 (shr .u64 x4 32)) fun x24 =>
        letO (U64 (x24 * (shr .u64 x4 32))) fun x25 =>
        Option.bind (p_math_bits_Div64_L2 N x9 x5 x4 N (U64 (x23 - x25)) x24) fun p26 =>
        letO (U64 ((U64 (p13 * 4294967296)) + p26)) fun x37 =>
        letO (U64 ((U64 (x23 * 4294967296)) + x9)) fun x38 =>
        letO (U64 (x38 - (U64 (p26 * x4)))) fun x39 =>
        Option.bind (shrO .u64 x39 (U64 r3)) fun x40 =>
        some ((x37, x40)))))

theorem math_bits_Div64_ok {N : Nat} {a0 : Int} {a1 : Int} {a2 : Int} {r : Int × Int} (h : p_math_bits_Div64 N a0 a1 a2 = some r) : FnM Try.prog 146 [] [(k64 a0), (k64 a1), (k64 a2)] (.tup [(k64 r.1), (k64 r.2)]) [] := by
  unfold p_math_bits_Div64 at h
  refine fnM_of_aw (m := 135) (lo := 0) (rs := [.tmp 6, .tmp 7]) hT Try.func146 rfl (by kernel_rfl) rfl ?_
  refine aw_sregU hT m_no [] (by kernel_rfl) ?_
  refine aw_seq ?_
  refine aw_sregU hT m_no [] (by kernel_rfl) ?_
  refine aw_condH h (by kernel_rfl) (fun _ h => ?_) (fun _ h => ?_)
  · cases h
  · refine aw_skip (tn_n ?_)
    refine aw_seq ?_
    refine aw_sregU hT m_no [] (by kernel_rfl) ?_
    refine aw_condH h (by kernel_rfl) (fun _ h => ?_) (fun _ h => ?_)
    · cases h
    · refine aw_skip (tn_n ?_)
      refine aw_seq ?_
      refine aw_sregU hT m_no [] (by kernel_rfl) ?_
      refine aw_condH h (by kernel_rfl) (fun _ h => ?_) (fun _ h => ?_)
      · obtain ⟨x1, hx1, h⟩ := obind h
        obtain ⟨x2, hx2, h⟩ := obind h
        refine aw_sdrawV hT hmo m_no [(2, (k64 x1)), (5, (k64 x2))] [] (by kernel_rfl) (by kernel_rfl) (by kernel_rfl) ⟨fun _ => big_quo hT hx1 (by kernel_rfl) (by kernel_rfl), fun _ => big_rem hT hx2 (by kernel_rfl) (by kernel_rfl), trivial⟩ trivial ?_
        refine aw_ret (tn_r ?_)
        cases h
        exact fin_r (by kernel_rfl)
      · refine aw_skip (tn_n ?_)
        refine aw_sreg ?_
        refine awl_u hT m_no [] 1 (by kernel_rfl) ?_
        obtain ⟨r3, hr3, h⟩ := obind h
        refine awl_big (big_call [] (math_bits_LeadingZeros64_ok hr3) math_bits_LeadingZeros64_ok_c (by kernel_rfl) (by kernel_rfl)) (by kernel_rfl) ?_
        refine awl_u hT m_no [] 2 (by kernel_rfl) ?_
        refine awl_nil ?_
        refine aw_sreg ?_
        refine awl_u hT m_no [] 2 (by kernel_rfl) ?_
        obtain ⟨x4, hx4, h⟩ := obind h
        refine awl_big (big_shl hT (k' := .u64) hx4 (by kernel_rfl) (by kernel_rfl)) (by kernel_rfl) ?_
        refine awl_u hT m_no [] 1 (by kernel_rfl) ?_
        refine awl_nil ?_
        refine aw_sregU hT m_no [] (by kernel_rfl) ?_
        obtain ⟨x5, hx5, h⟩ := letE h
        refine aw_sregU hT m_no [] (by kernel_rfl) ?_
        refine aw_nms [(10, (k64 x5))] (by subst hx5; kernel_rfl) ?_
        refine aw_sreg ?_
        refine awl_u hT m_no [] 2 (by kernel_rfl) ?_
        obtain ⟨x6, hx6, h⟩ := obind h
        refine awl_big (big_shl hT (k' := .u64) hx6 (by kernel_rfl) (by kernel_rfl)) (by kernel_rfl) ?_
        refine awl_u hT m_no [] 3 (by kernel_rfl) ?_
        obtain ⟨x7, hx7, h⟩ := obind h
        refine awl_big (big_shr hT (k' := .u64) hx7 (by kernel_rfl) (by kernel_rfl)) (by kernel_rfl) ?_
        refine awl_u hT m_no [] 2 (by kernel_rfl) ?_
        refine awl_nil ?_
        refine aw_sreg ?_
        refine awl_u hT m_no [] 2 (by kernel_rfl) ?_
        obtain ⟨x8, hx8, h⟩ := obind h
        refine awl_big (big_shl hT (k' := .u64) hx8 (by kernel_rfl) (by kernel_rfl)) (by kernel_rfl) ?_
        refine awl_u hT m_no [] 1 (by kernel_rfl) ?_
        refine awl_nil ?_
        refine aw_sregU hT m_no [] (by kernel_rfl) ?_
        obtain ⟨x9, hx9, h⟩ := letE h
        refine aw_sregU hT m_no [] (by kernel_rfl) ?_
        refine aw_nms [(14, (k64 x9))] (by subst hx9; kernel_rfl) ?_
        refine aw_sreg ?_
        refine awl_u hT m_no [] 2 (by kernel_rfl) ?_
        obtain ⟨x10, hx10, h⟩ := obind h
        refine awl_big (big_quo hT hx10 (by kernel_rfl) (by kernel_rfl)) (by kernel_rfl) ?_
        refine awl_u hT m_no [] 1 (by kernel_rfl) ?_
        refine awl_nil ?_
        obtain ⟨x11, hx11, h⟩ := letE h
        obtain ⟨x12, hx12, h⟩ := letE h
        refine aw_sregU hT m_no [] (by kernel_rfl) ?_
        refine aw_nms [(16, (k64 x12))] (by subst hx12 hx11; kernel_rfl) ?_
        obtain ⟨p13, h, g13⟩ := obind h
        refine aw_joinT ⟨[en 2 (k64 x4), en 8 (k64 (U64 r3)), en 9 (k64 (shr .u64 x4 32)), en 10 (k64 x5), en 11 (k64 (bor .u64 x6 x7)), en 13 (k64 (shr .u64 x8 32)), en 14 (k64 x9), en 15 (k64 p13)], []⟩ ?_ ?_
        · refine aw_block (aw_loop (fun k s => ∃ s14 s15, p_math_bits_Div64_L1 N x8 x5 x4 k s14 s15 = some p13 ∧ JR (Fr.f 135 0) ⟨[en 2 (k64 x4), en 8 (k64 (U64 r3)), en 9 (k64 (shr .u64 x4 32)), en 10 (k64 x5), en 11 (k64 (bor .u64 x6 x7)), en 13 (k64 (shr .u64 x8 32)), en 14 (k64 x9), en 15 (k64 s14), en 16 (k64 s15)], []⟩ s) (fun k s hI => ?_) N _ ⟨_, _, h, jr (by kernel_rfl)⟩)
          obtain ⟨s14, s15, h, hj⟩ := hI
          cases k with
          | zero => cases h
          | succ k =>
            refine aw_to _ hj ?_
            refine aw_seq ?_
            obtain ⟨x16, hx16, h⟩ := letE h
            obtain ⟨x17, hx17, h⟩ := letE h
            obtain ⟨x18, hx18, h⟩ := letE h
            refine aw_sregU hT m_no [] (by kernel_rfl) ?_
            refine aw_nms [(78, (eB (cond x16 true x18)))] (by subst hx18 hx17 hx16; kernel_rfl) ?_
            refine aw_condH h (by kernel_rfl) (fun _ h => ?_) (fun _ h => ?_)
            · refine aw_skip (tn_n ?_)
              refine aw_block ?_
              refine aw_sregU hT m_no [] (by kernel_rfl) ?_
              obtain ⟨x19, hx19, h⟩ := letE h
              refine aw_sregU hT m_no [] (by kernel_rfl) ?_
              refine aw_nms [(16, (k64 x19))] (by subst hx19; kernel_rfl) ?_
              obtain ⟨x20, hx20, h⟩ := letE h
              refine aw_sregU hT m_no [] (by kernel_rfl) ?_
              refine aw_nms [(85, (eB x20))] (by subst hx20; kernel_rfl) ?_
              refine aw_condH h (by kernel_rfl) (fun _ h => ?_) (fun _ h => ?_)
              · refine aw_exit (inB_x (by kernel_rfl) (tn_x (inB_e (tn_n ?_))))
                cases h
                exact jr (by kernel_rfl)
              · refine aw_skip (inB_n (tn_n ?_))
                exact ⟨k, Nat.lt_succ_self k, _, _, h, jr (by kernel_rfl)⟩
            · refine aw_exit (tn_x (tn_x (inB_e (tn_n ?_))))
              cases h
              exact jr (by kernel_rfl)
        · have h := g13
          obtain ⟨x21, hx21, h⟩ := letE h
          obtain ⟨x22, hx22, h⟩ := letE h
          obtain ⟨x23, hx23, h⟩ := letE h
          refine aw_sregU hT m_no [] (by kernel_rfl) ?_
          refine aw_nms [(17, (k64 x23))] (by subst hx23 hx22 hx21; kernel_rfl) ?_
          refine aw_sreg ?_
          refine awl_u hT m_no [] 2 (by kernel_rfl) ?_
          obtain ⟨x24, hx24, h⟩ := obind h
          refine awl_big (big_quo hT hx24 (by kernel_rfl) (by kernel_rfl)) (by kernel_rfl) ?_
          refine awl_u hT m_no [] 1 (by kernel_rfl) ?_
          refine awl_nil ?_
          obtain ⟨x25, hx25, h⟩ := letE h
          refine aw_sregU hT m_no [] (by kernel_rfl) ?_
          refine aw_nms [(16, (k64 (U64 (x23 - x25))))] (by subst hx25; kernel_rfl) ?_
          obtain ⟨p26, h, g26⟩ := obind h
          refine aw_joinT ⟨[en 2 (k64 x4), en 8 (k64 (U64 r3)), en 14 (k64 x9), en 15 (k64 p13), en 17 (k64 x23), en 18 (k64 p26)], []⟩ ?_ ?_
          · refine aw_block (aw_loop (fun k s => ∃ s27 s28, p_math_bits_Div64_L2 N x9 x5 x4 k s27 s28 = some p26 ∧ JR (Fr.f 135 0) ⟨[en 2 (k64 x4), en 8 (k64 (U64 r3)), en 9 (k64 (shr .u64 x4 32)), en 10 (k64 x5), en 14 (k64 x9), en 15 (k64 p13), en 16 (k64 s27), en 17 (k64 x23), en 18 (k64 s28)], []⟩ s) (fun k s hI => ?_) N _ ⟨_, _, h, jr (by kernel_rfl)⟩)
            obtain ⟨s27, s28, h, hj⟩ := hI
            cases k with
            | zero => cases h
            | succ k =>
              refine aw_to _ hj ?_
              refine aw_seq ?_
              obtain ⟨x29, hx29, h⟩ := letE h
              obtain ⟨x30, hx30, h⟩ := letE h
              obtain ⟨x31, hx31, h⟩ := letE h
              refine aw_sregU hT m_no [] (by kernel_rfl) ?_
              refine aw_nms [(113, (eB (cond x29 true x31)))] (by subst hx31 hx30 hx29; kernel_rfl) ?_
              refine aw_condH h (by kernel_rfl) (fun _ h => ?_) (fun _ h => ?_)
              · refine aw_skip (tn_n ?_)
                refine aw_block ?_
                refine aw_sregU hT m_no [] (by kernel_rfl) ?_
                obtain ⟨x32, hx32, h⟩ := letE h
                refine aw_sregU hT m_no [] (by kernel_rfl) ?_
                refine aw_nms [(16, (k64 x32))] (by subst hx32; kernel_rfl) ?_
                obtain ⟨x33, hx33, h⟩ := letE h
                refine aw_sregU hT m_no [] (by kernel_rfl) ?_
                refine aw_nms [(120, (eB x33))] (by subst hx33; kernel_rfl) ?_
                refine aw_condH h (by kernel_rfl) (fun _ h => ?_) (fun _ h => ?_)
                · refine aw_exit (inB_x (by kernel_rfl) (tn_x (inB_e (tn_n ?_))))
                  cases h
                  exact jr (by kernel_rfl)
                · refine aw_skip (inB_n (tn_n ?_))
                  exact ⟨k, Nat.lt_succ_self k, _, _, h, jr (by kernel_rfl)⟩
              · refine aw_exit (tn_x (tn_x (inB_e (tn_n ?_))))
                cases h
                exact jr (by kernel_rfl)
          · have h := g26
            refine aw_sreg ?_
            obtain ⟨x37, hx37, h⟩ := letE h
            obtain ⟨x38, hx38, h⟩ := letE h
            obtain ⟨x39, hx39, h⟩ := letE h
            refine awl_u hT m_no [] 13 (by kernel_rfl) ?_
            refine awl_nms [(124, (k64 x37)), (132, (k64 x39))] (by subst hx39 hx38 hx37; kernel_rfl) ?_
            obtain ⟨x40, hx40, h⟩ := obind h
            refine awl_big (big_shr hT (k' := .u64) hx40 (by kernel_rfl) (by kernel_rfl)) (by kernel_rfl) ?_
            refine awl_u hT m_no [] 2 (by kernel_rfl) ?_
            refine awl_nil ?_
            refine aw_ret ?_
            cases h
            exact fin_r (by kernel_rfl)

theorem math_bits_Div64_ok_c : callable Try.prog 146 := ⟨_, Try.func146, by decide, rfl⟩

end Go.UK
