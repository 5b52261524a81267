/- A part of the proof: what the functions of the program compute. -/
import Derived.Test.YtcaadpceoajapaaP4
namespace Go.UK
open Go Go.Proofs
set_option maxRecDepth 20000
set_option maxHeartbeats 4000000
set_option linter.all false

attribute [local irreducible] owp awl aw FnM NatFn opS Stab TOK Big

/-! umbra/umbraref29.threes -/
def p_umbraref29_threes_L1 (N : Nat) (a0 : (List (Vector Int 3))) (a1 : (List (Vector Int 3))) : Nat → Int → Option (Sum (Unit) (Bool))
  | 0, _ => none
  | k + 1, s3 =>
    letO (decide (s3 < ((a0.length : Int)))) fun x4 =>
    cond x4 (
      Option.bind (idx a0 s3) fun e5 =>
      Option.bind (idx a1 s3) fun e6 =>
      cond (!((eqV (fun a b => a == b)) e5 e6)) (
        some (Sum.inr false)) (
        p_umbraref29_threes_L1 N a0 a1 k (I64 (s3 + 1)))) (
      some (Sum.inl (())))

def p_umbraref29_threes (N : Nat) (a0 : (List (Vector Int 3))) (a1 : (List (Vector Int 3))) : Option (Bool) :=
  letO (((a0.length : Int)) != ((a1.length : Int))) fun x1 =>
  cond x1 (
    some false) (
    Option.bind (p_umbraref29_threes_L1 N a0 a1 N 0) fun o => sumC o (fun p2 =>
      some true) (fun r => some r))

theorem umbraref29_threes_ok {N : Nat} {a0 : (List (Vector Int 3))} {a1 : (List (Vector Int 3))} {r : Bool} (h : p_umbraref29_threes N a0 a1 = some r) : FnM Try.prog 102 [] [(eL 3 (eA 3 1 j64) a0), (eL 3 (eA 3 1 j64) a1)] (eB r) [] := by
  unfold p_umbraref29_threes at h
  refine fnM_of_aw (m := 26) (lo := 0) (rs := [.tmp 4]) hT Try.func102 rfl (by kernel_rfl) rfl ?_
  refine aw_sregU hT m_no [] (by kernel_rfl) ?_
  refine aw_seq ?_
  obtain ⟨x1, hx1, h⟩ := letE h
  refine aw_sregU hT m_no [] (by kernel_rfl) ?_
  refine aw_nms [(10, (eB x1))] (by subst hx1; kernel_rfl) ?_
  refine aw_condH h (by kernel_rfl) (fun _ h => ?_) (fun _ h => ?_)
  · refine aw_sregU hT m_no [] (by kernel_rfl) ?_
    refine aw_ret (tn_r ?_)
    cases h
    exact fin_r (by kernel_rfl)
  · refine aw_skip (tn_n ?_)
    refine aw_seq ?_
    refine aw_sregU hT m_no [] (by kernel_rfl) ?_
    obtain ⟨op2, h, g2⟩ := obind h
    refine aw_joinSK (fun p2 => ⟨[], []⟩) g2 ?_ (fun p2 h => ?_)
    · refine aw_block (aw_loop (fun k s => ∃ s3, p_umbraref29_threes_L1 N a0 a1 k s3 = some op2 ∧ JR (Fr.f 26 0) ⟨[en 0 (eL 3 (eA 3 1 j64) a0), en 1 (eL 3 (eA 3 1 j64) a1), en 5 (j64 s3)], []⟩ s) (fun k s hI => ?_) N _ ⟨_, h, jr (by kernel_rfl)⟩)
      obtain ⟨s3, h, hj⟩ := hI
      cases k with
      | zero => cases h
      | succ k =>
        refine aw_to _ hj ?_
        refine aw_seq ?_
        obtain ⟨x4, hx4, h⟩ := letE h
        refine aw_sregU hT m_no [] (by kernel_rfl) ?_
        refine aw_nms [(14, (eB x4))] (by subst hx4; kernel_rfl) ?_
        refine aw_condH h (by kernel_rfl) (fun _ h => ?_) (fun _ h => ?_)
        · refine aw_skip (tn_n ?_)
          refine aw_seq ?_
          refine aw_block ?_
          obtain ⟨e5, he5, h⟩ := obind h
          obtain ⟨e6, he6, h⟩ := obind h
          refine aw_sdrawV hT hmo m_no [(2, (.im (eA 3 1 j64 e5))), (6, (.im (eA 3 1 j64 e6))), (8, (eB (!((eqV (fun a b => a == b)) e5 e6))))] [] (by kernel_rfl) (by kernel_rfl) (by kernel_rfl) ⟨fun _ => big_idx hT (eA 3 1 j64) he5 (by kernel_rfl) (by kernel_rfl), fun _ => big_idx hT (eA 3 1 j64) he6 (by kernel_rfl) (by kernel_rfl), fun _ => big_neq eqT_140 (e5 : (Vector Int 3)) (e6 : (Vector Int 3)) (by kernel_rfl) (by kernel_rfl) (fun _ => rfl) (fun _ => rfl) (by kernel_rfl) (by kernel_rfl), trivial⟩ trivial ?_
          refine aw_condH h (by kernel_rfl) (fun _ h => ?_) (fun _ h => ?_)
          · refine aw_sregU hT m_no [] (by kernel_rfl) ?_
            cases h
            have h := g2
            refine aw_ret (inB_r (tn_r (tn_r (inB_r (tn_r (tn_r ?_))))))
            obtain rfl := sum_e h
            exact fin_r (by kernel_rfl)
          · refine aw_skip (inB_n (tn_n ?_))
            refine aw_regU hT m_no [] (by kernel_rfl) (tn_n ?_)
            exact ⟨k, Nat.lt_succ_self k, _, h, jr (by kernel_rfl)⟩
        · refine aw_exit (tn_x (tn_x (inB_e (tn_n ?_))))
          cases h
          exact ⟨_, rfl, jr (by kernel_rfl)⟩
    · refine (tn_n ?_)
      refine aw_sregU hT m_no [] (by kernel_rfl) ?_
      refine aw_ret ?_
      cases h
      exact fin_r (by kernel_rfl)

theorem umbraref29_threes_ok_c : callable Try.prog 102 := ⟨_, Try.func102, by decide, rfl⟩

/-! umbra/umbraref29.Ints -/
def p_umbraref29_Ints_L1 (N : Nat) (a0 : (List Int)) (a1 : (List Int)) : Nat → Int → Option (Sum (Unit) (Bool))
  | 0, _ => none
  | k + 1, s3 =>
    letO (decide (s3 < ((a0.length : Int)))) fun x4 =>
    cond x4 (
      Option.bind (idx a0 s3) fun e5 =>
      Option.bind (idx a1 s3) fun e6 =>
      cond (e5 != e6) (
        some (Sum.inr false)) (
        p_umbraref29_Ints_L1 N a0 a1 k (I64 (s3 + 1)))) (
      some (Sum.inl (())))

def p_umbraref29_Ints (N : Nat) (a0 : (List Int)) (a1 : (List Int)) : Option (Bool) :=
  letO (((a0.length : Int)) != ((a1.length : Int))) fun x1 =>
  cond x1 (
    some false) (
    Option.bind (p_umbraref29_Ints_L1 N a0 a1 N 0) fun o => sumC o (fun p2 =>
      some true) (fun r => some r))

theorem umbraref29_Ints_ok {N : Nat} {a0 : (List Int)} {a1 : (List Int)} {r : Bool} (h : p_umbraref29_Ints N a0 a1 = some r) : FnM Try.prog 67 [] [(eL 1 j64 a0), (eL 1 j64 a1)] (eB r) [] := by
  unfold p_umbraref29_Ints at h
  refine fnM_of_aw (m := 26) (lo := 0) (rs := [.tmp 4]) hT Try.func67 rfl (by kernel_rfl) rfl ?_
  refine aw_sregU hT m_no [] (by kernel_rfl) ?_
  refine aw_seq ?_
  obtain ⟨x1, hx1, h⟩ := letE h
  refine aw_sregU hT m_no [] (by kernel_rfl) ?_
  refine aw_nms [(10, (eB x1))] (by subst hx1; kernel_rfl) ?_
  refine aw_condH h (by kernel_rfl) (fun _ h => ?_) (fun _ h => ?_)
  · refine aw_sregU hT m_no [] (by kernel_rfl) ?_
    refine aw_ret (tn_r ?_)
    cases h
    exact fin_r (by kernel_rfl)
  · refine aw_skip (tn_n ?_)
    refine aw_seq ?_
    refine aw_sregU hT m_no [] (by kernel_rfl) ?_
    obtain ⟨op2, h, g2⟩ := obind h
    refine aw_joinSK (fun p2 => ⟨[], []⟩) g2 ?_ (fun p2 h => ?_)
    · refine aw_block (aw_loop (fun k s => ∃ s3, p_umbraref29_Ints_L1 N a0 a1 k s3 = some op2 ∧ JR (Fr.f 26 0) ⟨[en 0 (eL 1 j64 a0), en 1 (eL 1 j64 a1), en 5 (j64 s3)], []⟩ s) (fun k s hI => ?_) N _ ⟨_, h, jr (by kernel_rfl)⟩)
      obtain ⟨s3, h, hj⟩ := hI
      cases k with
      | zero => cases h
      | succ k =>
        refine aw_to _ hj ?_
        refine aw_seq ?_
        obtain ⟨x4, hx4, h⟩ := letE h
        refine aw_sregU hT m_no [] (by kernel_rfl) ?_
        refine aw_nms [(14, (eB x4))] (by subst hx4; kernel_rfl) ?_
        refine aw_condH h (by kernel_rfl) (fun _ h => ?_) (fun _ h => ?_)
        · refine aw_skip (tn_n ?_)
          refine aw_seq ?_
          refine aw_block ?_
          obtain ⟨e5, he5, h⟩ := obind h
          obtain ⟨e6, he6, h⟩ := obind h
          refine aw_sdrawV hT hmo m_no [(2, (.im (j64 e5))), (6, (.im (j64 e6)))] [] (by kernel_rfl) (by kernel_rfl) (by kernel_rfl) ⟨fun _ => big_idx hT j64 he5 (by kernel_rfl) (by kernel_rfl), fun _ => big_idx hT j64 he6 (by kernel_rfl) (by kernel_rfl), trivial⟩ trivial ?_
          refine aw_condH h (by kernel_rfl) (fun _ h => ?_) (fun _ h => ?_)
          · refine aw_sregU hT m_no [] (by kernel_rfl) ?_
            cases h
            have h := g2
            refine aw_ret (inB_r (tn_r (tn_r (inB_r (tn_r (tn_r ?_))))))
            obtain rfl := sum_e h
            exact fin_r (by kernel_rfl)
          · refine aw_skip (inB_n (tn_n ?_))
            refine aw_regU hT m_no [] (by kernel_rfl) (tn_n ?_)
            exact ⟨k, Nat.lt_succ_self k, _, h, jr (by kernel_rfl)⟩
        · refine aw_exit (tn_x (tn_x (inB_e (tn_n ?_))))
          cases h
          exact ⟨_, rfl, jr (by kernel_rfl)⟩
    · refine (tn_n ?_)
      refine aw_sregU hT m_no [] (by kernel_rfl) ?_
      refine aw_ret ?_
      cases h
      exact fin_r (by kernel_rfl)

theorem umbraref29_Ints_ok_c : callable Try.prog 67 := ⟨_, Try.func67, by decide, rfl⟩

/-! umbra/umbraref29.Same -/
def m_umbraref29_Same : Nat → Bool := imL [2, 3]

def p_umbraref29_Same (N : Nat) (a0 : S_api_Image) (a1 : S_api_Image) : Option (Bool) :=
  Option.bind (letO (cond (a0.gW == a1.gW) (a0.gH == a1.gH) false) fun x2 =>
  cond x2 (
    Option.bind (p_umbraref29_threes N a0.gBeauty a1.gBeauty) fun r3 =>
    cond r3 (
      Option.bind (p_umbraref29_threes N a0.gNormal a1.gNormal) fun r4 =>
      cond r4 (
        Option.bind (p_umbraref29_Ints N a0.gAlpha a1.gAlpha) fun r5 =>
        cond r5 (
          Option.bind (p_umbraref29_Ints N a0.gDepth a1.gDepth) fun r6 =>
          cond r6 (
            Option.bind (p_umbraref29_Ints N a0.gAsset a1.gAsset) fun r7 =>
            cond r7 (
              Option.bind (p_umbraref29_Ints N a0.gLabel a1.gLabel) fun r8 =>
              some r8) (
              some false)) (
            some false)) (
          some false)) (
        some false)) (
      some false)) (
    some false)) fun p1 =>
  some p1

theorem umbraref29_Same_ok {N : Nat} {a0 : S_api_Image} {a1 : S_api_Image} {r : Bool} (h : p_umbraref29_Same N a0 a1 = some r) : FnM Try.prog 49 [] [(S_api_Image.enc a0), (S_api_Image.enc a1)] (eB r) [] := by
  unfold p_umbraref29_Same at h
  refine fnM_of_aw (m := 59) (lo := 0) (rs := [.tmp 4]) hT Try.func49 rfl (by kernel_rfl) rfl ?_
  refine aw_sregU hT m_umbraref29_Same [] (by kernel_rfl) ?_
  obtain ⟨p1, h, g1⟩ := obind h
  refine aw_joinT ⟨[en 4 (eB p1)], []⟩ ?_ ?_
  · refine aw_region ?_
    obtain ⟨x2, hx2, h⟩ := letE h
    refine awl_u hT m_umbraref29_Same [] 13 (by kernel_rfl) ?_
    refine awl_nms [(17, (eB x2))] (by subst hx2; kernel_rfl) ?_
    refine awl_split 17 h (by kernel_rfl) (fun h => ?_) (fun h => ?_)
    · refine awl_u hT m_umbraref29_Same [17] 4 (by kernel_rfl) ?_
      obtain ⟨r3, hr3, h⟩ := obind h
      refine awl_big (big_call [] (umbraref29_threes_ok hr3) umbraref29_threes_ok_c (by kernel_rfl) (by kernel_rfl)) (by kernel_rfl) ?_
      refine awl_u hT m_umbraref29_Same [17] 2 (by kernel_rfl) ?_
      refine awl_split 24 h (by kernel_rfl) (fun h => ?_) (fun h => ?_)
      · refine awl_u hT m_umbraref29_Same [24] 4 (by kernel_rfl) ?_
        obtain ⟨r4, hr4, h⟩ := obind h
        refine awl_big (big_call [] (umbraref29_threes_ok hr4) umbraref29_threes_ok_c (by kernel_rfl) (by kernel_rfl)) (by kernel_rfl) ?_
        refine awl_u hT m_umbraref29_Same [24] 2 (by kernel_rfl) ?_
        refine awl_split 31 h (by kernel_rfl) (fun h => ?_) (fun h => ?_)
        · refine awl_u hT m_umbraref29_Same [31] 4 (by kernel_rfl) ?_
          obtain ⟨r5, hr5, h⟩ := obind h
          refine awl_big (big_call [] (umbraref29_Ints_ok hr5) umbraref29_Ints_ok_c (by kernel_rfl) (by kernel_rfl)) (by kernel_rfl) ?_
          refine awl_u hT m_umbraref29_Same [31] 2 (by kernel_rfl) ?_
          refine awl_split 38 h (by kernel_rfl) (fun h => ?_) (fun h => ?_)
          · refine awl_u hT m_umbraref29_Same [38] 4 (by kernel_rfl) ?_
            obtain ⟨r6, hr6, h⟩ := obind h
            refine awl_big (big_call [] (umbraref29_Ints_ok hr6) umbraref29_Ints_ok_c (by kernel_rfl) (by kernel_rfl)) (by kernel_rfl) ?_
            refine awl_u hT m_umbraref29_Same [38] 2 (by kernel_rfl) ?_
            refine awl_split 45 h (by kernel_rfl) (fun h => ?_) (fun h => ?_)
            · refine awl_u hT m_umbraref29_Same [45] 4 (by kernel_rfl) ?_
              obtain ⟨r7, hr7, h⟩ := obind h
              refine awl_big (big_call [] (umbraref29_Ints_ok hr7) umbraref29_Ints_ok_c (by kernel_rfl) (by kernel_rfl)) (by kernel_rfl) ?_
              refine awl_u hT m_umbraref29_Same [45] 2 (by kernel_rfl) ?_
              refine awl_split 52 h (by kernel_rfl) (fun h => ?_) (fun h => ?_)
              · refine awl_u hT m_umbraref29_Same [52] 4 (by kernel_rfl) ?_
                obtain ⟨r8, hr8, h⟩ := obind h
                refine awl_big (big_call [] (umbraref29_Ints_ok hr8) umbraref29_Ints_ok_c (by kernel_rfl) (by kernel_rfl)) (by kernel_rfl) ?_
                refine awl_u hT m_umbraref29_Same [52] 2 (by kernel_rfl) ?_
                refine awl_nil (tn_n ?_)
                cases h
                exact jr (by kernel_rfl)
              · refine awl_u hT m_umbraref29_Same [52] 7 (by kernel_rfl) ?_
                refine awl_nil (tn_n ?_)
                cases h
                exact jr (by kernel_rfl)
            · refine awl_u hT m_umbraref29_Same [45, 52] 14 (by kernel_rfl) ?_
              refine awl_nil (tn_n ?_)
              cases h
              exact jr (by kernel_rfl)
          · refine awl_u hT m_umbraref29_Same [38, 45, 52] 21 (by kernel_rfl) ?_
            refine awl_nil (tn_n ?_)
            cases h
            exact jr (by kernel_rfl)
        · refine awl_u hT m_umbraref29_Same [31, 38, 45, 52] 28 (by kernel_rfl) ?_
          refine awl_nil (tn_n ?_)
          cases h
          exact jr (by kernel_rfl)
      · refine awl_u hT m_umbraref29_Same [24, 31, 38, 45, 52] 35 (by kernel_rfl) ?_
        refine awl_nil (tn_n ?_)
        cases h
        exact jr (by kernel_rfl)
    · refine awl_u hT m_umbraref29_Same [17, 24, 31, 38, 45, 52] 42 (by kernel_rfl) ?_
      refine awl_nil (tn_n ?_)
      cases h
      exact jr (by kernel_rfl)
  · have h := g1
    refine aw_ret ?_
    cases h
    exact fin_r (by kernel_rfl)

theorem umbraref29_Same_ok_c : callable Try.prog 49 := ⟨_, Try.func49, by decide, rfl⟩

/-! umbra/umbralaw29.works -/
def p_umbralaw29_works (N : Nat) : Option (Bool) :=
  Option.bind (Option.bind (p_film_Tone N 4294967296) fun r2 =>
  cond (r2 == 32767) (
    Option.bind (p_film_Side N 0) fun r3 =>
    cond (r3 == 32767) (
      Option.bind (p_film_Far N 300647710720000) fun r4 =>
      some (r4 == 65535)) (
      some false)) (
    some false)) fun p1 =>
  some p1

theorem umbralaw29_works_ok {N : Nat} {r : Bool} (h : p_umbralaw29_works N = some r) : FnM Try.prog 39 [] [] (eB r) [] := by
  unfold p_umbralaw29_works at h
  refine fnM_of_aw (m := 11) (lo := 0) (rs := [.tmp 0]) hT Try.func39 rfl (by kernel_rfl) rfl ?_
  refine aw_sregU hT m_no [] (by kernel_rfl) ?_
  obtain ⟨p1, h, g1⟩ := obind h
  refine aw_joinT ⟨[en 0 (eB p1)], []⟩ ?_ ?_
  · refine aw_region ?_
    obtain ⟨r2, hr2, h⟩ := obind h
    refine awl_big (big_call [] (film_Tone_ok hr2) film_Tone_ok_c (by kernel_rfl) (by kernel_rfl)) (by kernel_rfl) ?_
    refine awl_u hT m_no [] 2 (by kernel_rfl) ?_
    refine awl_split 3 h (by kernel_rfl) (fun h => ?_) (fun h => ?_)
    · obtain ⟨r3, hr3, h⟩ := obind h
      refine awl_big (big_call [] (film_Side_ok hr3) film_Side_ok_c (by kernel_rfl) (by kernel_rfl)) (by kernel_rfl) ?_
      refine awl_u hT m_no [3] 3 (by kernel_rfl) ?_
      refine awl_split 7 h (by kernel_rfl) (fun h => ?_) (fun h => ?_)
      · obtain ⟨r4, hr4, h⟩ := obind h
        refine awl_big (big_call [] (film_Far_ok hr4) film_Far_ok_c (by kernel_rfl) (by kernel_rfl)) (by kernel_rfl) ?_
        refine awl_u hT m_no [7] 3 (by kernel_rfl) ?_
        refine awl_nil (tn_n ?_)
        cases h
        exact jr (by kernel_rfl)
      · refine awl_u hT m_no [7] 4 (by kernel_rfl) ?_
        refine awl_nil (tn_n ?_)
        cases h
        exact jr (by kernel_rfl)
    · refine awl_u hT m_no [3, 7] 8 (by kernel_rfl) ?_
      refine awl_nil (tn_n ?_)
      cases h
      exact jr (by kernel_rfl)
  · have h := g1
    refine aw_ret ?_
    cases h
    exact fin_r (by kernel_rfl)

theorem umbralaw29_works_ok_c : callable Try.prog 39 := ⟨_, Try.func39, by decide, rfl⟩

/-! umbra/umbralaw29.FilmPixels -/
def p_umbralaw29_FilmPixels (N : Nat) (a0 : (List S_api_Sample)) (a1 : S_api_Scene) : Option (Bool) :=
  letO (imin ((a0.length : Int)) 20) fun x1 =>
  Option.bind (slcO a0 0 x1) fun s2 =>
  Option.bind (p_umbralaw28_Few N a1) fun r3 =>
  Option.bind (p_film_Pixel N s2 r3) fun r4 =>
  Option.bind (p_umbraref29_Pixel N s2 r3) fun r5 =>
  Option.bind (Option.bind (p_umbraref29_Same N r4.1 r5.1) fun r7 =>
  letO (cond r7 (r4.2 == r5.2) false) fun x8 =>
  cond x8 (
    Option.bind (p_umbralaw29_works N ) fun r9 =>
    some r9) (
    some false)) fun p6 =>
  some p6

theorem umbralaw29_FilmPixels_ok {N : Nat} {a0 : (List S_api_Sample)} {a1 : S_api_Scene} {r : Bool} (h : p_umbralaw29_FilmPixels N a0 a1 = some r) : FnM Try.prog 13 [] [(eL 9 S_api_Sample.enc a0), (S_api_Scene.enc a1)] (eB r) [] := by
  unfold p_umbralaw29_FilmPixels at h
  refine fnM_of_aw (m := 39) (lo := 0) (rs := [.tmp 4]) hT Try.func13 rfl (by kernel_rfl) rfl ?_
  refine aw_sregU hT m_no [] (by kernel_rfl) ?_
  obtain ⟨x1, hx1, h⟩ := letE h
  obtain ⟨s2, hs2, h⟩ := obind h
  obtain ⟨r3, hr3, h⟩ := obind h
  refine aw_sdrawV hT hmo m_no [(4, (eL 9 S_api_Sample.enc s2)), (6, (S_api_Scene.enc r3))] [] (by subst hx1; kernel_rfl) (by subst hx1; kernel_rfl) (by kernel_rfl) ⟨fun _ => big_slc hT (k := 9) S_api_Sample.enc hs2 (by subst hx1; kernel_rfl) (by subst hx1; kernel_rfl), fun _ => big_call0 (umbralaw28_Few_ok hr3) umbralaw28_Few_ok_c (by subst hx1; kernel_rfl) (by subst hx1; kernel_rfl) (by subst hx1; kernel_rfl), trivial⟩ trivial ?_
  refine aw_sreg ?_
  refine awl_u hT m_no [] 2 (by kernel_rfl) ?_
  obtain ⟨r4, hr4, h⟩ := obind h
  refine awl_big (big_call [] (film_Pixel_ok hr4) film_Pixel_ok_c (by kernel_rfl) (by kernel_rfl)) (by kernel_rfl) ?_
  refine awl_u hT m_no [] 6 (by kernel_rfl) ?_
  refine awl_nil ?_
  refine aw_sreg ?_
  refine awl_u hT m_no [] 2 (by kernel_rfl) ?_
  obtain ⟨r5, hr5, h⟩ := obind h
  refine awl_big (big_call [] (umbraref29_Pixel_ok hr5) umbraref29_Pixel_ok_c (by kernel_rfl) (by kernel_rfl)) (by kernel_rfl) ?_
  refine awl_u hT m_no [] 6 (by kernel_rfl) ?_
  refine awl_nil ?_
  obtain ⟨p6, h, g6⟩ := obind h
  refine aw_joinT ⟨[en 4 (eB p6)], [.var (S_api_Scene.enc r3), .var (S_api_Image.enc r4.1), .var (S_api_Image.enc r5.1)]⟩ ?_ ?_
  · refine aw_region ?_
    refine awl_u hT m_no [] 2 (by kernel_rfl) ?_
    obtain ⟨r7, hr7, h⟩ := obind h
    refine awl_big (big_call [] (umbraref29_Same_ok hr7) umbraref29_Same_ok_c (by kernel_rfl) (by kernel_rfl)) (by kernel_rfl) ?_
    obtain ⟨x8, hx8, h⟩ := letE h
    refine awl_u hT m_no [] 6 (by kernel_rfl) ?_
    refine awl_nms [(36, (eB x8))] (by subst hx8; kernel_rfl) ?_
    refine awl_split 36 h (by kernel_rfl) (fun h => ?_) (fun h => ?_)
    · obtain ⟨r9, hr9, h⟩ := obind h
      refine awl_big (big_call [] (umbralaw29_works_ok hr9) umbralaw29_works_ok_c (by kernel_rfl) (by kernel_rfl)) (by kernel_rfl) ?_
      refine awl_u hT m_no [36] 2 (by kernel_rfl) ?_
      refine awl_nil (tn_n ?_)
      cases h
      exact jr (by kernel_rfl)
    · refine awl_u hT m_no [36] 3 (by kernel_rfl) ?_
      refine awl_nil (tn_n ?_)
      cases h
      exact jr (by kernel_rfl)
  · have h := g6
    refine aw_ret ?_
    cases h
    exact fin_r (by kernel_rfl)

theorem umbralaw29_FilmPixels_ok_c : callable Try.prog 13 := ⟨_, Try.func13, by decide, rfl⟩

end Go.UK
