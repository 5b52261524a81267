/- A part of the proof: what the functions of the program compute. -/
import Derived.Test.YtcaadpceoajapaaR1
namespace Go.UK
open Go Go.Proofs
set_option maxRecDepth 20000
set_option linter.all false

attribute [local irreducible] owp awl aw FnM NatFn opS Stab TOK Big

/-! umbra/fix.Of -/
def p_fix_Of (N : Nat) (a0 : Int) : Option (Int) :=
  Option.bind (p_wide_Mul N a0 4294967296) fun r1 =>
  Option.bind (p_fix_near N r1) fun r2 =>
  some r2

theorem fix_Of_ok {N : Nat} {a0 : Int} {r : Int} (h : p_fix_Of N a0 = some r) : FnM Try.prog 87 [] [(j64 a0)] (j64 r) [] := by
  unfold p_fix_Of at h
  refine fnM_of_aw (m := 6) (lo := 0) (rs := [.tmp 2]) hT Try.func87 rfl (by kernel_rfl) rfl ?_
  refine aw_sregU hT m_no [] (by kernel_rfl) ?_
  refine aw_sreg ?_
  refine awl_u hT m_no [] 1 (by kernel_rfl) ?_
  obtain ⟨r1, hr1, h⟩ := obind h
  refine awl_big (big_call [] (wide_Mul_ok hr1) wide_Mul_ok_c (by kernel_rfl) (by kernel_rfl)) (by kernel_rfl) ?_
  obtain ⟨r2, hr2, h⟩ := obind h
  refine awl_big (big_call [] (fix_near_ok hr2) fix_near_ok_c (by kernel_rfl) (by kernel_rfl)) (by kernel_rfl) ?_
  refine awl_u hT m_no [] 1 (by kernel_rfl) ?_
  refine awl_nil ?_
  refine aw_ret ?_
  cases h
  exact fin_r (by kernel_rfl)

theorem fix_Of_ok_c : callable Try.prog 87 := ⟨_, Try.func87, by decide, rfl⟩

/-! umbra/wide.Of -/
def p_wide_Of (N : Nat) (a0 : Int) : Option (S_api_Wide) :=
  some (S_api_Wide.mk (shr .i64 a0 63) (U64 a0))

theorem wide_Of_ok {N : Nat} {a0 : Int} {r : S_api_Wide} (h : p_wide_Of N a0 = some r) : FnM Try.prog 170 [] [(j64 a0)] (S_api_Wide.enc r) [] := by
  unfold p_wide_Of at h
  refine fnM_of_aw (m := 8) (lo := 0) (rs := [.cell 2 192]) hT Try.func170 rfl (by kernel_rfl) rfl ?_
  refine aw_sregU hT m_no [] (by kernel_rfl) ?_
  refine aw_sregU hT m_no [] (by kernel_rfl) ?_
  refine aw_ret ?_
  cases h
  exact fin_r (by kernel_rfl)

theorem wide_Of_ok_c : callable Try.prog 170 := ⟨_, Try.func170, by decide, rfl⟩

/-! umbra/wide.Shr -/
def m_wide_Shr : Nat → Bool := imL [2]

def p_wide_Shr (N : Nat) (a0 : S_api_Wide) (a1 : Int) : Option (S_api_Wide) :=
  letO (decide ((imax a1 0) ≥ 64)) fun x1 =>
  cond x1 (
    letO (imin (I64 ((imax a1 0) - 64)) 63) fun x3 =>
    Option.bind (shrO .i64 a0.gHi x3) fun x4 =>
    Option.bind (p_wide_Of N x4) fun r5 =>
    some r5) (
    cond ((imax a1 0) == 0) (
      some a0) (
      Option.bind (shrO .i64 a0.gHi (imax a1 0)) fun x6 =>
      Option.bind (shrO .u64 a0.gLo (imax a1 0)) fun x7 =>
      Option.bind (shlO .u64 (U64 a0.gHi) (I64 (64 - (imax a1 0)))) fun x8 =>
      some (S_api_Wide.mk x6 (bor .u64 x7 x8))))

theorem wide_Shr_ok {N : Nat} {a0 : S_api_Wide} {a1 : Int} {r : S_api_Wide} (h : p_wide_Shr N a0 a1 = some r) : FnM Try.prog 140 [] [(S_api_Wide.enc a0), (j64 a1)] (S_api_Wide.enc r) [] := by
  unfold p_wide_Shr at h
  refine fnM_of_aw (m := 35) (lo := 0) (rs := [.cell 4 192]) hT Try.func140 rfl (by kernel_rfl) rfl ?_
  refine aw_sregU hT m_wide_Shr [] (by kernel_rfl) ?_
  refine aw_sregU hT m_wide_Shr [] (by kernel_rfl) ?_
  refine aw_seq ?_
  obtain ⟨x1, hx1, h⟩ := letE h
  refine aw_sregU hT m_wide_Shr [] (by kernel_rfl) ?_
  refine aw_nms [(8, (eB x1))] (by subst hx1; kernel_rfl) ?_
  refine aw_condH h (by kernel_rfl) (fun _ h => ?_) (fun _ h => ?_)
  · refine aw_sreg ?_
    obtain ⟨x3, hx3, h⟩ := letE h
    refine awl_u hT m_wide_Shr [] 5 (by kernel_rfl) ?_
    refine awl_nms [(13, (j64 x3))] (by subst hx3; kernel_rfl) ?_
    obtain ⟨x4, hx4, h⟩ := obind h
    refine awl_big (big_shr hT (k' := .i64) hx4 (by kernel_rfl) (by kernel_rfl)) (by kernel_rfl) ?_
    obtain ⟨r5, hr5, h⟩ := obind h
    refine awl_big (big_call [] (wide_Of_ok hr5) wide_Of_ok_c (by kernel_rfl) (by kernel_rfl)) (by kernel_rfl) ?_
    refine awl_u hT m_wide_Shr [] 1 (by kernel_rfl) ?_
    refine awl_nil ?_
    refine aw_ret (tn_r ?_)
    cases h
    exact fin_r (by kernel_rfl)
  · refine aw_skip (tn_n ?_)
    refine aw_seq ?_
    refine aw_sregU hT m_wide_Shr [] (by kernel_rfl) ?_
    refine aw_condH h (by kernel_rfl) (fun _ h => ?_) (fun _ h => ?_)
    · refine aw_sregU hT m_wide_Shr [] (by kernel_rfl) ?_
      refine aw_ret (tn_r ?_)
      cases h
      exact fin_r (by kernel_rfl)
    · refine aw_skip (tn_n ?_)
      obtain ⟨x6, hx6, h⟩ := obind h
      obtain ⟨x7, hx7, h⟩ := obind h
      obtain ⟨x8, hx8, h⟩ := obind h
      refine aw_sdrawV hT hmo m_wide_Shr [(3, (j64 x6)), (7, (k64 x7)), (13, (k64 x8))] [] (by kernel_rfl) (by kernel_rfl) (by kernel_rfl) ⟨fun _ => big_shr hT (k' := .i64) hx6 (by kernel_rfl) (by kernel_rfl), fun _ => big_shr hT (k' := .i64) hx7 (by kernel_rfl) (by kernel_rfl), fun _ => big_shl hT (k' := .i64) hx8 (by kernel_rfl) (by kernel_rfl), trivial⟩ trivial ?_
      refine aw_ret ?_
      cases h
      exact fin_r (by kernel_rfl)

theorem wide_Shr_ok_c : callable Try.prog 140 := ⟨_, Try.func140, by decide, rfl⟩

/-! umbra/fix.Mul -/
def p_fix_Mul_L1 (N : Nat) (a0 : (List Int)) : Nat → Int → Int → Option (Int)
  | 0, _, _ => none
  | k + 1, s2, s3 =>
    letO (decide (s3 < ((a0.length : Int)))) fun x4 =>
    cond x4 (
      Option.bind (Option.bind (idx a0 s3) fun e6 =>
      cond (s3 == 0) (
        some e6) (
        Option.bind (p_wide_Mul N s2 e6) fun r7 =>
        Option.bind (p_wide_Shr N r7 32) fun r8 =>
        Option.bind (p_fix_near N r8) fun r9 =>
        some r9)) fun p5 =>
      p_fix_Mul_L1 N a0 k p5 (I64 (s3 + 1))) (
      some s2)

def p_fix_Mul (N : Nat) (a0 : (List Int)) : Option (Int) :=
  Option.bind (p_fix_Mul_L1 N a0 N 4294967296 0) fun p1 =>
  some p1

theorem fix_Mul_ok {N : Nat} {a0 : (List Int)} {r : Int} (h : p_fix_Mul N a0 = some r) : FnM Try.prog 84 [] [(eL 1 j64 a0)] (j64 r) [] := by
  unfold p_fix_Mul at h
  refine fnM_of_aw (m := 23) (lo := 0) (rs := [.tmp 2]) hT Try.func84 rfl (by kernel_rfl) rfl ?_
  refine aw_sregU hT m_no [] (by kernel_rfl) ?_
  refine aw_sregU hT m_no [] (by kernel_rfl) ?_
  refine aw_seq ?_
  refine aw_sregU hT m_no [] (by kernel_rfl) ?_
  obtain ⟨p1, h, g1⟩ := obind h
  refine aw_joinTK ⟨[en 3 (j64 p1)], []⟩ ?_ ?_
  · refine aw_block (aw_loop (fun k s => ∃ s2 s3, p_fix_Mul_L1 N a0 k s2 s3 = some p1 ∧ JR (Fr.f 23 0) ⟨[en 3 (j64 s2), en 6 (eL 1 j64 a0), en 7 (j64 ((a0.length : Int))), en 8 (j64 s3)], []⟩ s) (fun k s hI => ?_) N _ ⟨_, _, h, jr (by kernel_rfl)⟩)
    obtain ⟨s2, s3, h, hj⟩ := hI
    cases k with
    | zero => cases h
    | succ k =>
      refine aw_to _ hj ?_
      obtain ⟨x4, hx4, h⟩ := letE h
      refine aw_sregU hT m_no [] (by kernel_rfl) ?_
      refine aw_nms [(9, (eB x4))] (by subst hx4; kernel_rfl) ?_
      refine aw_seq ?_
      refine aw_condH h (by kernel_rfl) (fun _ h => ?_) (fun _ h => ?_)
      · refine aw_skip (tn_n ?_)
        obtain ⟨p5, h, g5⟩ := obind h
        refine aw_joinT ⟨[en 3 (j64 p5), en 6 (eL 1 j64 a0), en 7 (j64 ((a0.length : Int))), en 8 (j64 s3)], []⟩ ?_ ?_
        · refine aw_block ?_
          refine aw_sreg ?_
          refine awl_u hT m_no [] 1 (by kernel_rfl) ?_
          obtain ⟨e6, he6, h⟩ := obind h
          refine awl_big (big_idx hT j64 he6 (by kernel_rfl) (by kernel_rfl)) (by kernel_rfl) ?_
          refine awl_u hT m_no [] 3 (by kernel_rfl) ?_
          refine awl_nil ?_
          refine aw_seq ?_
          refine aw_sregU hT m_no [] (by kernel_rfl) ?_
          refine aw_condH h (by kernel_rfl) (fun _ h => ?_) (fun _ h => ?_)
          · refine aw_sregU hT m_no [] (by kernel_rfl) ?_
            refine aw_exit (tn_x (inB_e (tn_n ?_)))
            cases h
            exact jr (by kernel_rfl)
          · refine aw_skip (tn_n ?_)
            refine aw_region ?_
            refine awl_u hT m_no [] 2 (by kernel_rfl) ?_
            obtain ⟨r7, hr7, h⟩ := obind h
            refine awl_big (big_call [] (wide_Mul_ok hr7) wide_Mul_ok_c (by kernel_rfl) (by kernel_rfl)) (by kernel_rfl) ?_
            obtain ⟨r8, hr8, h⟩ := obind h
            refine awl_big (big_call [] (wide_Shr_ok hr8) wide_Shr_ok_c (by kernel_rfl) (by kernel_rfl)) (by kernel_rfl) ?_
            obtain ⟨r9, hr9, h⟩ := obind h
            refine awl_big (big_call [] (fix_near_ok hr9) fix_near_ok_c (by kernel_rfl) (by kernel_rfl)) (by kernel_rfl) ?_
            refine awl_u hT m_no [] 1 (by kernel_rfl) ?_
            refine awl_nil (inB_n (tn_n ?_))
            cases h
            exact jr (by kernel_rfl)
        · have h := g5
          refine aw_regU hT m_no [] (by kernel_rfl) (tn_n ?_)
          exact ⟨k, Nat.lt_succ_self k, _, _, h, jr (by kernel_rfl)⟩
      · refine aw_exit (tn_x (tn_x (inB_e (tn_n ?_))))
        cases h
        exact jr (by kernel_rfl)
  · have h := g1
    refine (tn_n ?_)
    refine aw_sregU hT m_no [] (by kernel_rfl) ?_
    refine aw_ret ?_
    cases h
    exact fin_r (by kernel_rfl)

theorem fix_Mul_ok_c : callable Try.prog 84 := ⟨_, Try.func84, by decide, rfl⟩

/-! umbra/fix.Floor -/
def p_fix_Floor (N : Nat) (a0 : Int) : Option (Int) :=
  some (shr .i64 a0 32)

theorem fix_Floor_ok {N : Nat} {a0 : Int} {r : Int} (h : p_fix_Floor N a0 = some r) : FnM Try.prog 83 [] [(j64 a0)] (j64 r) [] := by
  unfold p_fix_Floor at h
  refine fnM_of_aw (m := 5) (lo := 0) (rs := [.tmp 2]) hT Try.func83 rfl (by kernel_rfl) rfl ?_
  refine aw_sregU hT m_no [] (by kernel_rfl) ?_
  refine aw_sregU hT m_no [] (by kernel_rfl) ?_
  refine aw_ret ?_
  cases h
  exact fin_r (by kernel_rfl)

theorem fix_Floor_ok_c : callable Try.prog 83 := ⟨_, Try.func83, by decide, rfl⟩

/-! umbra/film.Tone -/
def p_film_Tone (N : Nat) (a0 : Int) : Option (Int) :=
  cond (decide (a0 ≤ 0)) (
    some 0) (
    Option.bind (p_fix_Add N ([a0, 4294967296])) fun r1 =>
    Option.bind (p_fix_Div N a0 r1) fun r2 =>
    Option.bind (p_fix_Of N 65535) fun r3 =>
    Option.bind (p_fix_Mul N ([r2, r3])) fun r4 =>
    Option.bind (p_fix_Floor N r4) fun r5 =>
    some r5)

theorem film_Tone_ok {N : Nat} {a0 : Int} {r : Int} (h : p_film_Tone N a0 = some r) : FnM Try.prog 33 [] [(j64 a0)] (j64 r) [] := by
  unfold p_film_Tone at h
  refine fnM_of_aw (m := 14) (lo := 0) (rs := [.tmp 2]) hT Try.func33 rfl (by kernel_rfl) rfl ?_
  refine aw_sregU hT m_no [] (by kernel_rfl) ?_
  refine aw_seq ?_
  refine aw_sregU hT m_no [] (by kernel_rfl) ?_
  refine aw_condH h (by kernel_rfl) (fun _ h => ?_) (fun _ h => ?_)
  · refine aw_sregU hT m_no [] (by kernel_rfl) ?_
    refine aw_ret (tn_r ?_)
    cases h
    exact fin_r (by kernel_rfl)
  · refine aw_skip (tn_n ?_)
    refine aw_sreg ?_
    refine awl_u hT m_no [] 2 (by kernel_rfl) ?_
    refine awl_big (big_row hT (x := (.sl 1 2 [(j64 a0), (j64 4294967296)])) (by kernel_rfl) (by kernel_rfl)) (by kernel_rfl) ?_
    obtain ⟨r1, hr1, h⟩ := obind h
    refine awl_big (big_call [] (fix_Add_ok hr1) fix_Add_ok_c (by kernel_rfl) (by kernel_rfl)) (by kernel_rfl) ?_
    obtain ⟨r2, hr2, h⟩ := obind h
    refine awl_big (big_call [] (fix_Div_ok hr2) fix_Div_ok_c (by kernel_rfl) (by kernel_rfl)) (by kernel_rfl) ?_
    obtain ⟨r3, hr3, h⟩ := obind h
    refine awl_big (big_call [] (fix_Of_ok hr3) fix_Of_ok_c (by kernel_rfl) (by kernel_rfl)) (by kernel_rfl) ?_
    refine awl_big (big_row hT (x := (.sl 1 2 [(j64 r2), (j64 r3)])) (by kernel_rfl) (by kernel_rfl)) (by kernel_rfl) ?_
    obtain ⟨r4, hr4, h⟩ := obind h
    refine awl_big (big_call [] (fix_Mul_ok hr4) fix_Mul_ok_c (by kernel_rfl) (by kernel_rfl)) (by kernel_rfl) ?_
    obtain ⟨r5, hr5, h⟩ := obind h
    refine awl_big (big_call [] (fix_Floor_ok hr5) fix_Floor_ok_c (by kernel_rfl) (by kernel_rfl)) (by kernel_rfl) ?_
    refine awl_u hT m_no [] 1 (by kernel_rfl) ?_
    refine awl_nil ?_
    refine aw_ret ?_
    cases h
    exact fin_r (by kernel_rfl)

theorem film_Tone_ok_c : callable Try.prog 33 := ⟨_, Try.func33, by decide, rfl⟩

/-! umbra/film.Far -/
def p_film_Far (N : Nat) (a0 : Int) : Option (Int) :=
  Option.bind (p_fix_Floor N a0) fun r1 =>
  some (imin (imax r1 0) 65535)

theorem film_Far_ok {N : Nat} {a0 : Int} {r : Int} (h : p_film_Far N a0 = some r) : FnM Try.prog 35 [] [(j64 a0)] (j64 r) [] := by
  unfold p_film_Far at h
  refine fnM_of_aw (m := 7) (lo := 0) (rs := [.tmp 2]) hT Try.func35 rfl (by kernel_rfl) rfl ?_
  refine aw_sregU hT m_no [] (by kernel_rfl) ?_
  refine aw_sreg ?_
  refine awl_u hT m_no [] 1 (by kernel_rfl) ?_
  obtain ⟨r1, hr1, h⟩ := obind h
  refine awl_big (big_call [] (fix_Floor_ok hr1) fix_Floor_ok_c (by kernel_rfl) (by kernel_rfl)) (by kernel_rfl) ?_
  refine awl_u hT m_no [] 3 (by kernel_rfl) ?_
  refine awl_nil ?_
  refine aw_ret ?_
  cases h
  exact fin_r (by kernel_rfl)

theorem film_Far_ok_c : callable Try.prog 35 := ⟨_, Try.func35, by decide, rfl⟩

/-! umbra/fix.Clamp -/
def p_fix_Clamp (N : Nat) (a0 : Int) (a1 : Int) (a2 : Int) : Option (Int) :=
  some (imin (imax a0 a1) a2)

theorem fix_Clamp_ok {N : Nat} {a0 : Int} {a1 : Int} {a2 : Int} {r : Int} (h : p_fix_Clamp N a0 a1 a2 = some r) : FnM Try.prog 93 [] [(j64 a0), (j64 a1), (j64 a2)] (j64 r) [] := by
  unfold p_fix_Clamp at h
  refine fnM_of_aw (m := 12) (lo := 0) (rs := [.tmp 6]) hT Try.func93 rfl (by kernel_rfl) rfl ?_
  refine aw_sregU hT m_no [] (by kernel_rfl) ?_
  refine aw_sregU hT m_no [] (by kernel_rfl) ?_
  refine aw_ret ?_
  cases h
  exact fin_r (by kernel_rfl)

theorem fix_Clamp_ok_c : callable Try.prog 93 := ⟨_, Try.func93, by decide, rfl⟩

/-! umbra/film.Side -/
def p_film_Side (N : Nat) (a0 : Int) : Option (Int) :=
  Option.bind (p_fix_Of N 32767) fun r1 =>
  Option.bind (p_fix_Clamp N a0 (-4294967296) 4294967296) fun r2 =>
  Option.bind (p_fix_Add N ([4294967296, r2])) fun r3 =>
  Option.bind (p_fix_Mul N ([r1, r3])) fun r4 =>
  Option.bind (p_fix_Floor N r4) fun r5 =>
  some r5

theorem film_Side_ok {N : Nat} {a0 : Int} {r : Int} (h : p_film_Side N a0 = some r) : FnM Try.prog 37 [] [(j64 a0)] (j64 r) [] := by
  unfold p_film_Side at h
  refine fnM_of_aw (m := 11) (lo := 0) (rs := [.tmp 2]) hT Try.func37 rfl (by kernel_rfl) rfl ?_
  refine aw_sregU hT m_no [] (by kernel_rfl) ?_
  refine aw_sreg ?_
  obtain ⟨r1, hr1, h⟩ := obind h
  refine awl_big (big_call [] (fix_Of_ok hr1) fix_Of_ok_c (by kernel_rfl) (by kernel_rfl)) (by kernel_rfl) ?_
  refine awl_u hT m_no [] 1 (by kernel_rfl) ?_
  obtain ⟨r2, hr2, h⟩ := obind h
  refine awl_big (big_call [] (fix_Clamp_ok hr2) fix_Clamp_ok_c (by kernel_rfl) (by kernel_rfl)) (by kernel_rfl) ?_
  refine awl_big (big_row hT (x := (.sl 1 2 [(j64 4294967296), (j64 r2)])) (by kernel_rfl) (by kernel_rfl)) (by kernel_rfl) ?_
  obtain ⟨r3, hr3, h⟩ := obind h
  refine awl_big (big_call [] (fix_Add_ok hr3) fix_Add_ok_c (by kernel_rfl) (by kernel_rfl)) (by kernel_rfl) ?_
  refine awl_big (big_row hT (x := (.sl 1 2 [(j64 r1), (j64 r3)])) (by kernel_rfl) (by kernel_rfl)) (by kernel_rfl) ?_
  obtain ⟨r4, hr4, h⟩ := obind h
  refine awl_big (big_call [] (fix_Mul_ok hr4) fix_Mul_ok_c (by kernel_rfl) (by kernel_rfl)) (by kernel_rfl) ?_
  obtain ⟨r5, hr5, h⟩ := obind h
  refine awl_big (big_call [] (fix_Floor_ok hr5) fix_Floor_ok_c (by kernel_rfl) (by kernel_rfl)) (by kernel_rfl) ?_
  refine awl_u hT m_no [] 1 (by kernel_rfl) ?_
  refine awl_nil ?_
  refine aw_ret ?_
  cases h
  exact fin_r (by kernel_rfl)

theorem film_Side_ok_c : callable Try.prog 37 := ⟨_, Try.func37, by decide, rfl⟩

/-! umbra/umbralaw29.works -/
def p_umbralaw29_works (N : Nat) : Option (Bool) :=
  Option.bind (Option.bind (p_film_Tone N 4294967296) fun r2 =>
  cond (r2 == 32767) (
    Option.bind (p_film_Side N 0) fun r3 =>
    cond (r3 == 32767) (
      Option.bind (p_film_Far N 300647710720000) fun r4 =>
      some (r4 == 65535)) (
      some false)) (
    some false)) fun p1 =>
  some p1

theorem umbralaw29_works_ok {N : Nat} {r : Bool} (h : p_umbralaw29_works N = some r) : FnM Try.prog 39 [] [] (eB r) [] := by
  unfold p_umbralaw29_works at h
  refine fnM_of_aw (m := 11) (lo := 0) (rs := [.tmp 0]) hT Try.func39 rfl (by kernel_rfl) rfl ?_
  refine aw_sregU hT m_no [] (by kernel_rfl) ?_
  obtain ⟨p1, h, g1⟩ := obind h
  refine aw_joinT ⟨[en 0 (eB p1)], []⟩ ?_ ?_
  · refine aw_region ?_
    obtain ⟨r2, hr2, h⟩ := obind h
    refine awl_big (big_call [] (film_Tone_ok hr2) film_Tone_ok_c (by kernel_rfl) (by kernel_rfl)) (by kernel_rfl) ?_
    refine awl_u hT m_no [] 2 (by kernel_rfl) ?_
    refine awl_split 3 h (by kernel_rfl) (fun h => ?_) (fun h => ?_)
    · obtain ⟨r3, hr3, h⟩ := obind h
      refine awl_big (big_call [] (film_Side_ok hr3) film_Side_ok_c (by kernel_rfl) (by kernel_rfl)) (by kernel_rfl) ?_
      refine awl_u hT m_no [3] 3 (by kernel_rfl) ?_
      refine awl_split 7 h (by kernel_rfl) (fun h => ?_) (fun h => ?_)
      · obtain ⟨r4, hr4, h⟩ := obind h
        refine awl_big (big_call [] (film_Far_ok hr4) film_Far_ok_c (by kernel_rfl) (by kernel_rfl)) (by kernel_rfl) ?_
        refine awl_u hT m_no [7] 3 (by kernel_rfl) ?_
        refine awl_nil (tn_n ?_)
        cases h
        exact jr (by kernel_rfl)
      · refine awl_u hT m_no [7] 4 (by kernel_rfl) ?_
        refine awl_nil (tn_n ?_)
        cases h
        exact jr (by kernel_rfl)
    · refine awl_u hT m_no [3, 7] 8 (by kernel_rfl) ?_
      refine awl_nil (tn_n ?_)
      cases h
      exact jr (by kernel_rfl)
  · have h := g1
    refine aw_ret ?_
    cases h
    exact fin_r (by kernel_rfl)

theorem umbralaw29_works_ok_c : callable Try.prog 39 := ⟨_, Try.func39, by decide, rfl⟩

/-! umbra/umbralaw29.FilmRises -/
def p_umbralaw29_FilmRises_L1 (N : Nat) (r2 : Int) (r3 : Int) (r4 : Int) (r5 : Int) (r6 : Int) (r7 : Int) : Nat → Int → Option (Sum (Unit) (Bool))
  | 0, _ => none
  | k + 1, s9 =>
    cond (decide (s9 < 3)) (
      Option.bind (idx ([#v[r2, r3], #v[r4, r5], #v[r6, r7]]) s9) fun e10 =>
      Option.bind (Option.bind (inRO 0 2) fun _ =>
      Option.bind (e10.toList[((0 : Int).toNat)]?) fun e13 =>
      Option.bind (inRO 1 2) fun _ =>
      Option.bind (e10.toList[((1 : Int).toNat)]?) fun e15 =>
      letO (decide (e13 > (I64 (e15 + 1)))) fun x16 =>
      cond x16 (
        some true) (
        Option.bind (inRO 0 2) fun _ =>
        Option.bind (e10.toList[((0 : Int).toNat)]?) fun e18 =>
        cond (decide (e18 < 0)) (
          some true) (
          Option.bind (inRO 1 2) fun _ =>
          Option.bind (e10.toList[((1 : Int).toNat)]?) fun e20 =>
          some (decide (e20 > 65535))))) fun p11 =>
      cond p11 (
        some (Sum.inr false)) (
        p_umbralaw29_FilmRises_L1 N r2 r3 r4 r5 r6 r7 k (I64 (s9 + 1)))) (
      some (Sum.inl (())))

def p_umbralaw29_FilmRises (N : Nat) (a0 : Int) (a1 : Int) : Option (Bool) :=
  Option.bind (cond (decide (a0 > a1)) (some ((a1, a0))) (some ((a0, a1)))) fun p1 =>
  Option.bind (p_film_Tone N p1.1) fun r2 =>
  Option.bind (p_film_Tone N p1.2) fun r3 =>
  Option.bind (p_film_Far N p1.1) fun r4 =>
  Option.bind (p_film_Far N p1.2) fun r5 =>
  Option.bind (p_film_Side N p1.1) fun r6 =>
  Option.bind (p_film_Side N p1.2) fun r7 =>
  Option.bind (p_umbralaw29_FilmRises_L1 N r2 r3 r4 r5 r6 r7 N 0) fun o => sumC o (fun p8 =>
    Option.bind (p_umbralaw29_works N ) fun r21 =>
    some r21) (fun r => some r)

theorem umbralaw29_FilmRises_ok {N : Nat} {a0 : Int} {a1 : Int} {r : Bool} (h : p_umbralaw29_FilmRises N a0 a1 = some r) : FnM Try.prog 8 [] [(j64 a0), (j64 a1)] (eB r) [] := by
  unfold p_umbralaw29_FilmRises at h
  refine fnM_of_aw (m := 51) (lo := 0) (rs := [.tmp 4]) hT Try.func8 rfl (by kernel_rfl) rfl ?_
  refine aw_sregU hT m_no [] (by kernel_rfl) ?_
  obtain ⟨p1, h, g1⟩ := obind h
  refine aw_joinT ⟨[en 0 (j64 p1.1), en 1 (j64 p1.2)], []⟩ ?_ ?_
  · refine aw_sregU hT m_no [] (by kernel_rfl) ?_
    refine aw_condH h (by kernel_rfl) (fun _ h => ?_) (fun _ h => ?_)
    · refine aw_regU hT m_no [] (by kernel_rfl) (tn_n ?_)
      cases h
      exact jr (by kernel_rfl)
    · refine aw_skip (tn_n ?_)
      cases h
      exact jr (by kernel_rfl)
  · have h := g1
    refine aw_seq ?_
    refine aw_sreg ?_
    refine awl_u hT m_no [] 1 (by kernel_rfl) ?_
    obtain ⟨r2, hr2, h⟩ := obind h
    refine awl_big (big_call [] (film_Tone_ok hr2) film_Tone_ok_c (by kernel_rfl) (by kernel_rfl)) (by kernel_rfl) ?_
    refine awl_u hT m_no [] 1 (by kernel_rfl) ?_
    obtain ⟨r3, hr3, h⟩ := obind h
    refine awl_big (big_call [] (film_Tone_ok hr3) film_Tone_ok_c (by kernel_rfl) (by kernel_rfl)) (by kernel_rfl) ?_
    refine awl_u hT m_no [] 2 (by kernel_rfl) ?_
    obtain ⟨r4, hr4, h⟩ := obind h
    refine awl_big (big_call [] (film_Far_ok hr4) film_Far_ok_c (by kernel_rfl) (by kernel_rfl)) (by kernel_rfl) ?_
    refine awl_u hT m_no [] 1 (by kernel_rfl) ?_
    obtain ⟨r5, hr5, h⟩ := obind h
    refine awl_big (big_call [] (film_Far_ok hr5) film_Far_ok_c (by kernel_rfl) (by kernel_rfl)) (by kernel_rfl) ?_
    refine awl_u hT m_no [] 2 (by kernel_rfl) ?_
    obtain ⟨r6, hr6, h⟩ := obind h
    refine awl_big (big_call [] (film_Side_ok hr6) film_Side_ok_c (by kernel_rfl) (by kernel_rfl)) (by kernel_rfl) ?_
    refine awl_u hT m_no [] 1 (by kernel_rfl) ?_
    obtain ⟨r7, hr7, h⟩ := obind h
    refine awl_big (big_call [] (film_Side_ok hr7) film_Side_ok_c (by kernel_rfl) (by kernel_rfl)) (by kernel_rfl) ?_
    refine awl_u hT m_no [] 1 (by kernel_rfl) ?_
    refine awl_big (big_row hT (x := (.sl 2 3 [(.arr 2 1 [(j64 r2), (j64 r3)]), (.arr 2 1 [(j64 r4), (j64 r5)]), (.arr 2 1 [(j64 r6), (j64 r7)])])) (by kernel_rfl) (by kernel_rfl)) (by kernel_rfl) ?_
    refine awl_u hT m_no [] 2 (by kernel_rfl) ?_
    refine awl_nil ?_
    obtain ⟨op8, h, g8⟩ := obind h
    refine aw_joinSK (fun p8 => ⟨[], []⟩) g8 ?_ (fun p8 h => ?_)
    · refine aw_block (aw_loop (fun k s => ∃ s9, p_umbralaw29_FilmRises_L1 N r2 r3 r4 r5 r6 r7 k s9 = some op8 ∧ JR (Fr.f 51 0) ⟨[en 27 (.sl 2 3 [(.arr 2 1 [(j64 r2), (j64 r3)]), (.arr 2 1 [(j64 r4), (j64 r5)]), (.arr 2 1 [(j64 r6), (j64 r7)])]), en 28 (j64 3), en 29 (j64 s9)], []⟩ s) (fun k s hI => ?_) N _ ⟨_, h, jr (by kernel_rfl)⟩)
      obtain ⟨s9, h, hj⟩ := hI
      cases k with
      | zero => cases h
      | succ k =>
        refine aw_to _ hj ?_
        refine aw_sregU hT m_no [] (by kernel_rfl) ?_
        refine aw_seq ?_
        refine aw_condH h (by kernel_rfl) (fun _ h => ?_) (fun _ h => ?_)
        · refine aw_skip (tn_n ?_)
          refine aw_seq ?_
          refine aw_block ?_
          refine aw_sreg ?_
          obtain ⟨e10, he10, h⟩ := obind h
          refine awl_big (big_idx hT (eA 2 1 j64) he10 (by kernel_rfl) (by kernel_rfl)) (by kernel_rfl) ?_
          refine awl_u hT m_no [] 3 (by kernel_rfl) ?_
          refine awl_nil ?_
          obtain ⟨p11, h, g11⟩ := obind h
          refine aw_joinT ⟨[en 27 (.sl 2 3 [(.arr 2 1 [(j64 r2), (j64 r3)]), (.arr 2 1 [(j64 r4), (j64 r5)]), (.arr 2 1 [(j64 r6), (j64 r7)])]), en 28 (j64 3), en 29 (j64 s9), en 48 (eB p11)], [.var (eA 2 1 j64 e10)]⟩ ?_ ?_
          · refine aw_region ?_
            obtain ⟨u12, hu12, h⟩ := obind h
            refine awl_big (big_adR hT (k := 1) 0 [] 0 hu12 (by kernel_rfl) (by kernel_rfl)) (by kernel_rfl) ?_
            obtain ⟨e13, he13, h⟩ := obind h
            refine awl_big (big_ldE hT j64 0 he13 (by kernel_rfl) (by kernel_rfl)) (by kernel_rfl) ?_
            obtain ⟨u14, hu14, h⟩ := obind h
            refine awl_big (big_adR hT (k := 1) 0 [] 0 hu14 (by kernel_rfl) (by kernel_rfl)) (by kernel_rfl) ?_
            obtain ⟨e15, he15, h⟩ := obind h
            refine awl_big (big_ldE hT j64 0 he15 (by kernel_rfl) (by kernel_rfl)) (by kernel_rfl) ?_
            obtain ⟨x16, hx16, h⟩ := letE h
            refine awl_u hT m_no [] 3 (by kernel_rfl) ?_
            refine awl_nms [(39, (eB x16))] (by subst hx16; kernel_rfl) ?_
            refine awl_split 39 h (by kernel_rfl) (fun h => ?_) (fun h => ?_)
            · refine awl_u hT m_no [39, 44] 9 (by kernel_rfl) ?_
              refine awl_nil (tn_n ?_)
              cases h
              exact jr (by kernel_rfl)
            · obtain ⟨u17, hu17, h⟩ := obind h
              refine awl_big (big_adR hT (k := 1) 0 [] 0 hu17 (by kernel_rfl) (by kernel_rfl)) (by kernel_rfl) ?_
              obtain ⟨e18, he18, h⟩ := obind h
              refine awl_big (big_ldE hT j64 0 he18 (by kernel_rfl) (by kernel_rfl)) (by kernel_rfl) ?_
              refine awl_u hT m_no [39] 3 (by kernel_rfl) ?_
              refine awl_split 44 h (by kernel_rfl) (fun h => ?_) (fun h => ?_)
              · refine awl_u hT m_no [44] 4 (by kernel_rfl) ?_
                refine awl_nil (tn_n ?_)
                cases h
                exact jr (by kernel_rfl)
              · obtain ⟨u19, hu19, h⟩ := obind h
                refine awl_big (big_adR hT (k := 1) 0 [] 0 hu19 (by kernel_rfl) (by kernel_rfl)) (by kernel_rfl) ?_
                obtain ⟨e20, he20, h⟩ := obind h
                refine awl_big (big_ldE hT j64 0 he20 (by kernel_rfl) (by kernel_rfl)) (by kernel_rfl) ?_
                refine awl_u hT m_no [44] 2 (by kernel_rfl) ?_
                refine awl_nil (tn_n ?_)
                cases h
                exact jr (by kernel_rfl)
          · have h := g11
            refine aw_condH h (by kernel_rfl) (fun _ h => ?_) (fun _ h => ?_)
            · refine aw_sregU hT m_no [] (by kernel_rfl) ?_
              cases h
              have h := g8
              refine aw_ret (inB_r (tn_r (tn_r (inB_r (tn_r (tn_r ?_))))))
              obtain rfl := sum_e h
              exact fin_r (by kernel_rfl)
            · refine aw_skip (inB_n (tn_n ?_))
              refine aw_regU hT m_no [] (by kernel_rfl) (tn_n ?_)
              exact ⟨k, Nat.lt_succ_self k, _, h, jr (by kernel_rfl)⟩
        · refine aw_exit (tn_x (tn_x (inB_e (tn_n ?_))))
          cases h
          exact ⟨_, rfl, jr (by kernel_rfl)⟩
    · refine (tn_n ?_)
      refine aw_sreg ?_
      obtain ⟨r21, hr21, h⟩ := obind h
      refine awl_big (big_call [] (umbralaw29_works_ok hr21) umbralaw29_works_ok_c (by kernel_rfl) (by kernel_rfl)) (by kernel_rfl) ?_
      refine awl_u hT m_no [] 1 (by kernel_rfl) ?_
      refine awl_nil ?_
      refine aw_ret ?_
      cases h
      exact fin_r (by kernel_rfl)

theorem umbralaw29_FilmRises_ok_c : callable Try.prog 8 := ⟨_, Try.func8, by decide, rfl⟩

end Go.UK
