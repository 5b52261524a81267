/- A part of the proof: what the functions of the program compute. -/
import Derived.Test.YtcaadpceoajapaaP2
namespace Go.UK
open Go Go.Proofs
set_option maxRecDepth 20000
set_option maxHeartbeats 4000000
set_option linter.all false

attribute [local irreducible] owp awl aw FnM NatFn opS Stab TOK Big

/-! umbra/vec.each -/
def m_vec_each_v2 : Nat → Bool := imL [3, 4]

def p_vec_each_v2 (N : Nat) (a0 : S_api_Vec) (a1 : S_api_Vec) : Option (S_api_Vec) :=
  Option.bind (p_fix_Div N a0.gX a1.gX) fun r1 =>
  Option.bind (p_fix_Div N a0.gY a1.gY) fun r2 =>
  Option.bind (p_fix_Div N a0.gZ a1.gZ) fun r3 =>
  some (S_api_Vec.mk r1 r2 r3)

theorem vec_each_v2_ok {N : Nat} {a0 : S_api_Vec} {a1 : S_api_Vec} {r : S_api_Vec} (h : p_vec_each_v2 N a0 a1 = some r) : FnM Try.prog 158 [] [(S_api_Vec.enc a0), (S_api_Vec.enc a1), (.fn (.func 85) [] [])] (S_api_Vec.enc r) [] := by
  unfold p_vec_each_v2 at h
  refine fnM_of_aw (m := 26) (lo := 0) (rs := [.cell 6 167]) hT Try.func158 rfl (by kernel_rfl) rfl ?_
  refine aw_sregU hT m_vec_each_v2 [] (by kernel_rfl) ?_
  obtain ⟨r1, hr1, h⟩ := obind h
  obtain ⟨r2, hr2, h⟩ := obind h
  obtain ⟨r3, hr3, h⟩ := obind h
  refine aw_sdrawV hT hmo m_vec_each_v2 [(5, (j64 r1)), (11, (j64 r2)), (17, (j64 r3))] [] (by kernel_rfl) (by kernel_rfl) (by kernel_rfl) ⟨fun _ => big_call0 (fix_Div_ok hr1) fix_Div_ok_c (by kernel_rfl) (by kernel_rfl) (by kernel_rfl), fun _ => big_call0 (fix_Div_ok hr2) fix_Div_ok_c (by kernel_rfl) (by kernel_rfl) (by kernel_rfl), fun _ => big_call0 (fix_Div_ok hr3) fix_Div_ok_c (by kernel_rfl) (by kernel_rfl) (by kernel_rfl), trivial⟩ trivial ?_
  refine aw_ret ?_
  cases h
  exact fin_r (by kernel_rfl)

theorem vec_each_v2_ok_c : callable Try.prog 158 := ⟨_, Try.func158, by decide, rfl⟩

/-! umbra/vec.Unit -/
def m_vec_Unit : Nat → Bool := imL [1]

def p_vec_Unit (N : Nat) (a0 : S_api_Vec) : Option (S_api_Vec) :=
  cond (S_api_Vec.eq a0 (S_api_Vec.mk 0 0 0)) (
    some a0) (
    Option.bind (p_vec_Length N a0) fun r1 =>
    Option.bind (p_vec_each_v2 N a0 (S_api_Vec.mk r1 r1 r1)) fun r2 =>
    some r2)

theorem vec_Unit_ok {N : Nat} {a0 : S_api_Vec} {r : S_api_Vec} (h : p_vec_Unit N a0 = some r) : FnM Try.prog 122 [] [(S_api_Vec.enc a0)] (S_api_Vec.enc r) [] := by
  unfold p_vec_Unit at h
  refine fnM_of_aw (m := 16) (lo := 0) (rs := [.cell 2 167]) hT Try.func122 rfl (by kernel_rfl) rfl ?_
  refine aw_sregU hT m_vec_Unit [] (by kernel_rfl) ?_
  refine aw_seq ?_
  refine aw_sreg ?_
  refine awl_u hT m_vec_Unit [] 2 (by kernel_rfl) ?_
  refine awl_big (big_eql eqT_167 (a0 : S_api_Vec) (S_api_Vec.mk 0 0 0 : S_api_Vec) (by kernel_rfl) (by kernel_rfl) (fun _ => rfl) (fun _ => rfl) (by kernel_rfl) (by kernel_rfl)) (by kernel_rfl) ?_
  refine awl_nil ?_
  refine aw_condH h (by kernel_rfl) (fun _ h => ?_) (fun _ h => ?_)
  · refine aw_sregU hT m_vec_Unit [] (by kernel_rfl) ?_
    refine aw_ret (tn_r ?_)
    cases h
    exact fin_r (by kernel_rfl)
  · refine aw_skip (tn_n ?_)
    refine aw_sreg ?_
    refine awl_u hT m_vec_Unit [] 1 (by kernel_rfl) ?_
    obtain ⟨r1, hr1, h⟩ := obind h
    refine awl_big (big_call [] (vec_Length_ok hr1) vec_Length_ok_c (by kernel_rfl) (by kernel_rfl)) (by kernel_rfl) ?_
    refine awl_u hT m_vec_Unit [] 1 (by kernel_rfl) ?_
    refine awl_nil ?_
    refine aw_sreg ?_
    refine awl_u hT m_vec_Unit [] 5 (by kernel_rfl) ?_
    obtain ⟨r2, hr2, h⟩ := obind h
    refine awl_big (big_call [] (vec_each_v2_ok hr2) vec_each_v2_ok_c (by kernel_rfl) (by kernel_rfl)) (by kernel_rfl) ?_
    refine awl_u hT m_vec_Unit [] 1 (by kernel_rfl) ?_
    refine awl_nil ?_
    refine aw_ret ?_
    cases h
    exact fin_r (by kernel_rfl)

theorem vec_Unit_ok_c : callable Try.prog 122 := ⟨_, Try.func122, by decide, rfl⟩

/-! umbra/fix.Clamp -/
def p_fix_Clamp (N : Nat) (a0 : Int) (a1 : Int) (a2 : Int) : Option (Int) :=
  some (imin (imax a0 a1) a2)

theorem fix_Clamp_ok {N : Nat} {a0 : Int} {a1 : Int} {a2 : Int} {r : Int} (h : p_fix_Clamp N a0 a1 a2 = some r) : FnM Try.prog 93 [] [(j64 a0), (j64 a1), (j64 a2)] (j64 r) [] := by
  unfold p_fix_Clamp at h
  refine fnM_of_aw (m := 12) (lo := 0) (rs := [.tmp 6]) hT Try.func93 rfl (by kernel_rfl) rfl ?_
  refine aw_sregU hT m_no [] (by kernel_rfl) ?_
  refine aw_sregU hT m_no [] (by kernel_rfl) ?_
  refine aw_ret ?_
  cases h
  exact fin_r (by kernel_rfl)

theorem fix_Clamp_ok_c : callable Try.prog 93 := ⟨_, Try.func93, by decide, rfl⟩

/-! umbra/film.Side -/
def p_film_Side (N : Nat) (a0 : Int) : Option (Int) :=
  Option.bind (p_fix_Of N 32767) fun r1 =>
  Option.bind (p_fix_Clamp N a0 (-4294967296) 4294967296) fun r2 =>
  Option.bind (p_fix_Add N ([4294967296, r2])) fun r3 =>
  Option.bind (p_fix_Mul N ([r1, r3])) fun r4 =>
  Option.bind (p_fix_Floor N r4) fun r5 =>
  some r5

theorem film_Side_ok {N : Nat} {a0 : Int} {r : Int} (h : p_film_Side N a0 = some r) : FnM Try.prog 37 [] [(j64 a0)] (j64 r) [] := by
  unfold p_film_Side at h
  refine fnM_of_aw (m := 11) (lo := 0) (rs := [.tmp 2]) hT Try.func37 rfl (by kernel_rfl) rfl ?_
  refine aw_sregU hT m_no [] (by kernel_rfl) ?_
  refine aw_sreg ?_
  obtain ⟨r1, hr1, h⟩ := obind h
  refine awl_big (big_call [] (fix_Of_ok hr1) fix_Of_ok_c (by kernel_rfl) (by kernel_rfl)) (by kernel_rfl) ?_
  refine awl_u hT m_no [] 1 (by kernel_rfl) ?_
  obtain ⟨r2, hr2, h⟩ := obind h
  refine awl_big (big_call [] (fix_Clamp_ok hr2) fix_Clamp_ok_c (by kernel_rfl) (by kernel_rfl)) (by kernel_rfl) ?_
  refine awl_big (big_row hT (x := (.sl 1 2 [(j64 4294967296), (j64 r2)])) (by kernel_rfl) (by kernel_rfl)) (by kernel_rfl) ?_
  obtain ⟨r3, hr3, h⟩ := obind h
  refine awl_big (big_call [] (fix_Add_ok hr3) fix_Add_ok_c (by kernel_rfl) (by kernel_rfl)) (by kernel_rfl) ?_
  refine awl_big (big_row hT (x := (.sl 1 2 [(j64 r1), (j64 r3)])) (by kernel_rfl) (by kernel_rfl)) (by kernel_rfl) ?_
  obtain ⟨r4, hr4, h⟩ := obind h
  refine awl_big (big_call [] (fix_Mul_ok hr4) fix_Mul_ok_c (by kernel_rfl) (by kernel_rfl)) (by kernel_rfl) ?_
  obtain ⟨r5, hr5, h⟩ := obind h
  refine awl_big (big_call [] (fix_Floor_ok hr5) fix_Floor_ok_c (by kernel_rfl) (by kernel_rfl)) (by kernel_rfl) ?_
  refine awl_u hT m_no [] 1 (by kernel_rfl) ?_
  refine awl_nil ?_
  refine aw_ret ?_
  cases h
  exact fin_r (by kernel_rfl)

theorem film_Side_ok_c : callable Try.prog 37 := ⟨_, Try.func37, by decide, rfl⟩

/-! umbra/film.three -/
def m_film_three_v1 : Nat → Bool := imL [2]

def p_film_three_v1 (N : Nat) (a0 : S_api_Vec) : Option ((Vector Int 3)) :=
  Option.bind (p_film_Side N a0.gX) fun r1 =>
  Option.bind (p_film_Side N a0.gY) fun r2 =>
  Option.bind (p_film_Side N a0.gZ) fun r3 =>
  some (#v[r1, r2, r3])

theorem film_three_v1_ok {N : Nat} {a0 : S_api_Vec} {r : (Vector Int 3)} (h : p_film_three_v1 N a0 = some r) : FnM Try.prog 120 [] [(S_api_Vec.enc a0), (.fn (.func 37) [] [])] (eA 3 1 j64 r) [] := by
  unfold p_film_three_v1 at h
  refine fnM_of_aw (m := 18) (lo := 0) (rs := [.cell 4 140]) hT Try.func120 rfl (by kernel_rfl) rfl ?_
  refine aw_sregU hT m_film_three_v1 [] (by kernel_rfl) ?_
  obtain ⟨r1, hr1, h⟩ := obind h
  obtain ⟨r2, hr2, h⟩ := obind h
  obtain ⟨r3, hr3, h⟩ := obind h
  refine aw_sdrawV hT hmo m_film_three_v1 [(3, (j64 r1)), (7, (j64 r2)), (11, (j64 r3))] [] (by kernel_rfl) (by kernel_rfl) (by kernel_rfl) ⟨fun _ => big_call0 (film_Side_ok hr1) film_Side_ok_c (by kernel_rfl) (by kernel_rfl) (by kernel_rfl), fun _ => big_call0 (film_Side_ok hr2) film_Side_ok_c (by kernel_rfl) (by kernel_rfl) (by kernel_rfl), fun _ => big_call0 (film_Side_ok hr3) film_Side_ok_c (by kernel_rfl) (by kernel_rfl) (by kernel_rfl), trivial⟩ trivial ?_
  refine aw_ret ?_
  cases h
  exact fin_r (by kernel_rfl)

theorem film_three_v1_ok_c : callable Try.prog 120 := ⟨_, Try.func120, by decide, rfl⟩

/-! umbra/film.Far -/
def p_film_Far (N : Nat) (a0 : Int) : Option (Int) :=
  Option.bind (p_fix_Floor N a0) fun r1 =>
  some (imin (imax r1 0) 65535)

theorem film_Far_ok {N : Nat} {a0 : Int} {r : Int} (h : p_film_Far N a0 = some r) : FnM Try.prog 35 [] [(j64 a0)] (j64 r) [] := by
  unfold p_film_Far at h
  refine fnM_of_aw (m := 7) (lo := 0) (rs := [.tmp 2]) hT Try.func35 rfl (by kernel_rfl) rfl ?_
  refine aw_sregU hT m_no [] (by kernel_rfl) ?_
  refine aw_sreg ?_
  refine awl_u hT m_no [] 1 (by kernel_rfl) ?_
  obtain ⟨r1, hr1, h⟩ := obind h
  refine awl_big (big_call [] (fix_Floor_ok hr1) fix_Floor_ok_c (by kernel_rfl) (by kernel_rfl)) (by kernel_rfl) ?_
  refine awl_u hT m_no [] 3 (by kernel_rfl) ?_
  refine awl_nil ?_
  refine aw_ret ?_
  cases h
  exact fin_r (by kernel_rfl)

theorem film_Far_ok_c : callable Try.prog 35 := ⟨_, Try.func35, by decide, rfl⟩

/-! umbra/film.Pixel -/
def m_film_Pixel : Nat → Bool := imL [3]

def p_film_Pixel_L1 (N : Nat) (a0 : (List S_api_Sample)) : Nat → Int → Int → Int → Int → Int → Int → Int → Int → Int → Int → Int → Option (Int × Int × Int × Int × Int × Int × Int × Int × Int × Int)
  | 0, _, _, _, _, _, _, _, _, _, _, _ => none
  | k + 1, s3, s4, s5, s6, s7, s8, s9, s10, s11, s12, s13 =>
    letO (decide (s13 < ((a0.length : Int)))) fun x14 =>
    cond x14 (
      Option.bind (Option.bind (idx a0 s13) fun e16 =>
      Option.bind (p_vec_Add N ([S_api_Vec.mk s3 s4 s5, e16.gColor])) fun r17 =>
      Option.bind (p_vec_Add N ([S_api_Vec.mk s6 s7 s8, e16.gNormal])) fun r18 =>
      Option.bind (p_fix_Add N ([s9, e16.gDepth])) fun r19 =>
      cond (decide (e16.gObj ≥ 0)) (
        cond (decide (s12 < 0)) (
          some ((r17, r18, e16, r19, I64 (s10 + e16.gAlpha), I64 (s11 + 1), e16.gObj))) (
          some ((r17, r18, e16, r19, I64 (s10 + e16.gAlpha), I64 (s11 + 1), s12)))) (
        some ((r17, r18, e16, r19, I64 (s10 + e16.gAlpha), s11, s12)))) fun p15 =>
      p_film_Pixel_L1 N a0 k p15.1.gX p15.1.gY p15.1.gZ p15.2.1.gX p15.2.1.gY p15.2.1.gZ p15.2.2.2.1 p15.2.2.2.2.1 p15.2.2.2.2.2.1 p15.2.2.2.2.2.2 (I64 (s13 + 1))) (
      some ((s3, s4, s5, s6, s7, s8, s9, s10, s11, s12)))

def p_film_Pixel (N : Nat) (a0 : (List S_api_Sample)) (a1 : S_api_Scene) : Option (S_api_Image × Int) :=
  Option.bind (p_film_may N a0 a1) fun r1 =>
  cond (r1 != 0) (
    some ((S_api_Image.mk 0 0 [] [] [] [] [] [], r1))) (
    Option.bind (p_film_Pixel_L1 N a0 N 0 0 0 0 0 0 0 0 0 (-1) 0) fun p2 =>
    Option.bind (p_fix_Of N ((a0.length : Int))) fun r20 =>
    Option.bind (p_fix_Div N 4294967296 r20) fun r21 =>
    Option.bind (p_vec_Scale N (S_api_Vec.mk p2.1 p2.2.1 p2.2.2.1) r21) fun r22 =>
    Option.bind (p_film_three_v0 N r22) fun r23 =>
    letO (I64 (65535 * p2.2.2.2.2.2.2.2.1)) fun x24 =>
    Option.bind (quoO .i64 x24 ((a0.length : Int))) fun x25 =>
    Option.bind (p_vec_Unit N (S_api_Vec.mk p2.2.2.2.1 p2.2.2.2.2.1 p2.2.2.2.2.2.1)) fun r26 =>
    Option.bind (p_film_three_v1 N r26) fun r27 =>
    Option.bind (letO (decide (p2.2.2.2.2.2.2.2.2.1 > 0)) fun x29 =>
    cond x29 (
      Option.bind (p_fix_Of N p2.2.2.2.2.2.2.2.2.1) fun r30 =>
      Option.bind (p_fix_Div N p2.2.2.2.2.2.2.1 r30) fun r31 =>
      Option.bind (p_film_Far N r31) fun r32 =>
      Option.bind (inRO 0 1) fun _ =>
      Option.bind ((([0] : List Int))[((0 : Int).toNat)]?) fun e34 =>
      letO (I64 (p2.2.2.2.2.2.2.2.2.2 + 1)) fun x35 =>
      Option.bind (idx a1.gLabels p2.2.2.2.2.2.2.2.2.2) fun e36 =>
      letO (I64 (band .u32 e36 65535)) fun x37 =>
      Option.bind (inRO 0 1) fun _ =>
      Option.bind ((([0] : List Int))[((0 : Int).toNat)]?) fun e39 =>
      Option.bind (inRO 0 1) fun _ =>
      Option.bind ((([0] : List Int))[((0 : Int).toNat)]?) fun e41 =>
      some (((([0] : List Int)).set (((0 : Int).toNat)) r32, (([0] : List Int)).set (((0 : Int).toNat)) (imin x35 65535), (([0] : List Int)).set (((0 : Int).toNat)) x37))) (
      some ((([0] : List Int), ([0] : List Int), ([0] : List Int))))) fun p28 =>
    Option.bind (lenO p28.1 1) fun _ =>
    Option.bind (lenO p28.2.1 1) fun _ =>
    Option.bind (lenO p28.2.2 1) fun _ =>
    some ((S_api_Image.mk 1 1 ([r23]) ([x25]) p28.1 ([r27]) p28.2.1 p28.2.2, 0)))

theorem film_Pixel_ok {N : Nat} {a0 : (List S_api_Sample)} {a1 : S_api_Scene} {r : S_api_Image × Int} (h : p_film_Pixel N a0 a1 = some r) : FnM Try.prog 56 [] [(eL 9 S_api_Sample.enc a0), (S_api_Scene.enc a1)] (.tup [(S_api_Image.enc r.1), (j64 r.2)]) [] := by
  unfold p_film_Pixel at h
  refine fnM_of_aw (m := 109) (lo := 0) (rs := [.cell 4 73, .tmp 5]) hT Try.func56 rfl (by kernel_rfl) rfl ?_
  refine aw_sregU hT m_film_Pixel [] (by kernel_rfl) ?_
  refine aw_seq ?_
  refine aw_sreg ?_
  refine awl_u hT m_film_Pixel [] 2 (by kernel_rfl) ?_
  obtain ⟨r1, hr1, h⟩ := obind h
  refine awl_big (big_call [] (film_may_ok hr1) film_may_ok_c (by kernel_rfl) (by kernel_rfl)) (by kernel_rfl) ?_
  refine awl_u hT m_film_Pixel [] 1 (by kernel_rfl) ?_
  refine awl_nil ?_
  refine aw_sregU hT m_film_Pixel [] (by kernel_rfl) ?_
  refine aw_condH h (by kernel_rfl) (fun _ h => ?_) (fun _ h => ?_)
  · refine aw_sregU hT m_film_Pixel [] (by kernel_rfl) ?_
    refine aw_ret (tn_r ?_)
    cases h
    exact fin_r (by kernel_rfl)
  · refine aw_skip (tn_n ?_)
    refine aw_sregU hT m_film_Pixel [] (by kernel_rfl) ?_
    refine aw_sregU hT m_film_Pixel [] (by kernel_rfl) ?_
    refine aw_sregU hT m_film_Pixel [] (by kernel_rfl) ?_
    refine aw_seq ?_
    refine aw_sregU hT m_film_Pixel [] (by kernel_rfl) ?_
    obtain ⟨p2, h, g2⟩ := obind h
    refine aw_joinTK ⟨[en 0 (eL 9 S_api_Sample.enc a0), en 3 (.im (S_api_Scene.enc a1)), en 4 (.ref 0 [] 0), en 7 (.ref 1 [] 0), en 8 (.ref 2 [] 0), en 9 (j64 p2.2.2.2.2.2.2.1), en 10 (j64 p2.2.2.2.2.2.2.2.1), en 11 (j64 p2.2.2.2.2.2.2.2.2.1), en 12 (j64 p2.2.2.2.2.2.2.2.2.2)], [.var (.st 8 [(j64 0), (j64 0), (.v (.slice none 0 0)), (.v (.slice none 0 0)), (.v (.slice none 0 0)), (.v (.slice none 0 0)), (.v (.slice none 0 0)), (.v (.slice none 0 0))]), .var (.st 3 [(j64 p2.1), (j64 p2.2.1), (j64 p2.2.2.1)]), .var (.st 3 [(j64 p2.2.2.2.1), (j64 p2.2.2.2.2.1), (j64 p2.2.2.2.2.2.1)])]⟩ ?_ ?_
    · refine aw_block (aw_loop (fun k s => ∃ s3 s4 s5 s6 s7 s8 s9 s10 s11 s12 s13, p_film_Pixel_L1 N a0 k s3 s4 s5 s6 s7 s8 s9 s10 s11 s12 s13 = some p2 ∧ JR (Fr.f 109 0) ⟨[en 0 (eL 9 S_api_Sample.enc a0), en 3 (.im (S_api_Scene.enc a1)), en 4 (.ref 0 [] 0), en 7 (.ref 1 [] 0), en 8 (.ref 2 [] 0), en 9 (j64 s9), en 10 (j64 s10), en 11 (j64 s11), en 12 (j64 s12), en 24 (eL 9 S_api_Sample.enc a0), en 25 (j64 ((a0.length : Int))), en 26 (j64 s13)], [.var (.st 8 [(j64 0), (j64 0), (.v (.slice none 0 0)), (.v (.slice none 0 0)), (.v (.slice none 0 0)), (.v (.slice none 0 0)), (.v (.slice none 0 0)), (.v (.slice none 0 0))]), .var (.st 3 [(j64 s3), (j64 s4), (j64 s5)]), .var (.st 3 [(j64 s6), (j64 s7), (j64 s8)])]⟩ s) (fun k s hI => ?_) N _ ⟨_, _, _, _, _, _, _, _, _, _, _, h, jr (by kernel_rfl)⟩)
      obtain ⟨s3, s4, s5, s6, s7, s8, s9, s10, s11, s12, s13, h, hj⟩ := hI
      cases k with
      | zero => cases h
      | succ k =>
        refine aw_to _ hj ?_
        obtain ⟨x14, hx14, h⟩ := letE h
        refine aw_sregU hT m_film_Pixel [] (by kernel_rfl) ?_
        refine aw_nms [(27, (eB x14))] (by subst hx14; kernel_rfl) ?_
        refine aw_seq ?_
        refine aw_condH h (by kernel_rfl) (fun _ h => ?_) (fun _ h => ?_)
        · refine aw_skip (tn_n ?_)
          obtain ⟨p15, h, g15⟩ := obind h
          refine aw_joinT ⟨[en 0 (eL 9 S_api_Sample.enc a0), en 3 (.im (S_api_Scene.enc a1)), en 4 (.ref 0 [] 0), en 7 (.ref 1 [] 0), en 8 (.ref 2 [] 0), en 9 (j64 p15.2.2.2.1), en 10 (j64 p15.2.2.2.2.1), en 11 (j64 p15.2.2.2.2.2.1), en 12 (j64 p15.2.2.2.2.2.2), en 24 (eL 9 S_api_Sample.enc a0), en 25 (j64 ((a0.length : Int))), en 26 (j64 s13)], [.var (.st 8 [(j64 0), (j64 0), (.v (.slice none 0 0)), (.v (.slice none 0 0)), (.v (.slice none 0 0)), (.v (.slice none 0 0)), (.v (.slice none 0 0)), (.v (.slice none 0 0))]), .var (S_api_Vec.enc p15.1), .var (S_api_Vec.enc p15.2.1), .var (S_api_Sample.enc p15.2.2.1)]⟩ ?_ ?_
          · refine aw_block ?_
            refine aw_sreg ?_
            obtain ⟨e16, he16, h⟩ := obind h
            refine awl_big (big_idx hT S_api_Sample.enc he16 (by kernel_rfl) (by kernel_rfl)) (by kernel_rfl) ?_
            refine awl_u hT m_film_Pixel [] 3 (by kernel_rfl) ?_
            refine awl_nil ?_
            obtain ⟨r17, hr17, h⟩ := obind h
            obtain ⟨r18, hr18, h⟩ := obind h
            obtain ⟨r19, hr19, h⟩ := obind h
            refine aw_sdrawV hT hmo m_film_Pixel [(3, (.sl 3 2 [(.st 3 [(j64 s3), (j64 s4), (j64 s5)]), (S_api_Vec.enc e16.gColor)])), (4, (S_api_Vec.enc r17)), (8, (.sl 3 2 [(.st 3 [(j64 s6), (j64 s7), (j64 s8)]), (S_api_Vec.enc e16.gNormal)])), (9, (S_api_Vec.enc r18)), (13, (.sl 1 2 [(j64 s9), (j64 e16.gDepth)])), (14, (j64 r19))] [] (by kernel_rfl) (by kernel_rfl) (by kernel_rfl) ⟨fun _ => big_row hT (x := (.sl 3 2 [(.st 3 [(j64 s3), (j64 s4), (j64 s5)]), (S_api_Vec.enc e16.gColor)])) (by kernel_rfl) (by kernel_rfl), fun _ => big_call0 (vec_Add_ok hr17) vec_Add_ok_c (by kernel_rfl) (by kernel_rfl) (by kernel_rfl), fun _ => big_row hT (x := (.sl 3 2 [(.st 3 [(j64 s6), (j64 s7), (j64 s8)]), (S_api_Vec.enc e16.gNormal)])) (by kernel_rfl) (by kernel_rfl), fun _ => big_call0 (vec_Add_ok hr18) vec_Add_ok_c (by kernel_rfl) (by kernel_rfl) (by kernel_rfl), fun _ => big_row hT (x := (.sl 1 2 [(j64 s9), (j64 e16.gDepth)])) (by kernel_rfl) (by kernel_rfl), fun _ => big_call0 (fix_Add_ok hr19) fix_Add_ok_c (by kernel_rfl) (by kernel_rfl) (by kernel_rfl), trivial⟩ trivial ?_
            refine aw_sregU hT m_film_Pixel [] (by kernel_rfl) ?_
            refine aw_sregU hT m_film_Pixel [] (by kernel_rfl) ?_
            refine aw_condH h (by kernel_rfl) (fun _ h => ?_) (fun _ h => ?_)
            · refine aw_sregU hT m_film_Pixel [] (by kernel_rfl) ?_
              refine aw_sregU hT m_film_Pixel [] (by kernel_rfl) ?_
              refine aw_condH h (by kernel_rfl) (fun _ h => ?_) (fun _ h => ?_)
              · refine aw_regU hT m_film_Pixel [] (by kernel_rfl) (inB_n (tn_n ?_))
                cases h
                exact jr (by kernel_rfl)
              · refine aw_skip (inB_n (tn_n ?_))
                cases h
                exact jr (by kernel_rfl)
            · refine aw_skip (inB_n (tn_n ?_))
              cases h
              exact jr (by kernel_rfl)
          · have h := g15
            refine aw_regU hT m_film_Pixel [] (by kernel_rfl) (tn_n ?_)
            exact ⟨k, Nat.lt_succ_self k, _, _, _, _, _, _, _, _, _, _, _, h, jr (by kernel_rfl)⟩
        · refine aw_exit (tn_x (tn_x (inB_e (tn_n ?_))))
          cases h
          exact jr (by kernel_rfl)
    · have h := g2
      refine (tn_n ?_)
      refine aw_sreg ?_
      refine awl_u hT m_film_Pixel [] 2 (by kernel_rfl) ?_
      obtain ⟨r20, hr20, h⟩ := obind h
      refine awl_big (big_call [] (fix_Of_ok hr20) fix_Of_ok_c (by kernel_rfl) (by kernel_rfl)) (by kernel_rfl) ?_
      obtain ⟨r21, hr21, h⟩ := obind h
      refine awl_big (big_call [] (fix_Div_ok hr21) fix_Div_ok_c (by kernel_rfl) (by kernel_rfl)) (by kernel_rfl) ?_
      refine awl_u hT m_film_Pixel [] 1 (by kernel_rfl) ?_
      refine awl_nil ?_
      obtain ⟨r22, hr22, h⟩ := obind h
      obtain ⟨r23, hr23, h⟩ := obind h
      obtain ⟨x24, hx24, h⟩ := letE h
      obtain ⟨x25, hx25, h⟩ := obind h
      obtain ⟨r26, hr26, h⟩ := obind h
      obtain ⟨r27, hr27, h⟩ := obind h
      refine aw_seq (aw_drawS hT hmo m_film_Pixel 4 [(2, (S_api_Vec.enc r22)), (3, (eA 3 1 j64 r23)), (4, (.sl 3 1 [(eA 3 1 j64 r23)])), (9, (j64 x25)), (10, (.sl 1 1 [(j64 x25)])), (13, (S_api_Vec.enc r26)), (14, (eA 3 1 j64 r27)), (15, (.sl 3 1 [(eA 3 1 j64 r27)]))] [(11, ⟨(.bsl 3 [] 0 1 0 1), 3, .var (.arr 1 1 (List.map j64 (([0] : List Int)))), .dead⟩), (16, ⟨(.bsl 4 [] 0 1 0 1), 4, .var (.arr 1 1 (List.map j64 (([0] : List Int)))), .dead⟩), (17, ⟨(.bsl 5 [] 0 1 0 1), 5, .var (.arr 1 1 (List.map j64 (([0] : List Int)))), .dead⟩), (19, ⟨(.ref 6 [] 0), 6, .var (.st 8 [(j64 0), (j64 0), (.v (.slice none 0 0)), (.v (.slice none 0 0)), (.v (.slice none 0 0)), (.v (.slice none 0 0)), (.v (.slice none 0 0)), (.v (.slice none 0 0))]), .dead⟩)] (by subst hx24; kernel_rfl) (by subst hx24; kernel_rfl) (by kernel_rfl) ⟨fun _ => big_call0 (vec_Scale_ok hr22) vec_Scale_ok_c (by kernel_rfl) (by kernel_rfl) (by kernel_rfl), fun _ => big_call0 (film_three_v0_ok hr23) film_three_v0_ok_c (by kernel_rfl) (by kernel_rfl) (by kernel_rfl), fun _ => big_row hT (x := (.sl 3 1 [(eA 3 1 j64 r23)])) (by kernel_rfl) (by kernel_rfl), fun _ => big_quo hT hx25 (by subst hx24; kernel_rfl) (by subst hx24; kernel_rfl), fun _ => big_row hT (x := (.sl 1 1 [(j64 x25)])) (by subst hx24; kernel_rfl) (by subst hx24; kernel_rfl), fun _ => big_call0 (vec_Unit_ok hr26) vec_Unit_ok_c (by subst hx24; kernel_rfl) (by subst hx24; kernel_rfl) (by subst hx24; kernel_rfl), fun _ => big_call0 (film_three_v1_ok hr27) film_three_v1_ok_c (by subst hx24; kernel_rfl) (by subst hx24; kernel_rfl) (by subst hx24; kernel_rfl), fun _ => big_row hT (x := (.sl 3 1 [(eA 3 1 j64 r27)])) (by subst hx24; kernel_rfl) (by subst hx24; kernel_rfl), trivial⟩ ⟨fun _ hb => big_rowBS hT 3 j64 (k := 1) (N := 1) ([0] : List Int) (by subst hx24; kernel_rfl) (by subst hx24; kernel_rfl) rfl hb, fun _ hb => big_rowBS hT 4 j64 (k := 1) (N := 1) ([0] : List Int) (by subst hx24; kernel_rfl) (by subst hx24; kernel_rfl) rfl hb, fun _ hb => big_rowBS hT 5 j64 (k := 1) (N := 1) ([0] : List Int) (by subst hx24; kernel_rfl) (by subst hx24; kernel_rfl) rfl hb, fun _ hb => big_allocS hT 6 (by subst hx24; kernel_rfl) (by subst hx24; kernel_rfl) hb, trivial⟩ [] (by subst hx24; kernel_rfl) ?_)
      obtain ⟨p28, h, g28⟩ := obind h
      refine aw_joinT ⟨[en 4 (.ref 0 [] 0), en 16 (.ref 6 [] 0)], [.var (.st 8 [(j64 0), (j64 0), (.v (.slice none 0 0)), (.v (.slice none 0 0)), (.v (.slice none 0 0)), (.v (.slice none 0 0)), (.v (.slice none 0 0)), (.v (.slice none 0 0))]), .var (.st 3 [(j64 p2.1), (j64 p2.2.1), (j64 p2.2.2.1)]), .var (.st 3 [(j64 p2.2.2.2.1), (j64 p2.2.2.2.2.1), (j64 p2.2.2.2.2.2.1)]), .var (.arr 1 1 (List.map j64 p28.1)), .var (.arr 1 1 (List.map j64 p28.2.1)), .var (.arr 1 1 (List.map j64 p28.2.2)), .var (.st 8 [(j64 1), (j64 1), (.sl 3 1 [(eA 3 1 j64 r23)]), (.sl 1 1 [(j64 x25)]), (.bsl 3 [] 0 1 0 1), (.sl 3 1 [(eA 3 1 j64 r27)]), (.bsl 4 [] 0 1 0 1), (.bsl 5 [] 0 1 0 1)])]⟩ ?_ ?_
      · obtain ⟨x29, hx29, h⟩ := letE h
        refine aw_sregU hT m_film_Pixel [] (by kernel_rfl) ?_
        refine aw_nms [(83, (eB x29))] (by subst hx29; kernel_rfl) ?_
        refine aw_condH h (by kernel_rfl) (fun _ h => ?_) (fun _ h => ?_)
        · obtain ⟨r30, hr30, h⟩ := obind h
          obtain ⟨r31, hr31, h⟩ := obind h
          obtain ⟨r32, hr32, h⟩ := obind h
          obtain ⟨u33, hu33, h⟩ := obind h
          obtain ⟨e34, he34, h⟩ := obind h
          refine aw_sdrawV hT hmo m_film_Pixel [(4, (j64 r30)), (5, (j64 r31)), (6, (j64 r32)), (7, (.ref 3 [((0 : Int).toNat)] (0 + (((0 : Int).toNat)) * 1)))] [(8, fun _ => ((.v (.bool false)), [.var (.st 8 [(j64 0), (j64 0), (.v (.slice none 0 0)), (.v (.slice none 0 0)), (.v (.slice none 0 0)), (.v (.slice none 0 0)), (.v (.slice none 0 0)), (.v (.slice none 0 0))]), .var (.st 3 [(j64 p2.1), (j64 p2.2.1), (j64 p2.2.2.1)]), .var (.st 3 [(j64 p2.2.2.2.1), (j64 p2.2.2.2.2.1), (j64 p2.2.2.2.2.2.1)]), .var (.arr 1 1 (List.map j64 ((([0] : List Int)).set (((0 : Int).toNat)) r32))), .var (.arr 1 1 (List.map j64 (([0] : List Int)))), .var (.arr 1 1 (List.map j64 (([0] : List Int)))), .var (.st 8 [(j64 1), (j64 1), (.sl 3 1 [(eA 3 1 j64 r23)]), (.sl 1 1 [(j64 x25)]), (.bsl 3 [] 0 1 0 1), (.sl 3 1 [(eA 3 1 j64 r27)]), (.bsl 4 [] 0 1 0 1), (.bsl 5 [] 0 1 0 1)])]))] (by kernel_rfl) (by kernel_rfl) (by kernel_rfl) ⟨fun _ => big_call0 (fix_Of_ok hr30) fix_Of_ok_c (by kernel_rfl) (by kernel_rfl) (by kernel_rfl), fun _ => big_call0 (fix_Div_ok hr31) fix_Div_ok_c (by kernel_rfl) (by kernel_rfl) (by kernel_rfl), fun _ => big_call0 (film_Far_ok hr32) film_Far_ok_c (by kernel_rfl) (by kernel_rfl) (by kernel_rfl), fun _ => big_adS hT 3 [] 0 0 1 (k := 1) hu33 (by kernel_rfl) (by kernel_rfl), trivial⟩ ⟨big_at (big_stE hT j64 0 he34 r32 (by kernel_rfl) (by kernel_rfl) (by kernel_rfl)) (by kernel_rfl), trivial⟩ ?_
          obtain ⟨x35, hx35, h⟩ := letE h
          obtain ⟨e36, he36, h⟩ := obind h
          obtain ⟨x37, hx37, h⟩ := letE h
          obtain ⟨u38, hu38, h⟩ := obind h
          obtain ⟨e39, he39, h⟩ := obind h
          obtain ⟨u40, hu40, h⟩ := obind h
          obtain ⟨e41, he41, h⟩ := obind h
          refine aw_drawN hT hmo m_film_Pixel [(10, (.im (k32 e36))), (14, (.ref 4 [((0 : Int).toNat)] (0 + (((0 : Int).toNat)) * 1))), (16, (.ref 5 [((0 : Int).toNat)] (0 + (((0 : Int).toNat)) * 1)))] [(15, fun _ => ((.v (.bool false)), [.var (.st 8 [(j64 0), (j64 0), (.v (.slice none 0 0)), (.v (.slice none 0 0)), (.v (.slice none 0 0)), (.v (.slice none 0 0)), (.v (.slice none 0 0)), (.v (.slice none 0 0))]), .var (.st 3 [(j64 p2.1), (j64 p2.2.1), (j64 p2.2.2.1)]), .var (.st 3 [(j64 p2.2.2.2.1), (j64 p2.2.2.2.2.1), (j64 p2.2.2.2.2.2.1)]), .var (.arr 1 1 (List.map j64 ((([0] : List Int)).set (((0 : Int).toNat)) r32))), .var (.arr 1 1 (List.map j64 ((([0] : List Int)).set (((0 : Int).toNat)) (imin x35 65535)))), .var (.arr 1 1 (List.map j64 (([0] : List Int)))), .var (.st 8 [(j64 1), (j64 1), (.sl 3 1 [(eA 3 1 j64 r23)]), (.sl 1 1 [(j64 x25)]), (.bsl 3 [] 0 1 0 1), (.sl 3 1 [(eA 3 1 j64 r27)]), (.bsl 4 [] 0 1 0 1), (.bsl 5 [] 0 1 0 1)])])), (17, fun _ => ((.v (.bool false)), [.var (.st 8 [(j64 0), (j64 0), (.v (.slice none 0 0)), (.v (.slice none 0 0)), (.v (.slice none 0 0)), (.v (.slice none 0 0)), (.v (.slice none 0 0)), (.v (.slice none 0 0))]), .var (.st 3 [(j64 p2.1), (j64 p2.2.1), (j64 p2.2.2.1)]), .var (.st 3 [(j64 p2.2.2.2.1), (j64 p2.2.2.2.2.1), (j64 p2.2.2.2.2.2.1)]), .var (.arr 1 1 (List.map j64 ((([0] : List Int)).set (((0 : Int).toNat)) r32))), .var (.arr 1 1 (List.map j64 ((([0] : List Int)).set (((0 : Int).toNat)) (imin x35 65535)))), .var (.arr 1 1 (List.map j64 ((([0] : List Int)).set (((0 : Int).toNat)) x37))), .var (.st 8 [(j64 1), (j64 1), (.sl 3 1 [(eA 3 1 j64 r23)]), (.sl 1 1 [(j64 x25)]), (.bsl 3 [] 0 1 0 1), (.sl 3 1 [(eA 3 1 j64 r27)]), (.bsl 4 [] 0 1 0 1), (.bsl 5 [] 0 1 0 1)])]))] (by subst hx37 hx35; kernel_rfl) (by subst hx37 hx35; kernel_rfl) (by kernel_rfl) ⟨fun _ => big_idx hT k32 he36 (by subst hx35; kernel_rfl) (by subst hx35; kernel_rfl), fun _ => big_adS hT 4 [] 0 0 1 (k := 1) hu38 (by subst hx37 hx35; kernel_rfl) (by subst hx37 hx35; kernel_rfl), fun _ => big_adS hT 5 [] 0 0 1 (k := 1) hu40 (by subst hx37 hx35; kernel_rfl) (by subst hx37 hx35; kernel_rfl), trivial⟩ ⟨big_at (big_stE hT j64 0 he39 (imin x35 65535) (by subst hx37 hx35; kernel_rfl) (by subst hx37 hx35; kernel_rfl) (by subst hx37 hx35; kernel_rfl)) (by subst hx37 hx35; kernel_rfl), big_at (big_stE hT j64 0 he41 x37 (by subst hx37 hx35; kernel_rfl) (by subst hx37 hx35; kernel_rfl) (by subst hx37 hx35; kernel_rfl)) (by subst hx37 hx35; kernel_rfl), trivial⟩ [] (by subst hx37 hx35; kernel_rfl) (tn_n ?_)
          cases h
          exact jr (by kernel_rfl)
        · refine aw_skip (tn_n ?_)
          cases h
          exact jr (by kernel_rfl)
      · have h := g28
        refine aw_sregU hT m_film_Pixel [] (by kernel_rfl) ?_
        obtain ⟨u42, hu42, h⟩ := obind h
        refine aw_fz 3 1 1 _ (List.map j64 p28.1) (List.length_map _) (by kernel_rfl) (by kernel_rfl) (lenM j64 hu42) (by kernel_rfl) ?_
        obtain ⟨u43, hu43, h⟩ := obind h
        refine aw_fz 4 1 1 _ (List.map j64 p28.2.1) (List.length_map _) (by kernel_rfl) (by kernel_rfl) (lenM j64 hu43) (by kernel_rfl) ?_
        obtain ⟨u44, hu44, h⟩ := obind h
        refine aw_fz 5 1 1 _ (List.map j64 p28.2.2) (List.length_map _) (by kernel_rfl) (by kernel_rfl) (lenM j64 hu44) (by kernel_rfl) ?_
        refine aw_ret ?_
        cases h
        exact fin_r (by kernel_rfl)

theorem film_Pixel_ok_c : callable Try.prog 56 := ⟨_, Try.func56, by decide, rfl⟩

/-! umbra/umbraref02.Size -/
def p_umbraref02_Size (N : Nat) (a0 : Int) : Option (Int) :=
  cond (decide (a0 < 0)) (
    letO (I64 (0 - (I64 (a0 + 1)))) fun x1 =>
    some (U64 ((U64 x1) + 1))) (
    some (U64 a0))

theorem umbraref02_Size_ok {N : Nat} {a0 : Int} {r : Int} (h : p_umbraref02_Size N a0 = some r) : FnM Try.prog 143 [] [(j64 a0)] (k64 r) [] := by
  unfold p_umbraref02_Size at h
  refine fnM_of_aw (m := 12) (lo := 0) (rs := [.tmp 2]) hT Try.func143 rfl (by kernel_rfl) rfl ?_
  refine aw_sregU hT m_no [] (by kernel_rfl) ?_
  refine aw_seq ?_
  refine aw_sregU hT m_no [] (by kernel_rfl) ?_
  refine aw_condH h (by kernel_rfl) (fun _ h => ?_) (fun _ h => ?_)
  · obtain ⟨x1, hx1, h⟩ := letE h
    refine aw_sregU hT m_no [] (by kernel_rfl) ?_
    refine aw_nms [(2, (k64 (U64 ((U64 x1) + 1))))] (by subst hx1; kernel_rfl) ?_
    refine aw_ret (tn_r ?_)
    cases h
    exact fin_r (by kernel_rfl)
  · refine aw_skip (tn_n ?_)
    refine aw_sregU hT m_no [] (by kernel_rfl) ?_
    refine aw_ret ?_
    cases h
    exact fin_r (by kernel_rfl)

theorem umbraref02_Size_ok_c : callable Try.prog 143 := ⟨_, Try.func143, by decide, rfl⟩

/-! umbra/umbraref02.Near -/
def p_umbraref02_Near (N : Nat) (a0 : Int) (a1 : Bool) (a2 : Bool) : Option (Int) :=
  cond a1 (
    letO (decide (a0 ≥ 9223372036854775808)) fun x1 =>
    cond (cond a2 true x1) (some (-9223372036854775808)) (some (I64 (0 - (I64 a0))))) (
    letO (decide (a0 ≥ 9223372036854775808)) fun x2 =>
    cond (cond a2 true x2) (some 9223372036854775807) (some (I64 a0)))

theorem umbraref02_Near_ok {N : Nat} {a0 : Int} {a1 : Bool} {a2 : Bool} {r : Int} (h : p_umbraref02_Near N a0 a1 a2 = some r) : FnM Try.prog 145 [] [(k64 a0), (eB a1), (eB a2)] (j64 r) [] := by
  unfold p_umbraref02_Near at h
  refine fnM_of_aw (m := 23) (lo := 0) (rs := [.tmp 6]) hT Try.func145 rfl (by kernel_rfl) rfl ?_
  refine aw_sregU hT m_no [] (by kernel_rfl) ?_
  refine aw_seq ?_
  refine aw_sregU hT m_no [] (by kernel_rfl) ?_
  refine aw_condH h (by kernel_rfl) (fun _ h => ?_) (fun _ h => ?_)
  · refine aw_seq ?_
    obtain ⟨x1, hx1, h⟩ := letE h
    refine aw_sregU hT m_no [] (by kernel_rfl) ?_
    refine aw_nms [(12, (eB (cond a2 true x1)))] (by subst hx1; kernel_rfl) ?_
    refine aw_condH h (by kernel_rfl) (fun _ h => ?_) (fun _ h => ?_)
    · refine aw_sregU hT m_no [] (by kernel_rfl) ?_
      refine aw_ret (tn_r (tn_r ?_))
      cases h
      exact fin_r (by kernel_rfl)
    · refine aw_skip (tn_n ?_)
      refine aw_sregU hT m_no [] (by kernel_rfl) ?_
      refine aw_ret (tn_r ?_)
      cases h
      exact fin_r (by kernel_rfl)
  · refine aw_skip (tn_n ?_)
    refine aw_seq ?_
    obtain ⟨x2, hx2, h⟩ := letE h
    refine aw_sregU hT m_no [] (by kernel_rfl) ?_
    refine aw_nms [(20, (eB (cond a2 true x2)))] (by subst hx2; kernel_rfl) ?_
    refine aw_condH h (by kernel_rfl) (fun _ h => ?_) (fun _ h => ?_)
    · refine aw_sregU hT m_no [] (by kernel_rfl) ?_
      refine aw_ret (tn_r ?_)
      cases h
      exact fin_r (by kernel_rfl)
    · refine aw_skip (tn_n ?_)
      refine aw_sregU hT m_no [] (by kernel_rfl) ?_
      refine aw_ret ?_
      cases h
      exact fin_r (by kernel_rfl)

theorem umbraref02_Near_ok_c : callable Try.prog 145 := ⟨_, Try.func145, by decide, rfl⟩

/-! umbra/umbraref02.Two -/
def p_umbraref02_Two (N : Nat) (a0 : Int) (a1 : Int) : Option (Int) :=
  Option.bind (p_umbraref02_Size N a0) fun r1 =>
  Option.bind (p_umbraref02_Size N a1) fun r2 =>
  letO ((decide (a0 < 0)) == (decide (a1 < 0))) fun x3 =>
  cond x3 (
    letO (decide ((U64 (r1 + r2)) < r1)) fun x5 =>
    Option.bind (p_umbraref02_Near N (U64 (r1 + r2)) (decide (a0 < 0)) x5) fun r6 =>
    some r6) (
    some (I64 (a0 + a1)))

theorem umbraref02_Two_ok {N : Nat} {a0 : Int} {a1 : Int} {r : Int} (h : p_umbraref02_Two N a0 a1 = some r) : FnM Try.prog 92 [] [(j64 a0), (j64 a1)] (j64 r) [] := by
  unfold p_umbraref02_Two at h
  refine fnM_of_aw (m := 30) (lo := 0) (rs := [.tmp 4]) hT Try.func92 rfl (by kernel_rfl) rfl ?_
  refine aw_sregU hT m_no [] (by kernel_rfl) ?_
  refine aw_sreg ?_
  refine awl_u hT m_no [] 1 (by kernel_rfl) ?_
  obtain ⟨r1, hr1, h⟩ := obind h
  refine awl_big (big_call [] (umbraref02_Size_ok hr1) umbraref02_Size_ok_c (by kernel_rfl) (by kernel_rfl)) (by kernel_rfl) ?_
  refine awl_u hT m_no [] 1 (by kernel_rfl) ?_
  obtain ⟨r2, hr2, h⟩ := obind h
  refine awl_big (big_call [] (umbraref02_Size_ok hr2) umbraref02_Size_ok_c (by kernel_rfl) (by kernel_rfl)) (by kernel_rfl) ?_
  refine awl_u hT m_no [] 2 (by kernel_rfl) ?_
  refine awl_nil ?_
  refine aw_seq ?_
  obtain ⟨x3, hx3, h⟩ := letE h
  refine aw_sregU hT m_no [] (by kernel_rfl) ?_
  refine aw_nms [(15, (eB x3))] (by subst hx3; kernel_rfl) ?_
  refine aw_condH h (by kernel_rfl) (fun _ h => ?_) (fun _ h => ?_)
  · refine aw_sreg ?_
    obtain ⟨x5, hx5, h⟩ := letE h
    refine awl_u hT m_no [] 10 (by kernel_rfl) ?_
    refine awl_nms [(25, (eB x5))] (by subst hx5; kernel_rfl) ?_
    obtain ⟨r6, hr6, h⟩ := obind h
    refine awl_big (big_call [] (umbraref02_Near_ok hr6) umbraref02_Near_ok_c (by kernel_rfl) (by kernel_rfl)) (by kernel_rfl) ?_
    refine awl_u hT m_no [] 1 (by kernel_rfl) ?_
    refine awl_nil ?_
    refine aw_ret (tn_r ?_)
    cases h
    exact fin_r (by kernel_rfl)
  · refine aw_skip (tn_n ?_)
    refine aw_sregU hT m_no [] (by kernel_rfl) ?_
    refine aw_ret ?_
    cases h
    exact fin_r (by kernel_rfl)

theorem umbraref02_Two_ok_c : callable Try.prog 92 := ⟨_, Try.func92, by decide, rfl⟩

/-! umbra/umbraref03.Two -/
def m_umbraref03_Two : Nat → Bool := imL [2, 3]

def p_umbraref03_Two (N : Nat) (a0 : S_api_Vec) (a1 : S_api_Vec) : Option (S_api_Vec) :=
  Option.bind (p_umbraref02_Two N a0.gX a1.gX) fun r1 =>
  Option.bind (p_umbraref02_Two N a0.gY a1.gY) fun r2 =>
  Option.bind (p_umbraref02_Two N a0.gZ a1.gZ) fun r3 =>
  some (S_api_Vec.mk r1 r2 r3)

theorem umbraref03_Two_ok {N : Nat} {a0 : S_api_Vec} {a1 : S_api_Vec} {r : S_api_Vec} (h : p_umbraref03_Two N a0 a1 = some r) : FnM Try.prog 123 [] [(S_api_Vec.enc a0), (S_api_Vec.enc a1)] (S_api_Vec.enc r) [] := by
  unfold p_umbraref03_Two at h
  refine fnM_of_aw (m := 21) (lo := 0) (rs := [.cell 4 167]) hT Try.func123 rfl (by kernel_rfl) rfl ?_
  refine aw_sregU hT m_umbraref03_Two [] (by kernel_rfl) ?_
  obtain ⟨r1, hr1, h⟩ := obind h
  obtain ⟨r2, hr2, h⟩ := obind h
  obtain ⟨r3, hr3, h⟩ := obind h
  refine aw_sdrawV hT hmo m_umbraref03_Two [(4, (j64 r1)), (9, (j64 r2)), (14, (j64 r3))] [] (by kernel_rfl) (by kernel_rfl) (by kernel_rfl) ⟨fun _ => big_call0 (umbraref02_Two_ok hr1) umbraref02_Two_ok_c (by kernel_rfl) (by kernel_rfl) (by kernel_rfl), fun _ => big_call0 (umbraref02_Two_ok hr2) umbraref02_Two_ok_c (by kernel_rfl) (by kernel_rfl) (by kernel_rfl), fun _ => big_call0 (umbraref02_Two_ok hr3) umbraref02_Two_ok_c (by kernel_rfl) (by kernel_rfl) (by kernel_rfl), trivial⟩ trivial ?_
  refine aw_ret ?_
  cases h
  exact fin_r (by kernel_rfl)

theorem umbraref03_Two_ok_c : callable Try.prog 123 := ⟨_, Try.func123, by decide, rfl⟩

/-! umbra/umbraref02.Of -/
def p_umbraref02_Of (N : Nat) (a0 : Int) : Option (Int) :=
  Option.bind (p_umbraref02_Size N a0) fun r1 =>
  letO (decide (r1 ≥ 4294967296)) fun x3 =>
  Option.bind (p_umbraref02_Near N (shl .u64 r1 32) (decide (a0 < 0)) x3) fun r4 =>
  some r4

theorem umbraref02_Of_ok {N : Nat} {a0 : Int} {r : Int} (h : p_umbraref02_Of N a0 = some r) : FnM Try.prog 90 [] [(j64 a0)] (j64 r) [] := by
  unfold p_umbraref02_Of at h
  refine fnM_of_aw (m := 13) (lo := 0) (rs := [.tmp 2]) hT Try.func90 rfl (by kernel_rfl) rfl ?_
  refine aw_sregU hT m_no [] (by kernel_rfl) ?_
  refine aw_sreg ?_
  refine awl_u hT m_no [] 1 (by kernel_rfl) ?_
  obtain ⟨r1, hr1, h⟩ := obind h
  refine awl_big (big_call [] (umbraref02_Size_ok hr1) umbraref02_Size_ok_c (by kernel_rfl) (by kernel_rfl)) (by kernel_rfl) ?_
  refine awl_u hT m_no [] 1 (by kernel_rfl) ?_
  refine awl_nil ?_
  refine aw_sreg ?_
  obtain ⟨x3, hx3, h⟩ := letE h
  refine awl_u hT m_no [] 6 (by kernel_rfl) ?_
  refine awl_nms [(11, (eB x3))] (by subst hx3; kernel_rfl) ?_
  obtain ⟨r4, hr4, h⟩ := obind h
  refine awl_big (big_call [] (umbraref02_Near_ok hr4) umbraref02_Near_ok_c (by kernel_rfl) (by kernel_rfl)) (by kernel_rfl) ?_
  refine awl_u hT m_no [] 1 (by kernel_rfl) ?_
  refine awl_nil ?_
  refine aw_ret ?_
  cases h
  exact fin_r (by kernel_rfl)

theorem umbraref02_Of_ok_c : callable Try.prog 90 := ⟨_, Try.func90, by decide, rfl⟩

/-! umbra/umbraref02.Div -/
def p_umbraref02_Div (N : Nat) (a0 : Int) (a1 : Int) : Option (Int) :=
  letO (cond (a1 == 0) (a0 == 0) false) fun x1 =>
  cond x1 (
    some 0) (
    Option.bind (p_umbraref02_Size N a0) fun r2 =>
    Option.bind (p_umbraref02_Size N a1) fun r3 =>
    letO (!((decide (a0 < 0)) == (decide (a1 < 0)))) fun x4 =>
    letO (decide ((shr .u64 r2 32) ≥ r3)) fun x5 =>
    cond (cond (a1 == 0) true x5) (
      Option.bind (p_umbraref02_Near N 0 x4 true) fun r6 =>
      some r6) (
      Option.bind (p_math_bits_Div64 N (shr .u64 r2 32) (shl .u64 r2 32) r3) fun r7 =>
      Option.bind (letO (cond x4 (decide (r7.2 > 0)) false) fun x9 =>
      cond x9 (
        some ((U64 (r7.1 + 1), (U64 (r7.1 + 1)) == 0))) (
        some ((r7.1, false)))) fun p8 =>
      Option.bind (p_umbraref02_Near N p8.1 x4 p8.2) fun r10 =>
      some r10))

theorem umbraref02_Div_ok {N : Nat} {a0 : Int} {a1 : Int} {r : Int} (h : p_umbraref02_Div N a0 a1 = some r) : FnM Try.prog 91 [] [(j64 a0), (j64 a1)] (j64 r) [] := by
  unfold p_umbraref02_Div at h
  refine fnM_of_aw (m := 58) (lo := 0) (rs := [.tmp 4]) hT Try.func91 rfl (by kernel_rfl) rfl ?_
  refine aw_sregU hT m_no [] (by kernel_rfl) ?_
  refine aw_seq ?_
  obtain ⟨x1, hx1, h⟩ := letE h
  refine aw_sregU hT m_no [] (by kernel_rfl) ?_
  refine aw_nms [(16, (eB x1))] (by subst hx1; kernel_rfl) ?_
  refine aw_condH h (by kernel_rfl) (fun _ h => ?_) (fun _ h => ?_)
  · refine aw_sregU hT m_no [] (by kernel_rfl) ?_
    refine aw_ret (tn_r ?_)
    cases h
    exact fin_r (by kernel_rfl)
  · refine aw_skip (tn_n ?_)
    refine aw_sreg ?_
    refine awl_u hT m_no [] 1 (by kernel_rfl) ?_
    obtain ⟨r2, hr2, h⟩ := obind h
    refine awl_big (big_call [] (umbraref02_Size_ok hr2) umbraref02_Size_ok_c (by kernel_rfl) (by kernel_rfl)) (by kernel_rfl) ?_
    refine awl_u hT m_no [] 1 (by kernel_rfl) ?_
    obtain ⟨r3, hr3, h⟩ := obind h
    refine awl_big (big_call [] (umbraref02_Size_ok hr3) umbraref02_Size_ok_c (by kernel_rfl) (by kernel_rfl)) (by kernel_rfl) ?_
    refine awl_u hT m_no [] 2 (by kernel_rfl) ?_
    refine awl_nil ?_
    obtain ⟨x4, hx4, h⟩ := letE h
    refine aw_sregU hT m_no [] (by kernel_rfl) ?_
    refine aw_nms [(7, (eB x4))] (by subst hx4; kernel_rfl) ?_
    refine aw_seq ?_
    obtain ⟨x5, hx5, h⟩ := letE h
    refine aw_sregU hT m_no [] (by kernel_rfl) ?_
    refine aw_nms [(33, (eB (cond (a1 == 0) true x5)))] (by subst hx5; kernel_rfl) ?_
    refine aw_condH h (by kernel_rfl) (fun _ h => ?_) (fun _ h => ?_)
    · refine aw_sreg ?_
      refine awl_u hT m_no [] 1 (by kernel_rfl) ?_
      obtain ⟨r6, hr6, h⟩ := obind h
      refine awl_big (big_call [] (umbraref02_Near_ok hr6) umbraref02_Near_ok_c (by kernel_rfl) (by kernel_rfl)) (by kernel_rfl) ?_
      refine awl_u hT m_no [] 1 (by kernel_rfl) ?_
      refine awl_nil ?_
      refine aw_ret (tn_r ?_)
      cases h
      exact fin_r (by kernel_rfl)
    · refine aw_skip (tn_n ?_)
      refine aw_sreg ?_
      refine awl_u hT m_no [] 5 (by kernel_rfl) ?_
      obtain ⟨r7, hr7, h⟩ := obind h
      refine awl_big (big_call [] (math_bits_Div64_ok hr7) math_bits_Div64_ok_c (by kernel_rfl) (by kernel_rfl)) (by kernel_rfl) ?_
      refine awl_u hT m_no [] 5 (by kernel_rfl) ?_
      refine awl_nil ?_
      refine aw_sregU hT m_no [] (by kernel_rfl) ?_
      obtain ⟨p8, h, g8⟩ := obind h
      refine aw_joinT ⟨[en 7 (eB x4), en 8 (k64 p8.1), en 10 (eB p8.2)], []⟩ ?_ ?_
      · obtain ⟨x9, hx9, h⟩ := letE h
        refine aw_sregU hT m_no [] (by kernel_rfl) ?_
        refine aw_nms [(49, (eB x9))] (by subst hx9; kernel_rfl) ?_
        refine aw_condH h (by kernel_rfl) (fun _ h => ?_) (fun _ h => ?_)
        · refine aw_sregU hT m_no [] (by kernel_rfl) ?_
          refine aw_regU hT m_no [] (by kernel_rfl) (tn_n ?_)
          cases h
          exact jr (by kernel_rfl)
        · refine aw_skip (tn_n ?_)
          cases h
          exact jr (by kernel_rfl)
      · have h := g8
        refine aw_sreg ?_
        refine awl_u hT m_no [] 3 (by kernel_rfl) ?_
        obtain ⟨r10, hr10, h⟩ := obind h
        refine awl_big (big_call [] (umbraref02_Near_ok hr10) umbraref02_Near_ok_c (by kernel_rfl) (by kernel_rfl)) (by kernel_rfl) ?_
        refine awl_u hT m_no [] 1 (by kernel_rfl) ?_
        refine awl_nil ?_
        refine aw_ret ?_
        cases h
        exact fin_r (by kernel_rfl)

theorem umbraref02_Div_ok_c : callable Try.prog 91 := ⟨_, Try.func91, by decide, rfl⟩

end Go.UK
