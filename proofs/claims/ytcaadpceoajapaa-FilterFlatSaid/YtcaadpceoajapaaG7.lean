/- A part of the proof: what the functions of the program compute. -/
import Derived.Test.YtcaadpceoajapaaG6
namespace Go.UK
open Go Go.Proofs
set_option maxRecDepth 20000
set_option maxHeartbeats 4000000
set_option linter.all false

attribute [local irreducible] owp awl aw FnM NatFn opS Stab TOK Big

/-! umbra/umbralaw42.FilterFlat -/
def m_umbralaw42_FilterFlat : Nat → Bool := imL [5]

def p_umbralaw42_FilterFlat_L1 (N : Nat) (a2 : (Vector Int 9)) : Nat → (Vector Int 9) → Int → Option ((Vector Int 9))
  | 0, _, _ => none
  | k + 1, s5, s6 =>
    cond (decide (s6 < 9)) (
      Option.bind (idx a2.toList s6) fun e7 =>
      Option.bind (inRO s6 9) fun _ =>
      Option.bind (s5.toList[s6.toNat]?) fun e9 =>
      p_umbralaw42_FilterFlat_L1 N a2 k (s5.setIfInBounds s6.toNat (I64 e7)) (I64 (s6 + 1))) (
      some s5)

def p_umbralaw42_FilterFlat_L2 (N : Nat) (x14 : Int) (r1 : S_api_Plane) (a1 : Int) : Nat → (List Int) → Int → Int → Int → Option ((List Int) × Int × Int)
  | 0, _, _, _, _ => none
  | k + 1, s16, s17, s18, s19 =>
    cond (decide (s19 < x14)) (
      Option.bind (idx r1.gData s19) fun e20 =>
      Option.bind (appO 8 s16 (([I64 a1] : List Int))) fun a21 =>
      p_umbralaw42_FilterFlat_L2 N x14 r1 a1 k a21 (imin s17 e20) (imax s18 e20) (I64 (s19 + 1))) (
      some ((s16, s17, s18)))

def p_umbralaw42_FilterFlat_L3 (N : Nat) (x37 : Int) (r28 : S_api_Plane × Int) (p15 : (List Int) × Int × Int) (r29 : S_api_Plane × Int) : Nat → Int → Option (Sum (Unit) (Bool))
  | 0, _ => none
  | k + 1, s39 =>
    cond (decide (s39 < x37)) (
      Option.bind (Option.bind (idx r28.1.gData s39) fun e41 =>
      cond (decide (e41 < p15.2.1)) (
        some true) (
        Option.bind (idx r28.1.gData s39) fun e42 =>
        cond (decide (e42 > p15.2.2)) (
          some true) (
          Option.bind (idx r29.1.gData s39) fun e43 =>
          cond (decide (e43 < p15.2.1)) (
            some true) (
            Option.bind (idx r29.1.gData s39) fun e44 =>
            some (decide (e44 > p15.2.2)))))) fun p40 =>
      cond p40 (
        some (Sum.inr false)) (
        p_umbralaw42_FilterFlat_L3 N x37 r28 p15 r29 k (I64 (s39 + 1)))) (
      some (Sum.inl (())))

def p_umbralaw42_FilterFlat (N : Nat) (a0 : S_api_Plane) (a1 : Int) (a2 : (Vector Int 9)) : Option (Bool) :=
  Option.bind (p_umbralaw42_few N a0) fun r1 =>
  Option.bind (p_pam_Check N r1) fun r2 =>
  cond (r2 != 0) (
    Option.bind (p_umbralaw42_works N ) fun r3 =>
    some r3) (
    Option.bind (p_umbralaw42_FilterFlat_L1 N a2 N (Vector.replicate 9 0) 0) fun p4 =>
    Option.bind (inRO 4 9) fun _ =>
    Option.bind (p4.toList[((4 : Int).toNat)]?) fun e11 =>
    Option.bind (inRO 4 9) fun _ =>
    Option.bind (p4.toList[((4 : Int).toNat)]?) fun e13 =>
    letO ((r1.gData.length : Int)) fun x14 =>
    Option.bind (p_umbralaw42_FilterFlat_L2 N x14 r1 a1 N [] 65535 0 0) fun p15 =>
    Option.bind (p_filter_Convolve N (S_api_Plane.mk r1.gW r1.gH r1.gDeep r1.gName p15.1) (p4.setIfInBounds (((4 : Int).toNat)) (I64 (e11 + 1)))) fun r22 =>
    Option.bind (p_filter_Median N (S_api_Plane.mk r1.gW r1.gH r1.gDeep r1.gName p15.1)) fun r23 =>
    Option.bind (letO (cond (r22.2 != 0) true (r23.2 != 0)) fun x25 =>
    cond x25 (
      some true) (
      Option.bind (p_umbraref30_Same N r22.1 (S_api_Plane.mk r1.gW r1.gH r1.gDeep r1.gName p15.1)) fun r26 =>
      cond (!r26) (
        some true) (
        Option.bind (p_umbraref30_Same N r23.1 (S_api_Plane.mk r1.gW r1.gH r1.gDeep r1.gName p15.1)) fun r27 =>
        some (!r27)))) fun p24 =>
    cond p24 (
      some false) (
      Option.bind (p_filter_Convolve N r1 (p4.setIfInBounds (((4 : Int).toNat)) (I64 (e11 + 1)))) fun r28 =>
      Option.bind (p_filter_Median N r1) fun r29 =>
      letO (cond (r28.2 != 0) true (r29.2 != 0)) fun x30 =>
      letO ((r28.1.gData.length : Int)) fun x31 =>
      letO ((r1.gData.length : Int)) fun x32 =>
      letO (cond x30 true (x31 != x32)) fun x33 =>
      letO ((r29.1.gData.length : Int)) fun x34 =>
      letO ((r1.gData.length : Int)) fun x35 =>
      letO (cond x33 true (x34 != x35)) fun x36 =>
      cond x36 (
        some false) (
        letO ((r28.1.gData.length : Int)) fun x37 =>
        Option.bind (p_umbralaw42_FilterFlat_L3 N x37 r28 p15 r29 N 0) fun o => sumC o (fun p38 =>
          Option.bind (p_umbralaw42_works N ) fun r45 =>
          some r45) (fun r => some r))))

theorem umbralaw42_FilterFlat_ok {N : Nat} {a0 : S_api_Plane} {a1 : Int} {a2 : (Vector Int 9)} {r : Bool} (h : p_umbralaw42_FilterFlat N a0 a1 a2 = some r) : FnM Try.prog 14 [] [(S_api_Plane.enc a0), (k16 a1), (eA 9 1 k8 a2)] (eB r) [] := by
  unfold p_umbralaw42_FilterFlat at h
  refine fnM_of_aw (m := 169) (lo := 0) (rs := [.tmp 6]) hT Try.func14 rfl (by kernel_rfl) rfl ?_
  refine aw_sregU hT m_umbralaw42_FilterFlat [] (by kernel_rfl) ?_
  refine aw_sreg ?_
  refine awl_u hT m_umbralaw42_FilterFlat [] 1 (by kernel_rfl) ?_
  obtain ⟨r1, hr1, h⟩ := obind h
  refine awl_big (big_call [] (umbralaw42_few_ok hr1) umbralaw42_few_ok_c (by kernel_rfl) (by kernel_rfl)) (by kernel_rfl) ?_
  refine awl_u hT m_umbralaw42_FilterFlat [] 1 (by kernel_rfl) ?_
  refine awl_nil ?_
  refine aw_seq ?_
  refine aw_sreg ?_
  refine awl_u hT m_umbralaw42_FilterFlat [] 1 (by kernel_rfl) ?_
  obtain ⟨r2, hr2, h⟩ := obind h
  refine awl_big (big_call [] (pam_Check_ok hr2) pam_Check_ok_c (by kernel_rfl) (by kernel_rfl)) (by kernel_rfl) ?_
  refine awl_u hT m_umbralaw42_FilterFlat [] 1 (by kernel_rfl) ?_
  refine awl_nil ?_
  refine aw_condH h (by kernel_rfl) (fun _ h => ?_) (fun _ h => ?_)
  · refine aw_sreg ?_
    obtain ⟨r3, hr3, h⟩ := obind h
    refine awl_big (big_call [] (umbralaw42_works_ok hr3) umbralaw42_works_ok_c (by kernel_rfl) (by kernel_rfl)) (by kernel_rfl) ?_
    refine awl_u hT m_umbralaw42_FilterFlat [] 1 (by kernel_rfl) ?_
    refine awl_nil ?_
    refine aw_ret (tn_r ?_)
    cases h
    exact fin_r (by kernel_rfl)
  · refine aw_skip (tn_n ?_)
    refine aw_sregU hT m_umbralaw42_FilterFlat [] (by kernel_rfl) ?_
    refine aw_seq ?_
    refine aw_sregU hT m_umbralaw42_FilterFlat [] (by kernel_rfl) ?_
    obtain ⟨p4, h, g4⟩ := obind h
    refine aw_joinTK ⟨[en 1 (k16 a1), en 3 (.ref 0 [] 0), en 7 (.ref 1 [] 0)], [.var (S_api_Plane.enc r1), .var (eA 9 1 j64 p4)]⟩ ?_ ?_
    · refine aw_block (aw_loop (fun k s => ∃ s5 s6, p_umbralaw42_FilterFlat_L1 N a2 k s5 s6 = some p4 ∧ JR (Fr.f 169 0) ⟨[en 1 (k16 a1), en 3 (.ref 0 [] 0), en 7 (.ref 1 [] 0), en 26 (eA 9 1 k8 a2), en 27 (j64 s6)], [.var (S_api_Plane.enc r1), .var (eA 9 1 j64 s5)]⟩ s) (fun k s hI => ?_) N _ ⟨_, _, h, jr (by kernel_rfl)⟩)
      obtain ⟨s5, s6, h, hj⟩ := hI
      cases k with
      | zero => cases h
      | succ k =>
        refine aw_to _ hj ?_
        refine aw_sregU hT m_umbralaw42_FilterFlat [] (by kernel_rfl) ?_
        refine aw_seq ?_
        refine aw_condH h (by kernel_rfl) (fun _ h => ?_) (fun _ h => ?_)
        · refine aw_skip (tn_n ?_)
          refine aw_seq ?_
          refine aw_block ?_
          refine aw_sreg ?_
          refine awl_u hT m_umbralaw42_FilterFlat [] 1 (by kernel_rfl) ?_
          obtain ⟨e7, he7, h⟩ := obind h
          refine awl_big (big_ixA hT k8 a2 he7 (by kernel_rfl) (by kernel_rfl)) (by kernel_rfl) ?_
          refine awl_u hT m_umbralaw42_FilterFlat [] 2 (by kernel_rfl) ?_
          refine awl_nil ?_
          refine aw_region ?_
          refine awl_u hT m_umbralaw42_FilterFlat [] 3 (by kernel_rfl) ?_
          obtain ⟨u8, hu8, h⟩ := obind h
          refine awl_big (big_adR hT (k := 1) 1 [] 0 hu8 (by kernel_rfl) (by kernel_rfl)) (by kernel_rfl) ?_
          obtain ⟨e9, he9, h⟩ := obind h
          refine awl_big (big_stV hT j64 0 s5 he9 (I64 e7) (by kernel_rfl) (by kernel_rfl) (H' := [.var (S_api_Plane.enc r1), .var (eA 9 1 j64 (s5.setIfInBounds s6.toNat (I64 e7)))]) (by kernel_rfl)) (by kernel_rfl) ?_
          refine awl_nil (inB_n (tn_n ?_))
          refine aw_regU hT m_umbralaw42_FilterFlat [] (by kernel_rfl) (tn_n ?_)
          exact ⟨k, Nat.lt_succ_self k, _, _, h, jr (by kernel_rfl)⟩
        · refine aw_exit (tn_x (tn_x (inB_e (tn_n ?_))))
          cases h
          exact jr (by kernel_rfl)
    · have h := g4
      refine (tn_n ?_)
      refine aw_sreg ?_
      obtain ⟨u10, hu10, h⟩ := obind h
      refine awl_big (big_adR hT (k := 1) 1 [] 0 hu10 (by kernel_rfl) (by kernel_rfl)) (by kernel_rfl) ?_
      obtain ⟨e11, he11, h⟩ := obind h
      refine awl_big (big_ldE hT j64 0 he11 (by kernel_rfl) (by kernel_rfl)) (by kernel_rfl) ?_
      refine awl_u hT m_umbralaw42_FilterFlat [] 1 (by kernel_rfl) ?_
      obtain ⟨u12, hu12, h⟩ := obind h
      refine awl_big (big_adR hT (k := 1) 1 [] 0 hu12 (by kernel_rfl) (by kernel_rfl)) (by kernel_rfl) ?_
      obtain ⟨e13, he13, h⟩ := obind h
      refine awl_big (big_stV hT j64 0 p4 he13 (I64 (e11 + 1)) (by kernel_rfl) (by kernel_rfl) (H' := [.var (S_api_Plane.enc r1), .var (eA 9 1 j64 (p4.setIfInBounds (((4 : Int).toNat)) (I64 (e11 + 1))))]) (by kernel_rfl)) (by kernel_rfl) ?_
      refine awl_nil ?_
      refine aw_sregU hT m_umbralaw42_FilterFlat [] (by kernel_rfl) ?_
      refine aw_sregU hT m_umbralaw42_FilterFlat [] (by kernel_rfl) ?_
      refine aw_sregU hT m_umbralaw42_FilterFlat [] (by kernel_rfl) ?_
      refine aw_seq ?_
      obtain ⟨x14, hx14, h⟩ := letE h
      refine aw_sregU hT m_umbralaw42_FilterFlat [] (by kernel_rfl) ?_
      refine aw_nms [(44, (j64 x14))] (by subst hx14; kernel_rfl) ?_
      refine aw_own_box 2 1 [4] ?_
      obtain ⟨p15, h, g15⟩ := obind h
      refine aw_joinTK ⟨[en 3 (.ref 0 [] 0), en 7 (.ref 1 [] 0), en 10 (.ref 2 [] 0), en 11 (j64 p15.2.1), en 12 (j64 p15.2.2)], [.var (S_api_Plane.enc r1), .var (eA 9 1 j64 (p4.setIfInBounds (((4 : Int).toNat)) (I64 (e11 + 1)))), .var (.st 5 [(j64 r1.gW), (j64 r1.gH), (j64 r1.gDeep), (eS r1.gName), (eO 3 1 j64 p15.1)]), .tail (p15.1.length * 1)]⟩ ?_ ?_
      · refine aw_block (aw_loop (fun k s => ∃ s16 s17 s18 s19, p_umbralaw42_FilterFlat_L2 N x14 r1 a1 k s16 s17 s18 s19 = some p15 ∧ JR (Fr.f 169 0) ⟨[en 1 (k16 a1), en 3 (.ref 0 [] 0), en 7 (.ref 1 [] 0), en 10 (.ref 2 [] 0), en 11 (j64 s17), en 12 (j64 s18), en 43 (eL 1 j64 r1.gData), en 44 (j64 x14), en 45 (j64 s19)], [.var (S_api_Plane.enc r1), .var (eA 9 1 j64 (p4.setIfInBounds (((4 : Int).toNat)) (I64 (e11 + 1)))), .var (.st 5 [(j64 r1.gW), (j64 r1.gH), (j64 r1.gDeep), (eS r1.gName), (eO 3 1 j64 s16)]), .tail (s16.length * 1)]⟩ s) (fun k s hI => ?_) N _ ⟨_, _, _, _, h, jr (by kernel_rfl)⟩)
        obtain ⟨s16, s17, s18, s19, h, hj⟩ := hI
        cases k with
        | zero => cases h
        | succ k =>
          refine aw_to _ hj ?_
          refine aw_sregU hT m_umbralaw42_FilterFlat [] (by kernel_rfl) ?_
          refine aw_seq ?_
          refine aw_condH h (by kernel_rfl) (fun _ h => ?_) (fun _ h => ?_)
          · refine aw_skip (tn_n ?_)
            refine aw_seq ?_
            refine aw_block ?_
            refine aw_sreg ?_
            obtain ⟨e20, he20, h⟩ := obind h
            refine awl_big (big_idx hT j64 he20 (by kernel_rfl) (by kernel_rfl)) (by kernel_rfl) ?_
            refine awl_u hT m_umbralaw42_FilterFlat [] 2 (by kernel_rfl) ?_
            refine awl_nil ?_
            refine aw_sreg ?_
            refine awl_u hT m_umbralaw42_FilterFlat [] 4 (by kernel_rfl) ?_
            refine awl_big (big_row hT (x := (.sl 1 1 [(j64 (I64 a1))])) (by kernel_rfl) (by kernel_rfl)) (by kernel_rfl) ?_
            obtain ⟨a21, ha21, h⟩ := obind h
            refine awl_big (big_app hT j64 (id := 3) (k := 1) ha21 (by kernel_rfl) (by kernel_rfl)) (by kernel_rfl) ?_
            refine awl_u hT m_umbralaw42_FilterFlat [] 2 (by kernel_rfl) ?_
            refine awl_nil ?_
            refine aw_regU hT m_umbralaw42_FilterFlat [] (by kernel_rfl) (inB_n (tn_n ?_))
            refine aw_regU hT m_umbralaw42_FilterFlat [] (by kernel_rfl) (tn_n ?_)
            exact ⟨k, Nat.lt_succ_self k, _, _, _, _, h, jr (by kernel_rfl)⟩
          · refine aw_exit (tn_x (tn_x (inB_e (tn_n ?_))))
            cases h
            exact jr (by kernel_rfl)
      · have h := g15
        refine (tn_n ?_)
        refine aw_sreg ?_
        refine awl_u hT m_umbralaw42_FilterFlat [] 2 (by kernel_rfl) ?_
        obtain ⟨r22, hr22, h⟩ := obind h
        refine awl_big (big_call [] (filter_Convolve_ok hr22) filter_Convolve_ok_c (by kernel_rfl) (by kernel_rfl)) (by kernel_rfl) ?_
        refine awl_u hT m_umbralaw42_FilterFlat [] 6 (by kernel_rfl) ?_
        refine awl_nil ?_
        refine aw_sreg ?_
        refine awl_u hT m_umbralaw42_FilterFlat [] 1 (by kernel_rfl) ?_
        obtain ⟨r23, hr23, h⟩ := obind h
        refine awl_big (big_call [] (filter_Median_ok hr23) filter_Median_ok_c (by kernel_rfl) (by kernel_rfl)) (by kernel_rfl) ?_
        refine awl_u hT m_umbralaw42_FilterFlat [] 6 (by kernel_rfl) ?_
        refine awl_nil ?_
        refine aw_seq ?_
        obtain ⟨p24, h, g24⟩ := obind h
        refine aw_joinT ⟨[en 3 (.ref 0 [] 0), en 7 (.ref 1 [] 0), en 11 (j64 p15.2.1), en 12 (j64 p15.2.2), en 15 (.ref 4 [] 0), en 17 (.ref 5 [] 0), en 91 (eB p24)], [.var (S_api_Plane.enc r1), .var (eA 9 1 j64 (p4.setIfInBounds (((4 : Int).toNat)) (I64 (e11 + 1)))), .var (.st 5 [(j64 r1.gW), (j64 r1.gH), (j64 r1.gDeep), (eS r1.gName), (eO 3 1 j64 p15.1)]), .tail (p15.1.length * 1), .var (S_api_Plane.enc r22.1), .var (S_api_Plane.enc r23.1)]⟩ ?_ ?_
        · refine aw_region ?_
          obtain ⟨x25, hx25, h⟩ := letE h
          refine awl_u hT m_umbralaw42_FilterFlat [] 7 (by kernel_rfl) ?_
          refine awl_nms [(80, (eB x25))] (by subst hx25; kernel_rfl) ?_
          refine awl_split 80 h (by kernel_rfl) (fun h => ?_) (fun h => ?_)
          · refine awl_u hT m_umbralaw42_FilterFlat [80, 86] 11 (by kernel_rfl) ?_
            refine awl_nil (tn_n ?_)
            cases h
            exact jr (by kernel_rfl)
          · refine awl_u hT m_umbralaw42_FilterFlat [80] 2 (by kernel_rfl) ?_
            obtain ⟨r26, hr26, h⟩ := obind h
            refine awl_big (big_call [] (umbraref30_Same_ok hr26) umbraref30_Same_ok_c (by kernel_rfl) (by kernel_rfl)) (by kernel_rfl) ?_
            refine awl_u hT m_umbralaw42_FilterFlat [80] 3 (by kernel_rfl) ?_
            refine awl_split 86 h (by kernel_rfl) (fun h => ?_) (fun h => ?_)
            · refine awl_u hT m_umbralaw42_FilterFlat [86] 5 (by kernel_rfl) ?_
              refine awl_nil (tn_n ?_)
              cases h
              exact jr (by kernel_rfl)
            · refine awl_u hT m_umbralaw42_FilterFlat [86] 2 (by kernel_rfl) ?_
              obtain ⟨r27, hr27, h⟩ := obind h
              refine awl_big (big_call [] (umbraref30_Same_ok hr27) umbraref30_Same_ok_c (by kernel_rfl) (by kernel_rfl)) (by kernel_rfl) ?_
              refine awl_u hT m_umbralaw42_FilterFlat [86] 2 (by kernel_rfl) ?_
              refine awl_nil (tn_n ?_)
              cases h
              exact jr (by kernel_rfl)
        · have h := g24
          refine aw_condH h (by kernel_rfl) (fun _ h => ?_) (fun _ h => ?_)
          · refine aw_sregU hT m_umbralaw42_FilterFlat [] (by kernel_rfl) ?_
            refine aw_ret (tn_r ?_)
            cases h
            exact fin_r (by kernel_rfl)
          · refine aw_skip (tn_n ?_)
            refine aw_sreg ?_
            refine awl_u hT m_umbralaw42_FilterFlat [] 2 (by kernel_rfl) ?_
            obtain ⟨r28, hr28, h⟩ := obind h
            refine awl_big (big_call [] (filter_Convolve_ok hr28) filter_Convolve_ok_c (by kernel_rfl) (by kernel_rfl)) (by kernel_rfl) ?_
            refine awl_u hT m_umbralaw42_FilterFlat [] 5 (by kernel_rfl) ?_
            refine awl_nil ?_
            refine aw_sreg ?_
            refine awl_u hT m_umbralaw42_FilterFlat [] 1 (by kernel_rfl) ?_
            obtain ⟨r29, hr29, h⟩ := obind h
            refine awl_big (big_call [] (filter_Median_ok hr29) filter_Median_ok_c (by kernel_rfl) (by kernel_rfl)) (by kernel_rfl) ?_
            refine awl_u hT m_umbralaw42_FilterFlat [] 5 (by kernel_rfl) ?_
            refine awl_nil ?_
            refine aw_seq ?_
            obtain ⟨x30, hx30, h⟩ := letE h
            obtain ⟨x31, hx31, h⟩ := letE h
            obtain ⟨x32, hx32, h⟩ := letE h
            obtain ⟨x33, hx33, h⟩ := letE h
            obtain ⟨x34, hx34, h⟩ := letE h
            obtain ⟨x35, hx35, h⟩ := letE h
            obtain ⟨x36, hx36, h⟩ := letE h
            refine aw_sregU hT m_umbralaw42_FilterFlat [] (by kernel_rfl) ?_
            refine aw_nms [(126, (eB x36))] (by subst hx36 hx35 hx34 hx33 hx32 hx31 hx30; kernel_rfl) ?_
            refine aw_condH h (by kernel_rfl) (fun _ h => ?_) (fun _ h => ?_)
            · refine aw_sregU hT m_umbralaw42_FilterFlat [] (by kernel_rfl) ?_
              refine aw_ret (tn_r ?_)
              cases h
              exact fin_r (by kernel_rfl)
            · refine aw_skip (tn_n ?_)
              refine aw_seq ?_
              obtain ⟨x37, hx37, h⟩ := letE h
              refine aw_sregU hT m_umbralaw42_FilterFlat [] (by kernel_rfl) ?_
              refine aw_nms [(129, (j64 x37))] (by subst hx37; kernel_rfl) ?_
              obtain ⟨op38, h, g38⟩ := obind h
              refine aw_joinSK (fun p38 => ⟨[], [.var (S_api_Plane.enc r1), .var (eA 9 1 j64 (p4.setIfInBounds (((4 : Int).toNat)) (I64 (e11 + 1)))), .var (.st 5 [(j64 r1.gW), (j64 r1.gH), (j64 r1.gDeep), (eS r1.gName), (eO 3 1 j64 p15.1)]), .tail (p15.1.length * 1), .var (S_api_Plane.enc r28.1), .var (S_api_Plane.enc r29.1)]⟩) g38 ?_ (fun p38 h => ?_)
              · refine aw_block (aw_loop (fun k s => ∃ s39, p_umbralaw42_FilterFlat_L3 N x37 r28 p15 r29 k s39 = some op38 ∧ JR (Fr.f 169 0) ⟨[en 11 (j64 p15.2.1), en 12 (j64 p15.2.2), en 15 (.ref 4 [] 0), en 17 (.ref 5 [] 0), en 129 (j64 x37), en 130 (j64 s39)], [.var (S_api_Plane.enc r1), .var (eA 9 1 j64 (p4.setIfInBounds (((4 : Int).toNat)) (I64 (e11 + 1)))), .var (.st 5 [(j64 r1.gW), (j64 r1.gH), (j64 r1.gDeep), (eS r1.gName), (eO 3 1 j64 p15.1)]), .tail (p15.1.length * 1), .var (S_api_Plane.enc r28.1), .var (S_api_Plane.enc r29.1)]⟩ s) (fun k s hI => ?_) N _ ⟨_, h, jr (by kernel_rfl)⟩)
                obtain ⟨s39, h, hj⟩ := hI
                cases k with
                | zero => cases h
                | succ k =>
                  refine aw_to _ hj ?_
                  refine aw_sregU hT m_umbralaw42_FilterFlat [] (by kernel_rfl) ?_
                  refine aw_seq ?_
                  refine aw_condH h (by kernel_rfl) (fun _ h => ?_) (fun _ h => ?_)
                  · refine aw_skip (tn_n ?_)
                    refine aw_seq ?_
                    refine aw_block ?_
                    refine aw_sregU hT m_umbralaw42_FilterFlat [] (by kernel_rfl) ?_
                    obtain ⟨p40, h, g40⟩ := obind h
                    refine aw_joinT ⟨[en 11 (j64 p15.2.1), en 12 (j64 p15.2.2), en 15 (.ref 4 [] 0), en 17 (.ref 5 [] 0), en 129 (j64 x37), en 130 (j64 s39), en 166 (eB p40)], [.var (S_api_Plane.enc r1), .var (eA 9 1 j64 (p4.setIfInBounds (((4 : Int).toNat)) (I64 (e11 + 1)))), .var (.st 5 [(j64 r1.gW), (j64 r1.gH), (j64 r1.gDeep), (eS r1.gName), (eO 3 1 j64 p15.1)]), .tail (p15.1.length * 1), .var (S_api_Plane.enc r28.1), .var (S_api_Plane.enc r29.1)]⟩ ?_ ?_
                    · refine aw_region ?_
                      refine awl_u hT m_umbralaw42_FilterFlat [] 3 (by kernel_rfl) ?_
                      obtain ⟨e41, he41, h⟩ := obind h
                      refine awl_big (big_idx hT j64 he41 (by kernel_rfl) (by kernel_rfl)) (by kernel_rfl) ?_
                      refine awl_u hT m_umbralaw42_FilterFlat [] 4 (by kernel_rfl) ?_
                      refine awl_split 140 h (by kernel_rfl) (fun h => ?_) (fun h => ?_)
                      · refine awl_u hT m_umbralaw42_FilterFlat [140, 149, 158] 26 (by kernel_rfl) ?_
                        refine awl_nil (tn_n ?_)
                        cases h
                        exact jr (by kernel_rfl)
                      · refine awl_u hT m_umbralaw42_FilterFlat [140] 3 (by kernel_rfl) ?_
                        obtain ⟨e42, he42, h⟩ := obind h
                        refine awl_big (big_idx hT j64 he42 (by kernel_rfl) (by kernel_rfl)) (by kernel_rfl) ?_
                        refine awl_u hT m_umbralaw42_FilterFlat [140] 5 (by kernel_rfl) ?_
                        refine awl_split 149 h (by kernel_rfl) (fun h => ?_) (fun h => ?_)
                        · refine awl_u hT m_umbralaw42_FilterFlat [149, 158] 17 (by kernel_rfl) ?_
                          refine awl_nil (tn_n ?_)
                          cases h
                          exact jr (by kernel_rfl)
                        · refine awl_u hT m_umbralaw42_FilterFlat [149] 3 (by kernel_rfl) ?_
                          obtain ⟨e43, he43, h⟩ := obind h
                          refine awl_big (big_idx hT j64 he43 (by kernel_rfl) (by kernel_rfl)) (by kernel_rfl) ?_
                          refine awl_u hT m_umbralaw42_FilterFlat [149] 5 (by kernel_rfl) ?_
                          refine awl_split 158 h (by kernel_rfl) (fun h => ?_) (fun h => ?_)
                          · refine awl_u hT m_umbralaw42_FilterFlat [158] 8 (by kernel_rfl) ?_
                            refine awl_nil (tn_n ?_)
                            cases h
                            exact jr (by kernel_rfl)
                          · refine awl_u hT m_umbralaw42_FilterFlat [158] 3 (by kernel_rfl) ?_
                            obtain ⟨e44, he44, h⟩ := obind h
                            refine awl_big (big_idx hT j64 he44 (by kernel_rfl) (by kernel_rfl)) (by kernel_rfl) ?_
                            refine awl_u hT m_umbralaw42_FilterFlat [158] 4 (by kernel_rfl) ?_
                            refine awl_nil (tn_n ?_)
                            cases h
                            exact jr (by kernel_rfl)
                    · have h := g40
                      refine aw_condH h (by kernel_rfl) (fun _ h => ?_) (fun _ h => ?_)
                      · refine aw_sregU hT m_umbralaw42_FilterFlat [] (by kernel_rfl) ?_
                        cases h
                        have h := g38
                        refine aw_ret (inB_r (tn_r (tn_r (inB_r (tn_r (tn_r ?_))))))
                        obtain rfl := sum_e h
                        exact fin_r (by kernel_rfl)
                      · refine aw_skip (inB_n (tn_n ?_))
                        refine aw_regU hT m_umbralaw42_FilterFlat [] (by kernel_rfl) (tn_n ?_)
                        exact ⟨k, Nat.lt_succ_self k, _, h, jr (by kernel_rfl)⟩
                  · refine aw_exit (tn_x (tn_x (inB_e (tn_n ?_))))
                    cases h
                    exact ⟨_, rfl, jr (by kernel_rfl)⟩
              · refine (tn_n ?_)
                refine aw_sreg ?_
                obtain ⟨r45, hr45, h⟩ := obind h
                refine awl_big (big_call [] (umbralaw42_works_ok hr45) umbralaw42_works_ok_c (by kernel_rfl) (by kernel_rfl)) (by kernel_rfl) ?_
                refine awl_u hT m_umbralaw42_FilterFlat [] 1 (by kernel_rfl) ?_
                refine awl_nil ?_
                refine aw_ret ?_
                cases h
                exact fin_r (by kernel_rfl)

theorem umbralaw42_FilterFlat_ok_c : callable Try.prog 14 := ⟨_, Try.func14, by decide, rfl⟩

end Go.UK
