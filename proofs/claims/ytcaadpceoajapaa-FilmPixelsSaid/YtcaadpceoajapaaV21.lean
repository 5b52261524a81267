/- A part of the proof: what the functions of the program compute. -/
import Derived.Test.YtcaadpceoajapaaV20
namespace Go.UK
open Go Go.Proofs
set_option maxRecDepth 20000
set_option maxHeartbeats 2000000
set_option linter.all false

theorem threeTone (k : Nat) {v : S_api_Vec} (hv : vin v) : ∃ a b c, p_film_three_v0 (k + 3) v = some #v[a, b, c] ∧ p_umbraref29_Tone (k + 3) v.gX = some a ∧ p_umbraref29_Tone (k + 3) v.gY = some b ∧ p_umbraref29_Tone (k + 3) v.gZ = some c := by
  obtain ⟨a, e1, f1⟩ := toneEq k hv.1
  obtain ⟨b, e2, f2⟩ := toneEq k hv.2.1
  obtain ⟨c, e3, f3⟩ := toneEq k hv.2.2
  refine ⟨a, b, c, ?_, f1, f2, f3⟩
  unfold p_film_three_v0
  rw [e1, e2, e3]; rfl
theorem threeSide (k : Nat) (v : S_api_Vec) : ∃ a b c, p_film_three_v1 (k + 3) v = some #v[a, b, c] ∧ p_umbraref29_Side (k + 3) v.gX = some a ∧ p_umbraref29_Side (k + 3) v.gY = some b ∧ p_umbraref29_Side (k + 3) v.gZ = some c := by
  obtain ⟨a, e1, f1⟩ := sideEq k v.gX
  obtain ⟨b, e2, f2⟩ := sideEq k v.gY
  obtain ⟨c, e3, f3⟩ := sideEq k v.gZ
  refine ⟨a, b, c, ?_, f1, f2, f3⟩
  unfold p_film_three_v1
  rw [e1, e2, e3]; rfl
theorem band16 {a : Int} (ha : 0 ≤ a) (ha' : a < 4294967296) : band .u32 a 65535 = a % 65536 := by
  obtain ⟨A, rfl⟩ := Int.eq_ofNat_of_zero_le ha
  unfold band
  have h : A &&& 65535 = A % 2 ^ 16 := Nat.and_two_pow_sub_one_eq_mod A 16
  have h2 : (BitVec.ofInt IntKind.u32.bits (A : Int)).toNat = A := by
    rw [BitVec.toNat_ofInt]; simp [IntKind.bits]; omega
  rw [show (BitVec.ofInt IntKind.u32.bits (A : Int) &&& BitVec.ofInt IntKind.u32.bits 65535).toNat = A &&& 65535 by
    rw [BitVec.toNat_and, h2]; rfl, h, IntKind.wrap_u32]
  omega
def imgOk (r : S_api_Image) : Prop := r.gBeauty.length ≤ 1 ∧ r.gAlpha.length ≤ 1 ∧ r.gDepth.length ≤ 1 ∧ r.gNormal.length ≤ 1 ∧ r.gAsset.length ≤ 1 ∧ r.gLabel.length ≤ 1
def ps0 : PS := ⟨⟨0, 0, 0⟩, ⟨0, 0, 0⟩, 0, 0, 0, -1⟩

def filmTail (N : Nat) (n : Int) (lb : List Int) (pc pn : S_api_Vec) (pd pa pm pf : Int) : Option (S_api_Image × Int) :=

    Option.bind (p_fix_Of N (n)) fun r20 =>
    Option.bind (p_fix_Div N 4294967296 r20) fun r21 =>
    Option.bind (p_vec_Scale N (S_api_Vec.mk pc.gX pc.gY pc.gZ) r21) fun r22 =>
    Option.bind (p_film_three_v0 N r22) fun r23 =>
    letO (I64 (65535 * pa)) fun x24 =>
    Option.bind (quoO .i64 x24 (n)) fun x25 =>
    Option.bind (p_vec_Unit N (S_api_Vec.mk pn.gX pn.gY pn.gZ)) fun r26 =>
    Option.bind (p_film_three_v1 N r26) fun r27 =>
    Option.bind (letO (decide (pm > 0)) fun x29 =>
    cond x29 (
      Option.bind (p_fix_Of N pm) fun r30 =>
      Option.bind (p_fix_Div N pd r30) fun r31 =>
      Option.bind (p_film_Far N r31) fun r32 =>
      Option.bind (inRO 0 1) fun _ =>
      Option.bind ((([0] : List Int))[((0 : Int).toNat)]?) fun e34 =>
      letO (I64 (pf + 1)) fun x35 =>
      Option.bind (idx lb pf) fun e36 =>
      letO (I64 (band .u32 e36 65535)) fun x37 =>
      Option.bind (inRO 0 1) fun _ =>
      Option.bind ((([0] : List Int))[((0 : Int).toNat)]?) fun e39 =>
      Option.bind (inRO 0 1) fun _ =>
      Option.bind ((([0] : List Int))[((0 : Int).toNat)]?) fun e41 =>
      some (((([0] : List Int)).set (((0 : Int).toNat)) r32, (([0] : List Int)).set (((0 : Int).toNat)) (imin x35 65535), (([0] : List Int)).set (((0 : Int).toNat)) x37))) (
      some ((([0] : List Int), ([0] : List Int), ([0] : List Int))))) fun p28 =>
    Option.bind (lenO p28.1 1) fun _ =>
    Option.bind (lenO p28.2.1 1) fun _ =>
    Option.bind (lenO p28.2.2 1) fun _ =>
    some ((S_api_Image.mk 1 1 ([r23]) ([x25]) p28.1 ([r27]) p28.2.1 p28.2.2, 0))
def refTail (N : Nat) (n : Int) (lb : List Int) (pc pn : S_api_Vec) (pd pa pm pf : Int) : Option (S_api_Image × Int) :=

      Option.bind (p_umbraref02_Of N (n)) fun r29 =>
      Option.bind (p_umbraref02_Div N 4294967296 r29) fun r30 =>
      Option.bind (p_umbraref03_Scale N (S_api_Vec.mk pc.gX pc.gY pc.gZ) r30) fun r31 =>
      Option.bind (p_umbraref03_Unit N (S_api_Vec.mk pn.gX pn.gY pn.gZ)) fun r32 =>
      Option.bind (p_umbraref29_Tone N r31.gX) fun r33 =>
      Option.bind (p_umbraref29_Tone N r31.gY) fun r34 =>
      Option.bind (p_umbraref29_Tone N r31.gZ) fun r35 =>
      letO (I64 (65535 * pa)) fun x37 =>
      Option.bind (quoO .i64 x37 (n)) fun x38 =>
      Option.bind (p_umbraref29_Side N r32.gX) fun r39 =>
      Option.bind (p_umbraref29_Side N r32.gY) fun r40 =>
      Option.bind (p_umbraref29_Side N r32.gZ) fun r41 =>
      Option.bind (letO (decide (pm > 0)) fun x43 =>
      cond x43 (
        Option.bind (p_umbraref02_Of N pm) fun r44 =>
        Option.bind (p_umbraref02_Div N pd r44) fun r45 =>
        Option.bind (p_umbraref29_Far N r45) fun r46 =>
        Option.bind (inRO 0 1) fun _ =>
        Option.bind ((([0] : List Int))[((0 : Int).toNat)]?) fun e48 =>
        letO (I64 (pf + 1)) fun x50 =>
        Option.bind (inRO 0 1) fun _ =>
        Option.bind ((([0] : List Int))[((0 : Int).toNat)]?) fun e52 =>
        Option.bind (idx lb pf) fun e53 =>
        letO (I64 (Int.tmod e53 65536)) fun x54 =>
        Option.bind (inRO 0 1) fun _ =>
        Option.bind ((([0] : List Int))[((0 : Int).toNat)]?) fun e56 =>
        some (((([0] : List Int)).set (((0 : Int).toNat)) r46, (([0] : List Int)).set (((0 : Int).toNat)) (imin x50 65535), (([0] : List Int)).set (((0 : Int).toNat)) x54))) (
        some ((([0] : List Int), ([0] : List Int), ([0] : List Int))))) fun p42 =>
      Option.bind (lenO p42.1 1) fun _ =>
      Option.bind (lenO p42.2.1 1) fun _ =>
      Option.bind (lenO p42.2.2 1) fun _ =>
      some ((S_api_Image.mk 1 1 ([#v[r33, r34, r35]]) ([x38]) p42.1 ([#v[r39, r40, r41]]) p42.2.1 p42.2.2, 0))
theorem tailEq (k : Nat) (n : Nat) (hn0 : 0 < n) (hn : n ≤ 16) (lb : List Int) (hL : ∀ x ∈ lb, 0 ≤ x ∧ x < 4294967296) {pc pn : S_api_Vec} (q1 : vin pc) (q2 : vin pn) {pd pa pm pf : Int} (q3 : in64 pd)
    (hmet : (pm = 0 ∧ pf = -1) ∨ (0 < pm ∧ pm ≤ (n : Int) ∧ 0 ≤ pf ∧ pf < (lb.length : Int))) :
    ∃ r, imgOk r.1 ∧ filmTail (k + 65) (n : Int) lb pc pn pd pa pm pf = some r ∧ refTail (k + 65) (n : Int) lb pc pn pd pa pm pf = some r := by
  have hn1 : in64 (n : Int) := ⟨by omega, by omega⟩
  have hone : in64 (4294967296 : Int) := ⟨by decide, by decide⟩
  have hq : S64 ((n : Int) * 4294967296) ≠ 0 := by unfold S64; (repeat' split) <;> omega
  obtain ⟨d, hd, e1, e2⟩ := divEq (k + 62) hone (S64_in ((n : Int) * 4294967296)) hq
  obtain ⟨ta, tb, tc, t0, t1, t2, t3⟩ := threeTone (k + 62) (vScale_in pc d)
  obtain ⟨u, hu, u1, u2⟩ := unitEq k q2
  obtain ⟨sa, sb, sc, s0, s1, s2, s3⟩ := threeSide (k + 62) u
  have f1 := fixOfA (k + 65) hn1
  have f2 := rOf (k + 65) hn1
  have f3 := vecScale (k + 62) q1 hd
  have f4 := r3Scale (k + 65) q1 hd
  have hquo : ∀ x, quoO .i64 x (n : Int) = some (IntKind.wrap .i64 (x.tdiv (n : Int))) := by
    intro x; unfold quoO; rw [df (show ¬ (n : Int) = 0 by omega)]; rfl
  have g1 : p_fix_Div (k + 65) 4294967296 (S64 ((n : Int) * 4294967296)) = some d := e1
  have g2 : p_umbraref02_Div (k + 65) 4294967296 (S64 ((n : Int) * 4294967296)) = some d := e2
  have g3 : p_vec_Scale (k + 65) pc d = some (vScale pc d) := f3
  have g4 : p_film_three_v0 (k + 65) (vScale pc d) = some #v[ta, tb, tc] := t0
  have g5 : p_umbraref29_Tone (k + 65) (vScale pc d).gX = some ta := t1
  have g6 : p_umbraref29_Tone (k + 65) (vScale pc d).gY = some tb := t2
  have g7 : p_umbraref29_Tone (k + 65) (vScale pc d).gZ = some tc := t3
  have g8 : p_film_three_v1 (k + 65) u = some #v[sa, sb, sc] := s0
  have g9 : p_umbraref29_Side (k + 65) u.gX = some sa := s1
  have g10 : p_umbraref29_Side (k + 65) u.gY = some sb := s2
  have g11 : p_umbraref29_Side (k + 65) u.gZ = some sc := s3
  clear e1 e2 t0 t1 t2 t3 s0 s1 s2 s3 f3
  rcases hmet with ⟨hm, hf⟩ | ⟨hm, hm', hf, hf'⟩
  · subst hm
    refine ⟨(S_api_Image.mk 1 1 [#v[ta, tb, tc]] [IntKind.wrap .i64 ((I64 (65535 * pa)).tdiv (n : Int))] [0] [#v[sa, sb, sc]] [0] [0], 0), ⟨Nat.le_refl _, Nat.le_refl _, Nat.le_refl _, Nat.le_refl _, Nat.le_refl _, Nat.le_refl _⟩, ?_, ?_⟩
    · unfold filmTail
      rw [f1, Option.bind_some, g1, Option.bind_some, g3, Option.bind_some, g4, Option.bind_some, letO_e, hquo, Option.bind_some, u1, Option.bind_some, g8, Option.bind_some]
      rfl
    · unfold refTail
      rw [f2, Option.bind_some, g2, Option.bind_some, f4, Option.bind_some, u2, Option.bind_some, g5, Option.bind_some, g6, Option.bind_some, g7, Option.bind_some, letO_e, hquo, Option.bind_some, g9, Option.bind_some, g10, Option.bind_some, g11, Option.bind_some]
      rfl
  · have hmi : in64 pm := ⟨by omega, by omega⟩
    have hq2 : S64 (pm * 4294967296) ≠ 0 := by unfold S64; (repeat' split) <;> omega
    obtain ⟨d2, hd2, e3, e4⟩ := divEq (k + 62) q3 (S64_in (pm * 4294967296)) hq2
    obtain ⟨v, v1, v2⟩ := farEq (k + 65) hd2
    have m1 := fixOfA (k + 65) hmi
    have m2 := rOf (k + 65) hmi
    have m3 : p_fix_Div (k + 65) pd (S64 (pm * 4294967296)) = some d2 := e3
    have m4 : p_umbraref02_Div (k + 65) pd (S64 (pm * 4294967296)) = some d2 := e4
    clear e3 e4
    obtain ⟨F, rfl⟩ := Int.eq_ofNat_of_zero_le hf
    have hFl : F < lb.length := by omega
    have hix : idx lb (F : Int) = some lb[F] := idx_at hFl
    obtain ⟨l0, l1⟩ := hL _ (List.getElem_mem hFl)
    generalize lb[F] = e at hix l0 l1
    refine ⟨(S_api_Image.mk 1 1 [#v[ta, tb, tc]] [IntKind.wrap .i64 ((I64 (65535 * pa)).tdiv (n : Int))] [v] [#v[sa, sb, sc]] [imin (I64 ((F : Int) + 1)) 65535] [I64 (e % 65536)], 0), ⟨Nat.le_refl _, Nat.le_refl _, Nat.le_refl _, Nat.le_refl _, Nat.le_refl _, Nat.le_refl _⟩, ?_, ?_⟩
    · unfold filmTail
      rw [f1, Option.bind_some, g1, Option.bind_some, g3, Option.bind_some, g4, Option.bind_some, letO_e, hquo, Option.bind_some, u1, Option.bind_some, g8, Option.bind_some]
      rw [letO_e, dt (show pm > 0 from hm), cond_true, m1, Option.bind_some, m3, Option.bind_some, v1, Option.bind_some]
      rw [show inRO 0 1 = some () from rfl, Option.bind_some, show ([0] : List Int)[(0 : Int).toNat]? = some 0 from rfl, Option.bind_some, letO_e, hix, Option.bind_some, letO_e, band16 l0 l1]
      rfl
    · unfold refTail
      rw [f2, Option.bind_some, g2, Option.bind_some, f4, Option.bind_some, u2, Option.bind_some, g5, Option.bind_some, g6, Option.bind_some, g7, Option.bind_some, letO_e, hquo, Option.bind_some, g9, Option.bind_some, g10, Option.bind_some, g11, Option.bind_some]
      rw [letO_e, dt (show pm > 0 from hm), cond_true, m2, Option.bind_some, m4, Option.bind_some, v2, Option.bind_some]
      rw [show inRO 0 1 = some () from rfl, Option.bind_some, show ([0] : List Int)[(0 : Int).toNat]? = some 0 from rfl, Option.bind_some, letO_e, Option.bind_some, Option.bind_some, hix, Option.bind_some, letO_e, Int.tmod_eq_emod_of_nonneg l0]
      rfl

theorem pixelEq (k : Nat) (l : List S_api_Sample) (s : S_api_Scene) (hx : ∀ x ∈ l, sin x) (hL : ∀ x ∈ s.gLabels, 0 ≤ x ∧ x < 4294967296) :
    ∃ r, imgOk r.1 ∧ p_film_Pixel (k + 65) l s = some r ∧ p_umbraref29_Pixel (k + 65) l s = some r := by
  have img0 : imgOk (S_api_Image.mk 0 0 [] [] [] [] [] []) := by refine ⟨?_, ?_, ?_, ?_, ?_, ?_⟩ <;> exact Nat.zero_le _
  unfold p_film_Pixel p_umbraref29_Pixel p_film_may
  rw [letO_e, letO_e, letO_e, letO_e]
  by_cases h0 : l.length = 0
  · rw [show ((l.length : Int) == 0) = true by simp [h0], dt (show (l.length : Int) < 1 by omega)]
    exact ⟨_, img0, rfl, rfl⟩
  rw [show ((l.length : Int) == 0) = false by simp [h0], df (show ¬ (l.length : Int) < 1 by omega)]
  by_cases h16 : l.length > 16
  · rw [dt (show (l.length : Int) > 16 by omega)]
    exact ⟨_, img0, rfl, rfl⟩
  rw [df (show ¬ (l.length : Int) > 16 by omega), cond_false, cond_false]
  have hin0 : ps0.in := ⟨⟨⟨by decide, by decide⟩, ⟨by decide, by decide⟩, ⟨by decide, by decide⟩⟩, ⟨⟨by decide, by decide⟩, ⟨by decide, by decide⟩, ⟨by decide, by decide⟩⟩, ⟨by decide, by decide⟩⟩
  have m1 := mayL (k + 65) l s (by omega) (k + 65) 0 (by omega) (by omega)
  have p1 := pixL (k + 62) l (by omega) hx (k + 65) 0 ps0 hin0 (by omega) (by omega)
  have r1 := refL (k + 65) l s (by omega) hx (k + 65) 0 ps0 hin0 (by omega) (by omega)
  have hin := fold_in l ps0 hin0
  have hmet := fun hb => fold_met (s := s) l ps0 0 (.inl ⟨rfl, rfl⟩) (by omega) hb
  rw [List.drop_zero] at m1 p1 r1
  generalize l.foldl pStep ps0 = p at p1 r1 hin hmet
  have p1' : p_film_Pixel_L1 (k + 65) l (k + 65) 0 0 0 0 0 0 0 0 0 (-1) 0 = some p.t := p1
  have r1' : p_umbraref29_Pixel_L1 (k + 65) l s (k + 65) 0 0 0 0 0 0 0 0 0 (-1) 0 = _ := r1
  have m1' : p_film_may_L1 (k + 65) l s (k + 65) 0 = _ := m1
  rw [m1', r1']
  cases hb : l.any (badS s) with
  | true => exact ⟨_, img0, rfl, rfl⟩
  | false =>
    rw [cond_false, Option.bind_some, cond_false, Option.bind_some]
    have hmet := hmet hb
    have T := tailEq k l.length (by omega) (by omega) s.gLabels hL hin.1 hin.2.1 (pa := p.a) hin.2.2 (by have := hmet; unfold PS.met at this; simpa using this)
    obtain ⟨r, h1, h2, h3⟩ := T
    refine ⟨r, h1, ?_, ?_⟩
    · rw [show sumC (Sum.inl () : Sum Unit Int) (fun _ => some (0 : Int)) (fun r => some r) = some 0 from rfl, Option.bind_some, show ((0 : Int) != 0) = false from rfl, cond_false, p1', Option.bind_some]
      exact h2
    · exact h3
end Go.UK
