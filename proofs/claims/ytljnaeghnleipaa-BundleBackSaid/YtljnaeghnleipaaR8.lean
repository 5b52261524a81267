/- A part of the proof: what the functions of the program compute. -/
import Derived.Test.YtljnaeghnleipaaR7
namespace Go.UK
open Go Go.Proofs
set_option maxRecDepth 20000
set_option maxHeartbeats 1000000
set_option linter.all false
theorem findT {α : Type} (l : List α) (hl : l.length < 9223372036854775807) (bad : α → Prop) {F : Nat → Int → Option (Sum Unit Int)}
    (hstep : ∀ k i (h : i < l.length), ∃ c, (c = false → ¬ bad l[i]) ∧ F (k + 1) (i : Int) = cond c (some (Sum.inr (i : Int))) (F k (I64 ((i : Int) + 1)))) (hend : ∀ k, F (k + 1) (l.length : Int) = some (Sum.inl ())) :
    ∀ (k i : Nat), i ≤ l.length → l.length - i < k → T (Option.bind (Option.bind (F k (i : Int)) fun o => sumC o (fun p1 => some (-1)) (fun r => some r)) fun r1 : Int => some (decide (r1 ≥ 0))) (fun r => r = false → ∀ x ∈ l.drop i, ¬ bad x)
  | 0, i, _, h => by omega
  | k + 1, i, hi, hk => by
    by_cases h : i < l.length
    · obtain ⟨c, h1, h2⟩ := hstep k i h
      rw [h2]
      cases c with
      | true =>
        refine ⟨true, ?_, fun e => by cases e⟩
        show some (decide ((i : Int) ≥ 0)) = some true
        rw [dt (by omega)]
      | false =>
        rw [cond_false, I64_s (by omega)]
        refine T.mono (findT l hl bad hstep hend k (i + 1) (by omega) (by omega)) fun r hr e x hx => ?_
        rw [List.drop_eq_getElem_cons h] at hx
        rcases List.mem_cons.1 hx with rfl | hx
        · exact h1 rfl
        · exact hr e x hx
    · obtain rfl : i = l.length := by omega
      rw [hend, List.drop_length]
      exact ⟨false, rfl, fun _ x hx => by cases hx⟩
theorem findT0 {α : Type} (l : List α) (hl : l.length < 9223372036854775807) (bad : α → Prop) {F : Nat → Int → Option (Sum Unit Int)}
    (hstep : ∀ k i (h : i < l.length), ∃ c, (c = false → ¬ bad l[i]) ∧ F (k + 1) (i : Int) = cond c (some (Sum.inr (i : Int))) (F k (I64 ((i : Int) + 1)))) (hend : ∀ k, F (k + 1) (l.length : Int) = some (Sum.inl ())) {N : Nat} (hN : l.length < N) :
    T (Option.bind (Option.bind (F N 0) fun o => sumC o (fun p1 => some (-1)) (fun r => some r)) fun r1 : Int => some (decide (r1 ≥ 0))) (fun r => r = false → ∀ x ∈ l, ¬ bad x) :=
  T.mono (findT l hl bad hstep hend N 0 (by omega) (by omega)) fun r hr e x hx => hr e x (by simpa using hx)
theorem imax3 {a b c m : Int} (h : ¬ imax (imax a b) c > m) : a ≤ m ∧ b ≤ m ∧ c ≤ m := by unfold imax at h; split at h <;> split at h <;> omega
theorem imin3 {a b c m : Int} (h : ¬ imin (imin a b) c < m) : m ≤ a ∧ m ≤ b ∧ m ≤ c := by unfold imin at h; split at h <;> split at h <;> omega
theorem imax2 {a b m : Int} (h : ¬ imax a b > m) : a ≤ m ∧ b ≤ m := by unfold imax at h; split at h <;> omega
theorem imin2 {a b m : Int} (h : ¬ imin a b < m) : m ≤ a ∧ m ≤ b := by unfold imin at h; split at h <;> omega
def ptG (p : S_api_Point) : Prop := (-4096 ≤ p.gX ∧ p.gX ≤ 4096) ∧ (-4096 ≤ p.gY ∧ p.gY ≤ 4096) ∧ (-4096 ≤ p.gZ ∧ p.gZ ≤ 4096)
theorem off1T (N : Nat) (p : S_api_Point) : T (p_mesh_Check_1 N p) (fun c => c = false → ptG p) := by
  unfold p_mesh_Check_1
  refine T.bind (P := fun c => c = false → ptG p) ?_ fun c hc => T.ret hc
  refine T.letO fun x hx => T.cond (fun _ => T.ret fun h => by cases h) fun h1 => T.letO fun y hy => T.ret fun h2 => ?_
  subst hx hy
  have h1 := imax3 (of_decide_eq_false h1)
  have h2 := imin3 (of_decide_eq_false h2)
  exact ⟨⟨h2.1, h1.1⟩, ⟨h2.2.1, h1.2.1⟩, h2.2.2, h1.2.2⟩
theorem off2T (N : Nat) (p : S_api_Point) : T (p_asset_Light_1 N p) (fun c => c = false → ptG p) := off1T N p
def uvG (v : Vector Int 2) : Prop := (0 ≤ v[0] ∧ v[0] < 65536) ∧ (0 ≤ v[1] ∧ v[1] < 65536)
theorem v2_0 (v : Vector Int 2) : idx v.toList 0 = some v[0] := by have := idx_get? v.toList 0; rw [vget v 0 (by decide)] at this; exact this
theorem v2_1 (v : Vector Int 2) : idx v.toList 1 = some v[1] := by have := idx_get? v.toList 1; rw [vget v 1 (by decide)] at this; exact this
theorem v3_0 (v : Vector Int 3) : idx v.toList 0 = some v[0] := by have := idx_get? v.toList 0; rw [vget v 0 (by decide)] at this; exact this
theorem v3_1 (v : Vector Int 3) : idx v.toList 1 = some v[1] := by have := idx_get? v.toList 1; rw [vget v 1 (by decide)] at this; exact this
theorem v3_2 (v : Vector Int 3) : idx v.toList 2 = some v[2] := by have := idx_get? v.toList 2; rw [vget v 2 (by decide)] at this; exact this
theorem pairT (N : Nat) (v : Vector Int 2) : T (p_mesh_Check_2 N v) (fun c => c = false → uvG v) := by
  unfold p_mesh_Check_2
  refine T.bind (P := fun c => c = false → uvG v) ?_ fun c hc => T.ret hc
  rw [v2_0, v2_1, Option.bind_some, Option.bind_some]
  refine T.letO fun x hx => T.cond (fun _ => T.ret fun h => by cases h) fun h1 => ?_
  rw [Option.bind_some, Option.bind_some]
  refine T.letO fun y hy => T.ret fun h2 => ?_
  subst hx hy
  have h1 := imin2 (of_decide_eq_false h1)
  have h2 := imax2 (of_decide_eq_false h2)
  exact ⟨⟨h1.1, by omega⟩, h1.2, by omega⟩
def trG (n : Int) (v : Vector Int 3) : Prop := (0 ≤ v[0] ∧ v[0] < n) ∧ (0 ≤ v[1] ∧ v[1] < n) ∧ (0 ≤ v[2] ∧ v[2] < n)
theorem triT (N : Nat) (v : Vector Int 3) (m : S_api_Mesh) : T (p_mesh_Check_3_di N v m) (fun c => c = false → trG (m.gVerts.length : Int) v) := by
  unfold p_mesh_Check_3_di
  refine T.bind (P := fun c => c = false → trG (m.gVerts.length : Int) v) ?_ fun c hc => T.ret hc
  simp only [v3_0, v3_1, v3_2, Option.bind_some]
  refine T.letO fun x hx => T.cond (fun _ => T.ret fun h => by cases h) fun h1 => T.letO fun n hn => T.letO fun y hy => T.cond (fun _ => T.ret fun h => by cases h) fun h2 => ?_
  subst hx hy hn
  have h1 := imin3 (of_decide_eq_false h1)
  have h2 : ¬ imax (imax v[0] v[1]) v[2] > (m.gVerts.length : Int) - 1 := by have := of_decide_eq_false h2; omega
  have h2 := imax3 h2
  have g : trG (m.gVerts.length : Int) v := ⟨⟨h1.1, by omega⟩, ⟨h1.2.1, by omega⟩, h1.2.2, by omega⟩
  exact T.cond (fun _ => T.ret fun _ => g) fun _ => T.cond (fun _ => T.ret fun _ => g) fun _ => T.ret fun _ => g
structure MeshG (m : S_api_Mesh) : Prop where
  nv : m.gVerts.length ≤ 64
  nt : m.gTris.length ≤ 64
  nu : m.gUvs.length = m.gVerts.length
  v : ∀ p ∈ m.gVerts, ptG p
  u : ∀ p ∈ m.gUvs, uvG p
  t : ∀ p ∈ m.gTris, trG 256 p
theorem meshT (N : Nat) (hN : 1000 < N) (m : S_api_Mesh) (hv : m.gVerts.length ≤ 500) (hu : m.gUvs.length ≤ 500) (ht : m.gTris.length ≤ 500) : T (p_mesh_Check N m) (fun c => c = 0 → MeshG m) := by
  unfold p_mesh_Check
  refine T.letO fun x1 e1 => T.letO fun x2 e2 => T.letO fun x3 e3 => ?_
  subst e1 e2 e3
  refine T.cond (fun _ => T.ret fun h => by cases h) fun h1 => ?_
  refine T.letO fun x1 e1 => T.letO fun x2 e2 => T.letO fun x3 e3 => T.letO fun x4 e4 => T.letO fun x5 e5 => ?_
  subst e1 e2 e3 e4 e5
  refine T.cond (fun _ => T.ret fun h => by cases h) fun h2 => ?_
  have a1 : m.gVerts.length ≤ 64 ∧ m.gTris.length ≤ 64 := by
    cases ha : decide ((m.gVerts.length : Int) > 64) with
    | true => rw [ha] at h1; cases h1
    | false => rw [ha, cond_false] at h1; have := of_decide_eq_false ha; have := of_decide_eq_false h1; omega
  have a2 : m.gUvs.length = m.gVerts.length := by
    revert h2
    cases cond ((m.gVerts.length : Int) == 0) true ((m.gTris.length : Int) == 0) with
    | true => intro h; cases h
    | false => intro h; rw [cond_false] at h; have : (m.gUvs.length : Int) = (m.gVerts.length : Int) := by simpa using h
               omega
  refine T.bind (P := fun r => r = false → ∀ p ∈ m.gVerts, ¬ ¬ ptG p) ?_ fun r9 h9 => T.cond (fun _ => T.ret fun h => by cases h) fun c9 => ?_
  · unfold p_slices_ContainsFunc_api_Point_api_Point_Check_1 p_slices_IndexFunc_api_Point_api_Point_Check_1
    refine findT0 m.gVerts (by omega) (fun p => ¬ ptG p) (F := p_slices_IndexFunc_api_Point_api_Point_Check_1_L1 N m.gVerts) (fun k i h => ?_) (fun k => by rw [p_slices_IndexFunc_api_Point_api_Point_Check_1_L1, letO_e, df (by omega), cond_false]) (by omega)
    obtain ⟨c, e, hc⟩ := off1T N m.gVerts[i]
    exact ⟨c, fun h => Classical.not_not.2 (hc h), by rw [p_slices_IndexFunc_api_Point_api_Point_Check_1_L1, letO_e, dt (by omega), cond_true, idx_at h, Option.bind_some, e, Option.bind_some]⟩
  refine T.bind (P := fun r => r = false → (∀ p ∈ m.gUvs, uvG p) ∧ ∀ p ∈ m.gTris, trG (m.gVerts.length : Int) p) ?_ fun r10 h10 => T.cond (fun _ => T.ret fun h => by cases h) fun c10 => T.ret fun _ => ?_
  · refine T.bind (P := fun r => r = false → ∀ p ∈ m.gUvs, ¬ ¬ uvG p) ?_ fun r11 h11 => T.cond (fun _ => T.ret fun h => by cases h) fun c11 => ?_
    · unfold p_slices_ContainsFunc_2_int_2_int_Check_2 p_slices_IndexFunc_2_int_2_int_Check_2
      refine findT0 m.gUvs (by omega) (fun p => ¬ uvG p) (F := p_slices_IndexFunc_2_int_2_int_Check_2_L1 N m.gUvs) (fun k i h => ?_) (fun k => by rw [p_slices_IndexFunc_2_int_2_int_Check_2_L1, letO_e, df (by omega), cond_false]) (by omega)
      obtain ⟨c, e, hc⟩ := pairT N m.gUvs[i]
      exact ⟨c, fun h => Classical.not_not.2 (hc h), by rw [p_slices_IndexFunc_2_int_2_int_Check_2_L1, letO_e, dt (by omega), cond_true, idx_at h, Option.bind_some, e, Option.bind_some]⟩
    · refine T.bind (P := fun r => r = false → ∀ p ∈ m.gTris, ¬ ¬ trG (m.gVerts.length : Int) p) ?_ fun r12 h12 => T.ret fun c12 => ⟨fun p hp => Classical.not_not.1 (h11 c11 p hp), fun p hp => Classical.not_not.1 (h12 c12 p hp)⟩
      unfold p_slices_ContainsFunc_3_int_3_int_Check_3 p_slices_IndexFunc_3_int_3_int_Check_3
      refine findT0 m.gTris (by omega) (fun p => ¬ trG (m.gVerts.length : Int) p) (F := p_slices_IndexFunc_3_int_3_int_Check_3_L1 N m.gTris m) (fun k i h => ?_) (fun k => by rw [p_slices_IndexFunc_3_int_3_int_Check_3_L1, letO_e, df (by omega), cond_false]) (by omega)
      obtain ⟨c, e, hc⟩ := triT N m.gTris[i] m
      exact ⟨c, fun h => Classical.not_not.2 (hc h), by rw [p_slices_IndexFunc_3_int_3_int_Check_3_L1, letO_e, dt (by omega), cond_true, idx_at h, Option.bind_some, e, Option.bind_some]⟩
  obtain ⟨g1, g2⟩ := h10 c10
  exact ⟨a1.1, a1.2, a2, fun p hp => Classical.not_not.1 (h9 c9 p hp), g1, fun p hp => by obtain ⟨q1, q2, q3⟩ := g2 p hp; exact ⟨⟨q1.1, by omega⟩, ⟨q2.1, by omega⟩, q3.1, by omega⟩⟩
structure TexG (t : S_api_Texture) : Prop where
  side : 1 ≤ t.gSide ∧ t.gSide ≤ 16
  n : (t.gTexels.length : Int) = t.gSide * t.gSide
  t : ∀ p ∈ t.gTexels, trG 256 p
theorem containsT (N : Nat) (hN : 1000 < N) (l : List Int) (hl : l.length ≤ 500) (x : Int) : T (p_slices_Contains_int_int N l x) (fun r => r = true → x ∈ l) := by
  unfold p_slices_Contains_int_int p_slices_Index_int_int
  have key : ∀ (k i : Nat), i ≤ l.length → l.length - i < k → T (p_slices_Index_int_int_L1 N l x k (i : Int)) (fun o => (o = Sum.inl ()) ∨ (∃ j, o = Sum.inr j ∧ x ∈ l)) := by
    intro k
    induction k with
    | zero => intro i _ h; omega
    | succ k ih =>
      intro i hi hk
      rw [p_slices_Index_int_int_L1, letO_e]
      by_cases h : i < l.length
      · rw [dt (by omega), cond_true, idx_at h, Option.bind_some, I64_s (by omega)]
        refine T.cond (fun hc => T.ret (.inr ⟨_, rfl, ?_⟩)) fun _ => ih (i + 1) (by omega) (by omega)
        have : x = l[i] := by simpa using hc
        rw [this]
        exact List.getElem_mem h
      · rw [df (by omega), cond_false]
        exact T.ret (.inl rfl)
  refine T.bind (P := fun r : Int => 0 ≤ r → x ∈ l) ?_ fun r hr => T.ret fun h => hr (by have := of_decide_eq_true h; omega)
  refine T.bind (key N 0 (by omega) (by omega)) fun o ho => ?_
  rcases ho with rfl | ⟨j, rfl, hm⟩
  · exact T.ret fun h => by omega
  · exact T.ret fun _ => hm
theorem texT (N : Nat) (hN : 1000 < N) (t : S_api_Texture) (ht : t.gTexels.length ≤ 500) : T (p_texture_Check N t) (fun c => c = 0 → TexG t) := by
  unfold p_texture_Check
  refine T.bind (containsT N hN [1, 2, 4, 8, 16] (by decide) t.gSide) fun r1 h1 => ?_
  refine T.letO fun x2 e2 => T.letO fun x3 e3 => T.letO fun x4 e4 => ?_
  subst e2 e3 e4
  refine T.cond (fun _ => T.ret fun h => by cases h) fun h2 => ?_
  have hr : r1 = true := by cases r1 with | true => rfl | false => cases h2
  subst hr
  have hm := h1 rfl
  have hs : 1 ≤ t.gSide ∧ t.gSide ≤ 16 := by
    simp only [List.mem_cons, List.not_mem_nil, or_false] at hm
    omega
  have hn : (t.gTexels.length : Int) = t.gSide * t.gSide := by
    rw [Bool.not_true, cond_false] at h2
    have h3 : (t.gTexels.length : Int) = I64 (t.gSide * t.gSide) := by simpa using h2
    have : t.gSide * t.gSide ≤ 16 * 16 := Int.mul_le_mul hs.2 hs.2 (by omega) (by decide)
    have : 0 ≤ t.gSide * t.gSide := Int.mul_nonneg (by omega) (by omega)
    rw [h3, I64_id (by omega) (by omega)]
  refine T.letO fun x5 e5 => ?_
  subst e5
  have key : ∀ (k i : Nat), i ≤ t.gTexels.length → t.gTexels.length - i < k → T (p_texture_Check_L1 N (t.gTexels.length : Int) t k (i : Int)) (fun o => o = Sum.inr 5 ∨ (o = Sum.inl () ∧ ∀ p ∈ t.gTexels.drop i, trG 256 p)) := by
    intro k
    induction k with
    | zero => intro i _ h; omega
    | succ k ih =>
      intro i hi hk
      rw [p_texture_Check_L1]
      by_cases h : i < t.gTexels.length
      · rw [dt (by omega), cond_true, idx_at h, Option.bind_some, I64_s (by omega)]
        have g0 : (t.gTexels[i].toList[((0 : Int).toNat)]?) = some t.gTexels[i][0] := vget _ 0 (by decide)
        have g1 : (t.gTexels[i].toList[((1 : Int).toNat)]?) = some t.gTexels[i][1] := vget _ 1 (by decide)
        have g2 : (t.gTexels[i].toList[((2 : Int).toNat)]?) = some t.gTexels[i][2] := vget _ 2 (by decide)
        have i0 : inRO 0 3 = some () := rfl
        have i1 : inRO 1 3 = some () := rfl
        have i2 : inRO 2 3 = some () := rfl
        simp only [i0, i1, i2, g0, g1, g2, Option.bind_some]
        refine T.bind (P := fun c => c = false → trG 256 t.gTexels[i]) ?_ fun c hc => T.cond (fun _ => T.ret (.inl rfl)) fun h0 => ?_
        · refine T.letO fun x hx => T.cond (fun _ => T.ret fun h => by cases h) fun h1 => T.letO fun y hy => T.ret fun h2 => ?_
          subst hx hy
          have h1 := imin3 (of_decide_eq_false h1)
          have h2 := imax3 (of_decide_eq_false h2)
          exact ⟨⟨h1.1, by omega⟩, ⟨h1.2.1, by omega⟩, h1.2.2, by omega⟩
        · refine T.mono (ih (i + 1) (by omega) (by omega)) fun o ho => ?_
          rcases ho with ho | ⟨ho, hp⟩
          · exact .inl ho
          · refine .inr ⟨ho, fun p hp' => ?_⟩
            rw [List.drop_eq_getElem_cons h] at hp'
            rcases List.mem_cons.1 hp' with rfl | hp'
            · exact hc h0
            · exact hp p hp'
      · obtain rfl : i = t.gTexels.length := by omega
        rw [df (by omega), cond_false]
        exact T.ret (.inr ⟨rfl, fun p hp => by rw [List.drop_length] at hp; cases hp⟩)
  refine T.bind (key N 0 (by omega) (by omega)) fun o ho => ?_
  rcases ho with rfl | ⟨rfl, hp⟩
  · exact T.ret fun h => by cases h
  · exact T.ret fun _ => ⟨hs, hn, fun p h => hp p (by simpa using h)⟩
theorem outT (N : Nat) (hN : 1000 < N) (most : Int) (l : List Int) (hl : l.length ≤ 500) : T (p_asset_outside N most l) (fun r => r = false → ∀ x ∈ l, 0 ≤ x ∧ x ≤ most) := by
  unfold p_asset_outside
  refine T.bind (P := fun r => r = false → ∀ x ∈ l, ¬ ¬ (0 ≤ x ∧ x ≤ most)) ?_ fun r hr => T.ret fun h x hx => Classical.not_not.1 (hr h x hx)
  unfold p_slices_ContainsFunc_int_int_outside_1 p_slices_IndexFunc_int_int_outside_1
  refine findT0 l (by omega) (fun x => ¬ (0 ≤ x ∧ x ≤ most)) (F := p_slices_IndexFunc_int_int_outside_1_L1 N l most) (fun k i h => ?_) (fun k => by rw [p_slices_IndexFunc_int_int_outside_1_L1, letO_e, df (by omega), cond_false]) (by omega)
  refine ⟨cond (decide (l[i] < 0)) true (decide (l[i] > most)), fun hc => ?_, ?_⟩
  · have : ¬ l[i] < 0 ∧ ¬ l[i] > most := by
      cases ha : decide (l[i] < 0) with
      | true => rw [ha] at hc; cases hc
      | false => rw [ha, cond_false] at hc; exact ⟨of_decide_eq_false ha, of_decide_eq_false hc⟩
    exact Classical.not_not.2 ⟨by omega, by omega⟩
  · rw [p_slices_IndexFunc_int_int_outside_1_L1, letO_e, dt (by omega), cond_true, idx_at h, Option.bind_some]
    rfl
structure MatG (m : S_api_Material) : Prop where
  kind : 0 ≤ m.gKind ∧ m.gKind < 256
  color : trG 65536 m.gColor
  rough : 0 ≤ m.gRough ∧ m.gRough < 65536
theorem matT (N : Nat) (hN : 1000 < N) (m : S_api_Material) : T (p_asset_Material N m) (fun c => c = 0 → MatG m) := by
  unfold p_asset_Material
  refine T.bind (P := fun c => c = false → MatG m) ?_ fun c hc => T.cond (fun _ => T.ret fun h => by cases h) fun h => T.ret fun _ => hc h
  refine T.bind (outT N hN 4 [m.gKind] (by simp)) fun r2 h2 => T.cond (fun _ => T.ret fun h => by cases h) fun c2 => ?_
  rw [v3_0, v3_1, v3_2, Option.bind_some, Option.bind_some, Option.bind_some]
  refine T.bind (outT N hN 65535 [m.gColor[0], m.gColor[1], m.gColor[2], m.gRough] (by simp)) fun r6 h6 => T.ret fun c6 => ?_
  have a := h2 c2 m.gKind (by simp)
  have b0 := h6 c6 m.gColor[0] (by simp)
  have b1 := h6 c6 m.gColor[1] (by simp)
  have b2 := h6 c6 m.gColor[2] (by simp)
  have b3 := h6 c6 m.gRough (by simp)
  exact ⟨⟨a.1, by omega⟩, ⟨⟨b0.1, by omega⟩, ⟨b1.1, by omega⟩, b2.1, by omega⟩, b3.1, by omega⟩
structure LigG (l : S_api_Light) : Prop where
  kind : 0 ≤ l.gKind ∧ l.gKind < 256
  color : trG 4294967296 l.gColor
  at_ : ptG l.gAt
  u : ptG l.gU
  v : ptG l.gV
theorem ligT (N : Nat) (hN : 1000 < N) (l : S_api_Light) : T (p_asset_Light N l) (fun c => c = 0 → LigG l) := by
  unfold p_asset_Light
  refine T.bind (P := fun c => c = false → (0 ≤ l.gKind ∧ l.gKind < 256) ∧ trG 4294967296 l.gColor) ?_ fun c hc => T.cond (fun _ => T.ret fun h => by cases h) fun h => ?_
  · refine T.bind (outT N hN 2 [l.gKind] (by simp)) fun r2 h2 => T.cond (fun _ => T.ret fun h => by cases h) fun c2 => ?_
    rw [show slcO l.gColor.toList 0 3 = some l.gColor.toList from slcV (m := 3) _, Option.bind_some]
    refine T.bind (outT N hN 1048576 l.gColor.toList (by simp)) fun r4 h4 => T.ret fun c4 => ?_
    have a := h2 c2 l.gKind (by simp)
    have b0 := h4 c4 l.gColor[0] (vmem _ (by decide))
    have b1 := h4 c4 l.gColor[1] (vmem _ (by decide))
    have b2 := h4 c4 l.gColor[2] (vmem _ (by decide))
    exact ⟨⟨a.1, by omega⟩, ⟨b0.1, by omega⟩, ⟨b1.1, by omega⟩, b2.1, by omega⟩
  obtain ⟨hk, hcol⟩ := hc h
  refine T.bind (P := fun c => c = false → ptG l.gAt ∧ ptG l.gU ∧ ptG l.gV) ?_ fun c hc => T.cond (fun _ => T.ret fun h => by cases h) fun h => ?_
  · exact T.bind (off2T N l.gAt) fun r6 h6 => T.cond (fun _ => T.ret fun h => by cases h) fun c6 => T.bind (off2T N l.gU) fun r7 h7 => T.cond (fun _ => T.ret fun h => by cases h) fun c7 => T.bind (off2T N l.gV) fun r8 h8 => T.ret fun c8 => ⟨h6 c6, h7 c7, h8 c8⟩
  obtain ⟨p1, p2, p3⟩ := hc h
  have g : LigG l := ⟨hk, hcol, p1, p2, p3⟩
  refine T.bind (P := fun _ => True) ?_ fun o _ => ?_
  · refine T.cond (fun _ => T.cond (fun _ => T.ret trivial) fun _ => T.bind (P := fun _ => True) ?_ fun _ _ => T.cond (fun _ => T.ret trivial) fun _ => T.ret trivial) fun _ => T.cond (fun _ => T.bind (P := fun _ => True) ?_ fun _ _ => T.cond (fun _ => T.ret trivial) fun _ => T.ret trivial) fun _ => T.ret trivial
    · exact T.letO fun _ _ => T.cond (fun _ => T.ret trivial) fun _ => T.ret trivial
    · exact T.letO fun _ _ => T.cond (fun _ => T.ret trivial) fun _ => T.ret trivial
  · cases o with
    | inl _ => exact T.ret fun _ => g
    | inr c => exact T.ret fun _ => g
end Go.UK

