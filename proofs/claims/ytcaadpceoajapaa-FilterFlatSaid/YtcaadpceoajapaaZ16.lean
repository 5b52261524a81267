/- A part of the proof: what the functions of the program compute. -/
import Derived.Test.YtcaadpceoajapaaZ15
namespace Go.UK
open Go Go.Proofs
set_option maxRecDepth 20000
set_option maxHeartbeats 2000000
set_option linter.all false
theorem atV_mem {p : S_api_Plane} {w h d : Nat} (ok : PlaneOK p w h d) (x y : Int) {k : Nat} (hk : k < d) : atV p w h d x y k ∈ p.gData :=
  List.mem_of_getElem? (idx_get (atV_get ok x y hk))
theorem convL1 (N : Nat) {wt : Vector Int 9} (hw : ∀ i, i < 9 → 0 ≤ wc wt i ∧ wc wt i ≤ 4096) : ∀ (k i : Nat) (s : Int), i ≤ 9 → 9 - i < k → 0 ≤ s → s ≤ 4096 * i → p_filter_Convolve_L1 N wt k s (i : Int) = some (Sum.inl (s + ((List.range' i (9 - i)).map (wc wt)).sum))
  | 0, i, _, _, h, _, _ => by omega
  | k + 1, i, s, hi, hk, h0, h1 => by
    rw [p_filter_Convolve_L1]
    by_cases h : i < 9
    · obtain ⟨a, b⟩ := hw i h
      rw [dt (show (i : Int) < 9 by omega), cond_true, idx_getD (l := wt.toList) (by simp; omega) 0, Option.bind_some, letO_e]
      show cond (cond (decide (wc wt i < 0)) true (decide (wc wt i > 4096))) _ _ = _
      rw [df (show ¬ wc wt i < 0 by omega), df (show ¬ wc wt i > 4096 by omega), cond_false, cond_false]
      show p_filter_Convolve_L1 N wt k (I64 (s + wc wt i)) (I64 ((i : Int) + 1)) = _
      rw [I64_s (i := i) (by omega), I64_id (x := s + wc wt i) (by omega) (by omega), convL1 N hw k (i + 1) _ (by omega) (by omega) (by omega) (by omega), show 9 - i = (9 - (i + 1)) + 1 by omega, List.range'_succ, List.map_cons, List.sum_cons, Int.add_assoc]
    · rw [df (by omega), cond_false, show 9 - i = 0 by omega]
      simp
theorem convL1' (N : Nat) (hN : 10 < N) {wt : Vector Int 9} (hw : ∀ i, i < 9 → 0 ≤ wc wt i ∧ wc wt i ≤ 4096) : p_filter_Convolve_L1 N wt N 0 0 = some (Sum.inl (W9 wt)) := by
  have := convL1 N hw N 0 0 (by omega) (by omega) (by omega) (by omega)
  rw [show ((0 : Nat) : Int) = 0 from rfl] at this
  rw [this]
  congr 2
  show 0 + (wc wt 0 + (wc wt 1 + (wc wt 2 + (wc wt 3 + (wc wt 4 + (wc wt 5 + (wc wt 6 + (wc wt 7 + (wc wt 8 + 0))))))))) = W9 wt
  unfold W9
  omega
/-- the weights, made of bytes -/
theorem flatW (N : Nat) (hN : 10 < N) (b : Vector Int 9) (hb : ∀ a ∈ b.toList, 0 ≤ a ∧ a < 256) : ∃ v : Vector Int 9, p_umbralaw42_FilterFlat_L1 N b N (Vector.replicate 9 0) 0 = some v ∧ ∃ e, v.toList[4]? = some e ∧
    (∀ i, i < 9 → 0 ≤ wc (v.setIfInBounds 4 (I64 (e + 1))) i ∧ wc (v.setIfInBounds 4 (I64 (e + 1))) i ≤ 4096) ∧ 0 < W9 (v.setIfInBounds 4 (I64 (e + 1))) := by
  have hb' : ∀ i, i < 9 → 0 ≤ wc b i ∧ wc b i < 256 := fun i hi => by
    unfold wc
    rw [List.getD_eq_getElem?_getD, List.getElem?_eq_getElem (by simp; omega)]
    exact hb _ (List.getElem_mem _)
  obtain ⟨v, h1, h2⟩ := loopVec0 (m := 9) (by decide) (fun i => wc b i) (p_umbralaw42_FilterFlat_L1 N b) (fun k v i hi => by
    rw [p_umbralaw42_FilterFlat_L1, dt (show (i : Int) < 9 by omega), cond_true, idx_getD (l := b.toList) (by simp; omega) 0, Option.bind_some, inRO_ok (by omega) (by omega), Option.bind_some, Int.toNat_natCast, vec_get? v hi, Option.bind_some]
    have := hb' i hi
    show p_umbralaw42_FilterFlat_L1 N b k (v.setIfInBounds i (I64 (wc b i))) _ = _
    rw [I64_id (x := wc b i) (by omega) (by omega)]) (fun k v => by rw [p_umbralaw42_FilterFlat_L1, df (by omega), cond_false]) (N := N) (by omega) (Vector.replicate 9 0)
  refine ⟨v, h1, wc b 4, by rw [h2]; rfl, ?_⟩
  have h4 := hb' 4 (by decide)
  have e : ∀ i, i < 9 → wc (v.setIfInBounds 4 (I64 (wc b 4 + 1))) i = if i = 4 then wc b 4 + 1 else wc b i := by
    intro i hi
    rw [I64_id (x := wc b 4 + 1) (by omega) (by omega)]
    show (v.setIfInBounds 4 (wc b 4 + 1)).toList.getD i 0 = _
    rw [show (v.setIfInBounds 4 (wc b 4 + 1)).toList = v.toList.set 4 (wc b 4 + 1) by simp, h2, List.getD_eq_getElem?_getD, List.getElem?_set]
    by_cases h : i = 4
    · subst h; simp
    · rw [if_neg (fun e => h e.symm), if_neg h, List.getElem?_map, List.getElem?_range hi]
      rfl
  constructor
  · intro i hi
    rw [e i hi]
    have := hb' i hi
    split <;> omega
  · unfold W9
    rw [e 0 (by decide), e 1 (by decide), e 2 (by decide), e 3 (by decide), e 4 (by decide), e 5 (by decide), e 6 (by decide), e 7 (by decide), e 8 (by decide)]
    have := hb' 0 (by decide); have := hb' 1 (by decide); have := hb' 2 (by decide); have := hb' 3 (by decide)
    have := hb' 5 (by decide); have := hb' 6 (by decide); have := hb' 7 (by decide); have := hb' 8 (by decide)
    rw [if_neg (by decide), if_neg (by decide), if_neg (by decide), if_neg (by decide), if_pos rfl, if_neg (by decide), if_neg (by decide), if_neg (by decide), if_neg (by decide)]
    omega
theorem flatL2 (N : Nat) (q : S_api_Plane) (n : Int) (hl : q.gData.length ≤ 16384) : ∀ (k i : Nat) (s : List Int) (lo hi : Int), s.length = i → i ≤ q.gData.length → q.gData.length - i < k →
    p_umbralaw42_FilterFlat_L2 N (q.gData.length : Int) q n k s lo hi (i : Int) = some (s ++ List.replicate (q.gData.length - i) (I64 n), (q.gData.drop i).foldl imin lo, (q.gData.drop i).foldl imax hi)
  | 0, i, _, _, _, _, _, h => by omega
  | k + 1, i, s, lo, hi, hs, hi', hk => by
    rw [p_umbralaw42_FilterFlat_L2]
    by_cases h : i < q.gData.length
    · rw [dt (show (i : Int) < (q.gData.length : Int) by omega), cond_true, idx_at h, Option.bind_some, appO8 (by omega) (by simp), Option.bind_some, I64_s (i := i) (by omega), flatL2 N q n hl k (i + 1) _ _ _ (by simp [hs]) (by omega) (by omega), List.drop_eq_getElem_cons h, List.foldl_cons, List.foldl_cons, List.append_assoc, show q.gData.length - i = (q.gData.length - (i + 1)) + 1 by omega, List.replicate_succ]
      rfl
    · rw [df (by omega), cond_false, List.drop_of_length_le (by omega), show q.gData.length - i = 0 by omega]
      simp
theorem foldl_imin : ∀ (l : List Int) (lo : Int), l.foldl imin lo ≤ lo ∧ ∀ x ∈ l, l.foldl imin lo ≤ x
  | [], lo => ⟨Int.le_refl _, fun x h => by cases h⟩
  | a :: l, lo => by
    obtain ⟨h1, h2⟩ := foldl_imin l (imin lo a)
    have h3 : imin lo a ≤ lo ∧ imin lo a ≤ a := by unfold imin; split <;> omega
    rw [List.foldl_cons]
    refine ⟨by omega, fun x hx => ?_⟩
    rcases List.mem_cons.1 hx with e | e
    · subst e; omega
    · exact h2 x e
theorem foldl_imax : ∀ (l : List Int) (hi : Int), hi ≤ l.foldl imax hi ∧ ∀ x ∈ l, x ≤ l.foldl imax hi
  | [], hi => ⟨Int.le_refl _, fun x h => by cases h⟩
  | a :: l, hi => by
    obtain ⟨h1, h2⟩ := foldl_imax l (imax hi a)
    have h3 : hi ≤ imax hi a ∧ a ≤ imax hi a := by unfold imax; split <;> omega
    rw [List.foldl_cons]
    refine ⟨by omega, fun x hx => ?_⟩
    rcases List.mem_cons.1 hx with e | e
    · subst e; omega
    · exact h2 x e
theorem flatL3 (N : Nat) (c m : S_api_Plane × Int) (t : List Int × Int × Int) (hl : c.1.gData.length < 9223372036854775807) (hm : m.1.gData.length = c.1.gData.length) (hc : ∀ x ∈ c.1.gData, t.2.1 ≤ x ∧ x ≤ t.2.2) (hmm : ∀ x ∈ m.1.gData, t.2.1 ≤ x ∧ x ≤ t.2.2) : ∀ (k i : Nat), i ≤ c.1.gData.length → c.1.gData.length - i < k →
    p_umbralaw42_FilterFlat_L3 N (c.1.gData.length : Int) c t m k (i : Int) = some (Sum.inl ())
  | 0, i, _, h => by omega
  | k + 1, i, hi, hk => by
    rw [p_umbralaw42_FilterFlat_L3]
    by_cases h : i < c.1.gData.length
    · obtain ⟨a1, a2⟩ := hc _ (List.getElem_mem h)
      obtain ⟨b1, b2⟩ := hmm _ (List.getElem_mem (show i < m.1.gData.length by omega))
      rw [dt (show (i : Int) < (c.1.gData.length : Int) by omega), cond_true, idx_at h, Option.bind_some, df (show ¬ c.1.gData[i] < t.2.1 by omega), cond_false, Option.bind_some, df (show ¬ c.1.gData[i] > t.2.2 by omega), cond_false, idx_at (show i < m.1.gData.length by omega), Option.bind_some, df (show ¬ m.1.gData[i] < t.2.1 by omega), cond_false, Option.bind_some, df (show ¬ m.1.gData[i] > t.2.2 by omega), Option.bind_some, cond_false, I64_s (i := i) (by omega), flatL3 N c m t hl hm hc hmm k (i + 1) (by omega) (by omega)]
    · rw [df (by omega), cond_false]
theorem mkP_mem {p : S_api_Plane} {w h d : Nat} {f : Nat → Nat → Nat → Int} (hw : 1 ≤ w) (hd : 1 ≤ d) {lo hi : Int} (hf : ∀ x y k, x < w → y < h → k < d → lo ≤ f x y k ∧ f x y k ≤ hi) : ∀ v ∈ (mkP p w h d f).gData, lo ≤ v ∧ v ≤ hi := by
  intro v hv
  unfold mkP eachV at hv
  dsimp only at hv
  obtain ⟨i, hi', rfl⟩ := List.mem_map.1 hv
  have hi' := List.mem_range.1 hi'
  refine hf _ _ _ (Nat.mod_lt _ (by omega)) ?_ (Nat.mod_lt _ (by omega))
  rw [Nat.div_div_eq_div_mul, Nat.div_lt_iff_lt_mul (Nat.mul_pos (by omega) (by omega))]
  rw [show h * (d * w) = w * h * d by rw [Nat.mul_comm d w, ← Nat.mul_assoc, Nat.mul_comm h w]]; exact hi'
theorem filterFlatT (K : Nat) (hN : 16385 < K + 16) {q : S_api_Plane} (hs : Small42 q (K + 16)) {p : S_api_Plane} (hq : p_umbralaw42_few (K + 16) p = some q) {n : Int} (hn0 : 0 ≤ n) (hn1 : n < 65536) {b : Vector Int 9} (hb : ∀ a ∈ b.toList, 0 ≤ a ∧ a < 256) :
    p_umbralaw42_FilterFlat (K + 16) p n b = some true := by
  unfold p_umbralaw42_FilterFlat
  rw [hq, Option.bind_some, pamCheck _ q hs, Option.bind_some]
  cases hc : (chk q != 0) with
  | true => rw [cond_true, works42]; rfl
  | false =>
    have h0 : chk q = 0 := by simpa using hc
    obtain ⟨w, h, d, ok⟩ := planeOK_of h0
    have hn := name_ok h0
    obtain ⟨v, w1, e, w2, w3, w4⟩ := flatW (K + 16) (by omega) b hb
    have hl : q.gData.length ≤ 16384 := by rw [ok.len]; exact dim_bd ok.w2 ok.h2 ok.d2
    have L2 := flatL2 (K + 16) q n hl (K + 16) 0 [] 65535 0 rfl (by omega) (by omega)
    rw [List.drop_zero, List.nil_append, Nat.sub_zero, I64_id (x := n) (by omega) (by omega), show ((0 : Nat) : Int) = 0 from rfl] at L2
    obtain ⟨_, m1⟩ := foldl_imin q.gData 65535
    obtain ⟨_, m2⟩ := foldl_imax q.gData 0
    generalize q.gData.foldl imin 65535 = lo at L2 m1
    generalize q.gData.foldl imax 0 = hi at L2 m2
    rw [cond_false, w1, Option.bind_some, show inRO 4 9 = some () from rfl, Option.bind_some, show (4 : Int).toNat = 4 from rfl, w2, Option.bind_some, Option.bind_some, Option.bind_some, letO_e, L2, Option.bind_some]
    generalize v.setIfInBounds 4 (I64 (e + 1)) = wt at *
    have okf : PlaneOK (S_api_Plane.mk q.gW q.gH q.gDeep q.gName (List.replicate q.gData.length n)) w h d :=
      ⟨ok.W, ok.H, ok.D, ok.w1, ok.w2, ok.h1, ok.h2, ok.d1, ok.d2, by simp [ok.len], fun x hx => by have := List.eq_of_mem_replicate hx; omega⟩
    have cL := convL1' (K + 16) (by omega) w3
    have hnf : badName (S_api_Plane.mk q.gW q.gH q.gDeep q.gName (List.replicate q.gData.length n)).gName = false := hn
    have flatNum : ∀ (num : Nat → Nat → Nat → Int), (∀ x y k, x < w → y < h → k < d → n ≤ num x y k ∧ num x y k ≤ n) → mkP (S_api_Plane.mk q.gW q.gH q.gDeep q.gName (List.replicate q.gData.length n)) w h d num = S_api_Plane.mk q.gW q.gH q.gDeep q.gName (List.replicate q.gData.length n) := by
      intro num hnum
      refine Eq.trans ?_ (mkP_self okf)
      refine mkP_congr ok.d1 ok.w1 (fun x y k hx hy hk => ?_)
      have a1 := hnum x y k hx hy hk
      have a2 : atV (S_api_Plane.mk q.gW q.gH q.gDeep q.gName (List.replicate q.gData.length n)) w h d (x : Int) (y : Int) k = n := List.eq_of_mem_replicate (atV_mem okf _ _ hk)
      rw [a2]; omega
    have nbf : ∀ (x y k i : Nat), k < d → n ≤ nb (S_api_Plane.mk q.gW q.gH q.gDeep q.gName (List.replicate q.gData.length n)) w h d x y k i ∧ nb (S_api_Plane.mk q.gW q.gH q.gDeep q.gName (List.replicate q.gData.length n)) w h d x y k i ≤ n := by
      intro x y k i hk
      have : nb (S_api_Plane.mk q.gW q.gH q.gDeep q.gName (List.replicate q.gData.length n)) w h d x y k i = n := List.eq_of_mem_replicate (atV_mem okf _ _ hk)
      omega
    have f1 := convP (K + 16) hN okf (small_ok okf hnf hN) (chk_ok okf hnf) cL w4
    rw [flatNum _ (fun x y k hx hy hk => convV_bd okf w3 w4 hk (fun i _ => nbf x y k i hk))] at f1
    have f2 : p_filter_Median (K + 16) (S_api_Plane.mk q.gW q.gH q.gDeep q.gName (List.replicate q.gData.length n)) = some (mkP (S_api_Plane.mk q.gW q.gH q.gDeep q.gName (List.replicate q.gData.length n)) w h d (medF (S_api_Plane.mk q.gW q.gH q.gDeep q.gName (List.replicate q.gData.length n)) w h d), 0) := medianP (K + 16) hN okf (small_ok okf hnf hN) (chk_ok okf hnf)
    rw [flatNum _ (fun x y k hx hy hk => medF_rng okf x y k hx hy hk (fun i _ => nbf x y k i hk))] at f2
    have nbq : ∀ (x y k i : Nat), k < d → lo ≤ nb q w h d x y k i ∧ nb q w h d x y k i ≤ hi := fun x y k i hk => ⟨m1 _ (atV_mem ok _ _ hk), m2 _ (atV_mem ok _ _ hk)⟩
    have g1 := convP (K + 16) hN ok hs h0 cL w4
    have g2 := medianP (K + 16) hN ok hs h0
    have c1 := mkP_mem (p := q) (f := convV q w h d wt (W9 wt)) (h := h) ok.w1 ok.d1 (fun x y k hx hy hk => convV_bd ok w3 w4 hk (fun i _ => nbq x y k i hk))
    have c2 := mkP_mem (p := q) (f := fun x y k => medV (nbs q w h d x y k)) (h := h) ok.w1 ok.d1 (fun x y k hx hy hk => medF_rng ok x y k hx hy hk (fun i _ => nbq x y k i hk))
    have n1 : (mkP q w h d (convV q w h d wt (W9 wt))).gData.length = q.gData.length := (eachV_len _ _ _ _).trans ok.len.symm
    have n2 : (mkP q w h d (fun x y k => medV (nbs q w h d x y k))).gData.length = q.gData.length := (eachV_len w h d (fun x y k => medV (nbs q w h d x y k))).trans ok.len.symm
    generalize mkP q w h d (convV q w h d wt (W9 wt)) = C at *
    generalize mkP q w h d (fun x y k => medV (nbs q w h d x y k)) = M at *
    have z : ((0 : Int) != 0) = false := rfl
    have ll : (S_api_Plane.mk q.gW q.gH q.gDeep q.gName (List.replicate q.gData.length n)).gData.length ≤ 16384 := by simp; exact hl
    have f3 := same30Self (K + 16) (S_api_Plane.mk q.gW q.gH q.gDeep q.gName (List.replicate q.gData.length n)) ll hN
    have L3 := flatL3 (K + 16) (C, 0) (M, 0) (List.replicate q.gData.length n, lo, hi) (by dsimp only; omega) (by dsimp only; omega) c1 c2 (K + 16) 0 (by omega) (by dsimp only; omega)
    rw [show ((0 : Nat) : Int) = 0 from rfl] at L3
    dsimp only at L3
    rw [f1, Option.bind_some, f2, Option.bind_some, letO_e, z, cond_false, cond_false, f3, Option.bind_some, Bool.not_true, cond_false, Option.bind_some, Option.bind_some, Bool.not_true, cond_false, g1, Option.bind_some, g2, Option.bind_some]
    simp only [letO_e]
    rw [z, cond_false, n1, n2, show ((q.gData.length : Int) != (q.gData.length : Int)) = false by simp, cond_false, cond_false, cond_false]
    rw [n1] at L3
    rw [L3, Option.bind_some]
    show Option.bind (p_umbralaw42_works (K + 16)) _ = _
    rw [works42]
    rfl
theorem filterFlatFn (p : S_api_Plane) (op : p.ok) (n : Int) (on : (Lit.int .u16 n).wf = true) (b : Vector Int 9) (ob : ∀ a ∈ b.toList, (Lit.int .u8 a).wf = true) : FnM Try.prog 14 [] [p.enc, k16 n, eA 9 1 k8 b] (eB true) [] := by
  have hn : 0 ≤ n ∧ n < 65536 := by
    simp [Lit.wf, IntKind.min, IntKind.max, IntKind.signed, IntKind.bits] at on
    omega
  refine umbralaw42_FilterFlat_ok (filterFlatT 16370 (by decide) (few42_small p (N := 16370 + 16) (by decide)) (few42_e _ p) hn.1 hn.2 (fun a ha => ?_))
  have := ob a ha
  simp [Lit.wf, IntKind.min, IntKind.max, IntKind.signed, IntKind.bits] at this
  omega
end Go.UK
