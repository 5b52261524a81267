/- A part of the proof: what the functions of the program compute. -/
import Derived.Test.YtljnaeghnleipaaR3
namespace Go.UK
open Go Go.Proofs
set_option maxRecDepth 20000
set_option maxHeartbeats 1000000
set_option linter.all false
theorem T.vec {α : Type} {n : Nat} {l : List α} (h : n ≤ l.length) : T (vecO n l) (fun v => v.toList = l.take n) := by
 unfold vecO
 rw [dif_pos h]
 exact ⟨_, rfl, by simp⟩
theorem T.app {α : Type} {b : Nat} {l r : List α} (h : (l.length + r.length) * b ≤ 140737488355328) : T (appO b l r) (fun x => x = l ++ r) := ⟨_, appO_ok h, rfl⟩
theorem imin_nat (a b : Nat) : imin (a : Int) (b : Int) = ((min a b : Nat) : Int) := by unfold imin; split <;> omega
theorem clampT (N : Nat) (hN : 20 < N) (v : Vector Int 16) : T (p_poly_Clamp N v) (fun _ => True) := by
 unfold p_poly_Clamp
 refine T.bind (T.loop0 (n := 4) (by decide) (fun _ _ => True) (F := p_poly_Clamp_L1 N) (fun k s i hi _ Q hk => ?_) (fun k s => by rw [p_poly_Clamp_L1, df (by omega), cond_false]) (by omega) trivial) fun v _ => T.ret trivial
 rw [p_poly_Clamp_L1, dt (by omega), cond_true, show (4 : Int) = ((4 : Nat) : Int) from rfl, i4 (by omega)]
 have f3 : I64 (((4 * i : Nat) : Int) + 3) = ((4 * i + 3 : Nat) : Int) := by rw [I64_id (by omega) (by omega)]; omega
 rw [f3]
 refine T.bind (P := fun _ => True) ?_ fun _ _ => by rw [I64_s (by omega)]; exact hk _ trivial
 refine T.letO fun x hx => ?_
 subst hx
 refine T.bind (T.inRO (by omega) (by omega)) fun _ _ => T.bind (T.vget (by omega)) fun _ _ => T.bind (T.inRO (by omega) (by omega)) fun _ _ => T.bind (T.vget (by omega)) fun _ _ => ?_
 refine T.cond (fun _ => ?_) (fun _ => T.ret trivial)
 exact T.bind (T.inRO (by omega) (by omega)) fun _ _ => T.bind (T.vget (by omega)) fun _ _ => T.bind (T.inRO (by omega) (by omega)) fun _ _ => T.bind (T.vget (by omega)) fun _ _ => T.ret trivial
theorem newT (N : Nat) (hN : 20 < N) (key : Vector Int 32) : T (p_poly_New N key) (fun r => isU r.1 ∧ isU r.2.1 ∧ isU r.2.2.1 ∧ isU r.2.2.2) := by
 unfold p_poly_New
 refine T.bind (T.slc (by decide) (by decide) (by simp)) fun s1 h1 => T.bind (T.vec (by have := h1.2; omega)) fun v2 _ => T.bind (clampT N hN v2) fun r3 _ => ?_
 refine T.bind (T.slc (by decide) (by decide) (by simp)) fun s4 h4 => T.bind (numPT N hN s4 (by have := h4.2; omega)) fun r5 h5 => ?_
 refine T.bind (T.slc (by decide) (by decide) (by simp)) fun s6 h6 => T.bind (numPT N hN s6 (by have := h6.2; omega)) fun r7 h7 => ?_
 refine T.bind (T.slc (by decide) (by decide) (by simp)) fun s8 h8 => T.bind (numPT N hN s8 (by have := h8.2; omega)) fun r9 h9 => ?_
 refine T.bind (T.slc (by decide) (by decide) (by simp)) fun s10 h10 => T.bind (numPT N hN s10 (by have := h10.2; omega)) fun r11 h11 => ?_
 exact T.ret ⟨h5, h7, h9, h11⟩
theorem cpV17 (s : List Int) : ∃ v, cpV (Vector.replicate 17 (0 : Int)) s 0 16 = some v := by
 unfold cpV
 rw [dif_pos (by decide)]
 exact ⟨_, rfl⟩
theorem blocksL (N : Nat) : ∀ (k : Nat) (s : List (Vector Int 17)) (m : List Int), m.length < k → m.length ≤ 65536 → s.length ≤ 1000000 - m.length → T (p_poly_Blocks_L1 N k s m) (fun r => r.length = s.length + (m.length + 15) / 16)
 | 0, _, _, h, _, _ => by omega
 | k + 1, s, m, h, hm, hs => by
  rw [p_poly_Blocks_L1]
  refine T.letO fun x hx => ?_
  subst hx
  refine T.cond (fun hc => ?_) (fun hc => ?_)
  ·have hc : 0 < m.length := by simpa using hc
   refine T.bind (o := slcB 17 0 16) ⟨(), rfl, trivial⟩ fun _ (_ : True) => ?_
   obtain ⟨v, hv⟩ := cpV17 m
   rw [hv, Option.bind_some]
   refine T.letO fun x hx => ?_
   subst hx
   refine T.bind (T.inRO (by omega) (by omega)) fun _ _ => T.bind (T.vget (by omega)) fun _ _ => T.bind (T.app (by simp; omega)) fun z hz => ?_
   subst hz
   refine T.bind (T.slc (by omega) (by omega) (by omega)) fun s14 h14 => ?_
   have h15 := h14.2
   refine T.mono (blocksL N k _ s14 (by omega) (by omega) (by simp; omega)) fun r hr => ?_
   simp at hr
   omega
  ·have hc : m.length = 0 := by have := of_decide_eq_false hc; omega
   exact T.ret (by omega)
theorem blocksT (N : Nat) (m : List Int) (h : m.length < N) (hm : m.length ≤ 65536) : T (p_poly_Blocks N m) (fun r => r.length = (m.length + 15) / 16) := by
 unfold p_poly_Blocks
 refine T.letO fun x hx => ?_
 have hx : x = (m.length : Int) := by rw [hx]; unfold imin; split <;> omega
 subst hx
 refine T.bind (T.slc (by omega) (by omega) (by omega)) fun s3 h3 => ?_
 have := h3.2
 refine T.bind (blocksL N N [] s3 (by omega) (by omega) (by rw [List.length_nil]; omega)) fun r hr => T.ret ?_
 rw [List.length_nil] at hr
 omega
theorem addL1 (N : Nat) (ms : List (List Int)) (hms : ms.length < 1000) : ∀ (k i : Nat) (s : List Int) (n : Nat), i ≤ ms.length → ms.length - i < k → n ≤ 65536 → s.length ≤ n → T (p_poly_Mac_Add_rd_L1 N ms k s (n : Int) (i : Int)) (fun r => r.1.length ≤ 65536)
 | 0, _, _, _, _, h, _, _ => by omega
 | k + 1, i, s, n, hi, hk, hn, hs => by
  rw [p_poly_Mac_Add_rd_L1, letO_e]
  by_cases h : i < ms.length
  ·rw [dt (by omega), cond_true]
   refine T.bind (T.idx (by omega) (by omega)) fun e6 h6 => ?_
   have f : I64 (65536 - (n : Int)) = ((65536 - n : Nat) : Int) := by rw [I64_id (by omega) (by omega)]; omega
   rw [f, letO_e, imin_nat]
   refine T.bind (T.slc (by omega) (by omega) (by omega)) fun s9 h9 => ?_
   have h10 := h9.2
   rw [letO_e]
   refine T.bind (T.app (by omega)) fun z hz => ?_
   subst hz
   have f2 : I64 ((n : Int) + (s9.length : Int)) = ((n + s9.length : Nat) : Int) := by rw [I64_id (by omega) (by omega)]; omega
   rw [f2, I64_s (by omega)]
   exact addL1 N ms hms k (i + 1) _ _ (by omega) (by omega) (by omega) (by rw [List.length_append]; omega)
  ·rw [df (by omega), cond_false]
   exact T.ret (by dsimp only; omega)
theorem addL2 (N : Nat) (hN : 20 < N) : ∀ (k : Nat) (h : Vector Int 3) (made : Bool) (r0 r1 s0 s1 : Int) (rest : List Int) (all : Int), allU h → rest.length < k → rest.length ≤ 65536 →
  T (p_poly_Mac_Add_rd_L2 N k h made r0 r1 s0 s1 rest all) (fun r => allU r.1 ∧ r.2.1 = made ∧ r.2.2.1 = r0 ∧ r.2.2.2.1 = r1 ∧ r.2.2.2.2.1 = s0 ∧ r.2.2.2.2.2.1 = s1 ∧ r.2.2.2.2.2.2.1.length < 16)
 | 0, _, _, _, _, _, _, _, _, _, h, _ => by omega
 | k + 1, h, made, r0, r1, s0, s1, rest, all, hh, hk, hl => by
  rw [p_poly_Mac_Add_rd_L2]
  refine T.letO fun x hx => ?_
  subst hx
  refine T.cond (fun hc => ?_) (fun hc => ?_)
  ·have hc : 16 ≤ rest.length := by have := of_decide_eq_true hc; omega
   refine T.bind (T.slc (by omega) (by omega) (by omega)) fun s22 h22 => ?_
   have h23 := h22.2
   refine T.bind (blocksT N s22 (by omega) (by omega)) fun r23 hr => T.bind (T.idx (by omega) (by omega)) fun e24 _ => ?_
   refine T.bind (step_rddd_q N hN e24 r0 r1 _ hh) fun r25 hr25 => ?_
   obtain ⟨g1, g2⟩ := hr25
   obtain ⟨h', q⟩ := r25
   dsimp only at g1 g2
   subst g2
   dsimp only
   refine T.bind (T.slc (by omega) (by omega) (by omega)) fun s26 h26 => ?_
   have := h26.2
   exact addL2 N hN k h' made r0 r1 s0 s1 s26 all g1 (by omega) (by omega)
  ·have hc : rest.length < 16 := by have := of_decide_eq_false hc; omega
   exact T.ret ⟨hh, rfl, rfl, rfl, rfl, rfl, hc⟩
theorem z16 : vbytes (Vector.replicate 16 (0 : Int)) := by unfold vbytes bytesL isB; decide
theorem endT (N : Nat) (hN : 20 < N) (h : Vector Int 3) (hh : allU h) (s0 s1 : Int) (h0 : isU s0) (h1 : isU s1) : T (p_poly_sum_end N (S_poly_sum.mk h) s0 s1) vbytes := by
 unfold p_poly_sum_end
 refine T.bind (T.loop0 (n := 2) (by decide) (fun _ (v : Vector Int 3) => allU v) (F := p_poly_sum_end_L1 N) (fun k s i hi hs Q hk => ?_) (fun k s => by rw [p_poly_sum_end_L1, df (by omega), cond_false]) (by omega) hh) fun p1 hp => ?_
 ·rw [p_poly_sum_end_L1, dt (by omega), cond_true, I64_s (by omega)]
  refine T.bind (P := allU) ?_ fun v hv => hk v hv
  refine T.bind (T.inRO (by decide) (by decide)) fun _ _ => T.bind (T.vgetU hs (by decide)) fun e6 h6 => T.bind (T.add64 h6 isU5 ⟨by decide, by decide⟩) fun r7 h7 => ?_
  refine T.bind (T.inRO (by decide) (by decide)) fun _ _ => T.bind (T.vgetU hs (by decide)) fun e9 h9 => T.bind (T.add64 h9 isU0 h7.2) fun r10 h10 => ?_
  refine T.bind (T.inRO (by decide) (by decide)) fun _ _ => T.bind (T.vgetU hs (by decide)) fun e12 h12 => ?_
  refine T.letO fun _ _ => T.cond (fun _ => T.letO fun _ _ => T.ret (allU3 h7.1 h10.1 (isU_U _))) (fun _ => T.ret hs)
 refine T.bind (T.inRO (by decide) (by decide)) fun _ _ => T.bind (T.vgetU hp (by decide)) fun e17 h17 => T.bind (T.add64 h17 h0 ⟨by decide, by decide⟩) fun r18 h18 => ?_
 refine T.bind (T.inRO (by decide) (by decide)) fun _ _ => T.bind (T.vgetU hp (by decide)) fun e20 h20 => T.bind (T.add64 h20 h1 h18.2) fun r21 h21 => ?_
 refine T.bind (T.loop0 (n := 8) (by decide) (fun _ (v : Vector Int 16) => vbytes v) (F := p_poly_sum_end_L2 N r18 r21) (fun k s i hi hs Q hk => ?_) (fun k s => by rw [p_poly_sum_end_L2, df (by omega), cond_false]) (by omega) z16) fun p22 h22 => T.ret h22
 have vset : ∀ (v : Vector Int 16) (i : Nat) (x : Int), vbytes v → vbytes (v.setIfInBounds i (U8 x)) := by
  intro v i x hv y hy
  have e : (v.setIfInBounds i (U8 x)).toList = v.toList.set i (U8 x) := by simp
  rw [e] at hy
  rcases List.mem_or_eq_of_mem_set hy with h' | h'
  ·exact hv y h'
  ·rw [h']; exact U8_b _
 rw [p_poly_sum_end_L2, dt (by omega), cond_true, show (8 : Int) = ((8 : Nat) : Int) from rfl, i4 (by omega), ia (by omega), I64_s (by omega)]
 rw [shrO_ok .u64 (by omega), Option.bind_some, shrO_ok .u64 (by omega), Option.bind_some]
 refine T.bind (T.inRO (by omega) (by omega)) fun _ _ => T.bind (T.vget (by omega)) fun _ _ => T.bind (T.inRO (by omega) (by omega)) fun _ _ => T.bind (T.vget (by omega)) fun _ _ => ?_
 exact hk _ (vset _ _ _ (vset _ _ _ hs))
theorem sumT (N : Nat) (hN : 2000 < N) (m : S_poly_Mac) (hh : allU m.gsum.gh) (h0 : isU m.gs0) (h1 : isU m.gs1) (hr : m.grest.length ≤ 100) (hm : m.gmade = true) : T (p_poly_Mac_Sum_r N m) vbytes := by
 unfold p_poly_Mac_Sum_r
 rw [hm, Bool.not_true, cond_false]
 refine T.bind (blocksT N m.grest (by omega) (by omega)) fun r1 hr1 => ?_
 refine T.bind (T.loop0 (n := r1.length) (by omega) (fun _ (v : Vector Int 3) => allU v) (F := p_poly_Mac_Sum_r_L1 N r1 m) (fun k s i hi hs Q hk => ?_) (fun k s => by rw [p_poly_Mac_Sum_r_L1, letO_e, df (by omega), cond_false]) (by omega) hh) fun p2 hp2 => ?_
 ·rw [p_poly_Mac_Sum_r_L1, letO_e, dt (by omega), cond_true, I64_s (by omega)]
  exact T.bind (T.idx (by omega) (by omega)) fun e6 _ => T.bind (step_rddd_q_q N (by omega) e6 _ _ (S_poly_sum.mk s) hs) fun r7 h7 => hk r7 h7
 exact T.bind (endT N (by omega) p2 hp2 _ _ h0 h1) fun r8 h8 => T.ret h8
theorem tagT (N : Nat) (hN : 2000 < N) (key : Vector Int 32) (ms : List (List Int)) (hms : ms.length < 1000) (hl : 65536 < N) : T (p_poly_Tag N key ms) vbytes := by
 unfold p_poly_Tag
 refine T.bind (newT N (by omega) key) fun r1 h1 => ?_
 obtain ⟨u1, u2, u3, u4⟩ := h1
 refine T.bind (P := fun r => allU r.2.1 ∧ r.2.2.1 = true ∧ r.2.2.2.2.2.1 = r1.2.2.1 ∧ r.2.2.2.2.2.2.1 = r1.2.2.2 ∧ r.2.2.2.2.2.2.2.1.length < 16) ?_ fun r2 h2 => ?_
 ·unfold p_poly_Mac_Add_rd
  rw [Bool.not_true, cond_false]
  refine T.bind (addL1 N ms hms N 0 [] 0 (by omega) (by omega) (by omega) (by simp)) fun p1 hp1 => ?_
  refine T.bind (addL2 N (by omega) N _ true _ _ _ _ p1.1 p1.2 (allU3 isU0 isU0 isU0) (by omega) hp1) fun p12 hp => T.ret ?_
  obtain ⟨g1, g2, g3, g4, g5, g6, g7⟩ := hp
  exact ⟨g1, g2, g5, g6, g7⟩
 ·obtain ⟨g1, g2, g5, g6, g7⟩ := h2
  exact T.bind (sumT N hN _ g1 (by dsimp only; rw [g5]; exact u3) (by dsimp only; rw [g6]; exact u4) (by dsimp only; omega) g2) fun r3 h3 => T.ret h3
end Go.UK

