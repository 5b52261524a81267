/- A part of the proof: what the functions of the program compute. -/
import Derived.Test.YtmfanigkgeohiaaGreatJ3
namespace Go.UK
open Go Go.Proofs
set_option maxRecDepth 20000
set_option maxHeartbeats 2000000
set_option linter.all false
theorem nk {N c : Nat} (h : c ≤ N) : ∃ k, N = k + c := ⟨N - c, by omega⟩
section
variable {N : Nat} (hN : 1000 < N)
include hN
theorem aKv (p : aC) : T (fV N p) vin := by obtain ⟨k, rfl⟩ := nk (show 65 ≤ N by omega); exact yQ k p
theorem aLH {n : aB} (hn : vin n) (d : aC) : T (kU N n d) vin := by obtain ⟨k, rfl⟩ := nk (show 70 ≤ N by omega); exact aPC k hn d
theorem aIZ {c : Vector Int 3} (hc : ∀ x ∈ c.toList, 0 ≤ x ∧ x ≤ 65535) {l : List aD} (hl : aFk l) {u : Vector (Vector Int 2) 3} (hu : aNK u) {m : aQ} (hm : oV m) (i : Int) : T (lX N c l u m i) vin := by obtain ⟨k, rfl⟩ := nk (show 400 ≤ N by omega); exact aNF k hc hl hu hm i
theorem aNS {o d : aC} {m : aQ} (ho : pin o) (hd : pin d) (hm : oV m) : T (rF N o d m) pin := by obtain ⟨k, rfl⟩ := nk (show 3 ≤ N by omega); exact aPL k ho hd hm
theorem aLO {v : aB} (hv : vin v) : T (pP N v) cN := by obtain ⟨k, rfl⟩ := nk (show 65 ≤ N by omega); exact aPP k hv
theorem aP4 {l : aR} (h : uQ l) (p : aC) {n : aB} (hn : vin n) (v : Vector Int 2) : T (nZ N l p n v) (fun r => vin r.gB8) := by obtain ⟨k, rfl⟩ := nk (show 70 ≤ N by omega); exact lampT k h p hn v
theorem aIu {m : aO} (hm : aAr m) {c n : aB} (hc : vin c) (hn : vin n) (d : aC) (v : Vector Int 2) : T (jF N m c n d v) aE6 := by obtain ⟨k, rfl⟩ := nk (show 70 ≤ N by omega); exact aOS k hm hc hn d v
theorem aG4 {f : aB} (hf : vin f) (a : Int) : T (iU N f a) (fun r => vin r.1) := by obtain ⟨k, rfl⟩ := nk (show 70 ≤ N by omega); exact aMI k hf a
theorem aG8 (l : List aB) (h : ∀ x ∈ l, vin x) (hl : l.length ≤ 10) : T (iJ N l) vin := by obtain ⟨k, rfl⟩ := nk (show 3 ≤ N by omega); exact aBc k l h (by omega) (by omega)
theorem aPs {u v : aB} (hu : vin u) (hv : vin v) : lQ N [u, v] = some (aFW u v) := by obtain ⟨k, rfl⟩ := nk (show 3 ≤ N by omega); exact aKG k hu hv
theorem rayN (c : bM) (w h x y : Int) (v : Vector Int 4) : T (tG N c w h x y v) (fun r => pin r.1 ∧ pin r.2.1) := by obtain ⟨k, rfl⟩ := nk (show 6 ≤ N by omega); exact aMg k c w h x y v
theorem aM9 {f : aB} (hf : vin f) : iJ N [f, aB.mk 0 0 0] = some (aB.mk 0 0 0) := by
 obtain ⟨k, rfl⟩ := nk (show 3 ≤ N by omega)
 have h := pV k hf z64
 unfold fL at h
 obtain ⟨r, e, _⟩ := aBc k [f, aB.mk 0 0 0] (by intro x hx; simp at hx; rcases hx with rfl | rfl; exact hf; exact ⟨z64, z64, z64⟩) (by simp) (by simp)
 rw [e] at h ⊢
 have h' : r = aIN f 0 := Option.some.inj h
 rw [h']
 unfold aIN
 simp [S64]
end
theorem idxV {n : Nat} (v : Vector Int n) (i : Nat) (h : i < n) : idx v.toList (i : Int) = some v[i] := by rw [kE]; exact aGY v i h
def v0 : aB := aB.mk 0 0 0
theorem aEI : vin v0 := ⟨z64, z64, z64⟩
def aEi (p : aU) : Prop := pin p.gat ∧ vin p.gn ∧ vin p.gc ∧ aAr p.gA6
def aBz (r : aH) : Prop := pin r.go ∧ pin r.gd
theorem mat0 : aAr (aO.mk 0 (#v[0, 0, 0]) 0) := ⟨by intro x hx; simp at hx; omega, by decide, by decide⟩
section
variable {ι ρ ρ' β : Type}
def TC (A : ι → Option ρ) (P : ρ → Prop) : Prop := ∃ a, P a ∧ ∀ i, A i = some a
theorem TU.c {A : ι → Option ρ} {B : ι → ρ → Option ρ'} {P : ρ → Prop} {Q : β → Prop} {S : ι → β → ρ' → Prop} (h : TC A P) (hf : ∀ a, P a → TU (fun i => B i a) Q S) : TU (fun i => Option.bind (A i) (B i)) Q S := by
 obtain ⟨a, pa, e⟩ := h
 exact TU.e e (hf a pa)
theorem TC.of {o : Option ρ} {A : ι → Option ρ} {P : ρ → Prop} (h : T o P) (e : ∀ i, A i = o) : TC A P := by
 obtain ⟨a, rfl, pa⟩ := h
 exact ⟨a, pa, e⟩
theorem TC.bind {A : ι → Option ρ} {B : ι → ρ → Option ρ'} {P : ρ → Prop} {Q : ρ' → Prop} (h : TC A P) (hf : ∀ a, P a → TC (fun i => B i a) Q) : TC (fun i => Option.bind (A i) (B i)) Q := by
 obtain ⟨a, pa, e⟩ := h
 obtain ⟨b, qb, e'⟩ := hf a pa
 exact ⟨b, qb, fun i => by show Option.bind (A i) (B i) = _; rw [e i]; exact e' i⟩
theorem TC.t {α : Type} {o : Option α} {B : ι → α → Option ρ} {P : α → Prop} {Q : ρ → Prop} (h : T o P) (hf : ∀ a, P a → TC (fun i => B i a) Q) : TC (fun i => Option.bind o (B i)) Q := by
 obtain ⟨a, rfl, pa⟩ := h
 exact hf a pa
theorem TC.cond {c : Bool} {A B : ι → Option ρ} {Q : ρ → Prop} (h1 : c = true → TC A Q) (h2 : c = false → TC B Q) : TC (fun i => _root_.cond c (A i) (B i)) Q := by
 cases c with
 | true => exact h1 rfl
 | false => exact h2 rfl
theorem TC.ret (a : ρ) {Q : ρ → Prop} (h : Q a) : TC (fun _ : ι => some a) Q := ⟨a, h, fun _ => rfl⟩
end
def noR (_ _ _ : Int) : Prop := True
theorem aLF (a : Int) : noR a a 0 := trivial
theorem aLW {a b c n m : Int} (_ : noR a b n) (_ : noR b c m) : noR a c (n + m) := trivial
theorem noR_s {a b : Int} {n : Nat} (_ : noR a b (n : Int)) : noR a (I64 (b + 1)) ((n + 1 : Nat) : Int) := trivial
theorem aPt : vin (aB.mk 4294967296 4294967296 4294967296) := ⟨⟨by decide, by decide⟩, ⟨by decide, by decide⟩, by decide, by decide⟩
theorem aA3 {a b n m : Int} (h : kF a b n) (e : n = m) : kF a b m := e ▸ h
theorem aG3 {a b n m : Int} (h : noR a b n) (e : n = m) : noR a b m := trivial
set_option maxHeartbeats 4000000
section
variable {ι : Type} {N : Nat} (hN : 4100 < N) {b : List (List aD)} {s : aE} {v : aI} {sky : aB} (hr : Rdy b s v sky)
structure DrkS (D : Prop) (s : aE) (sky : aB) : Prop where
 sky : D → sky = v0
 lights : D → s.gJ = []
 mats : D → ∀ m ∈ s.gT, m.gO ≠ 4
include hN
theorem aGw (x : Int) (ray : ι → aH) (f l : ι → aB) (dep : Int) (ov : ι → Bool) (sm : ι → aF) (st : ι → aJ) (src : aA) (sw : ι → aK) :
  TC (fun i => cU N b x (ray i) (f i) (l i) dep (ov i) (sm i) s v sky (st i) src (sw i)) (fun _ => True) := by
 obtain ⟨a, e, _⟩ := aPo N (by omega) dep x src
 refine ⟨(a.1, a.2), trivial, fun i => ?_⟩
 unfold cU
 rw [e]; rfl
theorem addS (D : Prop) {c : List aB} (hc : ∀ x ∈ c, vin x) (hl : c.length ≤ 2) (ray : ι → aH) {f l : aB} (hf : vin f) (hlv : vin l) (hd : D → l = v0 ∧ c = [v0]) (dep : Int) (ov : Bool) (sm : ι → aF) (st : ι → aJ) (src : ι → aA) (sw : ι → aK) :
  TC (fun i => fP N b c (ray i) f l dep ov (sm i) s v sky (st i) (src i) (sw i)) (fun r => vin r ∧ (D → r = v0)) := by
 unfold fP
 refine TC.cond (fun _ => ?_) (fun _ => TC.ret _ ⟨hlv, fun h => (hd h).1⟩)
 refine TC.t (P := fun z => z = [f] ++ c) ⟨_, oK (by simp; omega), rfl⟩ fun z hz => ?_
 subst hz
 refine TC.t (P := fun r => vin r ∧ (D → r = v0)) ?_ fun r2 h2 => ?_
 ·by_cases hD : D
  ·rw [(hd hD).2]
   exact ⟨_, aM9 (by omega) hf, aEI, fun _ => rfl⟩
  ·exact (aG8 (by omega) _ (by intro x hx; simp at hx; rcases hx with rfl | hx; exact hf; exact hc x hx) (by simp; omega)).mono fun r h => ⟨h, fun h => absurd h hD⟩
 ·refine TC.t (P := fun r => r = aFW l r2) ⟨_, aPs (by omega) hlv h2.1, rfl⟩ fun r3 h3 => TC.ret _ ⟨by rw [h3]; exact aAf _ _, fun h => ?_⟩
  rw [h3, h2.2 h, (hd h).1]; rfl
omit hN in
theorem aMQ (x : ι → Bool) (ray : ι → aH) (f l : ι → aB) (dep : Int) (ov : ι → Bool) (sm : ι → aF) (st : ι → aJ) (src : ι → aA) (sw : ι → aK) :
  TC (fun i => dN N b (x i) (ray i) (f i) (l i) dep (ov i) (sm i) s v sky (st i) (src i) (sw i)) (fun _ => True) := ⟨(), trivial, fun i => rfl⟩
include hr
theorem meetS {gl : List aG} (hsw : aJC s.gK.length gl) (hcon : v.gA2 = true) (hfit : (s.gJ.length : Int) ≤ (eF v.gI).2) {ray : aH} (hray : aBz ray) (f l : aB) (dep : Int) (ov : Bool) (sm : aF) (st : ι → aJ) (src : aA) (t : ι → Int) :
  TU (fun i => kG N b ray f l dep ov sm s v sky (st i) src (swp gl (t i))) (fun a : aF × aU × Bool => aEi a.2.1 ∧ (a.2.1.gA6 ∈ s.gT ∨ a.2.1.gA6.gO = 0)) (fun i a r => ∃ x t', r = (a.1, x, swp gl t', a.2.1, a.2.2) ∧ kF (t i) t' (gl.length : Int) ∧ kF (st i).gN x 4) := by
 unfold kG
 refine TU.t (P := fun _ => True) (T.cond (fun _ => T.ret trivial) (fun _ => T.ret trivial)) fun p1 _ => ?_
 refine TU.bind (aMb N (by omega) hsw ray.go ray.gd p1 ray.gE2 t) fun a ha r hr' => ?_
 have h' : ∃ t' : ι → Int, ∀ i, r i = (swp gl (t' i), a) ∧ kF (t i) (t' i) (gl.length : Int) := ⟨fun i => (hr' i).choose, fun i => (hr' i).choose_spec⟩
 obtain ⟨t', e''⟩ := h'
 have e' : ∀ i, r i = (swp gl (t' i), a) := fun i => (e'' i).1
 simp only [e']
 have hx : ∀ i, ∃ x, (cond v.gA2 (some (I64 ((st i).gN + 4))) (some (st i).gN)) = some x ∧ kF (st i).gN x 4 := fun i => ⟨_, by rw [hcon]; rfl, cG (aKQ _) (aJs _), fun _ => cT _⟩
 have hx' : ∃ x : ι → Int, ∀ i, (cond v.gA2 (some (I64 ((st i).gN + 4))) (some (st i).gN)) = some (x i) ∧ kF (st i).gN (x i) 4 := ⟨fun i => (hx i).choose, fun i => (hx i).choose_spec⟩
 obtain ⟨x, ex⟩ := hx'
 simp only [fun i => (ex i).1, Option.bind_some]
 refine TU.cond (fun _ => ?_) (fun hc => ?_)
 ·exact TU.ret (sm, aU.mk 0 (aC.mk 0 0 0) (aB.mk 0 0 0) (aB.mk 0 0 0) (aO.mk 0 (#v[0, 0, 0]) 0) false, false) ⟨⟨⟨z64, z64, z64⟩, aEI, aEI, mat0⟩, Or.inr rfl⟩ fun i => ⟨x i, t' i, rfl, (e'' i).2, (ex i).2⟩
 have h0 := of_decide_eq_false hc
 refine TU.t (T.idx (by omega) (by omega)) fun e4 h4 => ?_
 have ht := hr.tri e4 (List.mem_of_getElem? h4)
 refine TU.t (T.inRO (by decide) (by decide)) fun _ _ => TU.t (T.vg (i := 1) (by decide)) fun e6 _ => TU.t (T.inRO (by decide) (by decide)) fun _ _ => TU.t (T.vg (i := 0) (by decide)) fun e8 _ => TU.t (aIx N _ _) fun r9 _ => ?_
 refine TU.t (T.inRO (by decide) (by decide)) fun _ _ => TU.t (T.vg (i := 2) (by decide)) fun e11 _ => TU.t (T.inRO (by decide) (by decide)) fun _ _ => TU.t (T.vg (i := 0) (by decide)) fun e13 _ => TU.t (aIx N _ _) fun r14 _ => ?_
 refine TU.t (aIM N _ _) fun r15 _ => TU.t (aKv (by omega) r15) fun r16 h16 => ?_
 refine TU.t (P := fun p : aU => pin p.gat ∧ vin p.gn ∧ aAr p.gA6 ∧ p.gA6 ∈ s.gT) ?_ fun p17 h17 => ?_
 ·refine T.bind (aNS (by omega) hray.1 hray.2 ha.2) fun r18 h18 => T.bind (aLH (by omega) h16 ray.gd) fun r19 h19 => T.bind (T.idx ht.1.1 ht.1.2) fun e20 h20 => ?_
  have hm := List.mem_of_getElem? h20
  refine T.cond (fun _ => ?_) (fun _ => T.ret ⟨h18, h19, hr.mat _ hm, hm⟩)
  rw [aT]
  exact T.ret ⟨h18, h19, hr.mat _ hm, hm⟩
 have hy : ∃ (lv : List aD), aFk lv ∧ ∀ i, ∃ y, (cond (decide (e4.gB0 ≥ 0)) (Option.bind (idx b e4.gB0) fun e23 => cond (!v.gA2) (some ((I64 (x i + 4), e23))) (some ((x i, e23)))) (some ((x i, [])))) = some (y, lv) ∧ kF (st i).gN y 4 := by
  by_cases h : e4.gB0 ≥ 0
  ·obtain ⟨lv, e, hl⟩ := T.idx h ht.2.1
   refine ⟨lv, hr.lev lv (List.mem_of_getElem? hl), fun i => ?_⟩
   rw [dt h, cond_true, e, Option.bind_some, hcon]
   exact ⟨x i, rfl, (ex i).2⟩
  ·refine ⟨[], ⟨by simp, fun t h => absurd h (by simp)⟩, fun i => ?_⟩
   rw [df h, cond_false]
   exact ⟨x i, rfl, (ex i).2⟩
 obtain ⟨lv, hlv, hy⟩ := hy
 have hy' : ∃ y : ι → Int, ∀ i, (cond (decide (e4.gB0 ≥ 0)) (Option.bind (idx b e4.gB0) fun e23 => cond (!v.gA2) (some ((I64 (x i + 4), e23))) (some ((x i, e23)))) (some ((x i, [])))) = some (y i, lv) ∧ kF (st i).gN (y i) 4 := ⟨fun i => (hy i).choose, fun i => (hy i).choose_spec⟩
 obtain ⟨y, ey⟩ := hy'
 simp only [fun i => (ey i).1, Option.bind_some]
 refine TU.t (aIZ (by omega) h17.2.2.1.1 hlv ht.2.2.1 ha.2 _) fun r24 h24 => ?_
 refine TU.t (P := fun _ => True) ?_ fun p25 _ => ?_
 ·rw [aT]
  refine T.cond (fun _ => ?_) (fun _ => T.ret trivial)
  refine T.eq (zI _ h17.1) (T.eq (zI _ hray.1) (T.eq (aEv _ (zL _) (zL _)) (T.bind (aLO (by omega) (aEh _ _)) fun _ _ => T.cond (fun _ => T.ret trivial) (fun _ => T.ret trivial))))
 ·exact TU.ret (p25, aU.mk p17.gi p17.gat p17.gn r24 p17.gA6 p17.gB6, true) ⟨⟨h17.1, h17.2.1, h24, h17.2.2.1⟩, Or.inl h17.2.2.2⟩ fun i => ⟨y i, t' i, rfl, (e'' i).2, (ey i).2⟩
end
section
variable {ι : Type} {N : Nat} (hN : 1000000000000 < N) {b : List (List aD)} {s : aE} {v : aI} {sky : aB} (hr : Rdy b s v sky)
structure DrkW (D : Prop) (s : aE) (sky : aB) : Prop where
 sky : D → sky = v0
 lights : D → s.gJ = []
 mats : D → ∀ m ∈ s.gT, m.gO ≠ 4
include hN
theorem aGm (x : Int) (ray : ι → aH) (f l : ι → aB) (dep : Int) (ov : ι → Bool) (sm : ι → aF) (st : ι → aJ) (src : aA) (sw : ι → aL) :
  TC (fun i => dJ N b x (ray i) (f i) (l i) dep (ov i) (sm i) s v sky (st i) src (sw i)) (fun _ => True) := by
 obtain ⟨a, e, _⟩ := aPo N (by omega) dep x src
 refine ⟨(a.1, a.2), trivial, fun i => ?_⟩
 unfold dJ
 rw [e]; rfl
theorem addW (D : Prop) {c : List aB} (hc : ∀ x ∈ c, vin x) (hl : c.length ≤ 2) (ray : ι → aH) {f l : aB} (hf : vin f) (hlv : vin l) (hd : D → l = v0 ∧ c = [v0]) (dep : Int) (ov : Bool) (sm : ι → aF) (st : ι → aJ) (src : ι → aA) (sw : ι → aL) :
  TC (fun i => iE N b c (ray i) f l dep ov (sm i) s v sky (st i) (src i) (sw i)) (fun r => vin r ∧ (D → r = v0)) := by
 unfold iE
 refine TC.cond (fun _ => ?_) (fun _ => TC.ret _ ⟨hlv, fun h => (hd h).1⟩)
 refine TC.t (P := fun z => z = [f] ++ c) ⟨_, oK (by simp; omega), rfl⟩ fun z hz => ?_
 subst hz
 refine TC.t (P := fun r => vin r ∧ (D → r = v0)) ?_ fun r2 h2 => ?_
 ·by_cases hD : D
  ·rw [(hd hD).2]
   exact ⟨_, aM9 (by omega) hf, aEI, fun _ => rfl⟩
  ·exact (aG8 (by omega) _ (by intro x hx; simp at hx; rcases hx with rfl | hx; exact hf; exact hc x hx) (by simp; omega)).mono fun r h => ⟨h, fun h => absurd h hD⟩
 ·refine TC.t (P := fun r => r = aFW l r2) ⟨_, aPs (by omega) hlv h2.1, rfl⟩ fun r3 h3 => TC.ret _ ⟨by rw [h3]; exact aAf _ _, fun h => ?_⟩
  rw [h3, h2.2 h, (hd h).1]; rfl
omit hN in
theorem aLj (x : ι → Bool) (ray : ι → aH) (f l : ι → aB) (dep : Int) (ov : ι → Bool) (sm : ι → aF) (st : ι → aJ) (src : ι → aA) (sw : ι → aL) :
  TC (fun i => eN N b (x i) (ray i) (f i) (l i) dep (ov i) (sm i) s v sky (st i) (src i) (sw i)) (fun _ => True) := ⟨(), trivial, fun i => rfl⟩
include hr
theorem meetW {bv : bA} {gl : List aG} (hbv : aBF gl.length bv) (hgl : gl = s.gK) (hcon : v.gA2 = false) {ray : aH} (hray : aBz ray) (f l : aB) (dep : Int) (ov : Bool) (sm : aF) (st : ι → aJ) (src : aA) (t : ι → Int) :
  TU (fun i => mB N b ray f l dep ov sm s v sky (st i) src (wlk bv gl (t i))) (fun a : aF × aU × Bool => aEi a.2.1 ∧ (a.2.1.gA6 ∈ s.gT ∨ a.2.1.gA6.gO = 0)) (fun i a r => ∃ x t', r = (a.1, x, t', a.2.1, a.2.2) ∧ noR (t i) t' 0 ∧ noR (st i).gN x 4) := by
 unfold mB
 refine TU.t (P := fun _ => True) (T.cond (fun _ => T.ret trivial) (fun _ => T.ret trivial)) fun p1 _ => ?_
 subst hgl
 refine TU.bind (aMt N (by omega) hbv hr.few ray.go ray.gd p1 ray.gE2 t) fun a ha r hr' => ?_
 have h' : ∃ t' : ι → Int, ∀ i, r i = (t' i, a) := ⟨fun i => (hr' i).choose, fun i => (hr' i).choose_spec⟩
 obtain ⟨t', e'⟩ := h'
 simp only [e']
 have hx : ∀ i, ∃ x, (cond v.gA2 (some (I64 ((st i).gN + 4))) (some (st i).gN)) = some x ∧ noR (st i).gN x 4 := fun i => ⟨_, by rw [hcon]; rfl, trivial⟩
 have hx' : ∃ x : ι → Int, ∀ i, (cond v.gA2 (some (I64 ((st i).gN + 4))) (some (st i).gN)) = some (x i) ∧ noR (st i).gN (x i) 4 := ⟨fun i => (hx i).choose, fun i => (hx i).choose_spec⟩
 obtain ⟨x, ex⟩ := hx'
 simp only [fun i => (ex i).1, Option.bind_some]
 refine TU.cond (fun _ => ?_) (fun hc => ?_)
 ·exact TU.ret (sm, aU.mk 0 (aC.mk 0 0 0) (aB.mk 0 0 0) (aB.mk 0 0 0) (aO.mk 0 (#v[0, 0, 0]) 0) false, false) ⟨⟨⟨z64, z64, z64⟩, aEI, aEI, mat0⟩, Or.inr rfl⟩ fun i => ⟨x i, t' i, rfl, trivial, (ex i).2⟩
 have h0 := of_decide_eq_false hc
 refine TU.t (T.idx (by omega) (by omega)) fun e4 h4 => ?_
 have ht := hr.tri e4 (List.mem_of_getElem? h4)
 refine TU.t (T.inRO (by decide) (by decide)) fun _ _ => TU.t (T.vg (i := 1) (by decide)) fun e6 _ => TU.t (T.inRO (by decide) (by decide)) fun _ _ => TU.t (T.vg (i := 0) (by decide)) fun e8 _ => TU.t (aIx N _ _) fun r9 _ => ?_
 refine TU.t (T.inRO (by decide) (by decide)) fun _ _ => TU.t (T.vg (i := 2) (by decide)) fun e11 _ => TU.t (T.inRO (by decide) (by decide)) fun _ _ => TU.t (T.vg (i := 0) (by decide)) fun e13 _ => TU.t (aIx N _ _) fun r14 _ => ?_
 refine TU.t (aIM N _ _) fun r15 _ => TU.t (aKv (by omega) r15) fun r16 h16 => ?_
 refine TU.t (P := fun p : aU => pin p.gat ∧ vin p.gn ∧ aAr p.gA6 ∧ p.gA6 ∈ s.gT) ?_ fun p17 h17 => ?_
 ·refine T.bind (aNS (by omega) hray.1 hray.2 ha.2) fun r18 h18 => T.bind (aLH (by omega) h16 ray.gd) fun r19 h19 => T.bind (T.idx ht.1.1 ht.1.2) fun e20 h20 => ?_
  have hm := List.mem_of_getElem? h20
  refine T.cond (fun _ => ?_) (fun _ => T.ret ⟨h18, h19, hr.mat _ hm, hm⟩)
  rw [aT]
  exact T.ret ⟨h18, h19, hr.mat _ hm, hm⟩
 have hy : ∃ (lv : List aD), aFk lv ∧ ∀ i, ∃ y, (cond (decide (e4.gB0 ≥ 0)) (Option.bind (idx b e4.gB0) fun e23 => cond (!v.gA2) (some ((I64 (x i + 4), e23))) (some ((x i, e23)))) (some ((x i, [])))) = some (y, lv) ∧ noR (st i).gN y 4 := by
  by_cases h : e4.gB0 ≥ 0
  ·obtain ⟨lv, e, hl⟩ := T.idx h ht.2.1
   refine ⟨lv, hr.lev lv (List.mem_of_getElem? hl), fun i => ?_⟩
   rw [dt h, cond_true, e, Option.bind_some, hcon]
   exact ⟨_, rfl, trivial⟩
  ·refine ⟨[], ⟨by simp, fun t h => absurd h (by simp)⟩, fun i => ?_⟩
   rw [df h, cond_false]
   exact ⟨x i, rfl, (ex i).2⟩
 obtain ⟨lv, hlv, hy⟩ := hy
 have hy' : ∃ y : ι → Int, ∀ i, (cond (decide (e4.gB0 ≥ 0)) (Option.bind (idx b e4.gB0) fun e23 => cond (!v.gA2) (some ((I64 (x i + 4), e23))) (some ((x i, e23)))) (some ((x i, [])))) = some (y i, lv) ∧ noR (st i).gN (y i) 4 := ⟨fun i => (hy i).choose, fun i => (hy i).choose_spec⟩
 obtain ⟨y, ey⟩ := hy'
 simp only [fun i => (ey i).1, Option.bind_some]
 refine TU.t (aIZ (by omega) h17.2.2.1.1 hlv ht.2.2.1 ha.2 _) fun r24 h24 => ?_
 refine TU.t (P := fun _ => True) ?_ fun p25 _ => ?_
 ·rw [aT]
  refine T.cond (fun _ => ?_) (fun _ => T.ret trivial)
  refine T.eq (zI _ h17.1) (T.eq (zI _ hray.1) (T.eq (aEv _ (zL _) (zL _)) (T.bind (aLO (by omega) (aEh _ _)) fun _ _ => T.cond (fun _ => T.ret trivial) (fun _ => T.ret trivial))))
 ·exact TU.ret (p25, aU.mk p17.gi p17.gat p17.gn r24 p17.gA6 p17.gB6, true) ⟨⟨h17.1, h17.2.1, h24, h17.2.2.1⟩, Or.inl h17.2.2.2⟩ fun i => ⟨y i, t' i, rfl, trivial, (ey i).2⟩
end
section
variable {ι : Type} {N : Nat} (hN : 4100 < N) {b : List (List aD)} {s : aE} {v : aI} {sky : aB} (hr : Rdy b s v sky)
include hN hr
theorem aQO {gl : List aG} (hsw : aJC s.gK.length gl) (hcon : v.gA2 = true) (hfit : (s.gJ.length : Int) ≤ (eF v.gI).2) {D : Prop} (hD : DrkS D s sky) {pl : aU} (hp : aEi pl) (ray : aH) {f l : aB} (hf : vin f) (hl : vin l) (hl0 : D → l = v0) (dep : Int) (ov : Bool) (sm : aF) (st : ι → aJ) (src : aA) (t : ι → Int) :
  TU (fun i => iY N b pl ray f l dep ov sm s v sky (st i) src (swp gl (t i))) (fun a : aB × aA => vin a.1 ∧ (D → a.1 = v0)) (fun i a r => ∃ t', r = (a.1, a.2, swp gl t') ∧ kF (t i) t' ((gl.length : Int) * (eF v.gI).2)) := by
 unfold iY
 have l5 := hr.lights
 simp only [aT]
 refine TU.bind (P := fun a : aB × aA => vin a.1 ∧ (D → a.1 = v0)) (S := fun i a r => ∃ t', r = (a.1, a.2, swp gl t') ∧ kF (t i) t' ((gl.length : Int) * (s.gJ.length : Int))) ?_ fun a ha r hr' => ?_
 ·refine TU.loop0 (n := s.gJ.length) (fun j (x : aB × aA) t' => (vin x.1 ∧ (D → x.1 = v0)) ∧ ∀ i, kF (t i) (t' i) ((gl.length : Int) * (j : Int))) (F := fun i k t' (x : aB × aA) j => eP N (s.gJ.length : Int) s b ray f dep ov sm v sky (st i) pl k x.1 x.2 (swp gl t') j) (fun k t' x j hj hx hk => ?_) (fun k t' x hx => ?_) (by omega) (s := (l, src)) (h := t) ⟨⟨hl, hl0⟩, fun i => by rw [show ((0 : Nat) : Int) = 0 from rfl, Int.mul_zero]; exact aCG _⟩
  ·have nd : ¬ D := fun h => by have := hD.lights h; rw [this] at hj; exact absurd hj (by simp)
   have hlj := hr.light _ (List.getElem_mem hj)
   simp only [eP, dt (show (j : Int) < (s.gJ.length : Int) by omega), cond_true, aT]
   refine TU.bind (P := fun a : aB × aA × aR × iV => vin a.1 ∧ (D → a.1 = v0)) (S := fun i a r => ∃ tn, r = (a.1, a.2.1, swp gl (tn), a.2.2.1, a.2.2.2) ∧ kF (t' i) tn (gl.length : Int)) ?_ fun a ha r hr' => ?_
   ·refine TU.e (a := s.gJ[j]) (fun i => by rw [kE, List.getElem?_eq_getElem hj]) ?_
    refine TU.c (aGw hN _ _ _ _ _ _ _ _ _ _) fun r10 _ => TU.c (aGw hN _ _ _ _ _ _ _ _ _ _) fun r12 _ => ?_
    refine TU.t (aP4 (by omega) hlj pl.gat hp.2.1 _) fun r13 h13 => ?_
    refine TU.cond (fun hc => by rw [hcon] at hc; cases hd : r13.gE1 <;> rw [hd] at hc <;> cases hc) (fun _ => ?_)
    refine TU.bind (P := fun _ : Bool => True) (S := fun i a r => ∃ tn, r = (swp gl (tn), a) ∧ kF (t' i) tn (gl.length : Int)) ?_ fun an _ ra hra => ?_
    ·refine TU.bind (anyU N (by omega) hsw pl.gat r13.gE3 2 pl.gi (!r13.gE4) t') fun an _ ra hra => ?_
     have hn : ∃ tn : ι → Int, ∀ i, ra i = (swp gl (tn i), an) ∧ kF (t' i) (tn i) (gl.length : Int) := ⟨fun i => (hra i).choose, fun i => (hra i).choose_spec⟩
     obtain ⟨tn, en⟩ := hn
     simp only [fun i => (en i).1]
     exact TU.cond (fun _ => TU.cond (fun _ => TU.ret _ trivial fun i => ⟨tn i, rfl, (en i).2⟩) (fun _ => TU.ret false trivial fun i => ⟨tn i, rfl, (en i).2⟩)) (fun _ => TU.ret false trivial fun i => ⟨tn i, rfl, (en i).2⟩)
    ·have hn : ∃ tn : ι → Int, ∀ i, ra i = (swp gl (tn i), an) ∧ kF (t' i) (tn i) (gl.length : Int) := ⟨fun i => (hra i).choose, fun i => (hra i).choose_spec⟩
     obtain ⟨tn, en⟩ := hn
     simp only [fun i => (en i).1]
     refine TU.cond (fun _ => ?_) (fun _ => TU.ret (_, _, _, _) hx.1 fun i => ⟨tn i, rfl, (en i).2⟩)
     refine TU.c (addS hN D (by intro y hy; simp at hy; rcases hy with rfl | rfl; exact hp.2.2.1; exact h13) (by simp) _ hf hx.1.1 (fun h => absurd h nd) _ _ _ _ _ _) fun r17 h17 => TU.ret (_, _, _, _) h17 fun i => ⟨tn i, rfl, (en i).2⟩
   ·have hn : ∃ tn : ι → Int, ∀ i, r i = (a.1, a.2.1, swp gl (tn i), a.2.2.1, a.2.2.2) ∧ kF (t' i) (tn i) (gl.length : Int) := ⟨fun i => (hr' i).choose, fun i => (hr' i).choose_spec⟩
    obtain ⟨tn, en⟩ := hn
    simp only [fun i => (en i).1]
    rw [fC (by omega)]
    exact hk (a.1, a.2.1) tn ⟨ha, fun i => aA3 (aDJ (hx.2 i) (en i).2) (by rw [show ((j + 1 : Nat) : Int) = (j : Int) + 1 from by omega, Int.mul_add, Int.mul_one])⟩
  ·simp only [eP, df (show ¬ (s.gJ.length : Int) < (s.gJ.length : Int) by omega), cond_false]
   exact TU.ret x hx.1 fun i => ⟨t' i, rfl, hx.2 i⟩
 have h2 : ∃ t2 : ι → Int, ∀ i, r i = (a.1, a.2, swp gl (t2 i)) ∧ kF (t i) (t2 i) ((gl.length : Int) * (s.gJ.length : Int)) := ⟨fun i => (hr' i).choose, fun i => (hr' i).choose_spec⟩
 obtain ⟨t2, e2⟩ := h2
 simp only [fun i => (e2 i).1]
 simp only [hcon, Bool.not_true, cond_false, aJk, Option.bind_some, aT]
 obtain ⟨n, hn⟩ := Int.eq_ofNat_of_zero_le (show 0 ≤ (eF v.gI).2 - (s.gJ.length : Int) by omega)
 have cl : (eF v.gI).2 < 1000 := by unfold eF; cases (v.gI == 0) <;> cases (v.gI == 1) <;> cases (v.gI == 2) <;> decide
 have ig : I64 ((eF v.gI).2 - (s.gJ.length : Int)) = (n : Int) := by rw [hn, cG (by omega) (by omega)]
 refine TU.bind (P := fun _ : Unit => True) (S := fun i _ r => ∃ t', r = swp gl t' ∧ kF (t2 i) t' ((gl.length : Int) * (n : Int))) ?_ fun _ _ r hr' => ?_
 ·refine TU.loop0 (n := n) (fun j (_ : Unit) t' => ∀ i, kF (t2 i) (t' i) ((gl.length : Int) * (j : Int))) (F := fun i k t' (_ : Unit) j => eR N (eF v.gI) (s.gJ.length : Int) pl k (swp gl t') j) (fun k t' _ j hj hx hk => ?_) (fun k t' _ hx => ?_) (by omega) (s := ()) (h := t2) (fun i => by rw [show ((0 : Nat) : Int) = 0 from rfl, Int.mul_zero]; exact aCG _)
  ·simp only [eR, aT, ig, dt (show (j : Int) < (n : Int) by omega), cond_true]
   refine TU.bind (anyU N (by omega) hsw pl.gat (aC.mk 0 0 0) 2 pl.gi false t') fun an _ ra hra => ?_
   have hn : ∃ tn : ι → Int, ∀ i, ra i = (swp gl (tn i), an) ∧ kF (t' i) (tn i) (gl.length : Int) := ⟨fun i => (hra i).choose, fun i => (hra i).choose_spec⟩
   obtain ⟨tn, en⟩ := hn
   simp only [fun i => (en i).1]
   rw [fC (by omega)]
   exact hk () tn fun i => aA3 (aDJ (hx i) (en i).2) (by rw [show ((j + 1 : Nat) : Int) = (j : Int) + 1 from by omega, Int.mul_add, Int.mul_one])
  ·simp only [eR, aT, ig, df (show ¬ (n : Int) < (n : Int) by omega), cond_false]
   exact TU.ret () trivial fun i => ⟨t' i, rfl, hx i⟩
 ·have h3 : ∃ t3 : ι → Int, ∀ i, r i = swp gl (t3 i) ∧ kF (t2 i) (t3 i) ((gl.length : Int) * (n : Int)) := ⟨fun i => (hr' i).choose, fun i => (hr' i).choose_spec⟩
  obtain ⟨t3, e3⟩ := h3
  simp only [fun i => (e3 i).1]
  exact TU.ret a ha fun i => ⟨t3 i, rfl, aA3 (aDJ (e2 i).2 (e3 i).2) (by rw [← Int.mul_add]; congr 1; omega)⟩
end
section
variable {ι : Type} {N : Nat} (hN : 1000000000000 < N) {b : List (List aD)} {s : aE} {v : aI} {sky : aB} (hr : Rdy b s v sky)
include hN hr
theorem aQY {bv : bA} {gl : List aG} (hbv : aBF gl.length bv) (hgl : gl = s.gK) (hcon : v.gA2 = false) {D : Prop} (hD : DrkW D s sky) {pl : aU} (hp : aEi pl) (ray : aH) {f l : aB} (hf : vin f) (hl : vin l) (hl0 : D → l = v0) (dep : Int) (ov : Bool) (sm : aF) (st : ι → aJ) (src : aA) (t : ι → Int) :
  TU (fun i => kD N b pl ray f l dep ov sm s v sky (st i) src (wlk bv gl (t i))) (fun a : aB × aA => vin a.1 ∧ (D → a.1 = v0)) (fun i a r => ∃ t', r = (a.1, a.2, wlk bv gl t') ∧ noR (t i) t' ((0 : Int) * (eF v.gI).2)) := by
 unfold kD
 have l5 := hr.lights
 simp only [aT]
 refine TU.bind (P := fun a : aB × aA => vin a.1 ∧ (D → a.1 = v0)) (S := fun i a r => ∃ t', r = (a.1, a.2, wlk bv gl t') ∧ noR (t i) t' ((0 : Int) * (s.gJ.length : Int))) ?_ fun a ha r hr' => ?_
 ·refine TU.loop0 (n := s.gJ.length) (fun j (x : aB × aA) t' => (vin x.1 ∧ (D → x.1 = v0)) ∧ ∀ i, noR (t i) (t' i) ((0 : Int) * (j : Int))) (F := fun i k t' (x : aB × aA) j => fG N (s.gJ.length : Int) s b ray f dep ov sm v sky (st i) pl k x.1 x.2 (wlk bv gl t') j) (fun k t' x j hj hx hk => ?_) (fun k t' x hx => ?_) (by omega) (s := (l, src)) (h := t) ⟨⟨hl, hl0⟩, fun i => by rw [show ((0 : Nat) : Int) = 0 from rfl, Int.mul_zero]; exact aLF _⟩
  ·have nd : ¬ D := fun h => by have := hD.lights h; rw [this] at hj; exact absurd hj (by simp)
   have hlj := hr.light _ (List.getElem_mem hj)
   simp only [fG, dt (show (j : Int) < (s.gJ.length : Int) by omega), cond_true, aT]
   refine TU.bind (P := fun a : aB × aA × aR × iV => vin a.1 ∧ (D → a.1 = v0)) (S := fun i a r => ∃ tn, r = (a.1, a.2.1, (tn), a.2.2.1, a.2.2.2) ∧ noR (t' i) tn (0 : Int)) ?_ fun a ha r hr' => ?_
   ·refine TU.e (a := s.gJ[j]) (fun i => by rw [kE, List.getElem?_eq_getElem hj]) ?_
    refine TU.c (aGm hN _ _ _ _ _ _ _ _ _ _) fun r10 _ => TU.c (aGm hN _ _ _ _ _ _ _ _ _ _) fun r12 _ => ?_
    refine TU.t (aP4 (by omega) hlj pl.gat hp.2.1 _) fun r13 h13 => ?_
    refine TU.cond (fun _ => TU.ret (x.1, aA.mk r12.1 ((aA.mk r10.1 x.2.gA x.2.gC x.2.gB x.2.gD).gA) ((aA.mk r10.1 x.2.gA x.2.gC x.2.gB x.2.gD).gC) ((aA.mk r10.1 x.2.gA x.2.gC x.2.gB x.2.gD).gB) ((aA.mk r10.1 x.2.gA x.2.gC x.2.gB x.2.gD).gD), s.gJ[j], r13) hx.1 fun i => ⟨t' i, rfl, trivial⟩) (fun _ => ?_)
    refine TU.bind (P := fun _ : Bool => True) (S := fun i a r => ∃ tn, r = ((tn), a) ∧ noR (t' i) tn (0 : Int)) ?_ fun an _ ra hra => ?_
    ·refine TU.bind (anyW N (by omega) hbv (by rw [hgl]; exact hr.few) pl.gat r13.gE3 2 pl.gi (!r13.gE4) t') fun an _ ra hra => ?_
     have hn : ∃ tn : ι → Int, ∀ i, ra i = (tn i, an) ∧ noR (t' i) (tn i) 0 := ⟨fun i => (hra i).choose, fun i => ⟨(hra i).choose_spec, trivial⟩⟩
     obtain ⟨tn, en⟩ := hn
     simp only [fun i => (en i).1]
     exact TU.cond (fun _ => TU.cond (fun _ => TU.ret _ trivial fun i => ⟨tn i, rfl, (en i).2⟩) (fun _ => TU.ret false trivial fun i => ⟨tn i, rfl, (en i).2⟩)) (fun _ => TU.ret false trivial fun i => ⟨tn i, rfl, (en i).2⟩)
    ·have hn : ∃ tn : ι → Int, ∀ i, ra i = ((tn i), an) ∧ noR (t' i) (tn i) (0 : Int) := ⟨fun i => (hra i).choose, fun i => (hra i).choose_spec⟩
     obtain ⟨tn, en⟩ := hn
     simp only [fun i => (en i).1]
     refine TU.cond (fun _ => ?_) (fun _ => TU.ret (_, _, _, _) hx.1 fun i => ⟨tn i, rfl, (en i).2⟩)
     refine TU.c (addW hN D (by intro y hy; simp at hy; rcases hy with rfl | rfl; exact hp.2.2.1; exact h13) (by simp) _ hf hx.1.1 (fun h => absurd h nd) _ _ _ _ _ _) fun r17 h17 => TU.ret (_, _, _, _) h17 fun i => ⟨tn i, rfl, (en i).2⟩
   ·have hn : ∃ tn : ι → Int, ∀ i, r i = (a.1, a.2.1, (tn i), a.2.2.1, a.2.2.2) ∧ noR (t' i) (tn i) (0 : Int) := ⟨fun i => (hr' i).choose, fun i => (hr' i).choose_spec⟩
    obtain ⟨tn, en⟩ := hn
    simp only [fun i => (en i).1]
    rw [fC (by omega)]
    exact hk (a.1, a.2.1) tn ⟨ha, fun i => aG3 (aLW (hx.2 i) (en i).2) (by rw [show ((j + 1 : Nat) : Int) = (j : Int) + 1 from by omega, Int.mul_add, Int.mul_one])⟩
  ·simp only [fG, df (show ¬ (s.gJ.length : Int) < (s.gJ.length : Int) by omega), cond_false]
   exact TU.ret x hx.1 fun i => ⟨t' i, rfl, hx.2 i⟩
 have h2 : ∃ t2 : ι → Int, ∀ i, r i = (a.1, a.2, wlk bv gl (t2 i)) ∧ noR (t i) (t2 i) ((0 : Int) * (s.gJ.length : Int)) := ⟨fun i => (hr' i).choose, fun i => (hr' i).choose_spec⟩
 obtain ⟨t2, e2⟩ := h2
 simp only [fun i => (e2 i).1]
 simp only [hcon, Bool.not_false, cond_true]
 exact TU.ret a ha fun i => ⟨t2 i, rfl, trivial⟩
end
section
variable {ι : Type} {N : Nat} (hN : 4100 < N) {b : List (List aD)} {s : aE} {v : aI} {sky : aB} (hr : Rdy b s v sky)
include hN hr
theorem stepS {gl : List aG} (hsw : aJC s.gK.length gl) (hcon : v.gA2 = true) (hfit : (s.gJ.length : Int) ≤ (eF v.gI).2) {D : Prop} (hD : DrkS D s sky) {ray : aH} (hray : aBz ray) {f l : aB} (hf : vin f) (hl : vin l) (hl0 : D → l = v0) (dep : Int) (ov : Bool) (sm : aF) (st : ι → aJ) (src : aA) (t : ι → Int) :
  TU (fun i => kI N b ray f l dep ov sm s v sky (st i) src (swp gl (t i))) (fun a : aH × aB × aB × Bool × aF × aA => aBz a.1 ∧ vin a.2.1 ∧ vin a.2.2.1 ∧ (D → a.2.2.1 = v0)) (fun i a r => ∃ x t', r = (a.1, a.2.1, a.2.2.1, a.2.2.2.1, a.2.2.2.2.1, x, a.2.2.2.2.2, swp gl t') ∧ kF (t i) t' ((gl.length : Int) * (1 + (eF v.gI).2)) ∧ kF (st i).gN x 4) := by
 unfold kI
 refine TU.bind (meetS hN hr hsw hcon hfit hray f l dep ov sm st src t) fun a ha r hr' => ?_
 have h1 : ∃ (x t1 : ι → Int), ∀ i, r i = (a.1, x i, swp gl (t1 i), a.2.1, a.2.2) ∧ kF (t i) (t1 i) (gl.length : Int) ∧ kF (st i).gN (x i) 4 := ⟨fun i => (hr' i).choose, fun i => (hr' i).choose_spec.choose, fun i => (hr' i).choose_spec.choose_spec⟩
 obtain ⟨x, t1, e1⟩ := h1
 simp only [fun i => (e1 i).1]
 obtain ⟨hp, hm⟩ := ha
 have nd : ∀ h : (a.2.1.gA6.gO == 4) = true, ¬ D := fun h d => by
  have h4 : a.2.1.gA6.gO = 4 := by simpa using h
  rcases hm with hm | hm
  ·exact hD.mats d _ hm h4
  ·rw [hm] at h4; cases h4
 generalize a.2.1 = pl at *
 refine TU.c (P := fun p : aB × Bool => vin p.1 ∧ (D → p.1 = v0)) (TC.cond (fun _ => TC.bind (addS hN D (by intro y hy; simp at hy; rcases hy with rfl; exact hr.sky) (by simp) _ hf hl (fun d => ⟨hl0 d, by rw [hD.sky d]⟩) _ _ _ _ _ _) fun r3 h3 => TC.bind (aMQ _ _ _ _ _ _ _ _ _ _) fun _ _ => TC.ret _ h3) (fun _ => TC.ret _ ⟨hl, hl0⟩)) fun p2 h2 => ?_
 refine TU.c (aMQ _ _ _ _ _ _ _ _ _ _) fun _ _ => ?_
 simp only [aT]
 refine TU.c (P := fun p : aB × Bool => vin p.1 ∧ (D → p.1 = v0)) (TC.cond (fun hc => TC.bind (addS hN D (by intro y hy; simp at hy; rcases hy with rfl; exact hp.2.2.1) (by simp) _ hf h2.1 (fun d => absurd d (nd hc)) _ _ _ _ _ _) fun r3 h3 => TC.bind (aMQ _ _ _ _ _ _ _ _ _ _) fun _ _ => TC.ret _ h3) (fun _ => TC.ret _ h2)) fun p6 p6l => ?_
 refine TU.bind (P := fun z : aB × aA => vin z.1 ∧ (D → z.1 = v0)) (S := fun i z r => ∃ t2, r = (z.1, z.2, swp gl t2) ∧ kF (t1 i) t2 ((gl.length : Int) * (eF v.gI).2)) ?_ fun z hz rz hrz => ?_
 ·simp only [hcon, cond_true, Option.bind_some]
  refine TU.bind (aQO hN hr hsw hcon hfit hD hp (ι := ι) ray hf p6l.1 p6l.2 dep p6.2 a.1 _ src t1) fun z hz rz hrz => ?_
  have h2 : ∃ t2 : ι → Int, ∀ i, rz i = (z.1, z.2, swp gl (t2 i)) ∧ kF (t1 i) (t2 i) ((gl.length : Int) * (eF v.gI).2) := ⟨fun i => (hrz i).choose, fun i => (hrz i).choose_spec⟩
  obtain ⟨t2, e2⟩ := h2
  simp only [fun i => (e2 i).1]
  exact TU.ret (z.1, z.2) hz fun i => ⟨t2 i, rfl, (e2 i).2⟩
 have h2' : ∃ t2 : ι → Int, ∀ i, rz i = (z.1, z.2, swp gl (t2 i)) ∧ kF (t1 i) (t2 i) ((gl.length : Int) * (eF v.gI).2) := ⟨fun i => (hrz i).choose, fun i => (hrz i).choose_spec⟩
 obtain ⟨t2, e2⟩ := h2'
 simp only [fun i => (e2 i).1]
 have rt : ∀ i, kF (t i) (t2 i) ((gl.length : Int) * (1 + (eF v.gI).2)) := fun i => aA3 (aDJ (e1 i).2.1 (e2 i).2) (by rw [Int.mul_add, Int.mul_one])
 refine TU.t (P := fun _ => True) (T.cond (fun _ => T.ret trivial) (fun _ => T.ret trivial)) fun p14 _ => TU.cond (fun _ => ?_) (fun _ => ?_)
 ·exact TU.c (aMQ _ _ _ _ _ _ _ _ _ _) fun _ _ => TU.ret (ray, f, z.1, _, a.1, z.2) ⟨hray, hf, hz.1, hz.2⟩ fun i => ⟨x i, t2 i, rfl, rt i, (e1 i).2.2⟩
 refine TU.c (aGw hN _ _ _ _ _ _ _ _ _ _) fun r16 _ => TU.c (aGw hN _ _ _ _ _ _ _ _ _ _) fun r17 _ => ?_
 refine TU.t (aIu (by omega) hp.2.2.2 hp.2.2.1 hp.2.1 ray.gd _) fun r18 h18 => TU.t (aG8 (by omega) _ (by intro y hy; simp at hy; rcases hy with rfl | rfl; exact hf; exact h18.2) (by simp)) fun r19 h19 => ?_
 refine TU.c (aMQ _ _ _ _ _ _ _ _ _ _) fun _ _ => ?_
 refine TU.c (P := fun p : aB × Bool × aA => vin p.1) ?_ fun p21 h21 => ?_
 ·refine TC.cond (fun _ => TC.bind (aGw hN _ _ _ _ _ _ _ _ _ _) fun r22 _ => TC.t (aG4 (by omega) h19 _) fun r23 h23 => TC.bind (aMQ _ _ _ _ _ _ _ _ _ _) fun _ _ => TC.ret _ h23) (fun _ => TC.ret _ h19)
 ·exact TU.ret (_, p21.1, z.1, p21.2.1, a.1, p21.2.2) ⟨⟨hp.1, h18.1⟩, h21, hz.1, hz.2⟩ fun i => ⟨x i, t2 i, rfl, rt i, (e1 i).2.2⟩
def inVS (v : aI) (x y z : Int) : Prop := (0 ≤ x ∧ x < v.gW) ∧ (0 ≤ y ∧ y < v.gH) ∧ 0 ≤ z ∧ z < v.gC0
theorem pathS {gl : List aG} (hsw : aJC s.gK.length gl) (hcon : v.gA2 = true) (hfit : (s.gJ.length : Int) ≤ (eF v.gI).2) {D : Prop} (hD : DrkS D s sky) (x y z : Int) (st : ι → aJ) (t : ι → Int) :
  TU (fun i => hK N b x y z s v sky (st i) (swp gl (t i))) (fun a : aF × Int => (D → a.1.gS = v0) ∧ (inVS v x y z → a.2 = 0) ∧ (a.2 = 0 ∨ a.2 = 2)) (fun i a r => ∃ st' t', r = (st', swp gl t', a.1, a.2) ∧ st'.gF = (st i).gF ∧ (a.2 = 0 → kF (t i) t' ((gl.length : Int) * (1 + (eF v.gI).2) * (v.gA5 + 1)) ∧ kF (st i).gN st'.gN (4 * (v.gA5 + 1)) ∧ kF (st i).gG st'.gG (v.gA5 + 1))) := by
 unfold hK sG
 simp only [aT, Option.bind_some]
 refine TU.cond (fun hc => TU.ret (aF.mk (aB.mk 0 0 0) 0 0 (aB.mk 0 0 0) 0, 2) ⟨fun _ => rfl, fun h => ?_, Or.inr rfl⟩ fun i => ⟨st i, t i, rfl, rfl, fun h => absurd h (show ¬ (2 : Int) = 0 by decide)⟩) (fun _ => ?_)
 ·exfalso
  obtain ⟨⟨h1, h2⟩, ⟨h3, h4⟩, h5, h6⟩ := h
  rw [df (show ¬ x < 0 by omega), df (show ¬ x ≥ v.gW by omega), df (show ¬ y < 0 by omega), df (show ¬ y ≥ v.gH by omega), df (show ¬ z < 0 by omega), df (show ¬ z ≥ v.gC0 by omega)] at hc
  cases hc
 refine TU.c (P := fun _ => True) ?_ fun p8 _ => ?_
 ·have main : ∀ (k j : Nat) (src : aA) (q : Vector Int 4), 4 - j < k → j ≤ 4 → TC (fun i => eW N b s v sky (st i) (swp gl (t i)) k src q (j : Int)) (fun _ => True) := by
   intro k
   induction k with
   | zero => intro j src q h; omega
   | succ k ih =>
    intro j src q hk hj
    simp only [eW]
    refine TC.cond (fun hc => ?_) (fun _ => TC.ret _ trivial)
    have hj4 : j < 4 := by have := of_decide_eq_true hc; omega
    refine TC.bind (aGw (by omega) _ _ _ _ _ _ _ _ _ _) fun r12 _ => TC.t (T.inRO (by omega) (by omega)) fun _ _ => TC.t (T.vgI hj4) fun _ _ => ?_
    rw [fC (by omega)]
    exact ih (j + 1) _ _ (by omega) (by omega)
  exact main N 0 _ _ (by omega) (by decide)
 refine TU.t (rayN (by omega) _ _ _ _ _ _) fun r15 h15 => ?_
 obtain ⟨_, _, ⟨d0, d8⟩, _⟩ := hr.view
 obtain ⟨n, hn⟩ := Int.eq_ofNat_of_zero_le (show 0 ≤ v.gA5 + 1 by omega)
 refine TU.bind (P := fun a : aA × aH × aB × aB × Bool × aF => aBz a.2.1 ∧ vin a.2.2.1 ∧ vin a.2.2.2.1 ∧ (D → a.2.2.2.1 = v0)) (S := fun i a r => ∃ (st' : aJ) (t' : Int), ∃ dd : Int, r = (st', swp gl t', a.1, a.2.1, a.2.2.1, a.2.2.2.1, dd, a.2.2.2.2.1, a.2.2.2.2.2) ∧ st'.gF = (st i).gF ∧ kF (t i) t' ((gl.length : Int) * (1 + (eF v.gI).2) * (n : Int)) ∧ kF (st i).gN st'.gN (4 * (n : Int)) ∧ kF (st i).gG st'.gG (n : Int)) ?_ fun a ha r hr' => ?_
 ·refine TU.loop0 (n := n) (fun j (x : aA × aH × aB × aB × Bool × aF) (h : ι → aJ × Int) => (aBz x.2.1 ∧ vin x.2.2.1 ∧ vin x.2.2.2.1 ∧ (D → x.2.2.2.1 = v0)) ∧ ∀ i, (h i).1.gF = (st i).gF ∧ kF (t i) (h i).2 ((gl.length : Int) * (1 + (eF v.gI).2) * (j : Int)) ∧ kF (st i).gN (h i).1.gN (4 * (j : Int)) ∧ kF (st i).gG (h i).1.gG (j : Int)) (F := fun i k (h : aJ × Int) (x : aA × aH × aB × aB × Bool × aF) j => dP N v b s sky k h.1 (swp gl h.2) x.1 x.2.1 x.2.2.1 x.2.2.2.1 j x.2.2.2.2.1 x.2.2.2.2.2) (fun k h x j hj hx hk => ?_) (fun k h x hx => ?_) (by omega) (s := (p8.1, aH.mk r15.1 r15.2.1 (-1), aB.mk 4294967296 4294967296 4294967296, aB.mk 0 0 0, false, aF.mk (aB.mk 0 0 0) 0 0 (aB.mk 0 0 0) (-1))) (h := fun i => (st i, t i)) ⟨⟨h15, aPt, aEI, fun _ => rfl⟩, fun i => ⟨rfl, aA3 (aCG _) (by rw [show ((0 : Nat) : Int) = 0 from rfl, Int.mul_zero]), aA3 (aCG _) (by rfl), aCG _⟩⟩
  ·simp only [dP, aT, dt (show (j : Int) ≤ v.gA5 by omega), cond_true]
   simp only [hcon]
   refine TU.t (P := fun r => r = true) (by cases x.2.2.2.2.1 <;> exact ⟨_, rfl, rfl⟩) fun p26 h26 => ?_
   rw [h26]
   simp only [cond_true]
   obtain ⟨⟨x1, x2, x3, x4⟩, x5⟩ := hx
   refine TU.bind (stepS hN hr hsw hcon hfit hD x1 x2 x3 x4 (j : Int) x.2.2.2.2.1 x.2.2.2.2.2 (fun i => (h i).1) x.1 (fun i => (h i).2)) fun a ha r hr' => ?_
   have h1 : ∃ (y t1 : ι → Int), ∀ i, r i = (a.1, a.2.1, a.2.2.1, a.2.2.2.1, a.2.2.2.2.1, y i, a.2.2.2.2.2, swp gl (t1 i)) ∧ kF (h i).2 (t1 i) ((gl.length : Int) * (1 + (eF v.gI).2)) ∧ kF (h i).1.gN (y i) 4 := ⟨fun i => (hr' i).choose, fun i => (hr' i).choose_spec.choose, fun i => (hr' i).choose_spec.choose_spec⟩
   obtain ⟨y, t1, e1⟩ := h1
   simp only [fun i => (e1 i).1]
   rw [fC (by omega)]
   refine hk (a.2.2.2.2.2, a.1, a.2.1, a.2.2.1, a.2.2.2.1, a.2.2.2.2.1) (fun i => (aJ.mk (h i).1.gF (y i) (I64 ((h i).1.gG + 1)), t1 i)) ⟨ha, fun i => ⟨(x5 i).1, aA3 (aDJ (x5 i).2.1 (e1 i).2.1) ?_, aA3 (aDJ (x5 i).2.2.1 (e1 i).2.2) ?_, aHK (x5 i).2.2.2⟩⟩
   ·generalize (gl.length : Int) * (1 + (eF v.gI).2) = X
    rw [show ((j + 1 : Nat) : Int) = (j : Int) + 1 from by omega, Int.mul_add, Int.mul_one]
   ·omega
  ·simp only [dP, aT, df (show ¬ (n : Int) ≤ v.gA5 by omega), cond_false, Option.bind_some]
   exact TU.ret x hx.1 fun i => ⟨_, _, _, rfl, hx.2 i⟩
 ·have h1 : ∃ (st' : ι → aJ) (t' : ι → Int) (dd : ι → Int), ∀ i, r i = (st' i, swp gl (t' i), a.1, a.2.1, a.2.2.1, a.2.2.2.1, dd i, a.2.2.2.2.1, a.2.2.2.2.2) ∧ (st' i).gF = (st i).gF ∧ kF (t i) (t' i) ((gl.length : Int) * (1 + (eF v.gI).2) * (n : Int)) ∧ kF (st i).gN (st' i).gN (4 * (n : Int)) ∧ kF (st i).gG (st' i).gG (n : Int) := ⟨fun i => (hr' i).choose, fun i => (hr' i).choose_spec.choose, fun i => (hr' i).choose_spec.choose_spec.choose, fun i => (hr' i).choose_spec.choose_spec.choose_spec⟩
  obtain ⟨st', t', dd, e1⟩ := h1
  simp only [fun i => (e1 i).1]
  rw [hn]
  exact TU.ret (aF.mk a.2.2.2.1 a.2.2.2.2.2.gC5 a.2.2.2.2.2.gA5 a.2.2.2.2.2.gC6 a.2.2.2.2.2.gB5, 0) ⟨ha.2.2.2, fun _ => rfl, Or.inl rfl⟩ fun i => ⟨st' i, t' i, rfl, (e1 i).2.1, fun _ => (e1 i).2.2⟩
end
section
variable {ι : Type} {N : Nat} (hN : 1000000000000 < N) {b : List (List aD)} {s : aE} {v : aI} {sky : aB} (hr : Rdy b s v sky)
include hN hr
theorem stepW {bv : bA} {gl : List aG} (hbv : aBF gl.length bv) (hgl : gl = s.gK) (hcon : v.gA2 = false) {D : Prop} (hD : DrkW D s sky) {ray : aH} (hray : aBz ray) {f l : aB} (hf : vin f) (hl : vin l) (hl0 : D → l = v0) (dep : Int) (ov : Bool) (sm : aF) (st : ι → aJ) (src : aA) (t : ι → Int) :
  TU (fun i => lZ N b ray f l dep ov sm s v sky (st i) src (wlk bv gl (t i))) (fun a : aH × aB × aB × Bool × aF × aA => aBz a.1 ∧ vin a.2.1 ∧ vin a.2.2.1 ∧ (D → a.2.2.1 = v0)) (fun i a r => ∃ x t', r = (a.1, a.2.1, a.2.2.1, a.2.2.2.1, a.2.2.2.2.1, x, a.2.2.2.2.2, wlk bv gl t') ∧ noR (t i) t' ((0 : Int) * (1 + (eF v.gI).2)) ∧ noR (st i).gN x 4) := by
 unfold lZ
 refine TU.bind (meetW hN hr hbv hgl hcon hray f l dep ov sm st src t) fun a ha r hr' => ?_
 have h1 : ∃ (x t1 : ι → Int), ∀ i, r i = (a.1, x i, (t1 i), a.2.1, a.2.2) ∧ noR (t i) (t1 i) 0 ∧ noR (st i).gN (x i) 4 := ⟨fun i => (hr' i).choose, fun i => (hr' i).choose_spec.choose, fun i => (hr' i).choose_spec.choose_spec⟩
 obtain ⟨x, t1, e1⟩ := h1
 simp only [fun i => (e1 i).1]
 obtain ⟨hp, hm⟩ := ha
 have nd : ∀ h : (a.2.1.gA6.gO == 4) = true, ¬ D := fun h d => by
  have h4 : a.2.1.gA6.gO = 4 := by simpa using h
  rcases hm with hm | hm
  ·exact hD.mats d _ hm h4
  ·rw [hm] at h4; cases h4
 generalize a.2.1 = pl at *
 refine TU.c (P := fun p : aB × Bool => vin p.1 ∧ (D → p.1 = v0)) (TC.cond (fun _ => TC.bind (addW hN D (by intro y hy; simp at hy; rcases hy with rfl; exact hr.sky) (by simp) _ hf hl (fun d => ⟨hl0 d, by rw [hD.sky d]⟩) _ _ _ _ _ _) fun r3 h3 => TC.bind (aLj _ _ _ _ _ _ _ _ _ _) fun _ _ => TC.ret _ h3) (fun _ => TC.ret _ ⟨hl, hl0⟩)) fun p2 h2 => ?_
 refine TU.c (aLj _ _ _ _ _ _ _ _ _ _) fun _ _ => ?_
 simp only [aT]
 refine TU.c (P := fun p : aB × Bool => vin p.1 ∧ (D → p.1 = v0)) (TC.cond (fun hc => TC.bind (addW hN D (by intro y hy; simp at hy; rcases hy with rfl; exact hp.2.2.1) (by simp) _ hf h2.1 (fun d => absurd d (nd hc)) _ _ _ _ _ _) fun r3 h3 => TC.bind (aLj _ _ _ _ _ _ _ _ _ _) fun _ _ => TC.ret _ h3) (fun _ => TC.ret _ h2)) fun p6 p6l => ?_
 refine TU.bind (P := fun z : aB × aA => vin z.1 ∧ (D → z.1 = v0)) (S := fun i z r => ∃ t2, r = (z.1, z.2, wlk bv gl t2) ∧ noR (t1 i) t2 ((0 : Int) * (eF v.gI).2)) ?_ fun z hz rz hrz => ?_
 ·refine TU.t (P := fun _ => True) (T.cond (fun _ => T.ret trivial) (fun _ => T.ret trivial)) fun p11 _ => TU.cond (fun _ => ?_) (fun _ => TU.ret (p6.1, src) p6l fun i => ⟨t1 i, rfl, trivial⟩)
  refine TU.bind (aQY hN hr hbv hgl hcon hD hp (ι := ι) ray hf p6l.1 p6l.2 dep p6.2 a.1 _ src t1) fun z hz rz hrz => ?_
  have h2 : ∃ t2 : ι → Int, ∀ i, rz i = (z.1, z.2, wlk bv gl (t2 i)) ∧ noR (t1 i) (t2 i) ((0 : Int) * (eF v.gI).2) := ⟨fun i => (hrz i).choose, fun i => (hrz i).choose_spec⟩
  obtain ⟨t2, e2⟩ := h2
  simp only [fun i => (e2 i).1]
  exact TU.ret (z.1, z.2) hz fun i => ⟨t2 i, rfl, (e2 i).2⟩
 have h2' : ∃ t2 : ι → Int, ∀ i, rz i = (z.1, z.2, wlk bv gl (t2 i)) ∧ noR (t1 i) (t2 i) ((0 : Int) * (eF v.gI).2) := ⟨fun i => (hrz i).choose, fun i => (hrz i).choose_spec⟩
 obtain ⟨t2, e2⟩ := h2'
 simp only [fun i => (e2 i).1]
 have rt : ∀ i, noR (t i) (t2 i) ((0 : Int) * (1 + (eF v.gI).2)) := fun i => aG3 (aLW (e1 i).2.1 (e2 i).2) (by rw [Int.mul_add, Int.mul_one])
 refine TU.t (P := fun _ => True) (T.cond (fun _ => T.ret trivial) (fun _ => T.ret trivial)) fun p14 _ => TU.cond (fun _ => ?_) (fun _ => ?_)
 ·exact TU.c (aLj _ _ _ _ _ _ _ _ _ _) fun _ _ => TU.ret (ray, f, z.1, _, a.1, z.2) ⟨hray, hf, hz.1, hz.2⟩ fun i => ⟨x i, t2 i, rfl, rt i, (e1 i).2.2⟩
 refine TU.c (aGm hN _ _ _ _ _ _ _ _ _ _) fun r16 _ => TU.c (aGm hN _ _ _ _ _ _ _ _ _ _) fun r17 _ => ?_
 refine TU.t (aIu (by omega) hp.2.2.2 hp.2.2.1 hp.2.1 ray.gd _) fun r18 h18 => TU.t (aG8 (by omega) _ (by intro y hy; simp at hy; rcases hy with rfl | rfl; exact hf; exact h18.2) (by simp)) fun r19 h19 => ?_
 refine TU.c (aLj _ _ _ _ _ _ _ _ _ _) fun _ _ => ?_
 refine TU.c (P := fun p : aB × Bool × aA => vin p.1) ?_ fun p21 h21 => ?_
 ·refine TC.cond (fun _ => TC.bind (aGm hN _ _ _ _ _ _ _ _ _ _) fun r22 _ => TC.t (aG4 (by omega) h19 _) fun r23 h23 => TC.bind (aLj _ _ _ _ _ _ _ _ _ _) fun _ _ => TC.ret _ h23) (fun _ => TC.ret _ h19)
 ·exact TU.ret (_, p21.1, z.1, p21.2.1, a.1, p21.2.2) ⟨⟨hp.1, h18.1⟩, h21, hz.1, hz.2⟩ fun i => ⟨x i, t2 i, rfl, rt i, (e1 i).2.2⟩
def inVW (v : aI) (x y z : Int) : Prop := (0 ≤ x ∧ x < v.gW) ∧ (0 ≤ y ∧ y < v.gH) ∧ 0 ≤ z ∧ z < v.gC0
theorem pathW {bv : bA} {gl : List aG} (hbv : aBF gl.length bv) (hgl : gl = s.gK) (hcon : v.gA2 = false) {D : Prop} (hD : DrkW D s sky) (x y z : Int) (st : ι → aJ) (t : ι → Int) :
  TU (fun i => fH N b x y z s v sky (st i) (wlk bv gl (t i))) (fun a : aF × Int => (D → a.1.gS = v0) ∧ (inVW v x y z → a.2 = 0) ∧ (a.2 = 0 ∨ a.2 = 2)) (fun i a r => ∃ st' t', r = (st', wlk bv gl t', a.1, a.2) ∧ st'.gF = (st i).gF ∧ (a.2 = 0 → noR (t i) t' ((0 : Int) * (1 + (eF v.gI).2) * (v.gA5 + 1)) ∧ noR (st i).gN st'.gN (4 * (v.gA5 + 1)) ∧ noR (st i).gG st'.gG (v.gA5 + 1))) := by
 unfold fH sG
 simp only [aT, Option.bind_some]
 refine TU.cond (fun hc => TU.ret (aF.mk (aB.mk 0 0 0) 0 0 (aB.mk 0 0 0) 0, 2) ⟨fun _ => rfl, fun h => ?_, Or.inr rfl⟩ fun i => ⟨st i, t i, rfl, rfl, fun h => absurd h (show ¬ (2 : Int) = 0 by decide)⟩) (fun _ => ?_)
 ·exfalso
  obtain ⟨⟨h1, h2⟩, ⟨h3, h4⟩, h5, h6⟩ := h
  rw [df (show ¬ x < 0 by omega), df (show ¬ x ≥ v.gW by omega), df (show ¬ y < 0 by omega), df (show ¬ y ≥ v.gH by omega), df (show ¬ z < 0 by omega), df (show ¬ z ≥ v.gC0 by omega)] at hc
  cases hc
 refine TU.c (P := fun _ => True) ?_ fun p8 _ => ?_
 ·have main : ∀ (k j : Nat) (src : aA) (q : Vector Int 4), 4 - j < k → j ≤ 4 → TC (fun i => fU N b s v sky (st i) (wlk bv gl (t i)) k src q (j : Int)) (fun _ => True) := by
   intro k
   induction k with
   | zero => intro j src q h; omega
   | succ k ih =>
    intro j src q hk hj
    simp only [fU]
    refine TC.cond (fun hc => ?_) (fun _ => TC.ret _ trivial)
    have hj4 : j < 4 := by have := of_decide_eq_true hc; omega
    refine TC.bind (aGm (by omega) _ _ _ _ _ _ _ _ _ _) fun r12 _ => TC.t (T.inRO (by omega) (by omega)) fun _ _ => TC.t (T.vgI hj4) fun _ _ => ?_
    rw [fC (by omega)]
    exact ih (j + 1) _ _ (by omega) (by omega)
  exact main N 0 _ _ (by omega) (by decide)
 refine TU.t (rayN (by omega) _ _ _ _ _ _) fun r15 h15 => ?_
 obtain ⟨_, _, ⟨d0, d8⟩, _⟩ := hr.view
 obtain ⟨n, hn⟩ := Int.eq_ofNat_of_zero_le (show 0 ≤ v.gA5 + 1 by omega)
 refine TU.bind (P := fun a : aA × aH × aB × aB × Bool × aF => aBz a.2.1 ∧ vin a.2.2.1 ∧ vin a.2.2.2.1 ∧ (D → a.2.2.2.1 = v0)) (S := fun i a r => ∃ (st' : aJ) (t' : Int), ∃ dd : Int, r = (st', wlk bv gl t', a.1, a.2.1, a.2.2.1, a.2.2.2.1, dd, a.2.2.2.2.1, a.2.2.2.2.2) ∧ st'.gF = (st i).gF ∧ noR (t i) t' ((0 : Int) * (1 + (eF v.gI).2) * (n : Int)) ∧ noR (st i).gN st'.gN (4 * (n : Int)) ∧ noR (st i).gG st'.gG (n : Int)) ?_ fun a ha r hr' => ?_
 ·refine TU.loop0 (n := n) (fun j (x : aA × aH × aB × aB × Bool × aF) (h : ι → aJ × Int) => (aBz x.2.1 ∧ vin x.2.2.1 ∧ vin x.2.2.2.1 ∧ (D → x.2.2.2.1 = v0)) ∧ ∀ i, (h i).1.gF = (st i).gF ∧ noR (t i) (h i).2 ((0 : Int) * (1 + (eF v.gI).2) * (j : Int)) ∧ noR (st i).gN (h i).1.gN (4 * (j : Int)) ∧ noR (st i).gG (h i).1.gG (j : Int)) (F := fun i k (h : aJ × Int) (x : aA × aH × aB × aB × Bool × aF) j => eH N v b s sky k h.1 (wlk bv gl h.2) x.1 x.2.1 x.2.2.1 x.2.2.2.1 j x.2.2.2.2.1 x.2.2.2.2.2) (fun k h x j hj hx hk => ?_) (fun k h x hx => ?_) (by omega) (s := (p8.1, aH.mk r15.1 r15.2.1 (-1), aB.mk 4294967296 4294967296 4294967296, aB.mk 0 0 0, false, aF.mk (aB.mk 0 0 0) 0 0 (aB.mk 0 0 0) (-1))) (h := fun i => (st i, t i)) ⟨⟨h15, aPt, aEI, fun _ => rfl⟩, fun i => ⟨rfl, aG3 (aLF _) (by rw [show ((0 : Nat) : Int) = 0 from rfl, Int.mul_zero]), aG3 (aLF _) (by rfl), aLF _⟩⟩
  ·simp only [eH, aT, dt (show (j : Int) ≤ v.gA5 by omega), cond_true]
   refine TU.t (P := fun _ => True) (T.cond (fun _ => T.ret trivial) (fun _ => T.ret trivial)) fun p26 _ => TU.cond (fun _ => ?_) (fun _ => TU.ret x hx.1 fun i => ⟨_, _, _, rfl, (hx.2 i).1, trivial, trivial, trivial⟩)
   obtain ⟨⟨x1, x2, x3, x4⟩, x5⟩ := hx
   refine TU.bind (stepW hN hr hbv hgl hcon hD x1 x2 x3 x4 (j : Int) x.2.2.2.2.1 x.2.2.2.2.2 (fun i => (h i).1) x.1 (fun i => (h i).2)) fun a ha r hr' => ?_
   have h1 : ∃ (y t1 : ι → Int), ∀ i, r i = (a.1, a.2.1, a.2.2.1, a.2.2.2.1, a.2.2.2.2.1, y i, a.2.2.2.2.2, wlk bv gl (t1 i)) ∧ noR (h i).2 (t1 i) ((0 : Int) * (1 + (eF v.gI).2)) ∧ noR (h i).1.gN (y i) 4 := ⟨fun i => (hr' i).choose, fun i => (hr' i).choose_spec.choose, fun i => (hr' i).choose_spec.choose_spec⟩
   obtain ⟨y, t1, e1⟩ := h1
   simp only [fun i => (e1 i).1]
   rw [fC (by omega)]
   refine hk (a.2.2.2.2.2, a.1, a.2.1, a.2.2.1, a.2.2.2.1, a.2.2.2.2.1) (fun i => (aJ.mk (h i).1.gF (y i) (I64 ((h i).1.gG + 1)), t1 i)) ⟨ha, fun i => ⟨(x5 i).1, aG3 (aLW (x5 i).2.1 (e1 i).2.1) ?_, aG3 (aLW (x5 i).2.2.1 (e1 i).2.2) ?_, noR_s (x5 i).2.2.2⟩⟩
   ·generalize (0 : Int) * (1 + (eF v.gI).2) = X
    rw [show ((j + 1 : Nat) : Int) = (j : Int) + 1 from by omega, Int.mul_add, Int.mul_one]
   ·omega
  ·simp only [eH, aT, df (show ¬ (n : Int) ≤ v.gA5 by omega), cond_false, Option.bind_some]
   exact TU.ret x hx.1 fun i => ⟨_, _, _, rfl, hx.2 i⟩
 ·have h1 : ∃ (st' : ι → aJ) (t' : ι → Int) (dd : ι → Int), ∀ i, r i = (st' i, wlk bv gl (t' i), a.1, a.2.1, a.2.2.1, a.2.2.2.1, dd i, a.2.2.2.2.1, a.2.2.2.2.2) ∧ (st' i).gF = (st i).gF ∧ noR (t i) (t' i) ((0 : Int) * (1 + (eF v.gI).2) * (n : Int)) ∧ noR (st i).gN (st' i).gN (4 * (n : Int)) ∧ noR (st i).gG (st' i).gG (n : Int) := ⟨fun i => (hr' i).choose, fun i => (hr' i).choose_spec.choose, fun i => (hr' i).choose_spec.choose_spec.choose, fun i => (hr' i).choose_spec.choose_spec.choose_spec⟩
  obtain ⟨st', t', dd, e1⟩ := h1
  simp only [fun i => (e1 i).1]
  rw [hn]
  exact TU.ret (aF.mk a.2.2.2.1 a.2.2.2.2.2.gC5 a.2.2.2.2.2.gA5 a.2.2.2.2.2.gC6 a.2.2.2.2.2.gB5, 0) ⟨ha.2.2.2, fun _ => rfl, Or.inl rfl⟩ fun i => ⟨st' i, t' i, rfl, (e1 i).2.1, fun _ => (e1 i).2.2⟩
end
theorem darkT (N : Nat) (hN : 20 < N) (s : aE) (h8 : s.gT.length ≤ 8) : T (dW N (s.gT.length : Int) s N [] 0) (fun r => r.length ≤ 8 ∧ ∀ m ∈ r, m.gO ≠ 4) := by
 refine T.loopG0 (n := s.gT.length) (fun i (l : List aO) => l.length = i ∧ ∀ m ∈ l, m.gO ≠ 4) _ (F := dW N (s.gT.length : Int) s) (fun k l i hi hl hk => ?_) (fun k l hl => ?_) (by omega) (s := []) ⟨rfl, fun m h => absurd h (by simp)⟩
 ·rw [dW, dt (by omega), cond_true]
  refine T.bind (T.idx (by omega) (by omega)) fun e6 _ => T.bind (P := fun k => k ≠ 4) (T.cond (fun _ => T.ret (show (0 : Int) ≠ 4 by decide)) (fun hc => T.ret (by simpa using hc))) fun p7 h7 => T.eq (oK (by simp; omega)) ?_
  rw [fC (by omega)]
  refine hk _ ⟨by simp; omega, fun m hm => ?_⟩
  rw [List.mem_append, List.mem_singleton] at hm
  rcases hm with hm | rfl
  ·exact hl.2 m hm
  ·exact h7
 ·rw [dW, df (by omega), cond_false]; exact T.ret ⟨by omega, hl.2⟩
theorem aNu {v : aB} (h : v = v0) : aB.eq v (aB.mk 0 0 0) = true := by rw [h]; rfl
theorem aKK (N : Nat) (hN : 1000000000000 < N) (hw : cS N = some true) (s : aE) (v : aI) (at' : Vector Int 3) : jQ N s v at' = some true := by
 have main : T (jQ N s v at') (fun r => r = true) := by
  unfold jQ
  have i0 : idx at'.toList 0 = some at'[0] := idxV at' 0 (by decide)
  have i1 : idx at'.toList 1 = some at'[1] := idxV at' 1 (by decide)
  have i2 : idx at'.toList 2 = some at'[2] := idxV at' 2 (by decide)
  refine T.bind (fewT N (by omega) s) fun r1 h1 => ?_
  rw [aT]
  refine T.bind (darkT N (by omega) r1 h1.2.1) fun p3 h3 => ?_
  generalize hs : aE.mk r1.gK p3 r1.gL [] r1.gR r1.gA0 r1.gA3 r1.gA4 r1.gTo = s2
  have f2 : few s2 := by subst hs; exact ⟨h1.1, h3.1, h1.2.2.1, by simp, h1.2.2.2.2⟩
  have m2 : ∀ m ∈ s2.gT, m.gO ≠ 4 := by subst hs; exact h3.2
  have l2 : s2.gJ = [] := by subst hs; rfl
  obtain ⟨q, eq, hq⟩ := newT N (by omega) s2 v f2
  refine T.eq eq ?_
  have wk : ∀ {c : Bool}, T (Option.bind (cond c (some ()) (some ())) fun _ => Option.bind (cS N) fun r => some r) (fun r => r = true) := by
   intro c; rw [hw]; cases c <;> exact ⟨true, rfl, rfl⟩
  have we : ∀ {e : Int} {X : Option Bool}, e ≠ 0 → T (Option.bind (cond (e != 0) (some true) (some false)) fun p => cond p (Option.bind (cS N) fun r => some r) X) (fun r => r = true) := by
   intro e X h; rw [hw, show (e != 0) = true by simpa using h]; exact ⟨true, rfl, rfl⟩
  rcases q with e | r | r | r | r
  ·simp only [mS]
   exact wk
  ·simp only [mS]
   exact hq.elim
  ·simp only [mS]
   obtain ⟨A, B, C, lv, sky, gl, e⟩ := r
   obtain ⟨rfl, rfl, rfl, hr, hsw, he, hcon, _, hfit⟩ := hq.1
   dsimp only at *
   subst he
   obtain ⟨a, ⟨d, _⟩, h⟩ := pathS (ι := Unit) (N := N) (by omega) hr hsw hcon hfit.2 (D := True) ⟨fun _ => hr.dark l2, fun _ => l2, fun _ => m2⟩ at'[0] at'[1] at'[2] (fun _ => aJ.mk 0 0 0) (fun _ => 0)
   obtain ⟨r, e, st', t', rfl, _⟩ := h ()
   simp only [i0, i1, i2, Option.bind_some, bne_self_eq_false, cond_false]
   refine T.eq e ?_
   simp only [aT, aNu (d trivial), cond_true, hw, Option.bind_some]
   exact ⟨true, rfl, rfl⟩
  ·simp only [mS]
   exact hq.elim
  ·simp only [mS]
   obtain ⟨A, B, C, lv, sky, bv0, w, e⟩ := r
   obtain ⟨rfl, rfl, rfl, hr, ⟨hb, hgl⟩, he, hcon⟩ := hq.1
   dsimp only at *
   subst he
   subst hgl
   obtain ⟨a, ⟨d, _⟩, h⟩ := pathW (ι := Unit) hN hr hb rfl hcon (D := True) ⟨fun _ => hr.dark l2, fun _ => l2, fun _ => m2⟩ at'[0] at'[1] at'[2] (fun _ => aJ.mk 0 0 0) (fun _ => 0)
   obtain ⟨r, e, st', t', rfl, _⟩ := h ()
   simp only [i0, i1, i2, Option.bind_some, bne_self_eq_false, cond_false]
   refine T.eq e ?_
   simp only [aT, aNu (d trivial), cond_true, hw, Option.bind_some]
   exact ⟨true, rfl, rfl⟩
 obtain ⟨r, e, rfl⟩ := main
 exact e
end Go.UK
