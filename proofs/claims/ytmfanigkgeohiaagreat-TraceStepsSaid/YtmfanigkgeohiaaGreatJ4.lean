/- A part of the proof: what the functions of the program compute. -/
import Derived.Test.YtmfanigkgeohiaaGreatJ3
namespace Go.UK
open Go Go.Proofs
set_option maxRecDepth 20000
set_option maxHeartbeats 2000000
set_option linter.all false
theorem nk {N c : Nat} (h : c ≤ N) : ∃ k, N = k + c := ⟨N - c, by omega⟩
section
variable {N : Nat} (hN : 1000 < N)
include hN
theorem aO5 (p : aC) : T (fM N p) vin := by obtain ⟨k, rfl⟩ := nk (show 65 ≤ N by omega); exact zP k p
theorem aOl {n : aB} (hn : vin n) (d : aC) : T (kL N n d) vin := by obtain ⟨k, rfl⟩ := nk (show 70 ≤ N by omega); exact aOd k hn d
theorem aNG {c : Vector Int 3} (hc : ∀ x ∈ c.toList, 0 ≤ x ∧ x ≤ 65535) {l : List aD} (hl : aGM l) {u : Vector (Vector Int 2) 3} (hu : aNw u) {m : aT} (hm : vL m) (i : Int) : T (lR N c l u m i) vin := by obtain ⟨k, rfl⟩ := nk (show 400 ≤ N by omega); exact aND k hc hl hu hm i
theorem aQw {o d : aC} {m : aT} (ho : pin o) (hd : pin d) (hm : vL m) : T (rJ N o d m) pin := by obtain ⟨k, rfl⟩ := nk (show 3 ≤ N by omega); exact aPO k ho hd hm
theorem aPV {v : aB} (hv : vin v) : T (pY N v) cL := by obtain ⟨k, rfl⟩ := nk (show 65 ≤ N by omega); exact aOU k hv
theorem lampN {l : aP} (h : vC l) (p : aC) {n : aB} (hn : vin n) (v : Vector Int 2) : T (oN N l p n v) (fun r => vin r.gC0) := by obtain ⟨k, rfl⟩ := nk (show 70 ≤ N by omega); exact lampT k h p hn v
theorem aNj {m : aQ} (hm : aBO m) {c n : aB} (hc : vin c) (hn : vin n) (d : aC) (v : Vector Int 2) : T (jL N m c n d v) aF3 := by obtain ⟨k, rfl⟩ := nk (show 70 ≤ N by omega); exact aMl k hm hc hn d v
theorem aLZ {f : aB} (hf : vin f) (a : Int) : T (iL N f a) (fun r => vin r.1) := by obtain ⟨k, rfl⟩ := nk (show 70 ≤ N by omega); exact aLj k hf a
theorem aN6 (l : List aB) (h : ∀ x ∈ l, vin x) (hl : l.length ≤ 10) : T (iD N l) vin := by obtain ⟨k, rfl⟩ := nk (show 3 ≤ N by omega); exact aBm k l h (by omega) (by omega)
theorem addN' {u v : aB} (hu : vin u) (hv : vin v) : lI N [u, v] = some (aGU u v) := by obtain ⟨k, rfl⟩ := nk (show 3 ≤ N by omega); exact aJv k hu hv
theorem rayN (c : bK) (w h x y : Int) (v : Vector Int 4) : T (tZ N c w h x y v) (fun r => pin r.1 ∧ pin r.2.1) := by obtain ⟨k, rfl⟩ := nk (show 6 ≤ N by omega); exact aNs k c w h x y v
theorem aQN {f : aB} (hf : vin f) : iD N [f, aB.mk 0 0 0] = some (aB.mk 0 0 0) := by
 obtain ⟨k, rfl⟩ := nk (show 3 ≤ N by omega)
 have h := qC k hf z64
 unfold fD at h
 obtain ⟨r, e, _⟩ := aBm k [f, aB.mk 0 0 0] (by intro x hx; simp at hx; rcases hx with rfl | rfl; exact hf; exact ⟨z64, z64, z64⟩) (by simp) (by simp)
 rw [e] at h ⊢
 have h' : r = aIR f 0 := Option.some.inj h
 rw [h']
 unfold aIR
 simp [S64]
end
def v0 : aB := aB.mk 0 0 0
theorem aLB : vin v0 := ⟨z64, z64, z64⟩
def aLD (p : aV) : Prop := pin p.gat ∧ vin p.gn ∧ vin p.gc ∧ aBO p.gA6
def aJD (r : aK) : Prop := pin r.go ∧ pin r.gd
theorem mat0 : aBO (aQ.mk 0 (#v[0, 0, 0]) 0) := ⟨by intro x hx; simp at hx; omega, by decide, by decide⟩
section
variable {ι ρ ρ' β : Type}
def TC (A : ι → Option ρ) (P : ρ → Prop) : Prop := ∃ a, P a ∧ ∀ i, A i = some a
theorem TU.c {A : ι → Option ρ} {B : ι → ρ → Option ρ'} {P : ρ → Prop} {Q : β → Prop} {S : ι → β → ρ' → Prop} (h : TC A P) (hf : ∀ a, P a → TU (fun i => B i a) Q S) : TU (fun i => Option.bind (A i) (B i)) Q S := by
 obtain ⟨a, pa, e⟩ := h
 exact TU.e e (hf a pa)
theorem TC.of {o : Option ρ} {A : ι → Option ρ} {P : ρ → Prop} (h : T o P) (e : ∀ i, A i = o) : TC A P := by
 obtain ⟨a, rfl, pa⟩ := h
 exact ⟨a, pa, e⟩
theorem TC.bind {A : ι → Option ρ} {B : ι → ρ → Option ρ'} {P : ρ → Prop} {Q : ρ' → Prop} (h : TC A P) (hf : ∀ a, P a → TC (fun i => B i a) Q) : TC (fun i => Option.bind (A i) (B i)) Q := by
 obtain ⟨a, pa, e⟩ := h
 obtain ⟨b, qb, e'⟩ := hf a pa
 exact ⟨b, qb, fun i => by show Option.bind (A i) (B i) = _; rw [e i]; exact e' i⟩
theorem TC.t {α : Type} {o : Option α} {B : ι → α → Option ρ} {P : α → Prop} {Q : ρ → Prop} (h : T o P) (hf : ∀ a, P a → TC (fun i => B i a) Q) : TC (fun i => Option.bind o (B i)) Q := by
 obtain ⟨a, rfl, pa⟩ := h
 exact hf a pa
theorem TC.cond {c : Bool} {A B : ι → Option ρ} {Q : ρ → Prop} (h1 : c = true → TC A Q) (h2 : c = false → TC B Q) : TC (fun i => _root_.cond c (A i) (B i)) Q := by
 cases c with
 | true => exact h1 rfl
 | false => exact h2 rfl
theorem TC.ret (a : ρ) {Q : ρ → Prop} (h : Q a) : TC (fun _ : ι => some a) Q := ⟨a, h, fun _ => rfl⟩
end
theorem v1_in : vin (aB.mk 4294967296 4294967296 4294967296) := ⟨⟨by decide, by decide⟩, ⟨by decide, by decide⟩, by decide, by decide⟩
theorem aBS {a b n m : Int} (h : jV a b n) (e : n = m) : jV a b m := e ▸ h
set_option maxHeartbeats 4000000
section
variable {ι : Type} {N : Nat} (hN : 4100 < N) {b : List (List aD)} {s : aE} {v : aI} {sky : aB} (hr : Rdy b s v sky)
structure DrkS (D : Prop) (s : aE) (sky : aB) : Prop where
 sky : D → sky = v0
 lights : D → s.gL = []
 mats : D → ∀ m ∈ s.gA3, m.gA0 ≠ 4
include hN
theorem aG6 (x : Int) (ray : ι → aK) (f l : ι → aB) (dep : Int) (ov : ι → Bool) (sm : ι → aH) (st : ι → aF) (src : aA) (sw : ι → aJ) :
  TC (fun i => cV N b x (ray i) (f i) (l i) dep (ov i) (sm i) s v sky (st i) src (sw i)) (fun _ => True) := by
 obtain ⟨a, e, _⟩ := nextT N (by omega) dep x src
 refine ⟨(a.1, a.2), trivial, fun i => ?_⟩
 unfold cV
 rw [e]; rfl
theorem addS (D : Prop) {c : List aB} (hc : ∀ x ∈ c, vin x) (hl : c.length ≤ 2) (ray : ι → aK) {f l : aB} (hf : vin f) (hlv : vin l) (hd : D → l = v0 ∧ c = [v0]) (dep : Int) (ov : Bool) (sm : ι → aH) (st : ι → aF) (src : ι → aA) (sw : ι → aJ) :
  TC (fun i => fH N b c (ray i) f l dep ov (sm i) s v sky (st i) (src i) (sw i)) (fun r => vin r ∧ (D → r = v0)) := by
 unfold fH
 refine TC.cond (fun _ => ?_) (fun _ => TC.ret _ ⟨hlv, fun h => (hd h).1⟩)
 refine TC.t (P := fun z => z = [f] ++ c) ⟨_, qS (by simp; omega), rfl⟩ fun z hz => ?_
 subst hz
 refine TC.t (P := fun r => vin r ∧ (D → r = v0)) ?_ fun r2 h2 => ?_
 ·by_cases hD : D
  ·rw [(hd hD).2]
   exact ⟨_, aQN (by omega) hf, aLB, fun _ => rfl⟩
  ·exact (aN6 (by omega) _ (by intro x hx; simp at hx; rcases hx with rfl | hx; exact hf; exact hc x hx) (by simp; omega)).mono fun r h => ⟨h, fun h => absurd h hD⟩
 ·refine TC.t (P := fun r => r = aGU l r2) ⟨_, addN' (by omega) hlv h2.1, rfl⟩ fun r3 h3 => TC.ret _ ⟨by rw [h3]; exact aBn _ _, fun h => ?_⟩
  rw [h3, h2.2 h, (hd h).1]; rfl
omit hN in
theorem aMG (x : ι → Bool) (ray : ι → aK) (f l : ι → aB) (dep : Int) (ov : ι → Bool) (sm : ι → aH) (st : ι → aF) (src : ι → aA) (sw : ι → aJ) :
  TC (fun i => dJ N b (x i) (ray i) (f i) (l i) dep (ov i) (sm i) s v sky (st i) (src i) (sw i)) (fun _ => True) := ⟨(), trivial, fun i => rfl⟩
include hr
theorem meetS {gl : List aG} (hsw : aE8 s.gQ.length gl) (hcon : v.gT = true) (hfit : (s.gL.length : Int) ≤ (eH v.gI).2) {ray : aK} (hray : aJD ray) (f l : aB) (dep : Int) (ov : Bool) (sm : aH) (st : ι → aF) (src : aA) (t : ι → Int) :
  TU (fun i => kB N b ray f l dep ov sm s v sky (st i) src (swp gl (t i))) (fun a : aH × aV × Bool => aLD a.2.1 ∧ (a.2.1.gA6 ∈ s.gA3 ∨ a.2.1.gA6.gA0 = 0)) (fun i a r => ∃ x t', r = (a.1, x, swp gl t', a.2.1, a.2.2) ∧ jV (t i) t' (gl.length : Int) ∧ jV (st i).gK x 4) := by
 unfold kB
 refine TU.t (P := fun _ => True) (T.cond (fun _ => T.ret trivial) (fun _ => T.ret trivial)) fun p1 _ => ?_
 refine TU.bind (aMi N (by omega) hsw ray.go ray.gd p1 ray.gE2 t) fun a ha r hr' => ?_
 have h' : ∃ t' : ι → Int, ∀ i, r i = (swp gl (t' i), a) ∧ jV (t i) (t' i) (gl.length : Int) := ⟨fun i => (hr' i).choose, fun i => (hr' i).choose_spec⟩
 obtain ⟨t', e''⟩ := h'
 have e' : ∀ i, r i = (swp gl (t' i), a) := fun i => (e'' i).1
 simp only [e']
 have hx : ∀ i, ∃ x, (cond v.gT (some (I64 ((st i).gK + 4))) (some (st i).gK)) = some x ∧ jV (st i).gK x 4 := fun i => ⟨_, by rw [hcon]; rfl, bQ (aKV _) (aJd _), fun _ => cW _⟩
 have hx' : ∃ x : ι → Int, ∀ i, (cond v.gT (some (I64 ((st i).gK + 4))) (some (st i).gK)) = some (x i) ∧ jV (st i).gK (x i) 4 := ⟨fun i => (hx i).choose, fun i => (hx i).choose_spec⟩
 obtain ⟨x, ex⟩ := hx'
 simp only [fun i => (ex i).1, Option.bind_some]
 refine TU.cond (fun _ => ?_) (fun hc => ?_)
 ·exact TU.ret (sm, aV.mk 0 (aC.mk 0 0 0) (aB.mk 0 0 0) (aB.mk 0 0 0) (aQ.mk 0 (#v[0, 0, 0]) 0) false, false) ⟨⟨⟨z64, z64, z64⟩, aLB, aLB, mat0⟩, Or.inr rfl⟩ fun i => ⟨x i, t' i, rfl, (e'' i).2, (ex i).2⟩
 have h0 := of_decide_eq_false hc
 refine TU.t (T.idx (by omega) (by omega)) fun e4 h4 => ?_
 have ht := hr.tri e4 (List.mem_of_getElem? h4)
 refine TU.t (T.inRO (by decide) (by decide)) fun _ _ => TU.t (T.vg (i := 1) (by decide)) fun e6 _ => TU.t (T.inRO (by decide) (by decide)) fun _ _ => TU.t (T.vg (i := 0) (by decide)) fun e8 _ => TU.t (aL9 N _ _) fun r9 _ => ?_
 refine TU.t (T.inRO (by decide) (by decide)) fun _ _ => TU.t (T.vg (i := 2) (by decide)) fun e11 _ => TU.t (T.inRO (by decide) (by decide)) fun _ _ => TU.t (T.vg (i := 0) (by decide)) fun e13 _ => TU.t (aL9 N _ _) fun r14 _ => ?_
 refine TU.t (aJg N _ _) fun r15 _ => TU.t (aO5 (by omega) r15) fun r16 h16 => ?_
 refine TU.t (P := fun p : aV => pin p.gat ∧ vin p.gn ∧ aBO p.gA6 ∧ p.gA6 ∈ s.gA3) ?_ fun p17 h17 => ?_
 ·refine T.bind (aQw (by omega) hray.1 hray.2 ha.2) fun r18 h18 => T.bind (aOl (by omega) h16 ray.gd) fun r19 h19 => T.bind (T.idx ht.1.1 ht.1.2) fun e20 h20 => ?_
  have hm := List.mem_of_getElem? h20
  refine T.cond (fun _ => ?_) (fun _ => T.ret ⟨h18, h19, hr.mat _ hm, hm⟩)
  rw [aU]
  exact T.ret ⟨h18, h19, hr.mat _ hm, hm⟩
 have hy : ∃ (lv : List aD), aGM lv ∧ ∀ i, ∃ y, (cond (decide (e4.gB2 ≥ 0)) (Option.bind (idx b e4.gB2) fun e23 => cond (!v.gT) (some ((I64 (x i + 4), e23))) (some ((x i, e23)))) (some ((x i, [])))) = some (y, lv) ∧ jV (st i).gK y 4 := by
  by_cases h : e4.gB2 ≥ 0
  ·obtain ⟨lv, e, hl⟩ := T.idx h ht.2.1
   refine ⟨lv, hr.lev lv (List.mem_of_getElem? hl), fun i => ?_⟩
   rw [dt h, cond_true, e, Option.bind_some, hcon]
   exact ⟨x i, rfl, (ex i).2⟩
  ·refine ⟨[], ⟨by simp, fun t h => absurd h (by simp)⟩, fun i => ?_⟩
   rw [df h, cond_false]
   exact ⟨x i, rfl, (ex i).2⟩
 obtain ⟨lv, hlv, hy⟩ := hy
 have hy' : ∃ y : ι → Int, ∀ i, (cond (decide (e4.gB2 ≥ 0)) (Option.bind (idx b e4.gB2) fun e23 => cond (!v.gT) (some ((I64 (x i + 4), e23))) (some ((x i, e23)))) (some ((x i, [])))) = some (y i, lv) ∧ jV (st i).gK (y i) 4 := ⟨fun i => (hy i).choose, fun i => (hy i).choose_spec⟩
 obtain ⟨y, ey⟩ := hy'
 simp only [fun i => (ey i).1, Option.bind_some]
 refine TU.t (aNG (by omega) h17.2.2.1.1 hlv ht.2.2.1 ha.2 _) fun r24 h24 => ?_
 refine TU.t (P := fun _ => True) ?_ fun p25 _ => ?_
 ·rw [aU]
  refine T.cond (fun _ => ?_) (fun _ => T.ret trivial)
  refine T.eq (aBj _ h17.1) (T.eq (aBj _ hray.1) (T.eq (aIL _ (aBC _) (aBC _)) (T.bind (aPV (by omega) (aHq _ _)) fun _ _ => T.cond (fun _ => T.ret trivial) (fun _ => T.ret trivial))))
 ·exact TU.ret (p25, aV.mk p17.gi p17.gat p17.gn r24 p17.gA6 p17.gB7, true) ⟨⟨h17.1, h17.2.1, h24, h17.2.2.1⟩, Or.inl h17.2.2.2⟩ fun i => ⟨y i, t' i, rfl, (e'' i).2, (ey i).2⟩
end
section
variable {ι : Type} {N : Nat} (hN : 1000000000000 < N) {b : List (List aD)} {s : aE} {v : aI} {sky : aB} (hr : Rdy b s v sky)
include hN
include hr
end
section
variable {ι : Type} {N : Nat} (hN : 4100 < N) {b : List (List aD)} {s : aE} {v : aI} {sky : aB} (hr : Rdy b s v sky)
include hN hr
theorem aQU {gl : List aG} (hsw : aE8 s.gQ.length gl) (hcon : v.gT = true) (hfit : (s.gL.length : Int) ≤ (eH v.gI).2) {D : Prop} (hD : DrkS D s sky) {pl : aV} (hp : aLD pl) (ray : aK) {f l : aB} (hf : vin f) (hl : vin l) (hl0 : D → l = v0) (dep : Int) (ov : Bool) (sm : aH) (st : ι → aF) (src : aA) (t : ι → Int) :
  TU (fun i => iU N b pl ray f l dep ov sm s v sky (st i) src (swp gl (t i))) (fun a : aB × aA => vin a.1 ∧ (D → a.1 = v0)) (fun i a r => ∃ t', r = (a.1, a.2, swp gl t') ∧ jV (t i) t' ((gl.length : Int) * (eH v.gI).2)) := by
 unfold iU
 have l5 := hr.lights
 simp only [aU]
 refine TU.bind (P := fun a : aB × aA => vin a.1 ∧ (D → a.1 = v0)) (S := fun i a r => ∃ t', r = (a.1, a.2, swp gl t') ∧ jV (t i) t' ((gl.length : Int) * (s.gL.length : Int))) ?_ fun a ha r hr' => ?_
 ·refine TU.loop0 (n := s.gL.length) (fun j (x : aB × aA) t' => (vin x.1 ∧ (D → x.1 = v0)) ∧ ∀ i, jV (t i) (t' i) ((gl.length : Int) * (j : Int))) (F := fun i k t' (x : aB × aA) j => eF N (s.gL.length : Int) s b ray f dep ov sm v sky (st i) pl k x.1 x.2 (swp gl t') j) (fun k t' x j hj hx hk => ?_) (fun k t' x hx => ?_) (by omega) (s := (l, src)) (h := t) ⟨⟨hl, hl0⟩, fun i => by rw [show ((0 : Nat) : Int) = 0 from rfl, Int.mul_zero]; exact aCh _⟩
  ·have nd : ¬ D := fun h => by have := hD.lights h; rw [this] at hj; exact absurd hj (by simp)
   have hlj := hr.light _ (List.getElem_mem hj)
   simp only [eF, dt (show (j : Int) < (s.gL.length : Int) by omega), cond_true, aU]
   refine TU.bind (P := fun a : aB × aA × aP × jJ => vin a.1 ∧ (D → a.1 = v0)) (S := fun i a r => ∃ tn, r = (a.1, a.2.1, swp gl (tn), a.2.2.1, a.2.2.2) ∧ jV (t' i) tn (gl.length : Int)) ?_ fun a ha r hr' => ?_
   ·refine TU.e (a := s.gL[j]) (fun i => by rw [pK, List.getElem?_eq_getElem hj]) ?_
    refine TU.c (aG6 hN _ _ _ _ _ _ _ _ _ _) fun r10 _ => TU.c (aG6 hN _ _ _ _ _ _ _ _ _ _) fun r12 _ => ?_
    refine TU.t (lampN (by omega) hlj pl.gat hp.2.1 _) fun r13 h13 => ?_
    refine TU.cond (fun hc => by rw [hcon] at hc; cases hd : r13.gE0 <;> rw [hd] at hc <;> cases hc) (fun _ => ?_)
    refine TU.bind (P := fun _ : Bool => True) (S := fun i a r => ∃ tn, r = (swp gl (tn), a) ∧ jV (t' i) tn (gl.length : Int)) ?_ fun an _ ra hra => ?_
    ·refine TU.bind (anyU N (by omega) hsw pl.gat r13.gE3 2 pl.gi (!r13.gE4) t') fun an _ ra hra => ?_
     have hn : ∃ tn : ι → Int, ∀ i, ra i = (swp gl (tn i), an) ∧ jV (t' i) (tn i) (gl.length : Int) := ⟨fun i => (hra i).choose, fun i => (hra i).choose_spec⟩
     obtain ⟨tn, en⟩ := hn
     simp only [fun i => (en i).1]
     exact TU.cond (fun _ => TU.cond (fun _ => TU.ret _ trivial fun i => ⟨tn i, rfl, (en i).2⟩) (fun _ => TU.ret false trivial fun i => ⟨tn i, rfl, (en i).2⟩)) (fun _ => TU.ret false trivial fun i => ⟨tn i, rfl, (en i).2⟩)
    ·have hn : ∃ tn : ι → Int, ∀ i, ra i = (swp gl (tn i), an) ∧ jV (t' i) (tn i) (gl.length : Int) := ⟨fun i => (hra i).choose, fun i => (hra i).choose_spec⟩
     obtain ⟨tn, en⟩ := hn
     simp only [fun i => (en i).1]
     refine TU.cond (fun _ => ?_) (fun _ => TU.ret (_, _, _, _) hx.1 fun i => ⟨tn i, rfl, (en i).2⟩)
     refine TU.c (addS hN D (by intro y hy; simp at hy; rcases hy with rfl | rfl; exact hp.2.2.1; exact h13) (by simp) _ hf hx.1.1 (fun h => absurd h nd) _ _ _ _ _ _) fun r17 h17 => TU.ret (_, _, _, _) h17 fun i => ⟨tn i, rfl, (en i).2⟩
   ·have hn : ∃ tn : ι → Int, ∀ i, r i = (a.1, a.2.1, swp gl (tn i), a.2.2.1, a.2.2.2) ∧ jV (t' i) (tn i) (gl.length : Int) := ⟨fun i => (hr' i).choose, fun i => (hr' i).choose_spec⟩
    obtain ⟨tn, en⟩ := hn
    simp only [fun i => (en i).1]
    rw [hP (by omega)]
    exact hk (a.1, a.2.1) tn ⟨ha, fun i => aBS (aDn (hx.2 i) (en i).2) (by rw [show ((j + 1 : Nat) : Int) = (j : Int) + 1 from by omega, Int.mul_add, Int.mul_one])⟩
  ·simp only [eF, df (show ¬ (s.gL.length : Int) < (s.gL.length : Int) by omega), cond_false]
   exact TU.ret x hx.1 fun i => ⟨t' i, rfl, hx.2 i⟩
 have h2 : ∃ t2 : ι → Int, ∀ i, r i = (a.1, a.2, swp gl (t2 i)) ∧ jV (t i) (t2 i) ((gl.length : Int) * (s.gL.length : Int)) := ⟨fun i => (hr' i).choose, fun i => (hr' i).choose_spec⟩
 obtain ⟨t2, e2⟩ := h2
 simp only [fun i => (e2 i).1]
 simp only [hcon, Bool.not_true, cond_false, aH3, Option.bind_some, aU]
 obtain ⟨n, hn⟩ := Int.eq_ofNat_of_zero_le (show 0 ≤ (eH v.gI).2 - (s.gL.length : Int) by omega)
 have cl : (eH v.gI).2 < 1000 := by unfold eH; cases (v.gI == 0) <;> cases (v.gI == 1) <;> cases (v.gI == 2) <;> decide
 have ig : I64 ((eH v.gI).2 - (s.gL.length : Int)) = (n : Int) := by rw [hn, bQ (by omega) (by omega)]
 refine TU.bind (P := fun _ : Unit => True) (S := fun i _ r => ∃ t', r = swp gl t' ∧ jV (t2 i) t' ((gl.length : Int) * (n : Int))) ?_ fun _ _ r hr' => ?_
 ·refine TU.loop0 (n := n) (fun j (_ : Unit) t' => ∀ i, jV (t2 i) (t' i) ((gl.length : Int) * (j : Int))) (F := fun i k t' (_ : Unit) j => eE N (eH v.gI) (s.gL.length : Int) pl k (swp gl t') j) (fun k t' _ j hj hx hk => ?_) (fun k t' _ hx => ?_) (by omega) (s := ()) (h := t2) (fun i => by rw [show ((0 : Nat) : Int) = 0 from rfl, Int.mul_zero]; exact aCh _)
  ·simp only [eE, aU, ig, dt (show (j : Int) < (n : Int) by omega), cond_true]
   refine TU.bind (anyU N (by omega) hsw pl.gat (aC.mk 0 0 0) 2 pl.gi false t') fun an _ ra hra => ?_
   have hn : ∃ tn : ι → Int, ∀ i, ra i = (swp gl (tn i), an) ∧ jV (t' i) (tn i) (gl.length : Int) := ⟨fun i => (hra i).choose, fun i => (hra i).choose_spec⟩
   obtain ⟨tn, en⟩ := hn
   simp only [fun i => (en i).1]
   rw [hP (by omega)]
   exact hk () tn fun i => aBS (aDn (hx i) (en i).2) (by rw [show ((j + 1 : Nat) : Int) = (j : Int) + 1 from by omega, Int.mul_add, Int.mul_one])
  ·simp only [eE, aU, ig, df (show ¬ (n : Int) < (n : Int) by omega), cond_false]
   exact TU.ret () trivial fun i => ⟨t' i, rfl, hx i⟩
 ·have h3 : ∃ t3 : ι → Int, ∀ i, r i = swp gl (t3 i) ∧ jV (t2 i) (t3 i) ((gl.length : Int) * (n : Int)) := ⟨fun i => (hr' i).choose, fun i => (hr' i).choose_spec⟩
  obtain ⟨t3, e3⟩ := h3
  simp only [fun i => (e3 i).1]
  exact TU.ret a ha fun i => ⟨t3 i, rfl, aBS (aDn (e2 i).2 (e3 i).2) (by rw [← Int.mul_add]; congr 1; omega)⟩
end
section
variable {ι : Type} {N : Nat} (hN : 1000000000000 < N) {b : List (List aD)} {s : aE} {v : aI} {sky : aB} (hr : Rdy b s v sky)
include hN hr
end
section
variable {ι : Type} {N : Nat} (hN : 4100 < N) {b : List (List aD)} {s : aE} {v : aI} {sky : aB} (hr : Rdy b s v sky)
include hN hr
theorem stepS {gl : List aG} (hsw : aE8 s.gQ.length gl) (hcon : v.gT = true) (hfit : (s.gL.length : Int) ≤ (eH v.gI).2) {D : Prop} (hD : DrkS D s sky) {ray : aK} (hray : aJD ray) {f l : aB} (hf : vin f) (hl : vin l) (hl0 : D → l = v0) (dep : Int) (ov : Bool) (sm : aH) (st : ι → aF) (src : aA) (t : ι → Int) :
  TU (fun i => kC N b ray f l dep ov sm s v sky (st i) src (swp gl (t i))) (fun a : aK × aB × aB × Bool × aH × aA => aJD a.1 ∧ vin a.2.1 ∧ vin a.2.2.1 ∧ (D → a.2.2.1 = v0)) (fun i a r => ∃ x t', r = (a.1, a.2.1, a.2.2.1, a.2.2.2.1, a.2.2.2.2.1, x, a.2.2.2.2.2, swp gl t') ∧ jV (t i) t' ((gl.length : Int) * (1 + (eH v.gI).2)) ∧ jV (st i).gK x 4) := by
 unfold kC
 refine TU.bind (meetS hN hr hsw hcon hfit hray f l dep ov sm st src t) fun a ha r hr' => ?_
 have h1 : ∃ (x t1 : ι → Int), ∀ i, r i = (a.1, x i, swp gl (t1 i), a.2.1, a.2.2) ∧ jV (t i) (t1 i) (gl.length : Int) ∧ jV (st i).gK (x i) 4 := ⟨fun i => (hr' i).choose, fun i => (hr' i).choose_spec.choose, fun i => (hr' i).choose_spec.choose_spec⟩
 obtain ⟨x, t1, e1⟩ := h1
 simp only [fun i => (e1 i).1]
 obtain ⟨hp, hm⟩ := ha
 have nd : ∀ h : (a.2.1.gA6.gA0 == 4) = true, ¬ D := fun h d => by
  have h4 : a.2.1.gA6.gA0 = 4 := by simpa using h
  rcases hm with hm | hm
  ·exact hD.mats d _ hm h4
  ·rw [hm] at h4; cases h4
 generalize a.2.1 = pl at *
 refine TU.c (P := fun p : aB × Bool => vin p.1 ∧ (D → p.1 = v0)) (TC.cond (fun _ => TC.bind (addS hN D (by intro y hy; simp at hy; rcases hy with rfl; exact hr.sky) (by simp) _ hf hl (fun d => ⟨hl0 d, by rw [hD.sky d]⟩) _ _ _ _ _ _) fun r3 h3 => TC.bind (aMG _ _ _ _ _ _ _ _ _ _) fun _ _ => TC.ret _ h3) (fun _ => TC.ret _ ⟨hl, hl0⟩)) fun p2 h2 => ?_
 refine TU.c (aMG _ _ _ _ _ _ _ _ _ _) fun _ _ => ?_
 simp only [aU]
 refine TU.c (P := fun p : aB × Bool => vin p.1 ∧ (D → p.1 = v0)) (TC.cond (fun hc => TC.bind (addS hN D (by intro y hy; simp at hy; rcases hy with rfl; exact hp.2.2.1) (by simp) _ hf h2.1 (fun d => absurd d (nd hc)) _ _ _ _ _ _) fun r3 h3 => TC.bind (aMG _ _ _ _ _ _ _ _ _ _) fun _ _ => TC.ret _ h3) (fun _ => TC.ret _ h2)) fun p6 p6l => ?_
 refine TU.bind (P := fun z : aB × aA => vin z.1 ∧ (D → z.1 = v0)) (S := fun i z r => ∃ t2, r = (z.1, z.2, swp gl t2) ∧ jV (t1 i) t2 ((gl.length : Int) * (eH v.gI).2)) ?_ fun z hz rz hrz => ?_
 ·simp only [hcon, cond_true, Option.bind_some]
  refine TU.bind (aQU hN hr hsw hcon hfit hD hp (ι := ι) ray hf p6l.1 p6l.2 dep p6.2 a.1 _ src t1) fun z hz rz hrz => ?_
  have h2 : ∃ t2 : ι → Int, ∀ i, rz i = (z.1, z.2, swp gl (t2 i)) ∧ jV (t1 i) (t2 i) ((gl.length : Int) * (eH v.gI).2) := ⟨fun i => (hrz i).choose, fun i => (hrz i).choose_spec⟩
  obtain ⟨t2, e2⟩ := h2
  simp only [fun i => (e2 i).1]
  exact TU.ret (z.1, z.2) hz fun i => ⟨t2 i, rfl, (e2 i).2⟩
 have h2' : ∃ t2 : ι → Int, ∀ i, rz i = (z.1, z.2, swp gl (t2 i)) ∧ jV (t1 i) (t2 i) ((gl.length : Int) * (eH v.gI).2) := ⟨fun i => (hrz i).choose, fun i => (hrz i).choose_spec⟩
 obtain ⟨t2, e2⟩ := h2'
 simp only [fun i => (e2 i).1]
 have rt : ∀ i, jV (t i) (t2 i) ((gl.length : Int) * (1 + (eH v.gI).2)) := fun i => aBS (aDn (e1 i).2.1 (e2 i).2) (by rw [Int.mul_add, Int.mul_one])
 refine TU.t (P := fun _ => True) (T.cond (fun _ => T.ret trivial) (fun _ => T.ret trivial)) fun p14 _ => TU.cond (fun _ => ?_) (fun _ => ?_)
 ·exact TU.c (aMG _ _ _ _ _ _ _ _ _ _) fun _ _ => TU.ret (ray, f, z.1, _, a.1, z.2) ⟨hray, hf, hz.1, hz.2⟩ fun i => ⟨x i, t2 i, rfl, rt i, (e1 i).2.2⟩
 refine TU.c (aG6 hN _ _ _ _ _ _ _ _ _ _) fun r16 _ => TU.c (aG6 hN _ _ _ _ _ _ _ _ _ _) fun r17 _ => ?_
 refine TU.t (aNj (by omega) hp.2.2.2 hp.2.2.1 hp.2.1 ray.gd _) fun r18 h18 => TU.t (aN6 (by omega) _ (by intro y hy; simp at hy; rcases hy with rfl | rfl; exact hf; exact h18.2) (by simp)) fun r19 h19 => ?_
 refine TU.c (aMG _ _ _ _ _ _ _ _ _ _) fun _ _ => ?_
 refine TU.c (P := fun p : aB × Bool × aA => vin p.1) ?_ fun p21 h21 => ?_
 ·refine TC.cond (fun _ => TC.bind (aG6 hN _ _ _ _ _ _ _ _ _ _) fun r22 _ => TC.t (aLZ (by omega) h19 _) fun r23 h23 => TC.bind (aMG _ _ _ _ _ _ _ _ _ _) fun _ _ => TC.ret _ h23) (fun _ => TC.ret _ h19)
 ·exact TU.ret (_, p21.1, z.1, p21.2.1, a.1, p21.2.2) ⟨⟨hp.1, h18.1⟩, h21, hz.1, hz.2⟩ fun i => ⟨x i, t2 i, rfl, rt i, (e1 i).2.2⟩
def inVS (v : aI) (x y z : Int) : Prop := (0 ≤ x ∧ x < v.gW) ∧ (0 ≤ y ∧ y < v.gH) ∧ 0 ≤ z ∧ z < v.gS
theorem pathS {gl : List aG} (hsw : aE8 s.gQ.length gl) (hcon : v.gT = true) (hfit : (s.gL.length : Int) ≤ (eH v.gI).2) {D : Prop} (hD : DrkS D s sky) (x y z : Int) (st : ι → aF) (t : ι → Int) :
  TU (fun i => dI N b x y z s v sky (st i) (swp gl (t i))) (fun a : aH × Int => (D → a.1.gA2 = v0) ∧ (inVS v x y z → a.2 = 0) ∧ (a.2 = 0 ∨ a.2 = 2)) (fun i a r => ∃ st' t', r = (st', swp gl t', a.1, a.2) ∧ st'.gG = (st i).gG ∧ (a.2 = 0 → jV (t i) t' ((gl.length : Int) * (1 + (eH v.gI).2) * (v.gJ + 1)) ∧ jV (st i).gK st'.gK (4 * (v.gJ + 1)) ∧ jV (st i).gE st'.gE (v.gJ + 1))) := by
 unfold dI uR
 simp only [aU, Option.bind_some]
 refine TU.cond (fun hc => TU.ret (aH.mk (aB.mk 0 0 0) 0 0 (aB.mk 0 0 0) 0, 2) ⟨fun _ => rfl, fun h => ?_, Or.inr rfl⟩ fun i => ⟨st i, t i, rfl, rfl, fun h => absurd h (show ¬ (2 : Int) = 0 by decide)⟩) (fun _ => ?_)
 ·exfalso
  obtain ⟨⟨h1, h2⟩, ⟨h3, h4⟩, h5, h6⟩ := h
  rw [df (show ¬ x < 0 by omega), df (show ¬ x ≥ v.gW by omega), df (show ¬ y < 0 by omega), df (show ¬ y ≥ v.gH by omega), df (show ¬ z < 0 by omega), df (show ¬ z ≥ v.gS by omega)] at hc
  cases hc
 refine TU.c (P := fun _ => True) ?_ fun p8 _ => ?_
 ·have main : ∀ (k j : Nat) (src : aA) (q : Vector Int 4), 4 - j < k → j ≤ 4 → TC (fun i => eM N b s v sky (st i) (swp gl (t i)) k src q (j : Int)) (fun _ => True) := by
   intro k
   induction k with
   | zero => intro j src q h; omega
   | succ k ih =>
    intro j src q hk hj
    simp only [eM]
    refine TC.cond (fun hc => ?_) (fun _ => TC.ret _ trivial)
    have hj4 : j < 4 := by have := of_decide_eq_true hc; omega
    refine TC.bind (aG6 (by omega) _ _ _ _ _ _ _ _ _ _) fun r12 _ => TC.t (T.inRO (by omega) (by omega)) fun _ _ => TC.t (T.vgI hj4) fun _ _ => ?_
    rw [hP (by omega)]
    exact ih (j + 1) _ _ (by omega) (by omega)
  exact main N 0 _ _ (by omega) (by decide)
 refine TU.t (rayN (by omega) _ _ _ _ _ _) fun r15 h15 => ?_
 obtain ⟨_, _, ⟨d0, d8⟩, _⟩ := hr.view
 obtain ⟨n, hn⟩ := Int.eq_ofNat_of_zero_le (show 0 ≤ v.gJ + 1 by omega)
 refine TU.bind (P := fun a : aA × aK × aB × aB × Bool × aH => aJD a.2.1 ∧ vin a.2.2.1 ∧ vin a.2.2.2.1 ∧ (D → a.2.2.2.1 = v0)) (S := fun i a r => ∃ (st' : aF) (t' : Int), ∃ dd : Int, r = (st', swp gl t', a.1, a.2.1, a.2.2.1, a.2.2.2.1, dd, a.2.2.2.2.1, a.2.2.2.2.2) ∧ st'.gG = (st i).gG ∧ jV (t i) t' ((gl.length : Int) * (1 + (eH v.gI).2) * (n : Int)) ∧ jV (st i).gK st'.gK (4 * (n : Int)) ∧ jV (st i).gE st'.gE (n : Int)) ?_ fun a ha r hr' => ?_
 ·refine TU.loop0 (n := n) (fun j (x : aA × aK × aB × aB × Bool × aH) (h : ι → aF × Int) => (aJD x.2.1 ∧ vin x.2.2.1 ∧ vin x.2.2.2.1 ∧ (D → x.2.2.2.1 = v0)) ∧ ∀ i, (h i).1.gG = (st i).gG ∧ jV (t i) (h i).2 ((gl.length : Int) * (1 + (eH v.gI).2) * (j : Int)) ∧ jV (st i).gK (h i).1.gK (4 * (j : Int)) ∧ jV (st i).gE (h i).1.gE (j : Int)) (F := fun i k (h : aF × Int) (x : aA × aK × aB × aB × Bool × aH) j => dN N v b s sky k h.1 (swp gl h.2) x.1 x.2.1 x.2.2.1 x.2.2.2.1 j x.2.2.2.2.1 x.2.2.2.2.2) (fun k h x j hj hx hk => ?_) (fun k h x hx => ?_) (by omega) (s := (p8.1, aK.mk r15.1 r15.2.1 (-1), aB.mk 4294967296 4294967296 4294967296, aB.mk 0 0 0, false, aH.mk (aB.mk 0 0 0) 0 0 (aB.mk 0 0 0) (-1))) (h := fun i => (st i, t i)) ⟨⟨h15, v1_in, aLB, fun _ => rfl⟩, fun i => ⟨rfl, aBS (aCh _) (by rw [show ((0 : Nat) : Int) = 0 from rfl, Int.mul_zero]), aBS (aCh _) (by rfl), aCh _⟩⟩
  ·simp only [dN, aU, dt (show (j : Int) ≤ v.gJ by omega), cond_true]
   simp only [hcon]
   refine TU.t (P := fun r => r = true) (by cases x.2.2.2.2.1 <;> exact ⟨_, rfl, rfl⟩) fun p26 h26 => ?_
   rw [h26]
   simp only [cond_true]
   obtain ⟨⟨x1, x2, x3, x4⟩, x5⟩ := hx
   refine TU.bind (stepS hN hr hsw hcon hfit hD x1 x2 x3 x4 (j : Int) x.2.2.2.2.1 x.2.2.2.2.2 (fun i => (h i).1) x.1 (fun i => (h i).2)) fun a ha r hr' => ?_
   have h1 : ∃ (y t1 : ι → Int), ∀ i, r i = (a.1, a.2.1, a.2.2.1, a.2.2.2.1, a.2.2.2.2.1, y i, a.2.2.2.2.2, swp gl (t1 i)) ∧ jV (h i).2 (t1 i) ((gl.length : Int) * (1 + (eH v.gI).2)) ∧ jV (h i).1.gK (y i) 4 := ⟨fun i => (hr' i).choose, fun i => (hr' i).choose_spec.choose, fun i => (hr' i).choose_spec.choose_spec⟩
   obtain ⟨y, t1, e1⟩ := h1
   simp only [fun i => (e1 i).1]
   rw [hP (by omega)]
   refine hk (a.2.2.2.2.2, a.1, a.2.1, a.2.2.1, a.2.2.2.1, a.2.2.2.2.1) (fun i => (aF.mk (h i).1.gG (y i) (I64 ((h i).1.gE + 1)), t1 i)) ⟨ha, fun i => ⟨(x5 i).1, aBS (aDn (x5 i).2.1 (e1 i).2.1) ?_, aBS (aDn (x5 i).2.2.1 (e1 i).2.2) ?_, aH1 (x5 i).2.2.2⟩⟩
   ·generalize (gl.length : Int) * (1 + (eH v.gI).2) = X
    rw [show ((j + 1 : Nat) : Int) = (j : Int) + 1 from by omega, Int.mul_add, Int.mul_one]
   ·omega
  ·simp only [dN, aU, df (show ¬ (n : Int) ≤ v.gJ by omega), cond_false, Option.bind_some]
   exact TU.ret x hx.1 fun i => ⟨_, _, _, rfl, hx.2 i⟩
 ·have h1 : ∃ (st' : ι → aF) (t' : ι → Int) (dd : ι → Int), ∀ i, r i = (st' i, swp gl (t' i), a.1, a.2.1, a.2.2.1, a.2.2.2.1, dd i, a.2.2.2.2.1, a.2.2.2.2.2) ∧ (st' i).gG = (st i).gG ∧ jV (t i) (t' i) ((gl.length : Int) * (1 + (eH v.gI).2) * (n : Int)) ∧ jV (st i).gK (st' i).gK (4 * (n : Int)) ∧ jV (st i).gE (st' i).gE (n : Int) := ⟨fun i => (hr' i).choose, fun i => (hr' i).choose_spec.choose, fun i => (hr' i).choose_spec.choose_spec.choose, fun i => (hr' i).choose_spec.choose_spec.choose_spec⟩
  obtain ⟨st', t', dd, e1⟩ := h1
  simp only [fun i => (e1 i).1]
  rw [hn]
  exact TU.ret (aH.mk a.2.2.2.1 a.2.2.2.2.2.gC8 a.2.2.2.2.2.gJ a.2.2.2.2.2.gC9 a.2.2.2.2.2.gB3, 0) ⟨ha.2.2.2, fun _ => rfl, Or.inl rfl⟩ fun i => ⟨st' i, t' i, rfl, (e1 i).2.1, fun _ => (e1 i).2.2⟩
end
section
variable {ι : Type} {N : Nat} (hN : 1000000000000 < N) {b : List (List aD)} {s : aE} {v : aI} {sky : aB} (hr : Rdy b s v sky)
include hN hr
end
theorem aQR (N : Nat) {c : bK} {w h : Int} (k : aJF c w h) : nS N c 1 1 = some 0 := by
 obtain ⟨_, _, ⟨l1, l2⟩, ⟨f1, f2⟩, o1, o2, o3, e1, e2⟩ := k
 unfold nS
 simp only [aU, aLA, aN4, Option.bind_some, o1, o2, o3, df (show ¬ iN (iN c.gN.gX c.gN.gY) c.gN.gZ > 32768 by omega), df (show ¬ jC (jC c.gN.gX c.gN.gY) c.gN.gZ < -32768 by omega), dt (show c.gC2 ≥ 0 by omega), dt l2, dt (show c.gC3 ≥ 1 by omega), dt f2, cond_true, cond_false, Bool.not_true]
 rfl
def aAy (v : aI) : Int := (v.gJ + 1) * ((eH v.gI).1 * (1 + (eH v.gI).2))
theorem costA (N : Nat) {v : aI} (h : aJm v) : iR N v = some (aF.mk (aAy v) (4 * (v.gJ + 1)) (v.gJ + 1)) ∧ 16 ≤ aAy v ∧ aAy v ≤ 100000 := by
 obtain ⟨hc, hs, ⟨d0, d8⟩, c0, c2⟩ := h
 have cl : v.gI = 0 ∨ v.gI = 1 ∨ v.gI = 2 := by omega
 unfold iR xL nZ
 dsimp only
 rw [aQR N hc]
 have o : (cond (cond (cond (cond (cond (cond (decide ((1 : Int) < 1)) true (decide ((1 : Int) > 16))) true (decide (v.gJ < 0))) true (decide (v.gJ > 8))) true (decide (v.gI < 0))) true (decide (v.gI > 2))) (some (2 : Int)) (some 0)) = some 0 := by
  rw [df (show ¬ v.gJ < 0 by omega), df (show ¬ v.gJ > 8 by omega), df (show ¬ v.gI < 0 by omega), df (show ¬ v.gI > 2 by omega)]
  rfl
 simp only [aU, Option.bind_some, bne_self_eq_false, cond_false]
 rw [o]
 simp only [Option.bind_some, bne_self_eq_false, cond_false, aH3]
 unfold aAy
 have key : ∀ a b : Int, (a = 16 ∧ b = 4) ∨ (a = 64 ∧ b = 4) ∨ (a = 256 ∧ b = 8) → (some (aF.mk (I64 ((I64 ((I64 ((I64 ((I64 (1 * 1)) * 1)) * (I64 (v.gJ + 1)))) * a)) * (I64 (1 + b)))) (I64 (4 * I64 ((I64 ((I64 (1 * 1)) * 1)) * (I64 (v.gJ + 1))))) (I64 ((I64 ((I64 (1 * 1)) * 1)) * (I64 (v.gJ + 1))))) = some (aF.mk ((v.gJ + 1) * (a * (1 + b))) (4 * (v.gJ + 1)) (v.gJ + 1))) ∧ 16 ≤ (v.gJ + 1) * (a * (1 + b)) ∧ (v.gJ + 1) * (a * (1 + b)) ≤ 100000 := by
  intro a b hab
  generalize v.gJ = D at *
  have i1 : I64 (I64 (1 * 1) * 1) = 1 := by decide
  rw [i1, bQ (x := D + 1) (by omega) (by omega), Int.one_mul, bQ (x := D + 1) (by omega) (by omega)]
  rcases hab with ⟨rfl, rfl⟩ | ⟨rfl, rfl⟩ | ⟨rfl, rfl⟩
  ·rw [bQ (x := (D + 1) * 16) (by omega) (by omega), bQ (x := 1 + 4) (by omega) (by omega), bQ (x := (D + 1) * 16 * (1 + 4)) (by omega) (by omega), bQ (x := 4 * (D + 1)) (by omega) (by omega), Int.mul_assoc]
   exact ⟨rfl, by omega, by omega⟩
  ·rw [bQ (x := (D + 1) * 64) (by omega) (by omega), bQ (x := 1 + 4) (by omega) (by omega), bQ (x := (D + 1) * 64 * (1 + 4)) (by omega) (by omega), bQ (x := 4 * (D + 1)) (by omega) (by omega), Int.mul_assoc]
   exact ⟨rfl, by omega, by omega⟩
  ·rw [bQ (x := (D + 1) * 256) (by omega) (by omega), bQ (x := 1 + 8) (by omega) (by omega), bQ (x := (D + 1) * 256 * (1 + 8)) (by omega) (by omega), bQ (x := 4 * (D + 1)) (by omega) (by omega), Int.mul_assoc]
   exact ⟨rfl, by omega, by omega⟩
 exact key _ _ (by rcases cl with h | h | h <;> rw [h] <;> simp [eH])
theorem aM0 {N : Nat} (hN : 4100 < N) {b : List (List aD)} {s : aE} {v : aI} {sky : aB} (hr : Rdy b s v sky) {gl : List aG} (hsw : aE8 s.gQ.length gl) (hcon : v.gT = true) (hfit : (s.gL.length : Int) ≤ (eH v.gI).2) (hlen : (gl.length : Int) = (eH v.gI).1) {x y z : Int} (hv : inVS v x y z) (st : aF) (t : Int) (h1 : cL t) (h2 : cL st.gK) (h3 : cL st.gE) :
  ∃ st' t' a e, dI N b x y z s v sky st (swp gl t) = some (st', swp gl t', a, e) ∧ t' = I64 (t + aAy v) ∧ st'.gK = I64 (st.gK + 4 * (v.gJ + 1)) ∧ st'.gE = I64 (st.gE + (v.gJ + 1)) := by
 obtain ⟨a, ⟨_, h0, _⟩, h⟩ := pathS (ι := Unit) hN hr hsw hcon hfit (D := False) ⟨fun h => h.elim, fun h => h.elim, fun h => h.elim⟩ x y z (fun _ => st) (fun _ => t)
 obtain ⟨r, e, st', t', rfl, _, p⟩ := h ()
 obtain ⟨p1, p2, p3⟩ := p (h0 hv)
 refine ⟨st', t', a.1, a.2, e, ?_, aKC p2 h2, aKC p3 h3⟩
 rw [aKC p1 h1, hlen]
 unfold aAy
 rw [Int.mul_comm]
theorem aLL (v : aF) : aF.eq v v = true := by unfold aF.eq; simp
theorem aPx (N : Nat) (hN : 4100 < N) {v v1 v2 : aI} (hv1 : aI.mk v.gW v.gH v.gS v.gJ v.gI v.gA4 v.gA5 true = v1) (hv2 : aI.mk v.gW v.gH v.gS v.gJ v.gI (U64 (v.gA4 + 1)) v.gA5 true = v2)
  {b b' : List (List aD)} {s s' : aE} {sky sky' : aB} (hr : Rdy b s v1 sky) (hr' : Rdy b' s' v2 sky') {gl gl' : List aG} (hsw : aE8 s.gQ.length gl) (hsw' : aE8 s'.gQ.length gl') (hfit : (s.gL.length : Int) ≤ (eH v1.gI).2) (hfit' : (s'.gL.length : Int) ≤ (eH v2.gI).2) (hlen : (gl.length : Int) = (eH v1.gI).1) (hlen' : (gl'.length : Int) = (eH v2.gI).1)
  {A A' : List aG} {B B' : List aQ} {C C' : List aP} {e e' : Int} :
  ∀ (k j : Nat) (st1 st2 n : aF) (t1 t2 : Int), 3 - j < k → j ≤ 3 → (cL n.gG ∧ cL n.gK ∧ cL n.gE) → (t1 = n.gG ∧ st1.gK = n.gK ∧ st1.gE = n.gE) → (t2 = n.gG ∧ st2.gK = n.gK ∧ st2.gE = n.gE) →
  T (fU N v (A, B, C, b, sky, gl, e) (A', B', C', b', sky', gl', e') (aF.mk (aAy v1) (4 * (v1.gJ + 1)) (v1.gJ + 1)) k s v1 st1 (swp gl t1) s' v2 st2 (swp gl' t2) n (j : Int)) (fun o => match o with | .inl _ => True | .inr _ => False) := by
 intro k
 induction k with
 | zero => intro j st1 st2 n t1 t2 h; omega
 | succ k ih =>
  intro j st1 st2 n t1 t2 hk hj hn h1 h2
  rw [fU]
  refine T.cond (fun hc => ?_) (fun _ => T.ret trivial)
  have hj3 : j < 3 := by have := of_decide_eq_true hc; omega
  have c1 : v1.gT = true := by subst hv1; rfl
  have c2 : v2.gT = true := by subst hv2; rfl
  have w1 : v1.gW = v.gW ∧ v1.gH = v.gH ∧ v1.gS = v.gS := by subst hv1; exact ⟨rfl, rfl, rfl⟩
  have w2 : v2.gW = v.gW ∧ v2.gH = v.gH ∧ v2.gS = v.gS ∧ aAy v2 = aAy v1 ∧ v2.gJ = v1.gJ := by subst hv1 hv2; exact ⟨rfl, rfl, rfl, rfl, rfl⟩
  obtain ⟨⟨⟨a1, a2⟩, ⟨b1, b2⟩, _⟩, ⟨s1, s2⟩, _⟩ := hr.view
  obtain ⟨w1a, w1b, w1c⟩ := w1
  obtain ⟨w2a, w2b, w2c, w2d, w2e⟩ := w2
  rw [w1a] at a1 a2
  rw [w1b] at b1 b2
  rw [w1c] at s1 s2
  refine T.eq (aEv .i64 (by omega)) (T.eq (aEv .i64 (by omega)) ?_)
  have m : ∀ W : Int, 1 ≤ W → 0 ≤ Int.tmod (j : Int) W ∧ Int.tmod (j : Int) W < W := fun W h => by
   rw [Int.tmod_eq_emod_of_nonneg (by omega)]
   exact ⟨Int.emod_nonneg _ (by omega), Int.emod_lt_of_pos _ (by omega)⟩
  have mW := m v.gW a1
  have mH := m v.gH b1
  obtain ⟨x1, y1, r1, e1, E1, p1, p2, p3⟩ := aM0 hN hr hsw c1 hfit hlen (x := Int.tmod (j : Int) v.gW) (y := Int.tmod (j : Int) v.gH) (z := 0) ⟨by omega, by omega, by omega⟩ st1 t1 (by rw [h1.1]; exact hn.1) (by rw [h1.2.1]; exact hn.2.1) (by rw [h1.2.2]; exact hn.2.2)
  refine T.eq E1 ?_
  rw [bQ (x := v.gW - 1) (by omega) (by omega), bQ (x := v.gS - 1) (by omega) (by omega)]
  obtain ⟨x2, y2, r2, e2, E2, q1, q2, q3⟩ := aM0 hN hr' hsw' c2 hfit' hlen' (x := v.gW - 1) (y := 0) (z := v.gS - 1) ⟨by omega, by omega, by omega⟩ st2 t2 (by rw [h2.1]; exact hn.1) (by rw [h2.2.1]; exact hn.2.1) (by rw [h2.2.2]; exact hn.2.2)
  refine T.eq E2 ?_
  simp only [aU]
  rw [h1.1] at p1
  rw [h1.2.1] at p2
  rw [h1.2.2] at p3
  rw [h2.1, w2d] at q1
  rw [h2.2.1, w2e] at q2
  rw [h2.2.2, w2e] at q3
  have S1 : hJ N b s v1 sky x1 (swp gl y1) = some (aF.mk (I64 (n.gG + aAy v1)) (I64 (n.gK + 4 * (v1.gJ + 1))) (I64 (n.gE + (v1.gJ + 1)))) := by
   rw [← p1, ← p2, ← p3]; rfl
  have S2 : hJ N b' s' v2 sky' x2 (swp gl' y2) = some (aF.mk (I64 (n.gG + aAy v1)) (I64 (n.gK + 4 * (v1.gJ + 1))) (I64 (n.gE + (v1.gJ + 1)))) := by
   rw [← q1, ← q2, ← q3]; rfl
  rw [S1, Option.bind_some, aLL]
  simp only [Bool.not_true, cond_false]
  rw [S2, Option.bind_some, aLL]
  simp only [Bool.not_true, Option.bind_some, cond_false]
  rw [hP (by omega)]
  exact ih (j + 1) x1 x2 _ y1 y2 (by omega) (by omega) ⟨cW _, cW _, cW _⟩ ⟨p1, p2, p3⟩ ⟨q1, q2, q3⟩
theorem aQy (N : Nat) (hN : 1000000000000 < N) (hw : bL N = some true) (sa sb : aE) (v : aI) : iO N sa sb v = some true := by
 have main : T (iO N sa sb v) (fun r => r = true) := by
  unfold iO
  refine T.bind (fewT N (by omega) sa) fun r1 h1 => T.bind (fewT N (by omega) sb) fun r2 h2 => ?_
  generalize hv1 : aI.mk v.gW v.gH v.gS v.gJ v.gI v.gA4 v.gA5 true = v1
  generalize hv2 : aI.mk v.gW v.gH v.gS v.gJ v.gI (U64 (v.gA4 + 1)) v.gA5 true = v2
  have c1 : v1.gT = true := by subst hv1; rfl
  have c2 : v2.gT = true := by subst hv2; rfl
  obtain ⟨q, eq, hq⟩ := newT N (by omega) r1 v1 h1
  obtain ⟨q', eq', hq'⟩ := newT N (by omega) r2 v2 h2
  refine T.eq eq ?_
  have wk : ∀ {c : Bool}, T (Option.bind (cond c (some ()) (some ())) fun _ => Option.bind (bL N) fun r => some r) (fun r => r = true) := by
   intro c; rw [hw]; cases c <;> exact ⟨true, rfl, rfl⟩
  have we : ∀ {c : Bool} {X : Option Bool}, c = true → T (Option.bind (cond c (some true) (some false)) fun p => cond p (Option.bind (bL N) fun r => some r) X) (fun r => r = true) := by
   intro c X h; rw [hw, h]; exact ⟨true, rfl, rfl⟩
  have nz : ∀ {e : Int}, e ≠ 0 → (e != 0) = true := fun h => by simpa using h
  have ct : ∀ {a b : Bool}, b = true → cond a true b = true := by intro a b h; rw [h]; cases a <;> rfl
  rcases q with e | r | r | r | r
  ·simp only [jU, eq', Option.bind_some, aU]
   rcases q' with e' | r' | r' | r' | r'
   ·exact wk
   ·exact hq'.elim
   ·exact wk
   ·exact hq'.elim
   ·exact absurd (c2.symm.trans hq'.1.2.2.2.2.2.2) (by decide)
  ·exact hq.elim
  ·simp only [jU, eq', Option.bind_some, aU]
   rcases q' with e' | r' | r' | r' | r'
   ·exact wk
   ·exact hq'.elim
   ·obtain ⟨A, B, C, lv, sky, gl, e⟩ := r
    obtain ⟨A', B', C', lv', sky', gl', e'⟩ := r'
    obtain ⟨rfl, rfl, rfl, hr, hsw, he, _, hlen, hfit⟩ := hq.1
    obtain ⟨rfl, rfl, rfl, hr', hsw', he', _, hlen', hfit'⟩ := hq'.1
    dsimp only at *
    subst he
    subst he'
    obtain ⟨c3, c4, c5⟩ := costA N hr.view
    simp only [c3, bne_self_eq_false, cond_false, Option.bind_some]
    have d0 := hr.view.2.2.1.1
    rw [df (show ¬ v1.gJ + 1 < 1 by omega), df (show ¬ aAy v1 < 16 by omega)]
    simp only [cond_false]
    refine T.bind (aPx N (by omega) hv1 hv2 hr hr' hsw hsw' hfit.2 hfit'.2 hlen hlen' N 0 (aF.mk 0 0 0) (aF.mk 0 0 0) (aF.mk 0 0 0) 0 0 (by omega) (by decide) ⟨z64, z64, z64⟩ ⟨rfl, rfl, rfl⟩ ⟨rfl, rfl, rfl⟩) fun o ho => ?_
    cases o with
    | inl p => rw [hw]; exact ⟨true, rfl, rfl⟩
    | inr p => exact ho.elim
   ·exact hq'.elim
   ·exact absurd (c2.symm.trans hq'.1.2.2.2.2.2.2) (by decide)
  ·exact hq.elim
  ·exact absurd (c1.symm.trans hq.1.2.2.2.2.2.2) (by decide)
 obtain ⟨r, e, rfl⟩ := main
 exact e
end Go.UK
