/- A part of the proof: what the functions of the program compute. -/
import Derived.Test.YtmfanigkgeohiaaGreatJ3
namespace Go.UK
open Go Go.Proofs
set_option maxRecDepth 20000
set_option maxHeartbeats 2000000
set_option linter.all false
section
variable {N : Nat} (hN : 1000 < N)
include hN
end
theorem idxV {n : Nat} (v : Vector Int n) (i : Nat) (h : i < n) : idx v.toList (i : Int) = some v[i] := by rw [iQ]; exact vV v i h
def v0 : aB := aB.mk 0 0 0
section
variable {ι ρ ρ' β : Type}
def TC (A : ι → Option ρ) (P : ρ → Prop) : Prop := ∃ a, P a ∧ ∀ i, A i = some a
theorem TU.c {A : ι → Option ρ} {B : ι → ρ → Option ρ'} {P : ρ → Prop} {Q : β → Prop} {S : ι → β → ρ' → Prop} (h : TC A P) (hf : ∀ a, P a → TU (fun i => B i a) Q S) : TU (fun i => Option.bind (A i) (B i)) Q S := by
 obtain ⟨a, pa, e⟩ := h
 exact TU.e e (hf a pa)
theorem TC.of {o : Option ρ} {A : ι → Option ρ} {P : ρ → Prop} (h : T o P) (e : ∀ i, A i = o) : TC A P := by
 obtain ⟨a, rfl, pa⟩ := h
 exact ⟨a, pa, e⟩
theorem TC.bind {A : ι → Option ρ} {B : ι → ρ → Option ρ'} {P : ρ → Prop} {Q : ρ' → Prop} (h : TC A P) (hf : ∀ a, P a → TC (fun i => B i a) Q) : TC (fun i => Option.bind (A i) (B i)) Q := by
 obtain ⟨a, pa, e⟩ := h
 obtain ⟨b, qb, e'⟩ := hf a pa
 exact ⟨b, qb, fun i => by show Option.bind (A i) (B i) = _; rw [e i]; exact e' i⟩
theorem TC.t {α : Type} {o : Option α} {B : ι → α → Option ρ} {P : α → Prop} {Q : ρ → Prop} (h : T o P) (hf : ∀ a, P a → TC (fun i => B i a) Q) : TC (fun i => Option.bind o (B i)) Q := by
 obtain ⟨a, rfl, pa⟩ := h
 exact hf a pa
theorem TC.cond {c : Bool} {A B : ι → Option ρ} {Q : ρ → Prop} (h1 : c = true → TC A Q) (h2 : c = false → TC B Q) : TC (fun i => _root_.cond c (A i) (B i)) Q := by
 cases c with
 | true => exact h1 rfl
 | false => exact h2 rfl
theorem TC.ret (a : ρ) {Q : ρ → Prop} (h : Q a) : TC (fun _ : ι => some a) Q := ⟨a, h, fun _ => rfl⟩
end
set_option maxHeartbeats 4000000
section
variable {ι : Type} {N : Nat} (hN : 4100 < N) {b : List (List aD)} {s : aG} {v : aI} {sky : aB} (hr : Rdy b s v sky)
include hN
include hr
end
section
variable {ι : Type} {N : Nat} (hN : 1000000000000 < N) {b : List (List aD)} {s : aG} {v : aI} {sky : aB} (hr : Rdy b s v sky)
include hN
include hr
end
section
variable {ι : Type} {N : Nat} (hN : 4100 < N) {b : List (List aD)} {s : aG} {v : aI} {sky : aB} (hr : Rdy b s v sky)
include hN hr
end
section
variable {ι : Type} {N : Nat} (hN : 1000000000000 < N) {b : List (List aD)} {s : aG} {v : aI} {sky : aB} (hr : Rdy b s v sky)
include hN hr
end
section
variable {ι : Type} {N : Nat} (hN : 4100 < N) {b : List (List aD)} {s : aG} {v : aI} {sky : aB} (hr : Rdy b s v sky)
include hN hr
end
section
variable {ι : Type} {N : Nat} (hN : 1000000000000 < N) {b : List (List aD)} {s : aG} {v : aI} {sky : aB} (hr : Rdy b s v sky)
include hN hr
end
def AO (G : Prop) (c : Int) (o : Sum Unit Int) : Prop := (o = .inl () ∧ G) ∨ (o = .inr c ∧ ¬G)
theorem T.uniq {α : Type} {x y : Option α} {P : α → Prop} (h : T x P) (h' : T y P) (u : ∀ a b, P a → P b → a = b) : x = y := by
 obtain ⟨a, rfl, pa⟩ := h
 obtain ⟨b, rfl, pb⟩ := h'
 rw [u a b pa pb]
theorem AO.uniq {G : Prop} {c : Int} (a b : Sum Unit Int) (h : AO G c a) (h' : AO G c b) : a = b := by
 rcases h with ⟨rfl, g⟩ | ⟨rfl, g⟩ <;> rcases h' with ⟨rfl, g'⟩ | ⟨rfl, g'⟩
 ·rfl
 ·exact absurd g g'
 ·exact absurd g' g
 ·rfl
theorem aHM {α : Type} (l : List α) (P : α → Prop) (c : Int) {F : Nat → Int → Option (Sum Unit Int)}
  (hstep : ∀ k i (h : i < l.length) (Q : Sum Unit Int → Prop), (P l[i] → T (F k ((i + 1 : Nat) : Int)) Q) → (¬ P l[i] → Q (.inr c)) → T (F (k + 1) (i : Int)) Q) (hend : ∀ k, F (k + 1) (l.length : Int) = some (.inl ()))
  {N : Nat} (hN : l.length < N) : T (F N 0) (AO (∀ x ∈ l, P x) c) := by
 refine T.loopG0 (n := l.length) (fun i (_ : Unit) => ∀ j, (h : j < l.length) → j < i → P l[j]) (AO (∀ x ∈ l, P x) c) (F := fun k _ i => F k i) (fun k _ i hi hs hk => ?_) (fun k _ hs => ?_) hN (s := ()) (fun j _ h => absurd h (by omega))
 ·refine hstep k i hi _ (fun hp => hk () fun j h hj => ?_) (fun hp => Or.inr ⟨rfl, fun h => hp (h _ (List.getElem_mem hi))⟩)
  by_cases e : j = i
  ·subst e; exact hp
  ·exact hs j h (by omega)
 ·rw [hend]
  refine T.ret (Or.inl ⟨rfl, fun x hx => ?_⟩)
  obtain ⟨j, h, rfl⟩ := List.getElem_of_mem hx
  exact hs j h h
theorem v2iff {v : Vector Int 2} {P : Int → Prop} : (∀ x ∈ v.toList, P x) ↔ P v[0] ∧ P v[1] :=
 ⟨fun h => ⟨h _ (aJO v (by decide)), h _ (aJO v (by decide))⟩, fun h => aN8 (fun x hx => by obtain rfl := iD (vV v 0 (by decide)) hx; exact h.1) (fun x hx => by obtain rfl := iD (vV v 1 (by decide)) hx; exact h.2)⟩
theorem aN2 {v : Vector Int 3} {P : Int → Prop} : (∀ x ∈ v.toList, P x) ↔ P v[0] ∧ P v[1] ∧ P v[2] :=
 ⟨fun h => ⟨h _ (aJO v (by decide)), h _ (aJO v (by decide)), h _ (aJO v (by decide))⟩, fun h => aMg (fun x hx => by obtain rfl := iD (vV v 0 (by decide)) hx; exact h.1) (fun x hx => by obtain rfl := iD (vV v 1 (by decide)) hx; exact h.2.1) (fun x hx => by obtain rfl := iD (vV v 2 (by decide)) hx; exact h.2.2)⟩
def inZ (lo hi x : Int) : Prop := lo ≤ x ∧ x ≤ hi
theorem aLP (N : Nat) (p : aA) {m : Int} (hm : 0 ≤ m) (hm' : m ≤ 1000000000) : T (fZ N p m) (fun r => r = true ↔ ¬ pwi m p) := by
 unfold fZ pwi
 simp only [aX]
 rw [eP (by omega) (by omega)]
 refine T.ret ?_
 by_cases h1 : p.gX > m
 ·rw [dt h1]; simp only [cond_true, true_iff]; omega
 rw [df h1]
 by_cases h2 : p.gX < 0 - m
 ·rw [dt h2]; simp only [cond_true, cond_false, true_iff]; omega
 rw [df h2]
 by_cases h3 : p.gY > m
 ·rw [dt h3]; simp only [cond_true, cond_false, true_iff]; omega
 rw [df h3]
 by_cases h4 : p.gY < 0 - m
 ·rw [dt h4]; simp only [cond_true, cond_false, true_iff]; omega
 rw [df h4]
 by_cases h5 : p.gZ > m
 ·rw [dt h5]; simp only [cond_true, cond_false, true_iff]; omega
 rw [df h5]
 by_cases h6 : p.gZ < 0 - m
 ·rw [dt h6]; simp only [cond_true, cond_false, true_iff]; omega
 rw [df h6]
 simp only [cond_false]
 constructor
 ·intro h; cases h
 ·intro h; omega
theorem mayP (N : Nat) (p : aA) : T (nN N p (aA.mk 1 0 0)) (fun r => r = true ↔ pwi 65536 p) := by
 unfold nN
 refine T.bind (P := fun r => r = true ↔ pwi 65536 p) ?_ fun r h => T.ret h
 refine T.bind (aEO N p (by decide) (by decide)) fun r2 h2 => T.cond (fun hc => ?_) (fun hc => T.ret ⟨(fun h => by cases h), fun h => by have := h2.2 h; rw [this] at hc; cases hc⟩)
 refine T.bind (aEO N (aA.mk 1 0 0) (by decide) (by decide)) fun r3 h3 => ?_
 have : r3 = true := h3.2 (by unfold pwi; decide)
 subst this
 rw [cond_true, aX]
 exact T.ret ⟨fun _ => h2.1 hc, fun _ => by decide⟩
theorem triE (N : Nat) (hN : 10 < N) (s : aG) (t : aE) : kA N s t = eE N s t := by
 have uv1 : T (eH N t N 0) (AO (∀ v ∈ t.gUv.toList, ∀ x ∈ v.toList, inZ 0 65535 x) 5) := by
  refine aHM t.gUv.toList (fun v => ∀ x ∈ v.toList, inZ 0 65535 x) 5 (fun k i h Q h1 h2 => ?_) (fun k => by rw [eH, df (by simp), cond_false]) (by simp; omega)
  have hi : i < 3 := by simpa using h
  rw [eH, dt (by omega), cond_true, iQ, List.getElem?_eq_getElem h, Option.bind_some]
  generalize t.gUv.toList[i] = v at *
  refine T.bind (P := fun r => r = true ↔ ¬ ∀ x ∈ v.toList, inZ 0 65535 x) ?_ fun p11 h11 => ?_
  ·refine T.bind (T.inRO (by decide) (by decide)) fun _ _ => T.eq (vV v 0 (by decide)) (T.bind (T.inRO (by decide) (by decide)) fun _ _ => T.eq (vV v 1 (by decide)) ?_)
   simp only [aX, qU, rU, v2iff, inZ]
   refine T.cond (fun h => T.ret ?_) (fun h => ?_)
   ·have := of_decide_eq_true h; simp only [true_iff]; omega
   ·refine T.bind (T.inRO (by decide) (by decide)) fun _ _ => T.eq (vV v 0 (by decide)) (T.bind (T.inRO (by decide) (by decide)) fun _ _ => T.eq (vV v 1 (by decide)) (T.ret ?_))
    have := of_decide_eq_false h
    rw [decide_eq_true_eq]; omega
  ·refine T.cond (fun hc => T.ret (h2 (h11.1 hc))) (fun hc => ?_)
   rw [jD (by omega)]
   exact h1 (Classical.byContradiction fun hn => by rw [h11.2 hn] at hc; cases hc)
 have uv2 : T (fA N t N 0) (AO (∀ v ∈ t.gUv.toList, ∀ x ∈ v.toList, inZ 0 65535 x) 5) := by
  refine aHM t.gUv.toList (fun v => ∀ x ∈ v.toList, inZ 0 65535 x) 5 (fun k i h Q h1 h2 => ?_) (fun k => by rw [fA, df (by simp), cond_false]) (by simp; omega)
  have hi : i < 3 := by simpa using h
  rw [fA, dt (by omega), cond_true]
  refine T.bind (P := AO (∀ x ∈ (t.gUv.toList[i]).toList, inZ 0 65535 x) 5) ?_ fun o ho => ?_
  ·refine aHM (t.gUv.toList[i]).toList (inZ 0 65535) 5 (fun k j h' Q h1 h2 => ?_) (fun k => by rw [iC, df (by simp), cond_false]) (by simp; omega)
   have hj : j < 2 := by simpa using h'
   rw [iC, dt (by omega), cond_true]
   simp only [iQ, List.getElem?_eq_getElem h, List.getElem?_eq_getElem h', Option.bind_some]
   generalize (t.gUv.toList[i]).toList[j] = x at *
   refine T.bind (P := fun r => r = true ↔ ¬ inZ 0 65535 x) ?_ fun p hp => T.cond (fun hc => T.ret (h2 (hp.1 hc))) (fun hc => by rw [jD (by omega)]; exact h1 (Classical.byContradiction fun hn => by rw [hp.2 hn] at hc; cases hc))
   unfold inZ
   refine T.cond (fun h => T.ret ?_) (fun h => T.ret ?_)
   ·have := of_decide_eq_true h; simp only [true_iff]; omega
   ·have := of_decide_eq_false h; rw [decide_eq_true_eq]; omega
  ·rcases ho with ⟨rfl, g⟩ | ⟨rfl, g⟩
   ·simp only [fW]; rw [jD (by omega)]; exact h1 g
   ·exact T.ret (h2 g)
 have p1 : T (eJ N t N 0) (AO (∀ p ∈ t.gP.toList, pwi 65536 p) 8) := by
  refine aHM t.gP.toList (pwi 65536) 8 (fun k i h Q h1 h2 => ?_) (fun k => by rw [eJ, df (by simp), cond_false]) (by simp; omega)
  have hi : i < 3 := by simpa using h
  rw [eJ, dt (by omega), cond_true, iQ, List.getElem?_eq_getElem h, Option.bind_some]
  refine T.bind (mayP N _) fun r hr => ?_
  cases r with
  | true => rw [show (!true) = false from rfl, cond_false, jD (by omega)]; exact h1 (hr.1 rfl)
  | false => exact T.ret (h2 fun h => by have := hr.2 h; cases this)
 have p2 : T (fD N t N 0) (AO (∀ p ∈ t.gP.toList, pwi 65536 p) 8) := by
  refine aHM t.gP.toList (pwi 65536) 8 (fun k i h Q h1 h2 => ?_) (fun k => by rw [fD, df (by simp), cond_false]) (by simp; omega)
  have hi : i < 3 := by simpa using h
  rw [fD, dt (by omega), cond_true, iQ, List.getElem?_eq_getElem h, Option.bind_some]
  refine T.bind (aLP N _ (by decide) (by decide)) fun r hr => T.cond (fun hc => T.ret (h2 (hr.1 hc))) (fun hc => ?_)
  rw [jD (by omega)]
  exact h1 (Classical.byContradiction fun hn => by rw [hr.2 hn] at hc; cases hc)
 unfold kA eE
 rw [T.uniq uv1 uv2 AO.uniq, T.uniq p1 p2 AO.uniq]
theorem aOp {α : Type} (l : List α) (G : α → Option Bool) (P : α → Prop) {F : Nat → Int → Option (Sum Unit Int)}
  (hF : ∀ k i, F (k + 1) i = aM (decide (i < ((l.length : Int)))) fun x => cond x (Option.bind (idx l i) fun e => Option.bind (G e) fun r => cond r (some (Sum.inr i)) (F k (I64 (i + 1)))) (some (Sum.inl (()))))
  (hG : ∀ x ∈ l, T (G x) (fun r => r = true ↔ ¬ P x)) {N : Nat} (hN : l.length < N) (hl : l.length < 1000000) :
  T (Option.bind (F N 0) fun o => fW o (fun _ => some (-1)) (fun r => some r)) (fun r => decide (r ≥ 0) = true ↔ ¬ ∀ x ∈ l, P x) := by
 refine T.bind (T.loopG0 (n := l.length) (fun i _ => ∀ j, (h : j < l.length) → j < i → P l[j]) (fun o => match o with | .inl _ => ∀ x ∈ l, P x | .inr r => 0 ≤ r ∧ ¬ ∀ x ∈ l, P x) (F := fun k (_ : Unit) i => F k i) (fun k s i hi hs hk => ?_) (fun k s hs => ?_) hN (s := ()) (fun j _ h => absurd h (by omega))) fun o ho => ?_
 ·rw [hF, aX, dt (by omega), cond_true, iQ, List.getElem?_eq_getElem hi, Option.bind_some]
  refine T.bind (hG _ (List.getElem_mem hi)) fun r hr => ?_
  refine T.cond (fun hc => T.ret ⟨by omega, fun h => hr.1 hc (h _ (List.getElem_mem hi))⟩) (fun hc => ?_)
  rw [jD (by omega)]
  refine hk () fun j h hj => ?_
  by_cases e : j = i
  ·subst e; exact Classical.byContradiction fun hn => by rw [hr.2 hn] at hc; cases hc
  ·exact hs j h (by omega)
 ·rw [hF, aX, df (by omega), cond_false]
  refine T.ret fun x hx => ?_
  obtain ⟨j, h, rfl⟩ := List.getElem_of_mem hx
  exact hs j h h
 ·cases o with
  | inl _ => exact T.ret ⟨fun h => absurd h (by decide), fun h => absurd ho h⟩
  | inr r => exact T.ret ⟨fun _ => ho.2, fun _ => dt ho.1⟩
theorem outI (N : Nat) (m : Int) (l : List Int) (hN : l.length < N) (hl : l.length < 1000000) : T (fV N m l) (fun r => r = true ↔ ¬ ∀ x ∈ l, inZ 0 m x) := by
 unfold fV cV dC
 refine T.bind (P := fun r => r = true ↔ ¬ ∀ x ∈ l, inZ 0 m x) ?_ fun r h => T.ret h
 refine T.bind (aOp l (fun e => fT N e m) (inZ 0 m) (fun k i => by rw [cW]) (fun x _ => ?_) hN hl) fun r h => T.ret h
 unfold fT inZ
 simp only [aX]
 refine T.ret ?_
 by_cases h1 : x < 0
 ·rw [dt h1, cond_true]; simp only [true_iff]; omega
 ·rw [df h1, cond_false, decide_eq_true_eq]; omega
def GB (G : Prop) (r : Int) : Prop := (r = 0 ∧ G) ∨ (r = 5 ∧ ¬G)
theorem GB.uniq {G : Prop} (a b : Int) (h : GB G a) (h' : GB G b) : a = b := by
 rcases h with ⟨rfl, g⟩ | ⟨rfl, g⟩ <;> rcases h' with ⟨rfl, g'⟩ | ⟨rfl, g'⟩
 ·rfl
 ·exact absurd g g'
 ·exact absurd g' g
 ·rfl
theorem colL (v : Vector Int 3) (m : Int) {F : Nat → Int → Option (Sum Unit Int)}
  (hF : ∀ k i, F (k + 1) i = cond (decide (i < 3)) (Option.bind (Option.bind (idx v.toList i) fun e7 => cond (decide (e7 < 0)) (some true) (Option.bind (idx v.toList i) fun e8 => some (decide (e8 > m)))) fun p6 => cond p6 (some (Sum.inr 5)) (F k (I64 (i + 1)))) (some (Sum.inl (())))) {N : Nat} (hN : 3 < N) :
  T (F N 0) (AO (∀ x ∈ v.toList, inZ 0 m x) 5) := by
 refine aHM v.toList (inZ 0 m) 5 (fun k i h Q h1 h2 => ?_) (fun k => by rw [hF, df (by simp), cond_false]) (by simpa using hN)
 have hi : i < 3 := by simpa using h
 rw [hF, dt (by omega), cond_true]
 simp only [iQ, List.getElem?_eq_getElem h, Option.bind_some]
 generalize v.toList[i] = x at *
 refine T.bind (P := fun r => r = true ↔ ¬ inZ 0 m x) ?_ fun p hp => T.cond (fun hc => T.ret (h2 (hp.1 hc))) (fun hc => by rw [jD (by omega)]; exact h1 (Classical.byContradiction fun hn => by rw [hp.2 hn] at hc; cases hc))
 unfold inZ
 refine T.cond (fun h => T.ret ?_) (fun h => T.ret ?_)
 ·have := of_decide_eq_true h; simp only [true_iff]; omega
 ·have := of_decide_eq_false h; rw [decide_eq_true_eq]; omega
theorem matE (N : Nat) (hN : 10 < N) (m : aP) : fC N m = eF N m := by
 have c1 : T (fC N m) (GB (inZ 0 4 m.gF ∧ (∀ x ∈ m.gL.toList, inZ 0 65535 x) ∧ inZ 0 65535 m.gA4)) := by
  unfold fC
  refine T.bind (P := fun r => r = true ↔ ¬ (inZ 0 4 m.gF ∧ (∀ x ∈ m.gL.toList, inZ 0 65535 x) ∧ inZ 0 65535 m.gA4)) ?_ fun p1 h1 => T.cond (fun hc => T.ret (Or.inr ⟨rfl, h1.1 hc⟩)) (fun hc => T.ret (Or.inl ⟨rfl, Classical.byContradiction fun hn => by rw [h1.2 hn] at hc; cases hc⟩))
  refine T.bind (outI N 4 _ (by simp; omega) (by simp)) fun r2 h2 => T.cond (fun hc => T.ret ?_) (fun hc => ?_)
  ·have := h2.1 hc
   simp only [true_iff]
   intro h; exact this (by intro x hx; simp at hx; rw [hx]; exact h.1)
  ·have k : inZ 0 4 m.gF := Classical.byContradiction fun hn => by rw [h2.2 fun h => hn (h _ (by simp))] at hc; cases hc
   refine T.eq (idxV m.gL 0 (by decide)) (T.eq (idxV m.gL 1 (by decide)) (T.eq (idxV m.gL 2 (by decide)) (T.bind (outI N 65535 _ (by simp; omega) (by simp)) fun r6 h6 => T.ret (h6.trans ?_))))
   rw [aN2]
   constructor
   ·intro h g; exact h (by intro x hx; simp at hx; rcases hx with rfl | rfl | rfl | rfl; exact g.2.1.1; exact g.2.1.2.1; exact g.2.1.2.2; exact g.2.2)
   ·intro h g; exact h ⟨k, ⟨g _ (by simp), g _ (by simp), g _ (by simp)⟩, g _ (by simp)⟩
 have c2 : T (eF N m) (GB (inZ 0 4 m.gF ∧ (∀ x ∈ m.gL.toList, inZ 0 65535 x) ∧ inZ 0 65535 m.gA4)) := by
  unfold eF
  simp only [aX]
  have kr : (cond (cond (cond (decide (m.gF < 0)) true (decide (m.gF > 4))) true (decide (m.gA4 < 0))) true (decide (m.gA4 > 65535))) = true ↔ ¬ (inZ 0 4 m.gF ∧ inZ 0 65535 m.gA4) := by
   unfold inZ
   by_cases a1 : m.gF < 0
   ·rw [dt a1]; simp only [cond_true, true_iff]; omega
   rw [df a1]
   by_cases a2 : m.gF > 4
   ·rw [dt a2]; simp only [cond_true, cond_false, true_iff]; omega
   rw [df a2]
   by_cases a3 : m.gA4 < 0
   ·rw [dt a3]; simp only [cond_true, cond_false, true_iff]; omega
   rw [df a3]
   simp only [cond_false, decide_eq_true_eq]; omega
  refine T.cond (fun hc => T.ret (Or.inr ⟨rfl, fun h => kr.1 hc ⟨h.1, h.2.2⟩⟩)) (fun hc => ?_)
  have g : inZ 0 4 m.gF ∧ inZ 0 65535 m.gA4 := Classical.byContradiction fun hn => by rw [kr.2 hn] at hc; cases hc
  refine T.bind (colL m.gL 65535 (F := iF N m) (fun k i => by rw [iF]) (by omega)) fun o ho => ?_
  rcases ho with ⟨rfl, h⟩ | ⟨rfl, h⟩
  ·exact T.ret (Or.inl ⟨rfl, g.1, h, g.2⟩)
  ·exact T.ret (Or.inr ⟨rfl, fun x => h x.2.1⟩)
 exact T.uniq c1 c2 GB.uniq
theorem contI (N : Nat) (l : List Int) (a : Int) (hN : l.length < N) (hl : l.length < 1000000) : T (dM N l a) (fun r => r = true ↔ a ∈ l) := by
 unfold dM jE
 refine T.bind (P := fun r => 0 ≤ r ↔ a ∈ l) ?_ fun r h => T.ret (by rw [decide_eq_true_eq]; exact h)
 refine T.bind (T.loopG0 (n := l.length) (fun i _ => ∀ j, (h : j < l.length) → j < i → a ≠ l[j]) (fun o => match o with | .inl _ => a ∉ l | .inr r => 0 ≤ r ∧ a ∈ l) (F := fun k (_ : Unit) i => cS N l a k i) (fun k _ i hi hs hk => ?_) (fun k _ hs => ?_) hN (s := ()) (fun j _ h => absurd h (by omega))) fun o ho => ?_
 ·rw [cS, aX, dt (by omega), cond_true, iQ, List.getElem?_eq_getElem hi, Option.bind_some]
  refine T.cond (fun hc => T.ret ⟨by omega, ?_⟩) (fun hc => ?_)
  ·have e : a = l[i] := by simpa using hc
   rw [e]; exact List.getElem_mem hi
  ·rw [jD (by omega)]
   refine hk () fun j h hj => ?_
   by_cases e : j = i
   ·subst e; simpa using hc
   ·exact hs j h (by omega)
 ·rw [cS, aX, df (by omega), cond_false]
  refine T.ret fun hm => ?_
  obtain ⟨j, h, e⟩ := List.getElem_of_mem hm
  exact hs j h h e.symm
 ·cases o with
  | inl _ => exact T.ret ⟨fun h => absurd h (by decide), fun h => absurd h ho⟩
  | inr r => exact T.ret ⟨fun _ => ho.2, fun _ => ho.1⟩
theorem texE (N : Nat) (t : aD) (hN : t.gG.length < N) (hN' : 10 < N) (hl : t.gG.length < 1000000) : eM N t = iN N t := by
 have l1 : T (eW N (t.gG.length : Int) t N 0) (AO (∀ v ∈ t.gG, ∀ x ∈ v.toList, inZ 0 255 x) 5) := by
  refine aHM t.gG (fun v => ∀ x ∈ v.toList, inZ 0 255 x) 5 (fun k i h Q h1 h2 => ?_) (fun k => by rw [eW, df (by omega), cond_false]) hN
  rw [eW, dt (by omega), cond_true, iQ, List.getElem?_eq_getElem h, Option.bind_some]
  generalize t.gG[i] = v at *
  refine T.bind (P := fun r => r = true ↔ ¬ ∀ x ∈ v.toList, inZ 0 255 x) ?_ fun p11 h11 => ?_
  ·refine T.bind (T.inRO (by decide) (by decide)) fun _ _ => T.eq (vV v 0 (by decide)) (T.bind (T.inRO (by decide) (by decide)) fun _ _ => T.eq (vV v 1 (by decide)) (T.bind (T.inRO (by decide) (by decide)) fun _ _ => T.eq (vV v 2 (by decide)) ?_))
   simp only [aX, qU, rU, aN2, inZ]
   refine T.cond (fun h => T.ret ?_) (fun h => ?_)
   ·have := of_decide_eq_true h; simp only [true_iff]; omega
   ·refine T.bind (T.inRO (by decide) (by decide)) fun _ _ => T.eq (vV v 0 (by decide)) (T.bind (T.inRO (by decide) (by decide)) fun _ _ => T.eq (vV v 1 (by decide)) (T.bind (T.inRO (by decide) (by decide)) fun _ _ => T.eq (vV v 2 (by decide)) (T.ret ?_)))
    have := of_decide_eq_false h
    rw [decide_eq_true_eq]; omega
  ·refine T.cond (fun hc => T.ret (h2 (h11.1 hc))) (fun hc => ?_)
   rw [jD (by omega)]
   exact h1 (Classical.byContradiction fun hn => by rw [h11.2 hn] at hc; cases hc)
 have l2 : T (iB N t N 0) (AO (∀ v ∈ t.gG, ∀ x ∈ v.toList, inZ 0 255 x) 5) := by
  refine aHM t.gG (fun v => ∀ x ∈ v.toList, inZ 0 255 x) 5 (fun k i h Q h1 h2 => ?_) (fun k => by rw [iB, aX, df (by omega), cond_false]) hN
  rw [iB, aX, dt (by omega), cond_true]
  refine T.bind (P := AO (∀ x ∈ (t.gG[i]).toList, inZ 0 255 x) 5) ?_ fun o ho => ?_
  ·refine aHM (t.gG[i]).toList (inZ 0 255) 5 (fun k j h' Q h1 h2 => ?_) (fun k => by rw [jR, df (by simp), cond_false]) (by simp; omega)
   have hj : j < 3 := by simpa using h'
   rw [jR, dt (by omega), cond_true]
   simp only [iQ, List.getElem?_eq_getElem h, List.getElem?_eq_getElem h', Option.bind_some]
   generalize (t.gG[i]).toList[j] = x at *
   refine T.bind (P := fun r => r = true ↔ ¬ inZ 0 255 x) ?_ fun p hp => T.cond (fun hc => T.ret (h2 (hp.1 hc))) (fun hc => by rw [jD (by omega)]; exact h1 (Classical.byContradiction fun hn => by rw [hp.2 hn] at hc; cases hc))
   unfold inZ
   refine T.cond (fun h => T.ret ?_) (fun h => T.ret ?_)
   ·have := of_decide_eq_true h; simp only [true_iff]; omega
   ·have := of_decide_eq_false h; rw [decide_eq_true_eq]; omega
  ·rcases ho with ⟨rfl, g⟩ | ⟨rfl, g⟩
   ·simp only [fW]; rw [jD (by omega)]; exact h1 g
   ·exact T.ret (h2 g)
 unfold eM iN
 obtain ⟨r, e, hr⟩ := contI N [1, 2, 4, 8, 16] t.gE (by simp; omega) (by simp)
 rw [e, Option.bind_some]
 simp only [aX]
 have sd : (!r) = cond (cond (cond (cond (t.gE != 1) (t.gE != 2) false) (t.gE != 4) false) (t.gE != 8) false) (t.gE != 16) false := by
  have : r = true ↔ (t.gE = 1 ∨ t.gE = 2 ∨ t.gE = 4 ∨ t.gE = 8 ∨ t.gE = 16) := by simpa using hr
  by_cases a1 : t.gE = 1
  ·rw [this.2 (by simp [a1]), a1]; rfl
  by_cases a2 : t.gE = 2
  ·rw [this.2 (by simp [a2]), a2]; rfl
  by_cases a3 : t.gE = 4
  ·rw [this.2 (by simp [a3]), a3]; rfl
  by_cases a4 : t.gE = 8
  ·rw [this.2 (by simp [a4]), a4]; rfl
  by_cases a5 : t.gE = 16
  ·rw [this.2 (by simp [a5]), a5]; rfl
  have hf : r = false := by
   cases r with
   | false => rfl
   | true => rcases this.1 rfl with h | h | h | h | h <;> contradiction
  rw [hf, show (t.gE != 1) = true by simpa using a1, show (t.gE != 2) = true by simpa using a2, show (t.gE != 4) = true by simpa using a3, show (t.gE != 8) = true by simpa using a4, show (t.gE != 16) = true by simpa using a5]
  rfl
 rw [← sd, T.uniq l1 l2 AO.uniq]
theorem aHB (N : Nat) (p : aA) : T (iJ N p) (fun r => r = true ↔ ¬ pwi 4096 p) := by
 unfold iJ pwi
 simp only [aX, rU, qU]
 refine T.bind (P := fun r => r = true ↔ ¬ ((-4096 ≤ p.gX ∧ p.gX ≤ 4096) ∧ (-4096 ≤ p.gY ∧ p.gY ≤ 4096) ∧ -4096 ≤ p.gZ ∧ p.gZ ≤ 4096)) ?_ fun r h => T.ret h
 refine T.cond (fun h => T.ret ?_) (fun h => T.ret ?_)
 ·have := of_decide_eq_true h; simp only [true_iff]; omega
 ·have := of_decide_eq_false h; rw [decide_eq_true_eq]; omega
def lG1 (l : aN) : Prop := inZ 0 2 l.gF ∧ ∀ x ∈ l.gL.toList, inZ 0 1048576 x
def lG2 (l : aN) : Prop := pwi 4096 l.gAt ∧ pwi 4096 l.gU ∧ pwi 4096 l.gV
def aMi (l : aN) : Bool := cond (l.gF == 2) (cond (!(aA.eq l.gAt (aA.mk 0 0 0))) true (cond (!(aA.eq l.gU (aA.mk 0 0 0))) true (!(aA.eq l.gV (aA.mk 0 0 0))))) (cond (l.gF == 0) (cond (!(aA.eq l.gU (aA.mk 0 0 0))) true (!(aA.eq l.gV (aA.mk 0 0 0)))) false)
def LB (l : aN) (r : Int) : Prop := (¬lG1 l ∧ r = 5) ∨ (lG1 l ∧ ¬lG2 l ∧ r = 8) ∨ (lG1 l ∧ lG2 l ∧ r = cond (aMi l) 5 0)
theorem LB.uniq {l : aN} (a b : Int) (h : LB l a) (h' : LB l b) : a = b := by
 rcases h with ⟨g, rfl⟩ | ⟨g, g2, rfl⟩ | ⟨g, g2, rfl⟩ <;> rcases h' with ⟨k, rfl⟩ | ⟨k, k2, rfl⟩ | ⟨k, k2, rfl⟩ <;> first | rfl | contradiction
theorem ofI {r : Bool} {G : Prop} (h : r = true ↔ ¬ G) (hc : r = false) : G := Classical.byContradiction fun hn => by rw [h.2 hn] at hc; cases hc
theorem aOJ (N : Nat) (hN : 10 < N) (l : aN) : iE N l = iO N l := by
 have c1 : T (iE N l) (LB l) := by
  unfold iE
  refine T.bind (P := fun r => r = true ↔ ¬ lG1 l) ?_ fun p1 h1 => T.cond (fun hc => T.ret (Or.inl ⟨h1.1 hc, rfl⟩)) (fun hc1 => ?_)
  ·refine T.bind (outI N 2 _ (by simp; omega) (by simp)) fun r2 h2 => T.cond (fun hc => T.ret ?_) (fun hc => ?_)
   ·have := h2.1 hc
    simp only [true_iff]
    intro h; exact this (by intro x hx; simp at hx; rw [hx]; exact h.1)
   ·have k := ofI h2 hc l.gF (by simp)
    refine T.bind (T.slc3 _) fun s3 h3 => ?_
    subst h3
    refine T.bind (outI N 1048576 _ (by simp; omega) (by simp)) fun r4 h4 => T.ret (h4.trans ⟨fun h g => h g.2, fun h g => h ⟨k, g⟩⟩)
  have g1 := ofI h1 hc1
  refine T.bind (P := fun r => r = true ↔ ¬ lG2 l) ?_ fun p5 h5 => T.cond (fun hc => T.ret (Or.inr (Or.inl ⟨g1, h5.1 hc, rfl⟩))) (fun hc5 => ?_)
  ·refine T.bind (aHB N _) fun r6 h6 => T.cond (fun hc => T.ret ⟨fun _ h => h6.1 hc h.1, fun _ => rfl⟩) (fun c6 => ?_)
   refine T.bind (aHB N _) fun r7 h7 => T.cond (fun hc => T.ret ⟨fun _ h => h7.1 hc h.2.1, fun _ => rfl⟩) (fun c7 => ?_)
   exact T.bind (aHB N _) fun r8 h8 => T.ret (h8.trans ⟨fun h g => h g.2.2, fun h g => h ⟨ofI h6 c6, ofI h7 c7, g⟩⟩)
  refine T.mono (P := fun r => r = cond (aMi l) 5 0) ?_ fun r h => Or.inr (Or.inr ⟨g1, ofI h5 hc5, h⟩)
  unfold aMi
  simp only [aX]
  generalize (l.gF == 2) = a
  generalize (l.gF == 0) = b
  generalize aA.eq l.gAt (aA.mk 0 0 0) = c
  generalize aA.eq l.gU (aA.mk 0 0 0) = d
  generalize aA.eq l.gV (aA.mk 0 0 0) = e
  cases a <;> cases b <;> cases c <;> cases d <;> cases e <;> exact ⟨_, rfl, rfl⟩
 have c2 : T (iO N l) (LB l) := by
  unfold iO
  rw [aX]
  have kk : (cond (decide (l.gF < 0)) true (decide (l.gF > 2))) = true ↔ ¬ inZ 0 2 l.gF := by
   unfold inZ
   by_cases a1 : l.gF < 0
   ·rw [dt a1]; simp only [cond_true, true_iff]; omega
   rw [df a1]
   simp only [cond_false, decide_eq_true_eq]; omega
  refine T.cond (fun hc => T.ret (Or.inl ⟨fun h => kk.1 hc h.1, rfl⟩)) (fun hc => ?_)
  have k := ofI kk hc
  refine T.bind (colL l.gL 1048576 (F := jQ N l) (fun k i => by rw [jQ]) (by omega)) fun o ho => ?_
  rcases ho.symm with ⟨rfl, h⟩ | ⟨rfl, h⟩
  ·exact T.ret (Or.inl ⟨fun x => h x.2, rfl⟩)
  have g1 : lG1 l := ⟨k, h⟩
  simp only [fW]
  refine T.bind (P := fun r => r = true ↔ ¬ lG2 l) ?_ fun p5 h5 => T.cond (fun hc => T.ret (Or.inr (Or.inl ⟨g1, h5.1 hc, rfl⟩))) (fun hc5 => ?_)
  ·refine T.bind (aLP N _ (by decide) (by decide)) fun r6 h6 => T.cond (fun hc => T.ret ⟨fun _ h => h6.1 hc h.1, fun _ => rfl⟩) (fun c6 => ?_)
   refine T.bind (aLP N _ (by decide) (by decide)) fun r7 h7 => T.cond (fun hc => T.ret ⟨fun _ h => h7.1 hc h.2.1, fun _ => rfl⟩) (fun c7 => ?_)
   exact T.bind (aLP N _ (by decide) (by decide)) fun r8 h8 => T.ret (h8.trans ⟨fun h g => h g.2.2, fun h g => h ⟨ofI h6 c6, ofI h7 c7, g⟩⟩)
  refine T.mono (P := fun r => r = cond (aMi l) 5 0) ?_ fun r h => Or.inr (Or.inr ⟨g1, ofI h5 hc5, h⟩)
  unfold aMi
  simp only [aX]
  have k3 : l.gF = 0 ∨ l.gF = 1 ∨ l.gF = 2 := by unfold inZ at k; omega
  generalize aA.eq l.gAt (aA.mk 0 0 0) = c
  generalize aA.eq l.gU (aA.mk 0 0 0) = d
  generalize aA.eq l.gV (aA.mk 0 0 0) = e
  rcases k3 with h | h | h <;> rw [h] <;> cases c <;> cases d <;> cases e <;> exact ⟨_, rfl, rfl⟩
 exact T.uniq c1 c2 LB.uniq
theorem mayS (N : Nat) (p : aA) (k : Nat) (s : Bool) (i : Nat) (x : Int) (hx : idx [p.gX, p.gY, p.gZ] (i : Int) = some x) (hi : i < 3) :
  eK N p (k + 1) s (i : Int) = cond (cond (decide (x > 16384)) true (decide (x < -16384))) (some (Sum.inr false)) (eK N p k (cond s true (x != 0)) ((i + 1 : Nat) : Int)) := by
 rw [eK, dt (by omega), cond_true, jD (by omega)]
 simp only [hx, Option.bind_some]
 cases decide (x > 16384) <;> cases decide (x < -16384) <;> cases s <;> rfl
theorem mayS3 (N : Nat) (p : aA) (k : Nat) (s : Bool) : eK N p (k + 1) s ((2 + 1 : Nat) : Int) = some (Sum.inl s) := by
 rw [eK, show decide (((2 + 1 : Nat) : Int) < 3) = false by decide, cond_false]
theorem aMt (p : aA) : aA.eq p (aA.mk 0 0 0) = decide (p.gX = 0 ∧ p.gY = 0 ∧ p.gZ = 0) := by
 unfold aA.eq
 rw [Bool.eq_iff_iff]
 simp
theorem octE (k : Nat) (p : aA) : jU (k + 4) p = some (tG p) := by
 unfold jU
 rw [show (0 : Int) = ((0 : Nat) : Int) from rfl, mayS _ p (k + 3) false 0 p.gX rfl (by decide), mayS _ p (k + 2) _ 1 p.gY rfl (by decide), mayS _ p (k + 1) _ 2 p.gZ rfl (by decide), mayS3]
 unfold tG
 simp only [rU, qU, aMt]
 have key : ∀ (x y z : Int), (Option.bind (cond (cond (decide (x > 16384)) true (decide (x < -16384))) (some (Sum.inr false)) (cond (cond (decide (y > 16384)) true (decide (y < -16384))) (some (Sum.inr false)) (cond (cond (decide (z > 16384)) true (decide (z < -16384))) (some (Sum.inr false)) (some (Sum.inl (cond (cond (cond false true (x != 0)) true (y != 0)) true (z != 0))))))) fun o => fW o (fun p1 => some p1) fun r => some r) = some (cond (!decide (x = 0 ∧ y = 0 ∧ z = 0)) (cond (decide (max (max x y) z ≤ 16384)) (decide (min (min x y) z ≥ -16384)) false) false) := by
  intro x y z
  by_cases a1 : x > 16384
  ·rw [dt a1, df (show ¬ max (max x y) z ≤ 16384 by omega), cond_true, cond_true, cond_false]
   cases (!decide (x = 0 ∧ y = 0 ∧ z = 0)) <;> rfl
  by_cases a2 : x < -16384
  ·rw [df a1, dt a2, df (show ¬ min (min x y) z ≥ -16384 by omega), cond_false, cond_true]
   cases (!decide (x = 0 ∧ y = 0 ∧ z = 0)) <;> cases decide (max (max x y) z ≤ 16384) <;> rfl
  rw [df a1, df a2, cond_false, cond_false]
  by_cases b1 : y > 16384
  ·rw [dt b1, df (show ¬ max (max x y) z ≤ 16384 by omega), cond_true, cond_true, cond_false]
   cases (!decide (x = 0 ∧ y = 0 ∧ z = 0)) <;> rfl
  by_cases b2 : y < -16384
  ·rw [df b1, dt b2, df (show ¬ min (min x y) z ≥ -16384 by omega), cond_false, cond_true]
   cases (!decide (x = 0 ∧ y = 0 ∧ z = 0)) <;> cases decide (max (max x y) z ≤ 16384) <;> rfl
  rw [df b1, df b2, cond_false, cond_false]
  by_cases c1 : z > 16384
  ·rw [dt c1, df (show ¬ max (max x y) z ≤ 16384 by omega), cond_true, cond_true, cond_false]
   cases (!decide (x = 0 ∧ y = 0 ∧ z = 0)) <;> rfl
  by_cases c2 : z < -16384
  ·rw [df c1, dt c2, df (show ¬ min (min x y) z ≥ -16384 by omega), cond_false, cond_true]
   cases (!decide (x = 0 ∧ y = 0 ∧ z = 0)) <;> cases decide (max (max x y) z ≤ 16384) <;> rfl
  rw [df c1, df c2, cond_false, cond_false, dt (show max (max x y) z ≤ 16384 by omega), dt (show min (min x y) z ≥ -16384 by omega)]
  simp only [Option.bind_some, fW, cond_true, cond_false]
  congr 1
  by_cases x0 : x = 0
  ·by_cases y0 : y = 0
   ·by_cases z0 : z = 0
    ·rw [x0, y0, z0]; rfl
    ·rw [df (show ¬ (x = 0 ∧ y = 0 ∧ z = 0) by simp [z0]), x0, y0, show (z != 0) = true by simpa using z0]; rfl
   ·rw [df (show ¬ (x = 0 ∧ y = 0 ∧ z = 0) by simp [y0]), x0, show (y != 0) = true by simpa using y0]; rfl
  ·rw [df (show ¬ (x = 0 ∧ y = 0 ∧ z = 0) by simp [x0]), show (x != 0) = true by simpa using x0]; rfl
 exact key p.gX p.gY p.gZ
theorem camE (k : Nat) (c : bR) (w h : Int) : mI (k + 4) c w h = lO (k + 4) c w h := by
 unfold mI lO
 obtain ⟨r, e, hr⟩ := aLP (k + 4) c.gJ (m := 32768) (by decide) (by decide)
 rw [e]
 simp only [aX, aJ7, octE, aLI, aMj, Option.bind_some]
 have eye : cond (decide (iS (iS c.gJ.gX c.gJ.gY) c.gJ.gZ > 32768)) true (decide (jI (jI c.gJ.gX c.gJ.gY) c.gJ.gZ < -32768)) = r := by
  rw [Bool.eq_iff_iff, hr]
  unfold pwi
  simp only [rU, qU]
  by_cases a : max (max c.gJ.gX c.gJ.gY) c.gJ.gZ > 32768
  ·rw [dt a]; simp only [cond_true, true_iff]; omega
  ·rw [df a]; simp only [cond_false, decide_eq_true_eq]; omega
 rw [eye]
 have rng : ∀ x lo hi : Int, (!cond (decide (x ≥ lo)) (decide (x ≤ hi)) false) = cond (decide (x < lo)) true (decide (x > hi)) := by
  intro x lo hi
  by_cases a : x < lo
  ·rw [dt a, df (show ¬ x ≥ lo by omega)]; rfl
  ·rw [df a, dt (show x ≥ lo by omega)]
   by_cases b : x ≤ hi
   ·rw [dt b, df (show ¬ x > hi by omega)]; rfl
   ·rw [df b, dt (show x > hi by omega)]; rfl
 simp only [rng]
 generalize decide (c.gB0 < 0) = a1
 generalize decide (c.gB0 > 1024) = a2
 generalize decide (c.gB3 < 1) = a3
 generalize decide (c.gB3 > 32768) = a4
 generalize decide (w < 1) = a5
 generalize decide (w > 64) = a6
 generalize decide (h < 1) = a7
 generalize decide (h > 64) = a8
 cases r
 case true => rfl
 generalize tG c.gA6 = o1
 generalize tG c.gUp = o2
 generalize tG c.gC0 = o3
 cases o1
 case false => rfl
 cases o2
 case false => rfl
 cases o3
 case false => rfl
 cases a1
 case true => rfl
 cases a2
 case true => rfl
 cases a3
 case true => rfl
 cases a4
 case true => rfl
 cases a5
 case true => rfl
 cases a6
 case true => rfl
 cases a7
 case true => rfl
 cases a8 <;> rfl
theorem mayE (k : Nat) (v : aI) : fU (k + 4) v = eQ (k + 4) v := by
 unfold fU eQ
 rw [camE]
theorem fitsE (N : Nat) (s : aG) (c : Int) : kG N s c = mK N s c := by
 unfold kG mK
 rw [aGh]
 unfold sH
 cases (c == 0) <;> cases (c == 1) <;> cases (c == 2) <;> rfl
theorem aAa {α : Type} (l : List α) (G G' : α → Option Int) {F F' : Nat → Int → Option (Sum Unit Int)}
  (hF : ∀ k i, F (k + 1) i = cond (decide (i < ((l.length : Int)))) (Option.bind (idx l i) fun e => Option.bind (G e) fun r => cond (r != 0) (some (Sum.inr r)) (F k (I64 (i + 1)))) (some (Sum.inl (()))))
  (hF' : ∀ k i, F' (k + 1) i = cond (decide (i < ((l.length : Int)))) (Option.bind (idx l i) fun e => Option.bind (G' e) fun r => cond (r != 0) (some (Sum.inr r)) (F' k (I64 (i + 1)))) (some (Sum.inl (()))))
  (h0 : F 0 = F' 0) (h : ∀ x ∈ l, G x = G' x) : ∀ k (i : Nat), i < 1000000 → l.length < 1000000 → F k (i : Int) = F' k (i : Int)
 | 0, i, _, _ => by rw [h0]
 | k + 1, i, hi, hl => by
  rw [hF, hF']
  by_cases hc : i < l.length
  ·rw [dt (by omega), cond_true, cond_true, iQ, List.getElem?_eq_getElem hc, Option.bind_some, Option.bind_some, h _ (List.getElem_mem hc), jD (by omega), aAa l G G' hF hF' h0 h k (i + 1) (by omega) hl]
  ·rw [df (by omega)]; rfl
theorem aOE {o : Option (Sum Unit Int)} {f : Option Int} : (Option.bind (Option.bind o fun o => fW o (fun _ => some 0) (fun r => some r)) fun r => cond (r != 0) (some r) f) = Option.bind o fun o => fW o (fun _ => f) (fun r => cond (r != 0) (some r) f) := by
 cases o with
 | none => rfl
 | some o => cases o <;> rfl
theorem aLv (N : Nat) (hN : 300 < N) (s : aG) (hs : few s) : dW N s = dX N s := by
 obtain ⟨f1, f2, f3, f4, f5⟩ := hs
 have t1 : cN N s.gM s N 0 = eC N s N 0 := by
  refine aAa s.gM (fun t => iP N t s) (fun t => eE N s t) (F := cN N s.gM s) (F' := eC N s) (fun k i => by rw [cN, aX]) (fun k i => by rw [eC, aX]) rfl (fun t _ => ?_) N 0 (by decide) (by omega)
  unfold iP
  rw [triE N (by omega) s t]
  cases eE N s t <;> rfl
 have t2 : bT N s.gQ N 0 = eD N s N 0 :=
  aAa s.gQ (fC N) (eF N) (F := bT N s.gQ) (F' := eD N s) (fun k i => by rw [bT, aX]) (fun k i => by rw [eD, aX]) rfl (fun t _ => matE N (by omega) t) N 0 (by decide) (by omega)
 have t3 : cE N s.gK N 0 = eG N s N 0 :=
  aAa s.gK (eM N) (iN N) (F := cE N s.gK) (F' := eG N s) (fun k i => by rw [cE, aX]) (fun k i => by rw [eG, aX]) rfl (fun t ht => texE N t (by have := f5 t ht; omega) (by omega) (by have := f5 t ht; omega)) N 0 (by decide) (by omega)
 have t4 : cM N s.gR N 0 = fJ N s N 0 :=
  aAa s.gR (iE N) (iO N) (F := cM N s.gR) (F' := fJ N s) (fun k i => by rw [cM, aX]) (fun k i => by rw [fJ, aX]) rfl (fun t _ => aOJ N (by omega) t) N 0 (by decide) (by omega)
 unfold dW dX dI cR dD dJ
 rw [t1, t2, t3, t4]
 simp only [aX]
 have nz : ∀ {F : Nat → Int → Option (Sum Unit Int)} {n : Int} {G : Int → Option Int} (_ : ∀ k i, F (k + 1) i = cond (decide (i < n)) (Option.bind (G i) fun r => cond (r != 0) (some (Sum.inr r)) (F k (I64 (i + 1)))) (some (Sum.inl (())))) (_ : F 0 = fun _ => none), ∀ k i r, F k i = some (.inr r) → r ≠ 0 := by
  intro F n G hF h0 k
  induction k with
  | zero => intro i r h; rw [h0] at h; cases h
  | succ k ih =>
   intro i r h
   rw [hF] at h
   cases hc : decide (i < n) with
   | false => rw [hc, cond_false] at h; cases h
   | true =>
    rw [hc, cond_true] at h
    cases hg : G i with
    | none => rw [hg] at h; cases h
    | some x =>
     rw [hg, Option.bind_some] at h
     cases hx : (x != 0) with
     | true => rw [hx, cond_true] at h; cases h; simpa using hx
     | false => rw [hx, cond_false] at h; exact ih _ _ h
 have go : ∀ {o : Option (Sum Unit Int)} (_ : ∀ r, o = some (.inr r) → r ≠ 0) {f : Option Int}, (Option.bind (Option.bind o fun o => fW o (fun _ => some 0) (fun r => some r)) fun r => cond (r != 0) (some r) f) = Option.bind o fun o => fW o (fun _ => f) (fun r => some r) := by
  intro o ho f
  rw [aOE]
  cases o with
  | none => rfl
  | some o =>
   cases o with
   | inl _ => rfl
   | inr r => show cond (r != 0) (some r) f = some r; rw [show (r != 0) = true by simpa using ho r rfl]; rfl
 have n1 := nz (F := eC N s) (n := (s.gM.length : Int)) (G := fun i => Option.bind (idx s.gM i) fun e => eE N s e) (fun k i => by rw [eC, aX]; cases idx s.gM i <;> rfl) (by funext i; rfl) N 0
 have n2 := nz (F := eD N s) (n := (s.gQ.length : Int)) (G := fun i => Option.bind (idx s.gQ i) fun e => eF N e) (fun k i => by rw [eD, aX]; cases idx s.gQ i <;> rfl) (by funext i; rfl) N 0
 have n3 := nz (F := eG N s) (n := (s.gK.length : Int)) (G := fun i => Option.bind (idx s.gK i) fun e => iN N e) (fun k i => by rw [eG, aX]; cases idx s.gK i <;> rfl) (by funext i; rfl) N 0
 rw [go n1, go n2, go n3]
 congr 1
 congr 1
 funext o
 cases o with
 | inr r => rfl
 | inl _ =>
  simp only [fW]
  congr 1
  funext o
  cases o with
  | inr r => rfl
  | inl _ =>
   simp only [fW]
   congr 1
   funext o
   cases o with
   | inr r => rfl
   | inl _ =>
    simp only [fW]
    cases fJ N s N 0 with
    | none => rfl
    | some o => cases o <;> rfl
theorem aGw (k : Nat) (hk : 300 < k) (s : aG) (hs : few s) (v : aI) {r : Int} (h : aLW (k + 4) s v r) : hJ (k + 4) s v = some r := by
 unfold hJ
 rw [← aLv (k + 4) (by omega) s hs, ← mayE k v, ← fitsE]
 rcases h with ⟨e, h⟩ | ⟨e, e2, h⟩ | ⟨e, e2, e3⟩
 ·rw [e, Option.bind_some, show (r != 0) = true by simpa using h]; rfl
 ·rw [e, Option.bind_some, e2]
  simp only [bne_self_eq_false, cond_false, Option.bind_some, show (r != 0) = true by simpa using h, cond_true]
 ·rw [e, Option.bind_some, e2]
  simp only [bne_self_eq_false, cond_false, Option.bind_some, e3]
theorem costE (k : Nat) (v : aI) : T (lC (k + 4) v) (fun r => fN (k + 4) v = some r) := by
 unfold lC fN
 rw [← mayE k v]
 obtain ⟨r, e, hr⟩ := aMh (k + 4) v
 rw [e, Option.bind_some, Option.bind_some]
 refine T.cond (fun hc => T.ret (by rw [hc]; rfl)) (fun hc => ?_)
 rw [hc, cond_false]
 obtain ⟨⟨⟨w1, w2⟩, ⟨h1, h2⟩, _⟩, ⟨s1, s2⟩, ⟨d0, d8⟩, c0, c2⟩ := hr (by simpa using hc)
 have cl : v.gS = 0 ∨ v.gS = 1 ∨ v.gS = 2 := by omega
 refine T.eq (aGh _ _) ?_
 simp only [aX]
 refine T.ret ?_
 have b1 : 0 ≤ v.gW * v.gH ∧ v.gW * v.gH ≤ 4096 := ⟨Int.mul_nonneg (by omega) (by omega), by
  have := Int.mul_le_mul w2 h2 (by omega) (by omega); omega⟩
 have b2 : 0 ≤ v.gW * v.gH * v.gA5 ∧ v.gW * v.gH * v.gA5 ≤ 65536 := ⟨Int.mul_nonneg (by omega) (by omega), by
  have := Int.mul_le_mul b1.2 s2 (by omega) (by omega); omega⟩
 have b3 : 0 ≤ v.gW * v.gH * v.gA5 * (v.gA0 + 1) ∧ v.gW * v.gH * v.gA5 * (v.gA0 + 1) ≤ 589824 := ⟨Int.mul_nonneg (by omega) (by omega), by
  have := Int.mul_le_mul b2.2 (show v.gA0 + 1 ≤ 9 by omega) (by omega) (by omega); omega⟩
 rw [eP (x := v.gW * v.gH) (by omega) (by omega), eP (x := v.gW * v.gH * v.gA5) (by omega) (by omega), eP (x := v.gA0 + 1) (by omega) (by omega), eP (x := v.gW * v.gH * v.gA5 * (v.gA0 + 1)) (by omega) (by omega)]
 generalize v.gW * v.gH * v.gA5 * (v.gA0 + 1) = X at *
 have m : ∀ a b : Int, 0 ≤ a → a ≤ 256 → 0 ≤ b → b ≤ 8 → I64 (I64 (X * a) * I64 (1 + b)) = I64 (X * (a * (1 + b))) := by
  intro a b a0 a1 b0 b1'
  have q : 0 ≤ X * a ∧ X * a ≤ 150994944 := ⟨Int.mul_nonneg b3.1 a0, by have := Int.mul_le_mul b3.2 a1 a0 (by omega); omega⟩
  rw [eP (x := X * a) (by omega) (by omega), eP (x := 1 + b) (by omega) (by omega), Int.mul_assoc]
 rcases cl with h | h | h <;> rw [h]
 ·show some _ = some _
  rw [show sH 0 = (16, 4) from rfl]
  dsimp only
  rw [m 16 4 (by decide) (by decide) (by decide) (by decide)]
  rfl
 ·rw [show sH 1 = (64, 4) from rfl]
  dsimp only
  rw [m 64 4 (by decide) (by decide) (by decide) (by decide)]
  rfl
 ·rw [show sH 2 = (256, 8) from rfl]
  dsimp only
  rw [m 256 8 (by decide) (by decide) (by decide) (by decide)]
  rfl
theorem aEi (v : aH) : aH.eq v v = true := by unfold aH.eq; simp
theorem aG5 (k : Nat) (hk : 1000 < k) (hw : eU (k + 4) = some true) (s : aG) (v : aI) : iG (k + 4) s v = some true := by
 have main : T (iG (k + 4) s v) (fun r => r = true) := by
  unfold iG
  refine T.bind (fewT (k + 4) (by omega) s) fun r1 h1 => ?_
  obtain ⟨q, eq, hq⟩ := newT (k + 4) (by omega) r1 v h1
  refine T.eq eq ?_
  obtain ⟨rc, ec, _⟩ := aLB (k + 4) (by omega) r1 h1
  have ec' := ec
  rw [aLv (k + 4) (by omega) r1 h1] at ec'
  obtain ⟨rm, em, _⟩ := aMh (k + 4) v
  have em' := em
  rw [mayE k v] at em'
  obtain ⟨cc, e1, e2⟩ := costE k v
  rcases q with e | r | r | r | r
  ·obtain ⟨he, hv⟩ := hq
   have en := aGw k (by omega) r1 h1 v hv
   simp only [fW, ec, ec', em, em', en, e1, e2, Option.bind_some, beq_self_eq_true, cond_true, aEi, hw, show (e == 0) = false by simpa using he, aX]
   exact ⟨true, rfl, rfl⟩
  ·exact hq.elim
  ·obtain ⟨hn, hv⟩ := hq
   have en := aGw k (by omega) r1 h1 v hv
   have e0 : r.2.2.2.2.2.2 = 0 := hn.2.2.2.2.2.1
   simp only [fW, ec, ec', em, em', en, e1, e2, e0, Option.bind_some, beq_self_eq_true, cond_true, aEi, hw, aX]
   exact ⟨true, rfl, rfl⟩
  ·exact hq.elim
  ·obtain ⟨hn, hv⟩ := hq
   have en := aGw k (by omega) r1 h1 v hv
   have e0 : r.2.2.2.2.2.2.2 = 0 := hn.2.2.2.2.2.1
   simp only [fW, ec, ec', em, em', en, e1, e2, e0, Option.bind_some, beq_self_eq_true, cond_true, aEi, hw, aX]
   exact ⟨true, rfl, rfl⟩
 obtain ⟨r, e, rfl⟩ := main
 exact e
end Go.UK
