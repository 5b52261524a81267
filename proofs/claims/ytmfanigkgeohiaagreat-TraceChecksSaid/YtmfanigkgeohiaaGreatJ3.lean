/- A part of the proof: what the functions of the program compute. -/
import Derived.Test.YtmfanigkgeohiaaGreatJ2
namespace Go.UK
open Go Go.Proofs
set_option maxRecDepth 20000
set_option maxHeartbeats 2000000
set_option linter.all false
theorem aOM {a : Int} (m : Nat) (hm : m < 9223372036854775808) : 0 ≤ iX .i64 a (m : Int) ∧ iX .i64 a (m : Int) ≤ (m : Int) := by
 have h1 : (BitVec.ofInt 64 (m : Int)).toNat = m := aC4 m (by omega)
 have h2 : (BitVec.ofInt 64 a &&& BitVec.ofInt 64 (m : Int)).toNat ≤ m := by
  rw [BitVec.toNat_and, h1]; exact Nat.and_le_right
 have h3 : iX .i64 a (m : Int) = I64 ((BitVec.ofInt 64 a &&& BitVec.ofInt 64 (m : Int)).toNat : Int) := rfl
 rw [h3]
 generalize (BitVec.ofInt 64 a &&& BitVec.ofInt 64 (m : Int)).toNat = x at *
 rw [eP (by omega) (by omega)]
 omega
theorem T.loopG {σ ρ : Type} {n : Nat} (I : Nat → σ → Prop) (Q : ρ → Prop) {F : Nat → σ → Int → Option ρ}
  (hstep : ∀ k s i, i < n → I i s → (∀ s', I (i + 1) s' → T (F k s' ((i + 1 : Nat) : Int)) Q) → T (F (k + 1) s (i : Int)) Q) (hend : ∀ k s, I n s → T (F (k + 1) s (n : Int)) Q) :
  ∀ (k i : Nat) (s : σ), I i s → i ≤ n → n - i < k → T (F k s (i : Int)) Q
 | 0, i, _, _, _, h => by omega
 | k + 1, i, s, hs, hi, hk => by
  by_cases h : i < n
  ·exact hstep k s i h hs fun s' h' => T.loopG I Q hstep hend k (i + 1) s' h' (by omega) (by omega)
  ·obtain rfl : i = n := by omega
   exact hend _ _ hs
theorem T.loopG0 {σ ρ : Type} {n : Nat} (I : Nat → σ → Prop) (Q : ρ → Prop) {F : Nat → σ → Int → Option ρ}
  (hstep : ∀ k s i, i < n → I i s → (∀ s', I (i + 1) s' → T (F k s' ((i + 1 : Nat) : Int)) Q) → T (F (k + 1) s (i : Int)) Q) (hend : ∀ k s, I n s → T (F (k + 1) s (n : Int)) Q) {N : Nat} (hN : n < N) {s : σ} (hs : I 0 s) : T (F N s 0) Q :=
 T.loopG I Q hstep hend N 0 s hs (by omega) (by omega)
theorem T.true {α : Type} {o : Option α} {P : α → Prop} (h : T o P) : T o (fun _ => True) := h.mono fun _ _ => trivial
theorem aMu (k : Nat) (l : List aB) (h : ∀ x ∈ l, vin x) (hl : l.length < k + 3) (hb : l.length < 1000) : T (oL (k + 3) l) vin := by
 refine ⟨_, aG6 k l h hl hb, ?_⟩
 have : ∀ (l : List aB) (a : aB), vin a → vin (l.foldl aLX a) := by
  intro l
  induction l with
  | nil => intro a ha; exact ha
  | cons x l ih => intro a _; exact ih _ (aJn _ _)
 exact this l _ ⟨z64, z64, z64⟩
theorem aHJ {α : Type} (l : List α) (G : α → Option Int) (P : α → Prop) {F : Nat → Int → Option (Sum Unit Int)}
  (hF : ∀ k i, F (k + 1) i = aM (decide (i < ((l.length : Int)))) fun x => cond x (Option.bind (idx l i) fun e => Option.bind (G e) fun r => cond (r != 0) (some (Sum.inr r)) (F k (I64 (i + 1)))) (some (Sum.inl (()))))
  (hG : ∀ x ∈ l, T (G x) (fun r => r = 0 → P x)) {N : Nat} (hN : l.length < N) (hl : l.length < 1000000) :
  T (Option.bind (F N 0) fun o => fW o (fun _ => some 0) (fun r => some r)) (fun r => r = 0 → ∀ x ∈ l, P x) := by
 refine T.bind (T.loopG0 (n := l.length) (fun i _ => ∀ j, (h : j < l.length) → j < i → P l[j]) (fun o => match o with | .inl _ => ∀ x ∈ l, P x | .inr r => r ≠ 0) (F := fun k (_ : Unit) i => F k i) (fun k s i hi hs hk => ?_) (fun k s hs => ?_) hN (s := ()) (fun j _ h => absurd h (by omega))) fun o ho => ?_
 ·rw [hF, aX, dt (by omega), cond_true, iQ, List.getElem?_eq_getElem hi, Option.bind_some]
  refine T.bind (hG _ (List.getElem_mem hi)) fun r hr => ?_
  refine T.cond (fun hc => T.ret (by simpa using hc)) (fun hc => ?_)
  rw [jD (by omega)]
  refine hk () fun j h hj => ?_
  by_cases e : j = i
  ·subst e; exact hr (by simpa using hc)
  ·exact hs j h (by omega)
 ·rw [hF, aX, df (by omega), cond_false]
  refine T.ret fun x hx => ?_
  obtain ⟨j, h, rfl⟩ := List.getElem_of_mem hx
  exact hs j h h
 ·cases o with
  | inl _ => exact T.ret fun _ => ho
  | inr r => exact T.ret fun e => absurd e ho
theorem aOs {α : Type} (l : List α) (G : α → Option Bool) (P : α → Prop) {F : Nat → Int → Option (Sum Unit Int)}
  (hF : ∀ k i, F (k + 1) i = aM (decide (i < ((l.length : Int)))) fun x => cond x (Option.bind (idx l i) fun e => Option.bind (G e) fun r => cond r (some (Sum.inr i)) (F k (I64 (i + 1)))) (some (Sum.inl (()))))
  (hG : ∀ x ∈ l, T (G x) (fun r => r = false → P x)) {N : Nat} (hN : l.length < N) (hl : l.length < 1000000) :
  T (Option.bind (F N 0) fun o => fW o (fun _ => some (-1)) (fun r => some r)) (fun r => decide (r ≥ 0) = false → ∀ x ∈ l, P x) := by
 refine T.bind (T.loopG0 (n := l.length) (fun i _ => ∀ j, (h : j < l.length) → j < i → P l[j]) (fun o => match o with | .inl _ => ∀ x ∈ l, P x | .inr r => 0 ≤ r) (F := fun k (_ : Unit) i => F k i) (fun k s i hi hs hk => ?_) (fun k s hs => ?_) hN (s := ()) (fun j _ h => absurd h (by omega))) fun o ho => ?_
 ·rw [hF, aX, dt (by omega), cond_true, iQ, List.getElem?_eq_getElem hi, Option.bind_some]
  refine T.bind (hG _ (List.getElem_mem hi)) fun r hr => ?_
  refine T.cond (fun hc => T.ret (by dsimp only; omega)) (fun hc => ?_)
  rw [jD (by omega)]
  refine hk () fun j h hj => ?_
  by_cases e : j = i
  ·subst e; exact hr hc
  ·exact hs j h (by omega)
 ·rw [hF, aX, df (by omega), cond_false]
  refine T.ret fun x hx => ?_
  obtain ⟨j, h, rfl⟩ := List.getElem_of_mem hx
  exact hs j h h
 ·cases o with
  | inl _ => exact T.ret fun _ => ho
  | inr r => exact T.ret fun e => absurd (of_decide_eq_false e) (by simpa using ho)
def pwi (m : Int) (p : aA) : Prop := (-m ≤ p.gX ∧ p.gX ≤ m) ∧ (-m ≤ p.gY ∧ p.gY ≤ m) ∧ -m ≤ p.gZ ∧ p.gZ ≤ m
theorem aEO (N : Nat) (p : aA) {m : Int} (hm : 0 ≤ m) (hm' : m ≤ 1000000000) : T (oF N p m) (fun r => r = true ↔ pwi m p) := by
 unfold oF
 simp only [aX, rU, qU]
 rw [eP (by omega) (by omega)]
 unfold pwi
 refine T.bind (P := fun r => r = true ↔ ((-m ≤ p.gX ∧ p.gX ≤ m) ∧ (-m ≤ p.gY ∧ p.gY ≤ m) ∧ -m ≤ p.gZ ∧ p.gZ ≤ m)) ?_ fun r h => T.ret h
 refine T.cond (fun h => T.ret ?_) (fun h => T.ret ?_)
 ·have := of_decide_eq_true h
  rw [decide_eq_true_eq]
  omega
 ·have := of_decide_eq_false h
  constructor
  ·intro h; cases h
  ·intro h; omega
theorem mayT (N : Nat) (a b : aA) : T (nN N a b) (fun r => r = true → pwi 65536 a ∧ pwi 131072 b ∧ aA.eq b (aA.mk 0 0 0) = false) := by
 unfold nN
 refine T.bind (P := fun r => r = true → pwi 65536 a ∧ pwi 131072 b ∧ aA.eq b (aA.mk 0 0 0) = false) ?_ fun r h => T.ret h
 refine T.bind (aEO N a (by decide) (by decide)) fun r2 h2 => ?_
 refine T.cond (fun hc => ?_) (fun _ => T.ret fun h => by cases h)
 refine T.bind (aEO N b (by decide) (by decide)) fun r3 h3 => ?_
 refine T.cond (fun hc' => ?_) (fun _ => T.ret fun h => by cases h)
 simp only [aX]
 refine T.ret fun h => ⟨h2.1 hc, h3.1 hc', by simpa using h⟩
def few (s : aG) : Prop := s.gM.length ≤ 20 ∧ s.gQ.length ≤ 8 ∧ s.gK.length ≤ 4 ∧ s.gR.length ≤ 5 ∧ (∀ t ∈ s.gK, t.gG.length ≤ 260)
theorem aEP {α : Type} (l : List α) (n : Nat) : (l.take n).length ≤ n := by rw [List.length_take]; omega
theorem T.slcMin {α : Type} (l : List α) (n : Nat) : T (uF l 0 (jI (l.length : Int) (n : Int))) (fun r => r = l.take n) := ⟨_, aL6 l n, rfl⟩
theorem fewT (N : Nat) (hN : 10 < N) (s : aG) : T (nJ N s) few := by
 unfold nJ
 have main : ∀ (m i : Nat) (a : List aD), i ≤ 4 → a.length = i → (∀ t ∈ a, t.gG.length ≤ 260) → 5 - i ≤ m → T (kW N s m a (i : Int)) (fun r => r.length ≤ 4 ∧ ∀ t ∈ r, t.gG.length ≤ 260) := by
  intro m
  induction m with
  | zero => intro i a h1 _ _ h; omega
  | succ m ih =>
   intro i a h1 h2 h3 h4
   rw [kW]
   simp only [aX]
   refine T.cond (fun hc => ?_) (fun _ => T.ret ⟨by omega, h3⟩)
   have hc1 : (i : Int) < (s.gK.length : Int) ∧ (i : Int) < 4 := by
    by_cases h : (i : Int) < (s.gK.length : Int)
    ·rw [dt h, cond_true] at hc; exact ⟨h, of_decide_eq_true hc⟩
    ·rw [df h, cond_false] at hc; cases hc
   refine T.bind (T.idx (by omega) hc1.1) fun e6 _ => ?_
   refine T.bind (T.slcMin e6.gG 260) fun s8 h8 => ?_
   refine T.eq (pV (by simp; omega)) ?_
   rw [jD (by omega)]
   refine ih (i + 1) _ (by omega) (by simp; omega) ?_ (by omega)
   intro t ht
   rw [List.mem_append, List.mem_singleton] at ht
   rcases ht with ht | rfl
   ·exact h3 t ht
   ·rw [h8]; exact aEP _ _
 refine T.bind (main N 0 [] (by decide) rfl (fun t h => absurd h (by simp)) (by omega)) fun p1 h1 => ?_
 simp only [aX]
 refine T.bind (T.slcMin s.gM 20) fun s11 h11 => T.bind (T.slcMin s.gQ 8) fun s13 h13 => T.bind (T.slcMin s.gR 5) fun s15 h15 => T.bind (T.slcMin s.gA1 20) fun s17 _ => T.bind (T.slcMin s.gA2 20) fun s19 _ => ?_
 refine T.ret ⟨?_, ?_, h1.1, ?_, h1.2⟩
 ·show s11.length ≤ 20; rw [h11]; exact aEP _ _
 ·show s13.length ≤ 8; rw [h13]; exact aEP _ _
 ·show s15.length ≤ 5; rw [h15]; exact aEP _ _
def aJa (s : aG) (t : aE) : Prop := (0 ≤ t.gB2 ∧ t.gB2 < (s.gQ.length : Int)) ∧ t.gB5 < (s.gK.length : Int) ∧ (∀ v ∈ t.gUv.toList, ∀ x ∈ v.toList, 0 ≤ x ∧ x ≤ 65535) ∧ ∀ p ∈ t.gP.toList, pwi 65536 p
theorem aN8 {α : Type} {v : Vector α 2} {P : α → Prop} (h0 : ∀ x, v.toList[0]? = some x → P x) (h1 : ∀ x, v.toList[1]? = some x → P x) : ∀ x ∈ v.toList, P x := by
 intro x hx
 obtain ⟨j, h, rfl⟩ := List.getElem_of_mem hx
 have h' : j < 2 := by simpa using h
 match j, h' with
 | 0, _ => exact h0 _ (List.getElem?_eq_getElem h)
 | 1, _ => exact h1 _ (List.getElem?_eq_getElem h)
theorem aMg {α : Type} {v : Vector α 3} {P : α → Prop} (h0 : ∀ x, v.toList[0]? = some x → P x) (h1 : ∀ x, v.toList[1]? = some x → P x) (h2 : ∀ x, v.toList[2]? = some x → P x) : ∀ x ∈ v.toList, P x := by
 intro x hx
 obtain ⟨j, h, rfl⟩ := List.getElem_of_mem hx
 have h' : j < 3 := by simpa using h
 match j, h' with
 | 0, _ => exact h0 _ (List.getElem?_eq_getElem h)
 | 1, _ => exact h1 _ (List.getElem?_eq_getElem h)
 | 2, _ => exact h2 _ (List.getElem?_eq_getElem h)
theorem T.vg {α : Type} {m : Nat} {v : Vector α m} {i : Nat} (h : i < m) : T (v.toList[i]?) (fun x => v.toList[i]? = some x) := ⟨_, Go.UK.vV v i h, Go.UK.vV v i h⟩
theorem iD {α : Type} {o : Option α} {a b : α} (h : o = some a) (h' : o = some b) : a = b := by rw [h] at h'; exact Option.some.inj h'
theorem triT (N : Nat) (hN : 10 < N) (s : aG) (t : aE) : T (kA N s t) (fun r => r = 0 → aJa s t) := by
 unfold kA
 simp only [aX]
 refine T.cond (fun _ => T.ret fun h => by cases h) (fun hc => ?_)
 have c1 : (0 ≤ t.gB2 ∧ t.gB2 < (s.gQ.length : Int)) ∧ t.gB5 < (s.gK.length : Int) := by
  have o : ∀ {a : Prop} [Decidable a] {b : Bool}, cond b true (decide a) = false → b = false ∧ ¬ a := by
   intro a _ b h
   cases b with
   | true => cases h
   | false => exact ⟨rfl, of_decide_eq_false h⟩
  obtain ⟨hc, _⟩ := o hc
  obtain ⟨hc, _⟩ := o hc
  obtain ⟨hc, h4⟩ := o hc
  obtain ⟨hc, _⟩ := o hc
  obtain ⟨hc, h2⟩ := o hc
  exact ⟨⟨by have := of_decide_eq_false hc; omega, by omega⟩, by omega⟩
 refine T.bind (T.loopG0 (n := 3) (fun i _ => ∀ j, (h : j < 3) → j < i → ∀ x ∈ t.gUv[j].toList, 0 ≤ x ∧ x ≤ 65535) (fun o => match o with | .inl _ => ∀ v ∈ t.gUv.toList, ∀ x ∈ v.toList, 0 ≤ x ∧ x ≤ 65535 | .inr r => r ≠ 0) (F := fun k (_ : Unit) i => eH N t k i) (fun k _ i hi hs hk => ?_) (fun k _ hs => ?_) (by omega) (s := ()) (fun j _ h => absurd h (by omega))) fun o ho => ?_
 ·rw [eH, dt (by omega), cond_true]
  refine T.bind (T.idx (by omega) (by simp; omega)) fun e10 h10 => ?_
  have e10e : e10 = t.gUv[i] := iD h10 (by rw [Int.toNat_natCast]; exact vV _ _ hi)
  refine T.bind (P := fun r => r = false → ∀ x ∈ e10.toList, 0 ≤ x ∧ x ≤ 65535) ?_ fun p11 h11 => ?_
  ·refine T.bind (T.inRO (by decide) (by decide)) fun _ _ => T.bind (T.vg (i := 0) (by decide)) fun a ha => T.bind (T.inRO (by decide) (by decide)) fun _ _ => T.bind (T.vg (i := 1) (by decide)) fun b hb => ?_
   simp only [aX, qU, rU]
   refine T.cond (fun _ => T.ret fun h => by cases h) (fun h1 => ?_)
   refine T.bind (T.inRO (by decide) (by decide)) fun _ _ => T.bind (T.vg (i := 0) (by decide)) fun a' ha' => T.bind (T.inRO (by decide) (by decide)) fun _ _ => T.bind (T.vg (i := 1) (by decide)) fun b' hb' => ?_
   refine T.ret fun h2 => ?_
   obtain rfl := iD ha ha'
   obtain rfl := iD hb hb'
   have h1 := of_decide_eq_false h1
   have h2 := of_decide_eq_false h2
   exact aN8 (fun x hx => by obtain rfl := iD ha hx; omega) (fun x hx => by obtain rfl := iD hb hx; omega)
  refine T.cond (fun _ => T.ret (fun h => by cases h)) (fun hc => ?_)
  rw [jD (by omega)]
  refine hk () fun j h hj => ?_
  by_cases e : j = i
  ·subst e; rw [← e10e]; exact h11 hc
  ·exact hs j h (by omega)
 ·rw [eH, df (by omega), cond_false]
  refine T.ret fun v hv => ?_
  obtain ⟨j, h, rfl⟩ := List.getElem_of_mem hv
  have h' : j < 3 := by simpa using h
  have := hs j h' h'
  simpa using this
 cases o with
 | inr r => exact T.ret fun e => absurd e ho
 | inl _ =>
 refine T.bind (T.loopG0 (n := 3) (fun i _ => ∀ j, (h : j < 3) → j < i → pwi 65536 t.gP[j]) (fun o => match o with | .inl _ => ∀ v ∈ t.gP.toList, pwi 65536 v | .inr r => r ≠ 0) (F := fun k (_ : Unit) i => eJ N t k i) (fun k _ i hi hs hk => ?_) (fun k _ hs => ?_) (by omega) (s := ()) (fun j _ h => absurd h (by omega))) fun o' ho' => ?_
 ·rw [eJ, dt (by omega), cond_true]
  refine T.bind (T.idx (by omega) (by simp; omega)) fun e10 h10 => ?_
  have e10e : e10 = t.gP[i] := iD h10 (by rw [Int.toNat_natCast]; exact vV _ _ hi)
  refine T.bind (mayT N _ _) fun r hr => ?_
  refine T.cond (fun _ => T.ret (fun h => by cases h)) (fun hc => ?_)
  rw [jD (by omega)]
  refine hk () fun j h hj => ?_
  by_cases e : j = i
  ·subst e; rw [← e10e]; exact (hr (by simpa using hc)).1
  ·exact hs j h (by omega)
 ·rw [eJ, df (by omega), cond_false]
  refine T.ret fun v hv => ?_
  obtain ⟨j, h, rfl⟩ := List.getElem_of_mem hv
  have h' : j < 3 := by simpa using h
  have := hs j h' h'
  simpa using this
 cases o' with
 | inr r => exact T.ret fun e => absurd e ho'
 | inl _ => exact T.ret fun _ => ⟨c1.1, c1.2, ho, ho'⟩
theorem aMJ (N : Nat) (hN : 30 < N) (s : aG) (h : few s) : T (dI N s.gM s) (fun r => r = 0 → ∀ t ∈ s.gM, aJa s t) := by
 unfold dI
 have h1 := h.1
 refine aHJ s.gM (fun t => iP N t s) (aJa s) (fun k i => by rw [cN]) (fun t _ => ?_) (by omega) (by omega)
 unfold iP
 exact T.bind (triT N (by omega) s t) fun r h => T.ret h
theorem aCk (N : Nat) (m : Int) (l : List Int) (hN : l.length < N) (hl : l.length < 1000000) : T (fV N m l) (fun r => r = false → ∀ x ∈ l, 0 ≤ x ∧ x ≤ m) := by
 unfold fV cV dC
 refine T.bind (P := fun r => r = false → ∀ x ∈ l, 0 ≤ x ∧ x ≤ m) ?_ fun r h => T.ret h
 refine T.bind (aOs l (fun e => fT N e m) (fun x => 0 ≤ x ∧ x ≤ m) (fun k i => by rw [cW]) (fun x _ => ?_) hN hl) fun r h => T.ret h
 unfold fT
 simp only [aX]
 refine T.ret fun h => ?_
 by_cases h1 : x < 0
 ·rw [dt h1, cond_true] at h; cases h
 ·rw [df h1, cond_false] at h
  have := of_decide_eq_false h
  omega
def aGC (m : aP) : Prop := (∀ x ∈ m.gL.toList, 0 ≤ x ∧ x ≤ 65535) ∧ 0 ≤ m.gA4 ∧ m.gA4 ≤ 65535
theorem matT (N : Nat) (hN : 10 < N) (m : aP) : T (fC N m) (fun r => r = 0 → aGC m) := by
 unfold fC
 refine T.bind (P := fun r => r = false → aGC m) ?_ fun p1 h1 => T.cond (fun _ => T.ret fun h => by cases h) (fun hc => T.ret fun _ => h1 hc)
 refine T.bind (aCk N 4 _ (by simp; omega) (by simp)) fun r2 _ => ?_
 refine T.cond (fun _ => T.ret fun h => by cases h) (fun _ => ?_)
 refine T.bind (T.idx (by decide) (by simp)) fun a ha => T.bind (T.idx (by decide) (by simp)) fun b hb => T.bind (T.idx (by decide) (by simp)) fun c hc => ?_
 refine T.bind (aCk N 65535 _ (by simp; omega) (by simp)) fun r6 h6 => T.ret fun e => ?_
 have h := h6 e
 refine ⟨aMg (fun x hx => ?_) (fun x hx => ?_) (fun x hx => ?_), h _ (by simp)⟩
 ·obtain rfl := iD ha hx; exact h _ (by simp)
 ·obtain rfl := iD hb hx; exact h _ (by simp)
 ·obtain rfl := iD hc hx; exact h _ (by simp)
theorem aMW (N : Nat) (hN : 30 < N) (s : aG) (h : few s) : T (cR N s.gQ) (fun r => r = 0 → ∀ t ∈ s.gQ, aGC t) := by
 unfold cR
 have h1 := h.2.1
 exact aHJ s.gQ (fC N) aGC (fun k i => by rw [bT]) (fun t _ => matT N (by omega) t) (by omega) (by omega)
def aJZ (t : aD) : Prop := (t.gE = 1 ∨ t.gE = 2 ∨ t.gE = 4 ∨ t.gE = 8 ∨ t.gE = 16) ∧ (t.gG.length : Int) = t.gE * t.gE ∧ ∀ v ∈ t.gG, ∀ x ∈ v.toList, 0 ≤ x ∧ x ≤ 255
theorem aKO (N : Nat) (l : List Int) (a : Int) (hN : l.length < N) (hl : l.length < 1000000) : T (dM N l a) (fun r => r = true → a ∈ l) := by
 unfold dM jE
 refine T.bind (P := fun r => 0 ≤ r → a ∈ l) ?_ fun r h => T.ret fun e => h (of_decide_eq_true e)
 refine T.bind (T.loopG0 (n := l.length) (fun _ _ => True) (fun o => match o with | .inl _ => True | .inr r => a ∈ l) (F := fun k (_ : Unit) i => cS N l a k i) (fun k _ i hi hs hk => ?_) (fun k _ hs => ?_) hN (s := ()) trivial) fun o ho => ?_
 ·rw [cS, aX, dt (by omega), cond_true, iQ, List.getElem?_eq_getElem hi, Option.bind_some]
  refine T.cond (fun hc => T.ret ?_) (fun _ => ?_)
  ·have e : a = l[i] := by simpa using hc
   show a ∈ l
   rw [e]; exact List.getElem_mem hi
  ·rw [jD (by omega)]; exact hk () trivial
 ·rw [cS, aX, df (by omega), cond_false]; exact T.ret trivial
 ·cases o with
  | inl _ => exact T.ret fun h => absurd h (by decide)
  | inr r => exact T.ret fun _ => ho
theorem texT (N : Nat) (t : aD) (hN : t.gG.length < N) (hN' : 10 < N) (hl : t.gG.length < 1000000) : T (eM N t) (fun r => r = 0 → aJZ t) := by
 unfold eM
 refine T.bind (aKO N _ _ (by simp; omega) (by simp)) fun r1 h1 => ?_
 simp only [aX]
 refine T.cond (fun _ => T.ret fun h => by cases h) (fun hc => ?_)
 have c : t.gE ∈ [1, 2, 4, 8, 16] ∧ (t.gG.length : Int) = I64 (t.gE * t.gE) := by
  cases r1 with
  | false => cases hc
  | true => exact ⟨h1 rfl, by simpa using hc⟩
 have c1 : t.gE = 1 ∨ t.gE = 2 ∨ t.gE = 4 ∨ t.gE = 8 ∨ t.gE = 16 := by simpa using c.1
 have c2 : (t.gG.length : Int) = t.gE * t.gE := by
  rw [c.2]; rcases c1 with h | h | h | h | h <;> rw [h] <;> decide
 refine T.bind (T.loopG0 (n := t.gG.length) (fun i _ => ∀ j, (h : j < t.gG.length) → j < i → ∀ x ∈ t.gG[j].toList, 0 ≤ x ∧ x ≤ 255) (fun o => match o with | .inl _ => ∀ v ∈ t.gG, ∀ x ∈ v.toList, 0 ≤ x ∧ x ≤ 255 | .inr r => r ≠ 0) (F := fun k (_ : Unit) i => eW N (t.gG.length : Int) t k i) (fun k _ i hi hs hk => ?_) (fun k _ hs => ?_) hN (s := ()) (fun j _ h => absurd h (by omega))) fun o ho => ?_
 ·rw [eW, dt (by omega), cond_true, iQ, List.getElem?_eq_getElem hi, Option.bind_some]
  refine T.bind (P := fun r => r = false → ∀ x ∈ (t.gG[i]).toList, 0 ≤ x ∧ x ≤ 255) ?_ fun p11 h11 => ?_
  ·refine T.bind (T.inRO (by decide) (by decide)) fun _ _ => T.bind (T.vg (i := 0) (by decide)) fun a ha => T.bind (T.inRO (by decide) (by decide)) fun _ _ => T.bind (T.vg (i := 1) (by decide)) fun b hb => T.bind (T.inRO (by decide) (by decide)) fun _ _ => T.bind (T.vg (i := 2) (by decide)) fun d hd => ?_
   simp only [aX, qU, rU]
   refine T.cond (fun _ => T.ret fun h => by cases h) (fun h1 => ?_)
   refine T.bind (T.inRO (by decide) (by decide)) fun _ _ => T.bind (T.vg (i := 0) (by decide)) fun a' ha' => T.bind (T.inRO (by decide) (by decide)) fun _ _ => T.bind (T.vg (i := 1) (by decide)) fun b' hb' => T.bind (T.inRO (by decide) (by decide)) fun _ _ => T.bind (T.vg (i := 2) (by decide)) fun d' hd' => ?_
   refine T.ret fun h2 => ?_
   obtain rfl := iD ha ha'
   obtain rfl := iD hb hb'
   obtain rfl := iD hd hd'
   have h1 := of_decide_eq_false h1
   have h2 := of_decide_eq_false h2
   exact aMg (fun x hx => by obtain rfl := iD ha hx; omega) (fun x hx => by obtain rfl := iD hb hx; omega) (fun x hx => by obtain rfl := iD hd hx; omega)
  refine T.cond (fun _ => T.ret (fun h => by cases h)) (fun hc => ?_)
  rw [jD (by omega)]
  refine hk () fun j h hj => ?_
  by_cases e : j = i
  ·subst e; exact h11 hc
  ·exact hs j h (by omega)
 ·rw [eW, df (by omega), cond_false]
  refine T.ret fun v hv => ?_
  obtain ⟨j, h, rfl⟩ := List.getElem_of_mem hv
  exact hs j h h
 cases o with
 | inr r => exact T.ret fun e => absurd e ho
 | inl _ => exact T.ret fun _ => ⟨c1, c2, ho⟩
theorem aLV (N : Nat) (hN : 300 < N) (s : aG) (h : few s) : T (dD N s.gK) (fun r => r = 0 → ∀ t ∈ s.gK, aJZ t) := by
 unfold dD
 have h1 := h.2.2.1
 exact aHJ s.gK (eM N) aJZ (fun k i => by rw [cE]) (fun t ht => texT N t (by have := h.2.2.2.2 t ht; omega) (by omega) (by have := h.2.2.2.2 t ht; omega)) (by omega) (by omega)
def wV (l : aN) : Prop := (∀ x ∈ l.gL.toList, 0 ≤ x ∧ x ≤ 1048576) ∧ pwi 4096 l.gAt ∧ pwi 4096 l.gU ∧ pwi 4096 l.gV
theorem aHY (N : Nat) (p : aA) : T (iJ N p) (fun r => r = false → pwi 4096 p) := by
 unfold iJ pwi
 simp only [aX, rU, qU]
 refine T.bind (P := fun r => r = false → (-4096 ≤ p.gX ∧ p.gX ≤ 4096) ∧ (-4096 ≤ p.gY ∧ p.gY ≤ 4096) ∧ -4096 ≤ p.gZ ∧ p.gZ ≤ 4096) ?_ fun r h => T.ret h
 refine T.cond (fun _ => T.ret fun h => by cases h) (fun h => T.ret fun h2 => ?_)
 have h := of_decide_eq_false h
 have h2 := of_decide_eq_false h2
 omega
theorem aOF (N : Nat) (hN : 10 < N) (l : aN) : T (iE N l) (fun r => r = 0 → wV l) := by
 unfold iE
 refine T.bind (P := fun r => r = false → ∀ x ∈ l.gL.toList, 0 ≤ x ∧ x ≤ 1048576) ?_ fun p1 h1 => ?_
 ·refine T.bind (aCk N 2 _ (by simp; omega) (by simp)) fun r2 _ => ?_
  refine T.cond (fun _ => T.ret fun h => by cases h) (fun _ => ?_)
  refine T.bind (T.slc (by decide) (by decide) (by simp)) fun s3 h3 => T.bind (aCk N _ s3 (by omega) (by omega)) fun r4 h4 => T.ret fun e => ?_
  have hs : s3 = l.gL.toList := by rw [h3.1]; exact List.take_of_length_le (show l.gL.toList.length ≤ 3 by simp)
  rw [← hs]; exact h4 e
 refine T.cond (fun _ => T.ret fun h => by cases h) (fun hc => ?_)
 refine T.bind (P := fun r => r = false → pwi 4096 l.gAt ∧ pwi 4096 l.gU ∧ pwi 4096 l.gV) ?_ fun p5 h5 => ?_
 ·refine T.bind (aHY N _) fun r6 h6 => T.cond (fun _ => T.ret fun h => by cases h) (fun c6 => ?_)
  refine T.bind (aHY N _) fun r7 h7 => T.cond (fun _ => T.ret fun h => by cases h) (fun c7 => ?_)
  exact T.bind (aHY N _) fun r8 h8 => T.ret fun c8 => ⟨h6 c6, h7 c7, h8 c8⟩
 refine T.cond (fun _ => T.ret fun h => by cases h) (fun hc5 => ?_)
 have ok : wV l := ⟨h1 hc, h5 hc5⟩
 simp only [aX]
 refine T.bind (P := fun _ => True) ?_ fun o _ => ?_
 ·refine T.cond (fun _ => T.cond (fun _ => T.ret trivial) (fun _ => ?_)) (fun _ => T.cond (fun _ => ?_) (fun _ => T.ret trivial))
  ·exact T.bind (P := fun _ => True) (T.cond (fun _ => T.ret trivial) (fun _ => T.ret trivial)) fun _ _ => T.cond (fun _ => T.ret trivial) (fun _ => T.ret trivial)
  ·exact T.bind (P := fun _ => True) (T.cond (fun _ => T.ret trivial) (fun _ => T.ret trivial)) fun _ _ => T.cond (fun _ => T.ret trivial) (fun _ => T.ret trivial)
 ·cases o with
  | inl _ => exact T.ret fun _ => ok
  | inr r => exact T.ret fun _ => ok
theorem aIc (N : Nat) (hN : 30 < N) (s : aG) (h : few s) : T (dJ N s.gR) (fun r => r = 0 → ∀ t ∈ s.gR, wV t) := by
 unfold dJ
 have h1 := h.2.2.2.1
 exact aHJ s.gR (iE N) wV (fun k i => by rw [cM]) (fun t _ => aOF N (by omega) t) (by omega) (by omega)
structure aNO (s : aG) : Prop where
 few : few s
 tri : ∀ t ∈ s.gM, aJa s t
 mat : ∀ t ∈ s.gQ, aGC t
 tex : ∀ t ∈ s.gK, aJZ t
 light : ∀ t ∈ s.gR, wV t
theorem aLB (N : Nat) (hN : 300 < N) (s : aG) (h : few s) : T (dW N s) (fun r => r = 0 → aNO s) := by
 unfold dW
 simp only [aX]
 refine T.cond (fun _ => T.ret fun h => by cases h) (fun _ => ?_)
 have nz : ∀ {r : Int} {P : Prop}, (r != 0) = true → (r = 0 → P) := fun h e => by rw [e] at h; cases h
 refine T.bind (aMJ N (by omega) s h) fun r3 h3 => T.cond (fun c => T.ret (nz c)) (fun c3 => ?_)
 refine T.bind (aMW N (by omega) s h) fun r4 h4 => T.cond (fun c => T.ret (nz c)) (fun c4 => ?_)
 refine T.bind (aLV N (by omega) s h) fun r5 h5 => T.cond (fun c => T.ret (nz c)) (fun c5 => ?_)
 refine T.bind (aIc N (by omega) s h) fun r6 h6 => T.ret fun e => ?_
 exact ⟨h, h3 (by simpa using c3), h4 (by simpa using c4), h5 (by simpa using c5), h6 e⟩
def aLD (v : aI) : Prop := aLi v.gC7 v.gW v.gH ∧ (1 ≤ v.gA5 ∧ v.gA5 ≤ 16) ∧ (0 ≤ v.gA0 ∧ v.gA0 ≤ 8) ∧ 0 ≤ v.gS ∧ v.gS ≤ 2
theorem aMh (N : Nat) (v : aI) : T (fU N v) (fun r => r = 0 → aLD v) := by
 unfold fU
 refine T.bind (aIi N _ _ _) fun r1 h1 => ?_
 refine T.cond (fun c => T.ret fun e => by rw [e] at c; cases c) (fun c => ?_)
 simp only [aX]
 refine T.cond (fun _ => T.ret fun h => by cases h) (fun hc => T.ret fun _ => ?_)
 have o : ∀ {a : Prop} [Decidable a] {b : Bool}, cond b true (decide a) = false → b = false ∧ ¬ a := by
  intro a _ b h
  cases b with
  | true => cases h
  | false => exact ⟨rfl, of_decide_eq_false h⟩
 obtain ⟨hc, c6⟩ := o hc
 obtain ⟨hc, c5⟩ := o hc
 obtain ⟨hc, c4⟩ := o hc
 obtain ⟨hc, c3⟩ := o hc
 obtain ⟨hc, c2⟩ := o hc
 have c1 := of_decide_eq_false hc
 exact ⟨h1 (by simpa using c), by omega, by omega, by omega, by omega⟩
def sH (c : Int) : Int × Int := cond (c == 0) (16, 4) (cond (c == 1) (64, 4) (cond (c == 2) (256, 8) (0, 0)))
theorem aGh (N : Nat) (c : Int) : iI N c = some (sH c) := by
 unfold iI sH
 cases (c == 0) <;> cases (c == 1) <;> cases (c == 2) <;> rfl
theorem aOo (N : Nat) (c : Int) : T (iI N c) (fun r => r = sH c) := ⟨_, aGh N c, rfl⟩
def fits (s : aG) (c : Int) : Prop := (s.gM.length : Int) ≤ (sH c).1 ∧ (s.gR.length : Int) ≤ (sH c).2
theorem fitsT (N : Nat) (s : aG) (c : Int) : T (kG N s c) (fun r => r = 0 → fits s c) := by
 unfold kG
 refine T.eq (aGh N c) ?_
 simp only [aX]
 refine T.cond (fun _ => T.ret fun h => by cases h) (fun hc => T.ret fun _ => ?_)
 by_cases h : (s.gM.length : Int) > (sH c).1
 ·rw [dt h, cond_true] at hc; cases hc
 ·rw [df h, cond_false] at hc
  have := of_decide_eq_false hc
  exact ⟨by omega, by omega⟩
theorem aG2 (k : Nat) {a b : Int} (ha : tM a) (hb : tM b) (h0 : S64 (b * 4294967296) ≠ 0) : T (iM (k + 3) a b) tM := by
 unfold iM
 refine T.eq (aMU _ ha) (T.eq (aMU _ hb) (T.eq (aNZ k (aDR _) (aDR _) h0) (T.ret (aDR _))))
theorem aO3 (k : Nat) (c : Vector Int 3) {b : Int} (hc : ∀ x ∈ c.toList, tM x) (hb : tM b) (h0 : S64 (b * 4294967296) ≠ 0) : T (oK (k + 3) c b) vin := by
 unfold oK
 refine T.bind (T.idx (by decide) (by simp)) fun e1 h1 => T.bind (aG2 k (hc _ (List.mem_of_getElem? h1)) hb h0) fun r2 a => ?_
 refine T.bind (T.idx (by decide) (by simp)) fun e3 h3 => T.bind (aG2 k (hc _ (List.mem_of_getElem? h3)) hb h0) fun r4 b => ?_
 refine T.bind (T.idx (by decide) (by simp)) fun e5 h5 => T.bind (aG2 k (hc _ (List.mem_of_getElem? h5)) hb h0) fun r6 d => T.ret ⟨a, b, d⟩
theorem aMr (k : Nat) {l : aN} (h : wV l) : T (mZ (k + 3) l) vin := by
 unfold mZ
 exact T.bind (aO3 k _ (fun x hx => by have := h.1 x hx; exact ⟨by omega, by omega⟩) ⟨by decide, by decide⟩ (by decide)) fun r h => T.ret h
theorem skyT (k : Nat) (hk : 10 < k) (l : List aN) (h : ∀ x ∈ l, wV x) (hl : l.length ≤ 5) : T (vO (k + 3) l) (fun r => vin r ∧ (l = [] → r = aB.mk 0 0 0)) := by
 unfold vO
 refine T.bind (T.loopG0 (n := l.length) (fun i s => s.length ≤ i ∧ ∀ v ∈ s, vin v) (fun r => r.length ≤ l.length ∧ ∀ v ∈ r, vin v) (F := oJ (k + 3) l) (fun k' s i hi hs hk' => ?_) (fun k' s hs => ?_) (by omega) (s := []) ⟨by simp, fun v h => absurd h (by simp)⟩) fun r hr => ?_
 ·rw [oJ, aX, dt (by omega), cond_true]
  refine T.bind (P := fun p => p.1.length ≤ i + 1 ∧ ∀ v ∈ p.1, vin v) ?_ fun p5 h5 => ?_
  ·rw [iQ, List.getElem?_eq_getElem hi, Option.bind_some]
   refine T.cond (fun _ => ?_) (fun _ => T.ret ⟨by dsimp only; omega, hs.2⟩)
   refine T.bind (aMr k (h _ (List.getElem_mem hi))) fun r7 h7 => T.eq (pV (by simp; omega)) (T.ret ⟨by simp; omega, ?_⟩)
   intro v hv
   rw [List.mem_append, List.mem_singleton] at hv
   rcases hv with hv | rfl
   ·exact hs.2 v hv
   ·exact h7
  ·rw [jD (by omega)]; exact hk' _ h5
 ·rw [oJ, aX, df (by omega), cond_false]; exact T.ret hs
 ·refine T.eq (aG6 k r hr.2 (by omega) (by omega)) (T.ret ⟨?_, fun h => ?_⟩)
  ·obtain ⟨x, e, hx⟩ := aMu k r hr.2 (by omega) (by omega)
   rw [aG6 k r hr.2 (by omega) (by omega)] at e
   cases e
   exact hx
  ·subst h
   have : r = [] := List.eq_nil_of_length_eq_zero (by have := hr.1; simpa using this)
   subst this
   rfl
def aHh (t : aD) : Prop := (t.gE = 1 ∨ t.gE = 2 ∨ t.gE = 4 ∨ t.gE = 8 ∨ t.gE = 16) ∧ (t.gG.length : Int) = t.gE * t.gE
theorem aG9 (N : Nat) {t : aD} (h : aHh t) (x y : Int) : T (kZ N t x y) (fun _ => True) := by
 obtain ⟨h1, h2⟩ := h
 unfold kZ
 simp only [aX]
 have b : ∀ (a : Int) (m : Nat), t.gE = (m : Int) + 1 → m < 100 → 0 ≤ iX .i64 a (I64 (t.gE - 1)) ∧ iX .i64 a (I64 (t.gE - 1)) ≤ (m : Int) := by
  intro a m h hm
  rw [h, show I64 ((m : Int) + 1 - 1) = (m : Int) by rw [eP (by omega) (by omega)]; omega]
  exact aOM m (by omega)
 have key : ∀ m : Nat, t.gE = (m : Int) + 1 → m < 100 → T (Option.bind (idx t.gG (I64 (I64 (iX .i64 y (I64 (t.gE - 1)) * t.gE) + iX .i64 x (I64 (t.gE - 1))))) fun e4 => some e4) (fun _ => True) := by
  intro m hm hb
  have bx := b x m hm hb
  have by' := b y m hm hb
  generalize iX .i64 x (I64 (t.gE - 1)) = X at *
  generalize iX .i64 y (I64 (t.gE - 1)) = Y at *
  rw [hm] at h2 ⊢
  have n1 : 0 ≤ Y * ((m : Int) + 1) := Int.mul_nonneg by'.1 (by omega)
  have n2 : Y * ((m : Int) + 1) ≤ (m : Int) * ((m : Int) + 1) := Int.mul_le_mul_of_nonneg_right by'.2 (by omega)
  have n3 : (m : Int) * ((m : Int) + 1) ≤ 100 * 101 := by
   have : (m : Int) * ((m : Int) + 1) ≤ 100 * ((m : Int) + 1) := Int.mul_le_mul_of_nonneg_right (by omega) (by omega)
   omega
  have n4 : ((m : Int) + 1) * ((m : Int) + 1) = (m : Int) * ((m : Int) + 1) + ((m : Int) + 1) := by rw [Int.add_mul, Int.one_mul]
  rw [n4] at h2
  generalize Y * ((m : Int) + 1) = Z at *
  generalize (m : Int) * ((m : Int) + 1) = W at *
  rw [eP (x := Z) (by omega) (by omega), eP (by omega) (by omega)]
  exact T.bind (T.idx (by omega) (by omega)) fun _ _ => T.ret trivial
 rcases h1 with h | h | h | h | h
 ·exact key 0 h (by decide)
 ·exact key 1 h (by decide)
 ·exact key 3 h (by decide)
 ·exact key 7 h (by decide)
 ·exact key 15 h (by decide)
theorem aO1 (N : Nat) (hN : 10 < N) (a b c d : Vector Int 3) : T (jH N a b c d N (#v[0, 0, 0]) 0) (fun _ => True) := by
 refine T.loopG0 (n := 3) (fun _ _ => True) _ (F := jH N a b c d) (fun k s i hi _ hk => ?_) (fun k s _ => ?_) (by omega) trivial
 ·rw [jH, dt (by omega), cond_true]
  refine T.bind (T.inRO (by omega) (by omega)) fun _ _ => T.bind (T.vg hi) fun _ _ => T.bind (T.inRO (by omega) (by omega)) fun _ _ => T.bind (T.vg hi) fun _ _ => T.bind (T.inRO (by omega) (by omega)) fun _ _ => T.bind (T.vg hi) fun _ _ => ?_
  simp only [aX]
  refine T.bind (T.inRO (by omega) (by omega)) fun _ _ => T.bind (T.vg hi) fun _ _ => T.bind (T.inRO (by omega) (by omega)) fun _ _ => T.bind (T.vg hi) fun _ _ => ?_
  rw [jD (by omega)]
  exact hk _ trivial
 ·rw [jH, df (by omega), cond_false]; exact T.ret trivial
theorem halfT (N : Nat) (hN : 100 < N) {t : aD} (h : aHh t) (h1 : t.gE > 1) : T (pE N t) (fun r => aHh r ∧ r.gE * 2 = t.gE) := by
 unfold pE
 obtain ⟨H, e1, e2, e3⟩ : ∃ H : Nat, I64 (Int.tdiv t.gE 2) = (H : Int) ∧ t.gE = (H : Int) * 2 ∧ (H = 1 ∨ H = 2 ∨ H = 4 ∨ H = 8) := by
  rcases h.1 with e | e | e | e | e
  ·omega
  ·exact ⟨1, by rw [e]; decide, by rw [e]; decide, by simp⟩
  ·exact ⟨2, by rw [e]; decide, by rw [e]; decide, by simp⟩
  ·exact ⟨4, by rw [e]; decide, by rw [e]; decide, by simp⟩
  ·exact ⟨8, by rw [e]; decide, by rw [e]; decide, by simp⟩
 simp only [aX, e1]
 have sq : I64 ((H : Int) * (H : Int)) = ((H * H : Nat) : Int) := by rcases e3 with e | e | e | e <;> subst e <;> decide
 have sb : H * H ≤ 64 := by rcases e3 with e | e | e | e <;> subst e <;> decide
 have nz : (H : Int) ≠ 0 := by omega
 refine T.bind (T.loopG0 (n := H * H) (fun i s => s.length = i) (fun r => r.length = H * H) (F := kM N (H : Int) (H : Int) t) (fun k s i hi hs hk => ?_) (fun k s hs => ?_) (by omega) (s := []) rfl) fun p4 h4 => T.ret ⟨⟨?_, ?_⟩, ?_⟩
 ·rw [kM]
  simp only [aX, e1, sq]
  rw [dt (by omega), cond_true]
  refine T.eq (aJv .i64 nz) (T.eq (aCr .i64 nz) ?_)
  refine T.bind (aG9 N h _ _) fun r12 _ => T.bind (aG9 N h _ _) fun r14 _ => T.bind (aG9 N h _ _) fun r16 _ => T.bind (aG9 N h _ _) fun r19 _ => T.bind (aO1 N (by omega) _ _ _ _) fun p20 _ => ?_
  refine T.eq (pV (by simp; omega)) ?_
  rw [jD (by omega)]
  exact hk _ (by simp; omega)
 ·rw [kM]
  simp only [aX, sq]
  rw [df (by omega), cond_false]
  exact T.ret hs
 ·show (H : Int) = 1 ∨ (H : Int) = 2 ∨ (H : Int) = 4 ∨ (H : Int) = 8 ∨ (H : Int) = 16
  omega
 ·show (p4.length : Int) = (H : Int) * (H : Int)
  rw [h4]; push_cast; rfl
 ·show (H : Int) * 2 = t.gE
  exact e2.symm
def aK8 (l : List aD) : Prop := l.length ≤ 20 ∧ ∀ t ∈ l, t.gG.length ≤ 260
theorem aF5 {t : aD} (h : aHh t) : t.gG.length ≤ 260 := by
 obtain ⟨h1, h2⟩ := h
 rcases h1 with e | e | e | e | e <;> rw [e] at h2 <;> omega
theorem lvR2 (N : Nat) (l : List aD) (a t : aD) (h : l.length ≤ 1000) : kV N l a t = some (l ++ [t]) := by
 unfold kV
 rw [pV (by simp; omega)]
 rfl
theorem aLF (N : Nat) (hN : 100 < N) : ∀ (j k : Nat) (l : List aD) (t : aD), aHh t → t.gE ≤ 2 ^ j → j < k → (l.length + j ≤ 10 ∧ ∀ t ∈ l, t.gG.length ≤ 260) → T (bU N k l t) (fun r => aK8 r.1) := by
 intro j
 induction j with
 | zero =>
  intro k l t ht hs hk hl
  obtain ⟨k, rfl⟩ : ∃ k', k = k' + 1 := ⟨k - 1, by omega⟩
  rw [bU]
  refine T.eq (lvR2 N _ _ _ (by omega)) ?_
  rw [df (by simpa using hs), cond_false]
  refine T.ret ⟨by simp; omega, ?_⟩
  intro u hu
  rw [List.mem_append, List.mem_singleton] at hu
  rcases hu with hu | rfl
  ·exact hl.2 u hu
  ·exact aF5 ht
 | succ j ih =>
  intro k l t ht hs hk hl
  obtain ⟨k, rfl⟩ : ∃ k', k = k' + 1 := ⟨k - 1, by omega⟩
  rw [bU]
  refine T.eq (lvR2 N _ _ _ (by omega)) ?_
  have all : ∀ u ∈ l ++ [t], u.gG.length ≤ 260 := by
   intro u hu
   rw [List.mem_append, List.mem_singleton] at hu
   rcases hu with hu | rfl
   ·exact hl.2 u hu
   ·exact aF5 ht
  refine T.cond (fun hc => ?_) (fun _ => T.ret ⟨by simp; omega, all⟩)
  refine T.bind (halfT N hN ht (of_decide_eq_true hc)) fun r5 h5 => ?_
  have hp : (2 : Int) ^ (j + 1) = 2 ^ j * 2 := Int.pow_succ _ _
  exact ih k _ r5 h5.1 (by have := h5.2; omega) (by omega) ⟨by simp; omega, all⟩
theorem aNX (N : Nat) (l : List (Vector Int 3)) (h : l.length ≤ 1000) : T (fQ N l) (fun r => r = l) := by
 unfold fQ
 exact T.eq (pV (by simp; omega)) (T.ret (by simp))
theorem aNs (N : Nat) (hN : 300 < N) (t : aD) (h : t.gG.length ≤ 260) : T (nO N t) (fun r => aK8 r.1) := by
 unfold nO
 refine T.bind (texT N t (by omega) (by omega) (by omega)) fun r1 h1 => ?_
 refine T.cond (fun _ => T.ret ⟨by simp, fun t h => absurd h (by simp)⟩) (fun hc => ?_)
 have ok := h1 (by simpa using hc)
 refine T.bind (aNX N _ (by omega)) fun r2 h2 => ?_
 subst h2
 unfold pR dH
 refine T.eq rfl ?_
 refine T.bind (P := fun r => aK8 r.1) ?_ fun r4 h4 => T.ret h4
 refine T.bind (aLF N (by omega) 4 N [] _ ⟨ok.1, ok.2.1⟩ (by have := ok.1; show t.gE ≤ 2 ^ 4; omega) (by omega) ⟨by simp, fun t h => absurd h (by simp)⟩) fun p1 h1 => T.ret h1
theorem aKM (N : Nat) (l : List aE) (m : Int) (hm' : 0 ≤ m ∧ m ≤ 4096) (hl' : (l.length : Int) ≤ m) : T (oZ N l m) (fun q => match q with | .inl e => False | .inr r => r.2 = 0 ∧ (r.1.length : Int) = m ∧ r.1.length ≤ 4096 ∧ ∀ i, l.length ≤ i → ∀ t, r.1[i]? = some t → t.gC6 = 0) := by
 unfold oZ
 simp only [aX]
 rw [df (show ¬ m < 0 by omega), df (show ¬ m > 4096 by omega)]
 refine T.cond (fun hc => by cases hc) (fun hc => ?_)
 have hm := hm'
 obtain ⟨n, rfl⟩ := Int.eq_ofNat_of_zero_le hm.1
 refine T.cond (fun hc => absurd (of_decide_eq_true hc) (by omega)) (fun hc2 => ?_)
 have hl := of_decide_eq_false hc2
 refine T.eq (a := ()) (by unfold mkO; rw [dt (by omega), dt (by omega), dt (by omega)]; rfl) ?_
 rw [Int.toNat_natCast]
 unfold cpD
 rw [dt (by simp), cond_true, Option.bind_some]
 have hlen : ∀ z : aE, (cpy (List.replicate n z) l 0 n).length = n := by intro z; unfold cpy; simp; omega
 refine T.eq (a := ()) (by unfold yO; rw [hlen, Nat.beq_refl]; rfl) ?_
 refine T.ret ⟨rfl, by rw [hlen], by rw [hlen]; omega, ?_⟩
 intro i hi t ht
 unfold cpy at ht
 rw [show min l.length n = l.length by omega, List.take_zero, List.nil_append, List.take_length, List.getElem?_append_right hi, List.getElem?_drop] at ht
 have hm := List.mem_of_getElem? ht
 rw [List.mem_replicate] at hm
 rw [hm.2]
def ple (p q : aA) : Prop := p.gX ≤ q.gX ∧ p.gY ≤ q.gY ∧ p.gZ ≤ q.gZ
theorem aKV (N : Nat) (l : List aA) {m : Int} (hm : 0 ≤ m) (h : ∀ p ∈ l, pwi m p) (hN : l.length < N) (hl : l.length < 1000000) : T (lJ N l) (fun r => pwi m r.1 ∧ pwi m r.2 ∧ ∀ p ∈ l, ple r.1 p ∧ ple p r.2) := by
 unfold lJ
 have z : pwi m (aA.mk 0 0 0) := by unfold pwi; dsimp only; omega
 refine T.bind (T.loopG0 (n := l.length) (fun i (s : aA × aA) => pwi m s.1 ∧ pwi m s.2 ∧ ∀ j, (hj : j < l.length) → j < i → ple s.1 l[j] ∧ ple l[j] s.2) (fun r => pwi m r.1 ∧ pwi m r.2 ∧ ∀ p ∈ l, ple r.1 p ∧ ple p r.2) (F := fun k (s : aA × aA) i => pP N l k s.1 s.2 i) (fun k s i hi hs hk => ?_) (fun k s hs => ?_) hN (s := (aA.mk 0 0 0, aA.mk 0 0 0)) ⟨z, z, fun j _ h => absurd h (by omega)⟩) fun r hr => T.ret hr
 ·rw [pP, aX, dt (by omega), cond_true, iQ, List.getElem?_eq_getElem hi, Option.bind_some]
  have he := h _ (List.getElem_mem hi)
  generalize hx : l[i] = x at *
  refine T.bind (P := fun p => pwi m p.1 ∧ pwi m p.2 ∧ ∀ j, (hj : j < l.length) → j < i → ple p.1 l[j] ∧ ple l[j] p.2) ?_ fun p7 h7 => ?_
  ·refine T.cond (fun hc => ?_) (fun _ => T.ret hs)
   have : i = 0 := by have := of_decide_eq_true hc; omega
   exact T.ret ⟨he, he, fun j _ h => absurd h (by omega)⟩
  ·rw [jD (by omega)]
   obtain ⟨a, b, c⟩ := h7
   refine hk (_, _) ⟨?_, ?_, fun j hj hji => ?_⟩
   ·unfold pwi at *; simp only [qU]; omega
   ·unfold pwi at *; simp only [rU]; omega
   ·by_cases e : j = i
    ·subst e
     rw [hx]
     unfold ple; simp only [qU, rU]; omega
    ·have := c j hj (by omega)
     unfold ple at *; simp only [qU, rU]; omega
 ·rw [pP, aX, df (by omega), cond_false]
  refine T.ret ⟨hs.1, hs.2.1, fun p hp => ?_⟩
  obtain ⟨j, hj, rfl⟩ := List.getElem_of_mem hp
  exact hs.2.2 j hj hj
def tpw (t : aE) : Prop := ∀ p ∈ t.gP.toList, pwi 65536 p
theorem T.slc3 {α : Type} (v : Vector α 3) : T (uF v.toList 0 3) (fun r => r = v.toList) := by
 refine ⟨_, aGr (by decide) (by decide) (by simp), ?_⟩
 exact List.take_of_length_le (show v.toList.length ≤ 3 by simp)
theorem aHI (N : Nat) (hN : 3 < N) {t : aE} (h : tpw t) : T (lJ N t.gP.toList) (fun r => pwi 65536 r.1 ∧ pwi 65536 r.2 ∧ ∀ p ∈ t.gP.toList, ple r.1 p ∧ ple p r.2) :=
 aKV N _ (by decide) h (by simpa using hN) (by simp)
theorem aEN (N : Nat) (hN : 3 < N) {t : aE} (h : tpw t) : T (iK N t) (pwi 131072) := by
 unfold iK
 refine T.bind (T.slc3 t.gP) fun s hs => ?_
 subst hs
 refine T.bind (aHI N hN h) fun r2 h2 => ?_
 simp only [aX]
 obtain ⟨a, b, _⟩ := h2
 refine T.ret ?_
 unfold pwi at *
 dsimp only
 rw [eP (by omega) (by omega), eP (by omega) (by omega), eP (by omega) (by omega)]
 omega
def ax (p : aA) (i : Int) : Int := if i = 0 then p.gX else if i = 1 then p.gY else p.gZ
theorem aBX (N : Nat) (p : aA) {i : Int} (h0 : 0 ≤ i) (h3 : i < 3) : T (jX N p i) (fun r => r = ax p i) := by
 have : i = 0 ∨ i = 1 ∨ i = 2 := by omega
 rcases this with rfl | rfl | rfl <;> exact ⟨_, rfl, rfl⟩
theorem ax_b {m : Int} {p : aA} (h : pwi m p) (i : Int) : -m ≤ ax p i ∧ ax p i ≤ m := by
 unfold pwi at h; unfold ax; split
 ·omega
 ·split <;> omega
def ord (n : Nat) (l : List Int) : Prop := ∀ x ∈ l, 0 ≤ x ∧ x < (n : Int)
def xF (l : List aE) : Prop := (∀ t ∈ l, tpw t) ∧ l.length ≤ 20
theorem T.tri {l : List aE} (h : xF l) {e : Int} (he : 0 ≤ e ∧ e < (l.length : Int)) : T (Go.UK.idx l e) tpw :=
 (T.idx he.1 he.2).mono fun t ht => h.1 t (List.mem_of_getElem? ht)
theorem aOg (N : Nat) (hN : 3 < N) {l : List aE} (h : xF l) {a b i : Int} (ha : 0 ≤ a ∧ a < (l.length : Int)) (hb : 0 ≤ b ∧ b < (l.length : Int)) (hi : 0 ≤ i ∧ i < 3) : T (mH N a b l i) (fun _ => True) := by
 unfold mH
 refine T.bind (T.tri h ha) fun _ h1 => T.bind (aEN N hN h1) fun _ _ => T.bind (aBX N _ hi.1 hi.2) fun _ _ => ?_
 refine T.bind (T.tri h hb) fun _ h1 => T.bind (aEN N hN h1) fun _ _ => T.bind (aBX N _ hi.1 hi.2) fun _ _ => T.ret trivial
def aFo (a b : Int) : Prop := a ≠ b ∧ (-131072 ≤ a ∧ a ≤ 131072) ∧ (-131072 ≤ b ∧ b ≤ 131072)
theorem binT0 (N : Nat) {x a b : Int} (h : aFo a b) : T (rN N x a b) (fun _ => True) := by
 unfold rN
 simp only [aX]
 obtain ⟨h1, h2, h3⟩ := h
 rw [eP (x := b - a) (by omega) (by omega)]
 exact T.eq (aCr .i64 (by omega)) (T.ret trivial)
theorem binT (N : Nat) {x a b : Int} (h : aFo a b) (hx : a ≤ x ∧ x ≤ b) : T (rN N x a b) (fun r => 0 ≤ r ∧ r < 8) := by
 unfold rN
 simp only [aX]
 obtain ⟨h1, h2, h3⟩ := h
 rw [eP (x := b - a) (by omega) (by omega), eP (x := x - a) (by omega) (by omega), eP (x := (x - a) * 8) (by omega) (by omega)]
 refine T.eq (aCr .i64 (by omega)) (T.ret ?_)
 rw [Int.tdiv_eq_ediv_of_nonneg (by omega)]
 have q0 : 0 ≤ (x - a) * 8 / (b - a) := Int.ediv_nonneg (by omega) (by omega)
 have q1 : (x - a) * 8 / (b - a) ≤ (x - a) * 8 := Int.ediv_le_self _ (by omega)
 rw [show IntKind.i64.wrap ((x - a) * 8 / (b - a)) = (x - a) * 8 / (b - a) from eP (by omega) (by omega), qU]
 omega
theorem aHC (N : Nat) (hN : 3 < N) {l : List aE} (h : xF l) {e a b c i : Int} (he : 0 ≤ e ∧ e < (l.length : Int)) (hab : aFo a b) (hi : 0 ≤ i ∧ i < 3) : T (fF N e l a b c i) (fun _ => True) := by
 unfold fF
 refine T.bind (T.tri h he) fun _ h1 => T.bind (aEN N hN h1) fun _ _ => T.bind (aBX N _ hi.1 hi.2) fun _ _ => T.bind (binT0 N hab) fun _ _ => T.ret trivial
theorem aOR (N : Nat) (hN : 3 < N) {l : List aE} (h : xF l) {e e' a b c i : Int} (he : 0 ≤ e ∧ e < (l.length : Int)) (he' : 0 ≤ e' ∧ e' < (l.length : Int)) (hab : aFo a b) (hi : 0 ≤ i ∧ i < 3) : T (nV N e e' l a b c i) (fun _ => True) := by
 unfold nV
 refine T.bind (aHC N hN h he hab hi) fun _ _ => T.bind (aHC N hN h he' hab hi) fun _ _ => T.cond (fun _ => T.ret trivial) (fun _ => ?_)
 refine T.bind (aHC N hN h he' hab hi) fun _ _ => T.cond (fun _ => T.ret trivial) (fun _ => T.ret trivial)
theorem T.inRS {L lo n : Nat} {i : Int} (h1 : lo + n ≤ L) (h2 : 0 ≤ i) (h3 : i < (n : Int)) : T (uI L lo n i) (fun _ => True) := ⟨(), by unfold Go.UK.uI; rw [dt h1, dt h2, dt h3]; rfl, trivial⟩
theorem T.slcG {L lo0 n : Nat} {lo hi : Int} (h1 : lo0 + n ≤ L) (h2 : 0 ≤ lo) (h3 : lo ≤ hi) (h4 : hi ≤ (n : Int)) (h5 : lo = 0 ∨ lo < (n : Int)) : T (aGU L lo0 n lo hi) (fun _ => True) := ⟨(), by unfold Go.UK.aGU; rw [dt h1, dt h2, dt h3, dt h4, dt h5]; rfl, trivial⟩
theorem T.lenO {α : Type} {l : List α} {n : Nat} (h : l.length = n) : T (yO l n) (fun _ => True) := ⟨(), by unfold Go.UK.yO; rw [h, Nat.beq_refl]; rfl, trivial⟩
theorem T.setO {α : Type} {l : List α} {j : Nat} {e : α} (h : j < l.length) : T (aEY l j e) (fun r => r = l.set j e) := ⟨_, by unfold Go.UK.aEY; rw [show Nat.blt j l.length = Bool.true by rw [Nat.blt_eq]; exact h]; rfl, rfl⟩
theorem T.appG {α : Type} {b m : Nat} {l r : List α} (h : m ≤ l.length) (h' : (m + r.length) * b ≤ 140737488355328) : T (aID b l m r) (fun x => x = rS l m r) := ⟨_, by unfold Go.UK.aID; rw [dt h, show Nat.ble ((m + r.length) * b) 140737488355328 = Bool.true by rw [Nat.ble_eq]; exact h']; rfl, rfl⟩
theorem T.get0 {α : Type} {l : List α} {j : Nat} (h : j < l.length) : T (l[j]?) (fun e => e ∈ l) := ⟨l[j], List.getElem?_eq_getElem h, List.getElem_mem h⟩
theorem aEG {n : Nat} {l : List Int} {j : Nat} {e : Int} (h : ord n l) (he : 0 ≤ e ∧ e < (n : Int)) : ord n (l.set j e) := by
 intro x hx
 rcases List.mem_or_eq_of_mem_set hx with hx | rfl
 ·exact h x hx
 ·exact he
def okS (n L lo m : Nat) (s : List Int × Nat) : Prop := ord n s.1 ∧ s.1.length = L ∧ s.2 = m
theorem ia1 {a : Nat} (h : a < 900000) : I64 ((a : Int) + 1) = ((a + 1 : Nat) : Int) := jD (by omega)

theorem ins2A (N : Nat) (hN : 3 < N) {R : List aE} (hT : xF R) {L lo m : Nat} {a : Int} {i : Int} (hi : 0 ≤ i ∧ i < 3) (ha : 0 ≤ a) (hL : lo + m ≤ L) (hm : m ≤ 20) :
  ∀ (j k : Nat) (s : List Int), j < m → j < k → ord R.length s → s.length = L → T (bM N a lo R i k s m (j : Int)) (okS R.length L lo m) := by
 intro j
 induction j with
 | zero =>
  intro k s hj hk ho hs
  obtain ⟨k, rfl⟩ : ∃ k', k = k' + 1 := ⟨k - 1, by omega⟩
  rw [bM, df (by omega), cond_false]
  exact T.eq rfl (T.ret ⟨ho, hs, rfl⟩)
 | succ j ih =>
  intro k s hj hk ho hs
  obtain ⟨k, rfl⟩ : ∃ k', k = k' + 1 := ⟨k - 1, by omega⟩
  rw [bM, show I64 (((j + 1 : Nat) : Int) - 1) = (j : Int) by rw [eP (by omega) (by omega)]; omega]
  simp only [wY, Int.toNat_natCast]
  refine T.bind (P := fun _ => True) ?_ fun p9 _ => T.cond (fun _ => ?_) (fun _ => T.ret ⟨ho, hs, rfl⟩)
  ·refine T.cond (fun _ => ?_) (fun _ => T.ret trivial)
   refine T.bind (T.inRS (by omega) (by omega) (by omega)) fun _ _ => T.bind (T.get0 (by omega)) fun e11 h11 => T.bind (T.inRS (by omega) (by omega) (by omega)) fun _ _ => T.bind (T.get0 (by omega)) fun e13 h13 => ?_
   exact T.bind (aOg N hN hT (ho _ h11) (ho _ h13) hi) fun _ _ => T.ret trivial
  ·refine T.bind (T.inRS (by omega) (by omega) (by omega)) fun _ _ => T.bind (T.get0 (by omega)) fun e16 h16 => T.bind (T.inRS (by omega) (by omega) (by omega)) fun _ _ => T.bind (T.get0 (by omega)) fun e18 h18 => ?_
   refine T.bind (T.inRS (by omega) (by omega) (by omega)) fun _ _ => T.bind (T.setO (by omega)) fun z20 h20 => T.bind (T.inRS (by omega) (by omega) (by omega)) fun _ _ => T.bind (T.setO (by rw [h20, List.length_set]; omega)) fun z22 h22 => ?_
   subst h22
   subst h20
   exact ih k _ (by omega) (by omega) (aEG (aEG ho (ho _ h16)) (ho _ h18)) (by simpa using hs)
theorem insA (N : Nat) (hN : 50 < N) {R : List aE} (hT : xF R) {L lo m : Nat} {a b : Nat} {i : Int} (hi : 0 ≤ i ∧ i < 3) (ha : a ≤ 20) (hb : b ≤ m) (hL : lo + m ≤ L) (hm : m ≤ 20) {s : List Int} (ho : ord R.length s) (hs : s.length = L) : T (bG N s lo m (a : Int) (b : Int) R i) (fun r => ord R.length r ∧ r.length = L) := by
 unfold bG
 have main : ∀ (k j : Nat) (s : List Int), b - j < k → j < 1000 → ord R.length s → s.length = L → T (bX N (b : Int) (a : Int) lo R i k s m (j : Int)) (fun r => ord R.length r ∧ r.length = L) := by
  intro k
  induction k with
  | zero => intro j s h; omega
  | succ k ih =>
   intro j s hj hj' ho hs
   rw [bX]
   refine T.cond (fun hc => ?_) (fun _ => T.ret ⟨ho, hs⟩)
   have hjb : j < b := by have := of_decide_eq_true hc; omega
   refine T.bind (ins2A N (by omega) hT hi (by omega) hL hm j N s (by omega) (by omega) ho hs) fun p5 h5 => ?_
   obtain ⟨q, m'⟩ := p5
   obtain ⟨o1, o2, o3⟩ := h5
   dsimp only at o1 o2 o3
   subst o3
   rw [jD (by omega)]
   exact ih (j + 1) q (by omega) (by omega) o1 o2
 by_cases h : True
 ·rw [ia1 (by omega)]
  exact T.bind (main N (a + 1) s (by omega) (by omega) ho hs) fun r h => T.ret h
 ·exact absurd trivial h
theorem aM6 (N : Nat) (hN : 50 < N) {R : List aE} (hT : xF R) {L lo m : Nat} {i : Int} (hi : 0 ≤ i ∧ i < 3) (hL : lo + m ≤ L) (hm : m ≤ 20) {s : List Int} (ho : ord R.length s) (hs : s.length = L) : T (cJ N s lo m R i) (fun r => ord R.length r ∧ r.length = L) := by
 unfold cJ dO
 refine T.bind (P := fun r => ord R.length r ∧ r.length = L) ?_ fun r h => T.ret h
 obtain ⟨N, rfl⟩ : ∃ n, N = n + 2 := ⟨N - 2, by omega⟩
 have fin : ∀ (q : List Int) (a : Nat), a ≤ m → ord R.length q → q.length = L → T (Option.bind (bG (N + 2) q lo m (a : Int) (m : Int) R i) fun r8 => Option.bind (yO r8 q.length) fun _ => Option.bind (cQ (N + 2) (m : Int) (N + 2) 20) fun p10 => some r8) (fun r => ord R.length r ∧ r.length = L) := by
  intro q a ha ho hq
  refine T.bind (insA (N + 2) (by omega) hT hi (by omega) (Nat.le_refl _) hL hm ho hq) fun r8 h8 => T.bind (T.lenO (by rw [h8.2, hq])) fun _ _ => ?_
  rw [cQ, df (by omega), cond_false]
  exact T.eq rfl (T.ret h8)
 by_cases h : m = 20
 ·rw [bY, dt (by omega), cond_true]
  have r1 := insA (N + 2) (by omega) hT hi (a := 0) (b := 20) (by omega) (by omega) hL hm ho hs
  obtain ⟨q, e, oq, lq⟩ := r1
  rw [show ((0 : Nat) : Int) = 0 from rfl, show ((20 : Nat) : Int) = 20 from rfl] at e
  refine T.eq (a := (q, m, 20)) ?_ (fin q 20 (by omega) oq lq)
  rw [e, Option.bind_some, show yO q s.length = some () by unfold yO; rw [lq, hs, Nat.beq_refl]; rfl, Option.bind_some]
  rw [bY, show I64 (20 + 20) = 40 by decide, df (by omega), cond_false]
 ·rw [bY, df (by omega), cond_false]
  exact T.eq rfl (fin s 0 (by omega) ho hs)


theorem ins2B (N : Nat) (hN : 3 < N) {R : List aE} (hT : xF R) {L lo m : Nat} {a : Int} {u v w i : Int} (hab : aFo u v) (hi : 0 ≤ i ∧ i < 3) (ha : 0 ≤ a) (hL : lo + m ≤ L) (hm : m ≤ 20) :
  ∀ (j k : Nat) (s : List Int), j < m → j < k → ord R.length s → s.length = L → T (bN N a lo R u v w i k s m (j : Int)) (okS R.length L lo m) := by
 intro j
 induction j with
 | zero =>
  intro k s hj hk ho hs
  obtain ⟨k, rfl⟩ : ∃ k', k = k' + 1 := ⟨k - 1, by omega⟩
  rw [bN, df (by omega), cond_false]
  exact T.eq rfl (T.ret ⟨ho, hs, rfl⟩)
 | succ j ih =>
  intro k s hj hk ho hs
  obtain ⟨k, rfl⟩ : ∃ k', k = k' + 1 := ⟨k - 1, by omega⟩
  rw [bN, show I64 (((j + 1 : Nat) : Int) - 1) = (j : Int) by rw [eP (by omega) (by omega)]; omega]
  simp only [wY, Int.toNat_natCast]
  refine T.bind (P := fun _ => True) ?_ fun p9 _ => T.cond (fun _ => ?_) (fun _ => T.ret ⟨ho, hs, rfl⟩)
  ·refine T.cond (fun _ => ?_) (fun _ => T.ret trivial)
   refine T.bind (T.inRS (by omega) (by omega) (by omega)) fun _ _ => T.bind (T.get0 (by omega)) fun e11 h11 => T.bind (T.inRS (by omega) (by omega) (by omega)) fun _ _ => T.bind (T.get0 (by omega)) fun e13 h13 => ?_
   exact T.bind (aOR N hN hT (ho _ h11) (ho _ h13) hab hi) fun _ _ => T.ret trivial
  ·refine T.bind (T.inRS (by omega) (by omega) (by omega)) fun _ _ => T.bind (T.get0 (by omega)) fun e16 h16 => T.bind (T.inRS (by omega) (by omega) (by omega)) fun _ _ => T.bind (T.get0 (by omega)) fun e18 h18 => ?_
   refine T.bind (T.inRS (by omega) (by omega) (by omega)) fun _ _ => T.bind (T.setO (by omega)) fun z20 h20 => T.bind (T.inRS (by omega) (by omega) (by omega)) fun _ _ => T.bind (T.setO (by rw [h20, List.length_set]; omega)) fun z22 h22 => ?_
   subst h22
   subst h20
   exact ih k _ (by omega) (by omega) (aEG (aEG ho (ho _ h16)) (ho _ h18)) (by simpa using hs)
theorem insB (N : Nat) (hN : 50 < N) {R : List aE} (hT : xF R) {L lo m : Nat} {a b : Nat} {u v w i : Int} (hab : aFo u v) (hi : 0 ≤ i ∧ i < 3) (ha : a ≤ 20) (hb : b ≤ m) (hL : lo + m ≤ L) (hm : m ≤ 20) {s : List Int} (ho : ord R.length s) (hs : s.length = L) : T (bI N s lo m (a : Int) (b : Int) R u v w i) (fun r => ord R.length r ∧ r.length = L) := by
 unfold bI
 have main : ∀ (k j : Nat) (s : List Int), b - j < k → j < 1000 → ord R.length s → s.length = L → T (bZ N (b : Int) (a : Int) lo R u v w i k s m (j : Int)) (fun r => ord R.length r ∧ r.length = L) := by
  intro k
  induction k with
  | zero => intro j s h; omega
  | succ k ih =>
   intro j s hj hj' ho hs
   rw [bZ]
   refine T.cond (fun hc => ?_) (fun _ => T.ret ⟨ho, hs⟩)
   have hjb : j < b := by have := of_decide_eq_true hc; omega
   refine T.bind (ins2B N (by omega) hT hab hi (by omega) hL hm j N s (by omega) (by omega) ho hs) fun p5 h5 => ?_
   obtain ⟨q, m'⟩ := p5
   obtain ⟨o1, o2, o3⟩ := h5
   dsimp only at o1 o2 o3
   subst o3
   rw [jD (by omega)]
   exact ih (j + 1) q (by omega) (by omega) o1 o2
 by_cases h : True
 ·rw [ia1 (by omega)]
  exact T.bind (main N (a + 1) s (by omega) (by omega) ho hs) fun r h => T.ret h
 ·exact absurd trivial h
theorem aNG (N : Nat) (hN : 50 < N) {R : List aE} (hT : xF R) {L lo m : Nat} {u v w i : Int} (hab : aFo u v) (hi : 0 ≤ i ∧ i < 3) (hL : lo + m ≤ L) (hm : m ≤ 20) {s : List Int} (ho : ord R.length s) (hs : s.length = L) : T (cL N s lo m R u v w i) (fun r => ord R.length r ∧ r.length = L) := by
 unfold cL dY
 refine T.bind (P := fun r => ord R.length r ∧ r.length = L) ?_ fun r h => T.ret h
 obtain ⟨N, rfl⟩ : ∃ n, N = n + 2 := ⟨N - 2, by omega⟩
 have fin : ∀ (q : List Int) (a : Nat), a ≤ m → ord R.length q → q.length = L → T (Option.bind (bI (N + 2) q lo m (a : Int) (m : Int) R u v w i) fun r8 => Option.bind (yO r8 q.length) fun _ => Option.bind (cU (N + 2) (m : Int) (N + 2) 20) fun p10 => some r8) (fun r => ord R.length r ∧ r.length = L) := by
  intro q a ha ho hq
  refine T.bind (insB (N + 2) (by omega) hT hab hi (by omega) (Nat.le_refl _) hL hm ho hq) fun r8 h8 => T.bind (T.lenO (by rw [h8.2, hq])) fun _ _ => ?_
  rw [cU, df (by omega), cond_false]
  exact T.eq rfl (T.ret h8)
 by_cases h : m = 20
 ·rw [cA, dt (by omega), cond_true]
  have r1 := insB (N + 2) (by omega) hT (w := w) hab hi (a := 0) (b := 20) (by omega) (by omega) hL hm ho hs
  obtain ⟨q, e, oq, lq⟩ := r1
  rw [show ((0 : Nat) : Int) = 0 from rfl, show ((20 : Nat) : Int) = 20 from rfl] at e
  refine T.eq (a := (q, m, 20)) ?_ (fin q 20 (by omega) oq lq)
  rw [e, Option.bind_some, show yO q s.length = some () by unfold yO; rw [lq, hs, Nat.beq_refl]; rfl, Option.bind_some]
  rw [cA, show I64 (20 + 20) = 40 by decide, df (by omega), cond_false]
 ·rw [cA, df (by omega), cond_false]
  exact T.eq rfl (fin s 0 (by omega) ho hs)

structure aGY (R : List aE) (b : List Int) (lo m : Nat) : Prop where
 tris : xF R
 ord : ord R.length b
 len : lo + m ≤ b.length
 few : m ≤ 20
theorem aGY.get {R : List aE} {b : List Int} {lo m : Nat} (h : aGY R b lo m) {i : Nat} (hi : i < m) : T (b[vB lo ((i : Int).toNat)]?) (fun e => 0 ≤ e ∧ e < (R.length : Int)) := by
 rw [wY, Int.toNat_natCast]
 have := h.len
 exact (T.get0 (by omega)).mono fun e he => h.ord e he
theorem aGY.rs {R : List aE} {b : List Int} {lo m : Nat} (h : aGY R b lo m) {i : Nat} (hi : i < m) : T (uI b.length lo m (i : Int)) (fun _ => True) := T.inRS h.len (by omega) (by omega)
theorem boxDT (N : Nat) (hN : 30 < N) {R : List aE} {b : List Int} {lo m : Nat} (h : aGY R b lo m) : T (sN N b R lo m) (fun r => pwi 65536 r.1 ∧ pwi 65536 r.2) := by
 unfold sN
 have z : pwi 65536 (aA.mk 0 0 0) := by unfold pwi; dsimp only; omega
 have fw := h.few
 refine T.bind (T.loopG0 (n := m) (fun i (s : aA × aA) => pwi 65536 s.1 ∧ pwi 65536 s.2) (fun r => pwi 65536 r.1 ∧ pwi 65536 r.2) (F := fun k (s : aA × aA) i => lX N m b lo R k s.1 s.2 i) (fun k s i hi hs hk => ?_) (fun k s hs => ?_) (by omega) (s := (aA.mk 0 0 0, aA.mk 0 0 0)) ⟨z, z⟩) fun r hr => T.ret hr
 ·rw [lX, aX, dt (by omega), cond_true]
  refine T.bind (P := fun p => pwi 65536 p.1 ∧ pwi 65536 p.2.1) ?_ fun p6 h6 => by rw [jD (by omega)]; exact hk (_, _) h6
  refine T.bind (h.rs hi) fun _ _ => T.bind (h.get hi) fun e8 h8 => T.bind (T.tri h.tris h8) fun e9 h9 => T.bind (T.slc3 _) fun s10 h10 => ?_
  subst h10
  refine T.bind (aHI N (by omega) h9) fun r11 h11 => ?_
  refine T.cond (fun _ => T.ret ⟨h11.1, h11.2.1⟩) (fun _ => ?_)
  refine T.bind (aKV N _ (m := 65536) (by decide) (by intro p hp; simp at hp; rcases hp with rfl | rfl; exact hs.1; exact h11.1) (by simp; omega) (by simp)) fun r12 h12 => ?_
  refine T.bind (aKV N _ (m := 65536) (by decide) (by intro p hp; simp at hp; rcases hp with rfl | rfl; exact hs.2; exact h11.2.1) (by simp; omega) (by simp)) fun r13 h13 => T.ret ⟨h12.1, h13.2.1⟩
 ·rw [lX, aX, df (by omega), cond_false]; exact T.ret hs
def aBY (s : bA) : Prop := pwi 65536 s.glo ∧ pwi 65536 s.ghi
theorem aL4 : aBY (bA.mk 0 (aA.mk 0 0 0) (aA.mk 0 0 0)) := by unfold aBY pwi; dsimp only; omega
theorem aLw (N : Nat) (hN : 10 < N) {s : bA} (hs : aBY s) (n : Int) {a b : aA} (ha : pwi 65536 a) (hb : pwi 65536 b) : T (lS N s n a b) aBY := by
 unfold lS
 refine T.cond (fun _ => T.ret hs) (fun _ => ?_)
 refine T.bind (P := fun p => pwi 65536 p.1 ∧ pwi 65536 p.2) ?_ fun p1 h1 => T.ret ⟨h1.1, h1.2⟩
 refine T.cond (fun _ => ?_) (fun _ => T.ret ⟨ha, hb⟩)
 refine T.bind (aKV N _ (m := 65536) (by decide) (by intro p hp; simp at hp; rcases hp with rfl | rfl; exact hs.1; exact ha) (by simp; omega) (by simp)) fun r12 h12 => ?_
 refine T.bind (aKV N _ (m := 65536) (by decide) (by intro p hp; simp at hp; rcases hp with rfl | rfl; exact hs.2; exact hb) (by simp; omega) (by simp)) fun r13 h13 => T.ret ⟨h12.1, h13.2.1⟩
theorem aOA (N : Nat) (s : bA) : T (lY N s) (fun _ => True) := by
 unfold lY
 refine T.cond (fun _ => T.ret trivial) (fun _ => T.bind (P := fun _ => True) (by unfold aAH; simp only [aX]; exact T.ret trivial) fun _ _ => T.ret trivial)
def midP (N : Nat) (R : List aE) (b : List Int) (lo m : Nat) (i u v : Int) : Prop := ∀ j, j < m → ∀ e, b[lo + j]? = some e → T (Option.bind (idx R e) fun t => iK N t) (fun p => u ≤ ax p i ∧ ax p i ≤ v)
theorem cutT (N : Nat) (hN : 30 < N) {R : List aE} {b : List Int} {lo m : Nat} (h : aGY R b lo m) {i u v : Int} (hi : 0 ≤ i ∧ i < 3) (hab : aFo u v) (hm : midP N R b lo m i u v) : T (oH N b R lo m i u v) (fun _ => True) := by
 unfold oH
 have fw := h.few
 refine T.bind (P := fun p1 => ∀ s ∈ p1.toList, aBY s) ?_ fun p1 h1 => ?_
 ·refine T.loopG0 (n := m) (fun _ (s : Vector bA 8) => ∀ x ∈ s.toList, aBY x) _ (F := jV N m b lo R i u v) (fun k s j hj hs hk => ?_) (fun k s hs => ?_) (by omega) (by intro x hx; simp at hx; rw [hx]; exact aL4)
  ·rw [jV, aX, dt (by omega), cond_true]
   have hmj := hm j hj
   refine T.bind (h.rs hj) fun _ _ => ?_
   have hg := h.get hj
   obtain ⟨e6, ee6, he6⟩ := hg
   refine T.eq ee6 ?_
   rw [wY, Int.toNat_natCast] at ee6
   have hmid := hmj e6 ee6
   obtain ⟨t, et, ht⟩ := T.tri h.tris he6
   refine T.eq et (T.bind (T.slc3 _) fun s8 h8 => ?_)
   subst h8
   refine T.bind (aHI N (by omega) ht) fun r9 h9 => T.eq et ?_
   rw [et, Option.bind_some] at hmid
   obtain ⟨q, eq1, hq⟩ := hmid
   refine T.eq eq1 (T.bind (aBX N q hi.1 hi.2) fun r12 h12 => ?_)
   subst h12
   refine T.bind (binT N hab hq) fun r13 h13 => T.bind (T.inRO h13.1 (by omega)) fun _ _ => ?_
   have hv : r13.toNat < 8 := by omega
   refine T.eq (vV s _ hv) (T.bind (aLw N (by omega) (hs _ (aJO s hv)) 1 h9.1 h9.2.1) fun r16 h16 => T.bind (T.inRO h13.1 (by omega)) fun _ _ => T.eq (vV s _ hv) ?_)
   rw [jD (by omega)]
   refine hk _ fun x hx => ?_
   rw [Vector.toList_setIfInBounds] at hx
   rcases List.mem_or_eq_of_mem_set hx with hx | rfl
   ·exact hs x hx
   ·exact h16
  ·rw [jV, aX, df (by omega), cond_false]; exact T.ret hs
 refine T.bind (P := fun _ => True) ?_ fun p19 _ => T.ret trivial
 have main : ∀ (k j : Nat) (a c : Int), 8 - j < k → j ≤ 8 → T (lN N p1 k a c (j : Int)) (fun _ => True) := by
  intro k
  induction k with
  | zero => intro j a c h; omega
  | succ k ih =>
   intro j a c hk hj
   rw [lN]
   refine T.cond (fun hc => ?_) (fun _ => T.ret trivial)
   have hj8 : j < 8 := by have := of_decide_eq_true hc; omega
   refine T.bind (P := fun _ => True) ?_ fun p23 _ => by rw [jD (by omega)]; exact ih (j + 1) _ _ (by omega) (by omega)
   refine T.bind (P := fun _ => True) ?_ fun p24 _ => ?_
   ·refine (T.loopG0 (n := 8) (fun _ (s : bA × bA) => aBY s.1 ∧ aBY s.2) (fun _ => True) (F := fun k (s : bA × bA) x => jW N p1 (j : Int) k s.1 s.2 x) (fun k s x hx hs hk => ?_) (fun k s hs => ?_) (by omega) (s := (bA.mk 0 (aA.mk 0 0 0) (aA.mk 0 0 0), bA.mk 0 (aA.mk 0 0 0) (aA.mk 0 0 0))) ⟨aL4, aL4⟩)
    ·rw [jW, dt (by omega), cond_true]
     refine T.bind (P := fun p => aBY p.1 ∧ aBY p.2.1) ?_ fun p28 h28 => by rw [jD (by omega)]; exact hk (_, _) h28
     refine T.bind (T.idx (by omega) (by simp; omega)) fun e29 h29 => ?_
     have he := h1 _ (List.mem_of_getElem? h29)
     refine T.cond (fun _ => T.bind (aLw N (by omega) hs.1 _ he.1 he.2) fun r h => T.ret ⟨h, hs.2⟩) (fun _ => T.bind (aLw N (by omega) hs.2 _ he.1 he.2) fun r h => T.ret ⟨hs.1, h⟩)
    ·rw [jW, df (by omega), cond_false]; exact T.ret trivial
   refine T.bind (aOA N _) fun _ _ => T.letO fun _ _ => T.bind (aOA N _) fun _ _ => ?_
   simp only [aX]
   exact T.cond (fun _ => T.ret trivial) (fun _ => T.ret trivial)
 exact main N 1 _ _ (by omega) (by decide)
theorem aNL (N : Nat) (hN : 30 < N) {R : List aE} {b : List Int} {lo m : Nat} (h : aGY R b lo m) {i u v w : Int} (hi : 0 ≤ i ∧ i < 3) (hab : aFo u v) : T (cP N b lo m R u v w i) (fun r => r < (m : Int) ∧ r ≤ 20) := by
 unfold cP
 have fw := h.few
 by_cases hm : m = 0
 ·subst hm
  obtain ⟨N, rfl⟩ : ∃ n, N = n + 1 := ⟨N - 1, by omega⟩
  rw [bJ, aX, df (by omega), cond_false]
  exact T.eq rfl (T.ret ⟨by decide, by decide⟩)
 refine T.bind (T.loopG0 (n := m) (fun _ _ => True) (fun o => match o with | .inl _ => True | .inr r => r < (m : Int) ∧ r ≤ 20) (F := fun k (_ : Unit) x => bJ N m b lo R u v w i k x) (fun k _ x hx _ hk => ?_) (fun k _ _ => ?_) (by omega) (s := ()) trivial) fun o ho => ?_
 ·rw [bJ, aX, dt (by omega), cond_true]
  refine T.bind (h.rs hx) fun _ _ => T.bind (h.get hx) fun e he => T.bind (aHC N (by omega) h.tris he hab hi) fun r _ => T.cond (fun _ => T.ret (show (x : Int) < (m : Int) ∧ (x : Int) ≤ 20 by omega)) (fun _ => by rw [jD (by omega)]; exact hk () trivial)
 ·rw [bJ, aX, df (by omega), cond_false]; exact T.ret trivial
 ·cases o with
  | inl _ => exact T.ret ⟨by omega, by decide⟩
  | inr r => exact T.ret ho
theorem aLG {p q : aA} (h : ple p q) (i : Int) : ax p i ≤ ax q i := by
 obtain ⟨a, b, c⟩ := h
 unfold ax; split
 ·exact a
 ·split
  ·exact b
  ·exact c
theorem partT (N : Nat) (hN : 50 < N) {R : List aE} {b : List Int} {lo m : Nat} (h : aGY R b lo m) (d : Int) : T (oX N b R lo m d) (fun r => ord R.length r.1 ∧ r.1.length = b.length ∧ (r.2 > 0 → r.2 < (m : Int))) := by
 unfold oX
 have fw := h.few
 rw [aX]
 refine T.cond (fun _ => T.ret ⟨h.ord, rfl, fun h => absurd h (show ¬ (0 : Int) > 0 by decide)⟩) (fun hc => ?_)
 have hm4 := of_decide_eq_false hc
 refine T.bind (P := fun p2 => p2.length = m ∧ (∀ p ∈ p2, pwi 131072 p) ∧ ∀ j, j < m → ∀ e, b[lo + j]? = some e → T (Option.bind (idx R e) fun t => iK N t) (fun p => p ∈ p2)) ?_ fun p2 h2 => ?_
 ·refine T.loopG0 (n := m) (fun x (s : List aA) => s.length = x ∧ (∀ p ∈ s, pwi 131072 p) ∧ ∀ j, j < x → ∀ e, b[lo + j]? = some e → T (Option.bind (idx R e) fun t => iK N t) (fun p => p ∈ s)) _ (F := kL N m b lo R) (fun k s x hx hs hk => ?_) (fun k s hs => ?_) (by omega) ⟨rfl, fun p h => absurd h (by simp), fun j h => absurd h (by omega)⟩
  ·rw [kL, aX, dt (by omega), cond_true]
   refine T.bind (h.rs hx) fun _ _ => ?_
   obtain ⟨e, ee, he⟩ := h.get hx
   refine T.eq ee ?_
   rw [wY, Int.toNat_natCast] at ee
   obtain ⟨t, et, ht⟩ := T.tri h.tris he
   refine T.eq et ?_
   obtain ⟨q, eq1, hq⟩ := aEN N (by omega) ht
   refine T.eq eq1 (T.eq (pV (by simp; omega)) ?_)
   rw [jD (by omega)]
   refine hk _ ⟨by simp; omega, ?_, ?_⟩
   ·intro p hp
    rw [List.mem_append, List.mem_singleton] at hp
    rcases hp with hp | rfl
    ·exact hs.2.1 p hp
    ·exact hq
   ·intro j hj e' he'
    by_cases ej : j = x
    ·subst ej
     obtain rfl := iD ee he'
     rw [et, Option.bind_some]
     exact ⟨q, eq1, by simp⟩
    ·exact (hs.2.2 j (by omega) e' he').mono fun p hp => by rw [List.mem_append]; exact Or.inl hp
  ·rw [kL, aX, df (by omega), cond_false]; exact T.ret hs
 refine T.bind (aKV N p2 (m := 131072) (by decide) h2.2.1 (by omega) (by omega)) fun r11 h11 => ?_
 refine T.bind (P := fun i => 0 ≤ i ∧ i < 3) ?_ fun i hi => ?_
 ·have main : ∀ (k j : Nat) (a : Int), 3 - j < k → j ≤ 3 → (0 ≤ a ∧ a < 3) → T (mG N r11 k a (j : Int)) (fun i => 0 ≤ i ∧ i < 3) := by
   intro k
   induction k with
   | zero => intro j a h; omega
   | succ k ih =>
    intro j a hk hj ha
    rw [mG]
    refine T.cond (fun hc => ?_) (fun _ => T.ret ha)
    have hj3 : j < 3 := by have := of_decide_eq_true hc; omega
    refine T.bind (P := fun i => 0 ≤ i ∧ i < 3) ?_ fun p h => by rw [jD (by omega)]; exact ih (j + 1) _ (by omega) (by omega) h
    refine T.bind (aBX N _ (by omega) (by omega)) fun _ _ => T.bind (aBX N _ (by omega) (by omega)) fun _ _ => T.bind (aBX N _ ha.1 ha.2) fun _ _ => T.bind (aBX N _ ha.1 ha.2) fun _ _ => ?_
    rw [aX]
    exact T.cond (fun _ => T.ret ⟨by omega, by omega⟩) (fun _ => T.ret ha)
  exact main N 1 0 (by omega) (by decide) (by decide)
 refine T.bind (aBX N _ hi.1 hi.2) fun u hu => T.bind (aBX N _ hi.1 hi.2) fun v hv => ?_
 refine T.cond (fun _ => T.ret ⟨h.ord, rfl, fun h => absurd h (show ¬ (0 : Int) > 0 by decide)⟩) (fun hc2 => ?_)
 have hab : aFo u v := ⟨by simpa using hc2, by rw [hu]; exact ax_b h11.1 i, by rw [hv]; exact ax_b h11.2.1 i⟩
 refine T.cond (fun _ => ?_) (fun _ => ?_)
 ·refine T.bind (aM6 N hN h.tris hi h.len fw h.ord rfl) fun r23 h23 => T.bind (T.lenO h23.2) fun _ _ => ?_
  rw [aX]
  refine T.ret ⟨h23.1, h23.2, fun _ => ?_⟩
  show I64 (Int.tdiv (m : Int) 2) < (m : Int)
  rw [Int.tdiv_eq_ediv_of_nonneg (by omega), eP (by omega) (by omega)]
  omega
 ·refine T.bind (cutT N (by omega) h hi hab ?_) fun w _ => ?_
  ·intro j hj e he
   refine (h2.2.2 j hj e he).mono fun p hp => ?_
   have := h11.2.2 p hp
   rw [hu, hv]
   exact ⟨aLG this.1 i, aLG this.2 i⟩
  refine T.bind (aNG N hN h.tris (w := w) hab hi h.len fw h.ord rfl) fun r27 h27 => T.bind (T.lenO h27.2) fun _ _ => ?_
  refine T.bind (aNL N (by omega) (b := r27) (lo := lo) (m := m) ⟨h.tris, h27.1, by rw [h27.2]; exact h.len, fw⟩ (w := w) hi hab) fun r29 h29 => T.ret ⟨h27.1, h27.2, fun _ => h29.1⟩
def aH6 (n len i : Nat) (d : bH) : Prop := (0 ≤ d.gB4 → ((i : Int) < d.gB4 ∧ d.gB4 < (len : Int)) ∧ (i : Int) < d.gA6 ∧ d.gA6 < (len : Int)) ∧ (d.gB4 < 0 → 0 ≤ d.gC1 ∧ 0 ≤ d.gC8 ∧ d.gC1 + d.gC8 ≤ (n : Int))
def aDi (n len : Nat) (t : bE) : Prop := (0 ≤ t.gA3 ∧ t.gA3 < (len : Int)) ∧ 0 ≤ t.gB ∧ 1 ≤ t.gT ∧ t.gB + t.gT ≤ (n : Int)
def wG (l : List bE) : Int := (l.map fun t => 2 * t.gT - 1).sum
def aAo (l : List bE) : Int := (l.map fun t => 2 * t.gT - 2).sum
theorem aC0 (a b : List bE) : wG (a ++ b) = wG a + wG b := by unfold wG; rw [List.map_append, List.sum_append]
theorem aGG (a b : List bE) : aAo (a ++ b) = aAo a + aAo b := by unfold aAo; rw [List.map_append, List.sum_append]
theorem aFO {n len : Nat} {l : List bE} (h : ∀ t ∈ l, aDi n len t) : (l.length : Int) ≤ wG l := by
 induction l with
 | nil => exact Int.le_refl _
 | cons t l ih =>
  have h1 := ih fun t ht => h t (List.mem_cons_of_mem _ ht)
  have h2 := h t (List.mem_cons_self ..)
  obtain ⟨_, _, h3, _⟩ := h2
  show ((l.length + 1 : Nat) : Int) ≤ (2 * t.gT - 1) + wG l
  omega
theorem aLE {n len : Nat} {l : List bE} (h : ∀ t ∈ l, aDi n len t) : 0 ≤ aAo l := by
 induction l with
 | nil => exact Int.le_refl _
 | cons t l ih =>
  have h1 := ih fun t ht => h t (List.mem_cons_of_mem _ ht)
  have h2 := h t (List.mem_cons_self ..)
  obtain ⟨_, _, h3, _⟩ := h2
  show 0 ≤ (2 * t.gT - 2) + aAo l
  omega
structure Bld (R : List aE) (o : List Int) (d : List bH) (l : List bE) : Prop where
 tris : xF R
 ord : ord R.length o
 len : o.length = R.length
 todo : ∀ t ∈ l, aDi R.length d.length t
 good : ∀ i, (h : i < d.length) → (∃ t ∈ l, t.gA3 = (i : Int)) ∨ aH6 R.length d.length i d[i]
 room : (d.length : Int) + aAo l ≤ 39
def aMM (n : Nat) (b : bK) : Prop := ord n b.gD9 ∧ b.gD9.length = n ∧ b.gB9.length ≤ 39 ∧ ∀ i, (h : i < b.gB9.length) → aH6 n b.gB9.length i b.gB9[i]
theorem aI5 {n len len' i : Nat} {d : bH} (h : aH6 n len i d) (hl : len ≤ len') : aH6 n len' i d := by
 unfold aH6 at *
 refine ⟨fun h0 => ?_, h.2⟩
 have := h.1 h0
 omega
theorem aIn {n len len' : Nat} {t : bE} (h : aDi n len t) (hl : len ≤ len') : aDi n len' t := by unfold aDi at *; omega
theorem aKt {α : Type} (l : List α) (m : Nat) (r : List α) (h : m ≤ l.length) : (rS l m r).take (m + r.length) = l.take m ++ r := by
 unfold rS
 rw [List.take_append_of_le_length (by rw [List.length_append, List.length_take]; omega)]
 exact List.take_of_length_le (by rw [List.length_append, List.length_take]; omega)
theorem aNl {α : Type} (l : List α) (m : Nat) (r : List α) (h : m ≤ l.length) : m + r.length ≤ (rS l m r).length := by rw [aIQ h]; omega
theorem aFy {α : Type} {l : List α} {m : Nat} {e : α} (h : l[m]? = some e) : l.take (m + 1) = l.take m ++ [e] := by
 rw [List.take_succ, h]; rfl
theorem Bld.leaf {R : List aE} {o o' : List Int} {d : List bH} {l : List bE} {t : bE} {x : bH} (h : Bld R o d (l ++ [t])) (ho : Go.UK.ord R.length o') (hl : o'.length = o.length) (hx : x.gB4 < 0) (hf : x.gC1 = t.gB) (hc : x.gC8 = t.gT) : Bld R o' (d.set t.gA3.toNat x) l := by
 have ht := h.todo t (by simp)
 refine ⟨h.tris, ho, hl.trans h.len, fun u hu => by rw [List.length_set]; exact h.todo u (by simp [hu]), fun i hi => ?_, ?_⟩
 ·rw [List.length_set] at hi ⊢
  by_cases e : i = t.gA3.toNat
  ·subst e
   right
   rw [List.getElem_set_self]
   obtain ⟨_, a, b, c⟩ := ht
   exact ⟨fun h => by omega, fun _ => by rw [hf, hc]; omega⟩
  ·rw [List.getElem_set_ne (by omega)]
   rcases h.good i hi with ⟨u, hu, e'⟩ | g
   ·rw [List.mem_append, List.mem_singleton] at hu
    rcases hu with hu | rfl
    ·exact Or.inl ⟨u, hu, e'⟩
    ·omega
   ·exact Or.inr g
 ·rw [List.length_set]
  have r := h.room
  rw [aGG] at r
  have : aAo [t] = 2 * t.gT - 2 + 0 := rfl
  obtain ⟨_, _, b, _⟩ := ht
  omega
theorem Bld.inner {R : List aE} {o o' : List Int} {d : List bH} {l : List bE} {t u v : bE} {x : bH} {e1 e2 : bH} {c : Int} (h : Bld R o d (l ++ [t])) (ho : Go.UK.ord R.length o') (hl : o'.length = o.length) (hx : x.gB4 = (d.length : Int)) (hy : x.gA6 = (d.length : Int) + 1) (hc : 0 < c ∧ c < t.gT)
  (hu : u.gA3 = (d.length : Int) + 1 ∧ u.gB = t.gB + c ∧ u.gT = t.gT - c) (hv : v.gA3 = (d.length : Int) ∧ v.gB = t.gB ∧ v.gT = c) : Bld R o' ((d ++ [e1, e2]).set t.gA3.toNat x) (l ++ [u, v]) := by
 have ht := h.todo t (by simp)
 have dl : ((d ++ [e1, e2]).set t.gA3.toNat x).length = d.length + 2 := by rw [List.length_set, List.length_append]; rfl
 refine ⟨h.tris, ho, hl.trans h.len, fun w hw => ?_, fun i hi => ?_, ?_⟩
 ·rw [dl]
  rw [List.mem_append] at hw
  rcases hw with hw | hw
  ·exact aIn (h.todo w (by simp [hw])) (by omega)
  ·obtain ⟨_, a, b, c'⟩ := ht
   simp at hw
   rcases hw with rfl | rfl
   ·unfold aDi; omega
   ·unfold aDi; omega
 ·simp only [dl]
  rw [dl] at hi
  by_cases e : i = t.gA3.toNat
  ·subst e
   right
   rw [List.getElem_set_self]
   obtain ⟨⟨a1, a2⟩, a, b, c⟩ := ht
   exact ⟨fun _ => by rw [hx, hy]; omega, fun h => by omega⟩
  ·rw [List.getElem_set_ne (by omega)]
   by_cases hd : i < d.length
   ·rcases h.good i hd with ⟨w, hw, e'⟩ | g
    ·rw [List.mem_append, List.mem_singleton] at hw
     rcases hw with hw | rfl
     ·exact Or.inl ⟨w, by rw [List.mem_append]; exact Or.inl hw, e'⟩
     ·omega
    ·right
     rw [List.getElem_append_left hd]
     exact aI5 g (by omega)
   ·left
    have : i = d.length ∨ i = d.length + 1 := by omega
    rcases this with rfl | rfl
    ·exact ⟨v, by simp, hv.1⟩
    ·exact ⟨u, by simp, by rw [hu.1]; omega⟩
 ·rw [dl]
  have r := h.room
  rw [aGG] at r ⊢
  have e1 : aAo [t] = 2 * t.gT - 2 + 0 := rfl
  have e2 : aAo [u, v] = 2 * u.gT - 2 + (2 * v.gT - 2 + 0) := rfl
  omega
theorem aNB (N : Nat) (hN : 100 < N) {R : List aE} : ∀ (k : Nat) (o : List Int) (d : List bH) (s : List bE) (m : Nat), m ≤ s.length → Bld R o d (s.take m) → wG (s.take m) < (k : Int) → wG (s.take m) ≤ 100 →
  T (nQ N R k o d s m) (fun r => Bld R r.1 r.2.1 []) := by
 intro k
 induction k with
 | zero =>
  intro o d s m hm h hw
  have := aFO h.todo
  omega
 | succ k ih =>
  intro o d s m hm h hw hw'
  rw [nQ, aX]
  have lenT : (s.take m).length = m := by rw [List.length_take]; omega
  have wl := aFO h.todo
  rw [lenT] at wl
  refine T.cond (fun hc => ?_) (fun hc => ?_)
  ·obtain ⟨m, rfl⟩ : ∃ m', m = m' + 1 := ⟨m - 1, by have := of_decide_eq_true hc; omega⟩
   have im : I64 (((m + 1 : Nat) : Int) - 1) = (m : Int) := by rw [eP (by omega) (by omega)]; omega
   simp only [aX, im, Int.toNat_natCast]
   obtain ⟨t, et⟩ : ∃ t, s[m]? = some t := ⟨_, List.getElem?_eq_getElem (by omega)⟩
   have hs := aFy et
   rw [hs] at h hw hw'
   have ht := h.todo t (by simp)
   obtain ⟨⟨tn1, tn2⟩, t1, t2, t3⟩ := ht
   have n20 := h.tris.2
   have ol := h.len
   have rm := h.room
   have rg := aLE h.todo
   rw [aC0, show wG [t] = 2 * t.gT - 1 + 0 from rfl] at hw hw'
   have wl2 := aFO (l := s.take m) fun u hu => h.todo u (by simp [hu])
   rw [show (s.take m).length = m by rw [List.length_take]; omega] at wl2
   refine T.bind (T.inRS (by omega) (by omega) (by omega)) fun _ _ => T.eq et (T.bind (T.slcG (by omega) (by omega) (by omega) (by omega) (Or.inl rfl)) fun _ _ => ?_)
   have ifc : I64 (t.gB + t.gT) = t.gB + t.gT := eP (by omega) (by omega)
   rw [ifc]
   refine T.bind (T.slcG (by omega) t1 (by omega) (by omega) (by omega)) fun _ _ => ?_
   have hp : aGY R o t.gB.toNat ((t.gB + t.gT).toNat - t.gB.toNat) := ⟨h.tris, h.ord, by omega, by omega⟩
   refine T.bind (boxDT N (by omega) hp) fun r30 _ => ?_
   have step : ∀ (o' : List Int) (d' : List bH) (s' : List bE) (x : bH) (m' : Nat), m' ≤ s'.length → t.gA3 < (d'.length : Int) → Bld R o' (d'.set t.gA3.toNat x) (s'.take m') → wG (s'.take m') < (k : Int) → wG (s'.take m') ≤ 100 →
     T (Option.bind (fK t.gA3 d'.length) fun _ => Option.bind (aEY d' t.gA3.toNat x) fun z41 => nQ N R k o' z41 s' m') (fun r => Bld R r.1 r.2.1 []) := by
    intro o' d' s' x m' h1 h2 h3 h4 h5
    refine T.bind (T.inRO tn1 h2) fun _ _ => T.bind (T.setO (by omega)) fun z hz => ?_
    subst hz
    exact ih _ _ _ _ h1 h3 h4 h5
   refine T.bind (P := fun p => p.2.2.2.2 ≤ p.2.2.1.length ∧ t.gA3 < (p.2.1.length : Int) ∧ Bld R p.1 (p.2.1.set t.gA3.toNat p.2.2.2.1) (p.2.2.1.take p.2.2.2.2) ∧ wG (p.2.2.1.take p.2.2.2.2) < (k : Int) ∧ wG (p.2.2.1.take p.2.2.2.2) ≤ 100) ?_ fun p31 h31 => step _ _ _ _ _ h31.1 h31.2.1 h31.2.2.1 h31.2.2.2.1 h31.2.2.2.2
   refine T.bind (partT N (by omega) hp t.gC3) fun r32 h32 => T.bind (T.lenO h32.2.1) fun _ _ => ?_
   refine T.cond (fun hc => ?_) (fun _ => ?_)
   ·have c0 := of_decide_eq_true hc
    have c1 := h32.2.2 c0
    have i1 : I64 ((d.length : Int) + 1) = (d.length : Int) + 1 := eP (by omega) (by omega)
    have i2 : I64 (t.gB + r32.2) = t.gB + r32.2 := eP (by omega) (by omega)
    have i3 : I64 (t.gT - r32.2) = t.gT - r32.2 := eP (by omega) (by omega)
    rw [i1, i2, i3]
    refine T.eq (pV (by simp; omega)) (T.bind (T.appG (by omega) (show (m + 2) * 32 ≤ 140737488355328 by omega)) fun z39 h39 => T.ret ?_)
    subst h39
    have tk : ∀ a b : bE, (rS s m [a, b]).take (m + 2) = s.take m ++ [a, b] := fun a b => aKt s m [a, b] (by omega)
    dsimp only
    refine ⟨aNl s m [_, _] (by omega), by rw [List.length_append]; simp; omega, ?_, ?_, ?_⟩
    ·rw [tk]
     exact h.inner (c := r32.2) h32.1 h32.2.1 rfl rfl ⟨c0, by omega⟩ ⟨rfl, rfl, rfl⟩ ⟨rfl, rfl, rfl⟩
    ·rw [tk, aC0]
     show wG (s.take m) + (2 * (t.gT - r32.2) - 1 + (2 * r32.2 - 1 + 0)) < (k : Int)
     omega
    ·rw [tk, aC0]
     show wG (s.take m) + (2 * (t.gT - r32.2) - 1 + (2 * r32.2 - 1 + 0)) ≤ 100
     omega
   ·refine T.ret ⟨by dsimp only; omega, tn2, ?_, by dsimp only; omega, by dsimp only; omega⟩
    exact h.leaf h32.1 h32.2.1 (show (-1 : Int) < 0 by decide) rfl rfl
  ·have : m = 0 := by have := of_decide_eq_false hc; omega
   subst this
   exact T.ret h
theorem aLh (N : Nat) (hN : 10 < N) {t : aE} (h : tpw t) : T (uE N t) (fun r => pwi 65536 r.1 ∧ pwi 65536 r.2) := by
 unfold uE
 refine T.bind (P := fun r => pwi 65536 r.1 ∧ pwi 65536 r.2) ?_ fun _ h => T.ret h
 have z : pwi 65536 (aA.mk 0 0 0) := by unfold pwi; dsimp only; omega
 refine T.loopG0 (n := 3) (fun _ (s : aA × aA) => pwi 65536 s.1 ∧ pwi 65536 s.2) _ (F := fun k (s : aA × aA) i => nP N t k s.1 s.2 i) (fun k s i hi hs hk => ?_) (fun k s hs => ?_) (by omega) (s := (aA.mk 0 0 0, aA.mk 0 0 0)) ⟨z, z⟩
 ·rw [nP, aX, dt (by omega), cond_true]
  refine T.bind (T.inRO (by omega) (by omega)) fun _ _ => T.eq (vV t.gP i hi) ?_
  have he := h _ (aJO t.gP hi)
  generalize t.gP[i] = e at *
  refine T.bind (P := fun p => pwi 65536 p.1 ∧ pwi 65536 p.2) (T.cond (fun _ => T.ret ⟨he, he⟩) (fun _ => T.ret hs)) fun p hp => ?_
  rw [jD (by omega)]
  refine hk (_, _) ⟨?_, ?_⟩
  ·unfold pwi at *; simp only [qU]; omega
  ·unfold pwi at *; simp only [rU]; omega
 ·rw [nP, aX, df (by omega), cond_false]; exact T.ret hs
theorem aPB (N : Nat) (hN : 100 < N) {R : List aE} (hR : xF R) : T (uB N R) (fun r => r.2 = 0 ∧ aMM R.length r.1) := by
 unfold uB
 have n20 := hR.2
 rw [aX]
 refine T.cond (fun hc => absurd (of_decide_eq_true hc) (by omega)) (fun _ => ?_)
 refine T.bind (T.loopG0 (n := R.length) (fun _ _ => True) (fun o => match o with | .inl _ => True | .inr r => False) (F := fun k (_ : Unit) i => nS N R k i) (fun k _ i hi _ hk => ?_) (fun k _ _ => ?_) (by omega) (s := ()) trivial) fun o ho => ?_
 ·rw [nS, aX, dt (by omega), cond_true]
  refine T.bind (T.tri hR ⟨by omega, by omega⟩) fun _ ht => T.eq (a := ()) (by decide) (T.bind (aLh N (by omega) ht) fun r7 h7 => T.bind (P := fun p => p = false) ?_ fun p8 h8 => ?_)
  ·obtain ⟨g1, g2⟩ := h7
   unfold pwi at g1 g2
   simp only [aX, qU, rU]
   rw [df (show ¬ min (min r7.1.gX r7.1.gY) r7.1.gZ < -1048576 by omega), df (show ¬ max (max r7.2.gX r7.2.gY) r7.2.gZ > 1048576 by omega)]
   exact ⟨_, rfl, rfl⟩
  ·rw [h8, cond_false, jD (by omega)]; exact hk () trivial
 ·rw [nS, aX, df (by omega), cond_false]; exact T.ret trivial
 cases o with
 | inr r => exact ho.elim
 | inl _ =>
 show T (aM _ _) _
 rw [aX]
 refine T.cond (fun hc => T.ret ⟨rfl, ?_⟩) (fun hc => ?_)
 ·have : R.length = 0 := by have h0 : (R.length : Int) = 0 := (by simpa using hc); omega
  rw [this]
  exact ⟨fun x h => absurd h (by simp), rfl, by simp, fun i h => absurd h (by simp)⟩
 ·have n0 : R.length ≠ 0 := by intro e; rw [e] at hc; cases hc
  refine T.bind (T.loopG0 (n := R.length) (fun i (s : List Int) => s.length = i ∧ ord R.length s) (fun r => r.length = R.length ∧ ord R.length r) (F := nT N R) (fun k s i hi hs hk => ?_) (fun k s hs => ?_) (by omega) (s := []) ⟨rfl, fun x h => absurd h (by simp)⟩) fun p12 h12 => ?_
  ·rw [nT, aX, dt (by omega), cond_true]
   refine T.eq (pV (by simp; omega)) ?_
   rw [jD (by omega)]
   refine hk _ ⟨by simp; omega, fun x hx => ?_⟩
   rw [List.mem_append, List.mem_singleton] at hx
   rcases hx with hx | rfl
   ·exact hs.2 x hx
   ·omega
  ·rw [nT, aX, df (by omega), cond_false]; exact T.ret hs
  ·refine T.bind (aNB N hN N p12 _ _ 1 (Nat.le_refl _) ⟨hR, h12.2, h12.1, ?_, ?_, ?_⟩ ?_ ?_) fun p17 h17 => T.ret ⟨rfl, ?_⟩
   ·intro t ht
    have : t = bE.mk 0 0 (R.length : Int) 1 := by simpa using ht
    subst this
    exact ⟨⟨Int.le_refl _, by simp⟩, Int.le_refl _, by show 1 ≤ (R.length : Int); omega, by show 0 + (R.length : Int) ≤ (R.length : Int); omega⟩
   ·intro i hi
    have : i = 0 := by simpa using hi
    subst this
    exact Or.inl ⟨bE.mk 0 0 (R.length : Int) 1, by simp, rfl⟩
   ·show (1 : Int) + (2 * (R.length : Int) - 2 + 0) ≤ 39
    omega
   ·show 2 * (R.length : Int) - 1 + 0 < (N : Int)
    omega
   ·show 2 * (R.length : Int) - 1 + 0 ≤ 100
    omega
   ·refine ⟨h17.ord, h17.len, ?_, fun i hi => ?_⟩
    ·have := h17.room
     have e : aAo ([] : List bE) = 0 := rfl
     show p17.2.1.length ≤ 39
     omega
    ·rcases h17.good i hi with ⟨t, ht, _⟩ | g
     ·exact absurd ht (by simp)
     ·exact g
theorem aLb (N : Nat) (hN : 100 < N) {R : List aE} (hR : xF R) : T (rC N R) (fun q => match q with | .inl e => False | .inr r => r.2.2 = 0 ∧ r.2.1 = aJ.mk r.1 true R 0 ∧ aMM R.length r.1) := by
 unfold rC
 refine T.bind (aPB N hN hR) fun r1 h1 => ?_
 refine T.cond (fun hc => by rw [h1.1] at hc; cases hc) (fun hc => ?_)
 have n20 := hR.2
 unfold fX
 refine T.eq (a := R) (by rw [pV (by simp; omega)]; simp) (T.ret ⟨rfl, rfl, h1.2⟩)
structure Rdy (b : List (List aD)) (s : aG) (v : aI) (sky : aB) : Prop where
 tri : ∀ t ∈ s.gM, (0 ≤ t.gB2 ∧ t.gB2 < (s.gQ.length : Int)) ∧ t.gB5 < (b.length : Int) ∧ (∀ v ∈ t.gUv.toList, ∀ x ∈ v.toList, 0 ≤ x ∧ x ≤ 65535) ∧ ∀ p ∈ t.gP.toList, pwi 65536 p
 few : s.gM.length ≤ 20
 mat : ∀ m ∈ s.gQ, aGC m
 light : ∀ l ∈ s.gR, wV l
 lights : s.gR.length ≤ 5
 lev : ∀ l ∈ b, aK8 l
 dark : s.gR = [] → sky = aB.mk 0 0 0
 sky : vin sky
 view : aLD v
def swOk (n : Nat) (gl : List aE) : Prop := gl.length ≤ 4096 ∧ ∀ i, n ≤ i → ∀ t, gl[i]? = some t → t.gC6 = 0
def newS (s : aG) (v : aI) (r : (List aE) × (List aP) × (List aN) × (List (List aD)) × aB × (List aE) × Int) : Prop :=
 r.1 = s.gM ∧ r.2.1 = s.gQ ∧ r.2.2.1 = s.gR ∧ Rdy r.2.2.2.1 s v r.2.2.2.2.1 ∧ swOk s.gM.length r.2.2.2.2.2.1 ∧ r.2.2.2.2.2.2 = 0 ∧ v.gB6 = true ∧ (r.2.2.2.2.2.1.length : Int) = (sH v.gS).1 ∧ fits s v.gS
def newW (s : aG) (v : aI) (r : (List aE) × (List aP) × (List aN) × (List (List aD)) × aB × bK × aJ × Int) : Prop :=
 r.1 = s.gM ∧ r.2.1 = s.gQ ∧ r.2.2.1 = s.gR ∧ Rdy r.2.2.2.1 s v r.2.2.2.2.1 ∧ (aMM s.gM.length r.2.2.2.2.2.1 ∧ r.2.2.2.2.2.2.1 = aJ.mk r.2.2.2.2.2.1 true s.gM 0) ∧ r.2.2.2.2.2.2.2 = 0 ∧ v.gB6 = false
def aLW (N : Nat) (s : aG) (v : aI) (r : Int) : Prop := (dW N s = some r ∧ r ≠ 0) ∨ (dW N s = some 0 ∧ fU N v = some r ∧ r ≠ 0) ∨ (dW N s = some 0 ∧ fU N v = some 0 ∧ kG N s v.gS = some r)
theorem newT (N : Nat) (hN : 300 < N) (s : aG) (v : aI) (hs : few s) : T (kK N s v) (fun q => match q with
  | .inl e => e ≠ 0 ∧ aLW N s v e
  | .inr (.inl r) => False
  | .inr (.inr (.inl r)) => newS s v r ∧ aLW N s v 0
  | .inr (.inr (.inr (.inl r))) => False
  | .inr (.inr (.inr (.inr r))) => newW s v r ∧ aLW N s v 0) := by
 unfold kK
 have nz : ∀ {r : Int}, (r != 0) = true → r ≠ 0 := fun h => by simpa using h
 have ez : ∀ {r : Int}, (r != 0) = false → r = 0 := fun h => by simpa using h
 obtain ⟨r1, e1, h1⟩ := aLB N hN s hs
 refine T.eq e1 (T.cond (fun hc => T.ret ⟨nz hc, Or.inl ⟨e1, nz hc⟩⟩) (fun hc1 => ?_))
 rw [ez hc1] at e1
 have ok := h1 (ez hc1)
 obtain ⟨r2, e2, h2⟩ := aMh N v
 refine T.eq e2 (T.cond (fun hc => T.ret ⟨nz hc, Or.inr (Or.inl ⟨e1, e2, nz hc⟩)⟩) (fun hc2 => ?_))
 rw [ez hc2] at e2
 have vok := h2 (ez hc2)
 obtain ⟨r3, e3, h3⟩ := fitsT N s v.gS
 refine T.eq e3 (T.cond (fun hc => T.ret ⟨nz hc, Or.inr (Or.inr ⟨e1, e2, e3⟩)⟩) (fun hc3 => ?_))
 rw [ez hc3] at e3
 have nv : aLW N s v 0 := Or.inr (Or.inr ⟨e1, e2, e3⟩)
 have cb : 0 ≤ (sH v.gS).1 ∧ (sH v.gS).1 ≤ 4096 := by unfold sH; cases (v.gS == 0) <;> cases (v.gS == 1) <;> cases (v.gS == 2) <;> decide
 have fit := h3 (ez hc3)
 obtain ⟨⟨f1, f2, f3, f4, f5⟩, okt, okm, okx, okl⟩ := ok
 obtain ⟨N, rfl⟩ : ∃ n, N = n + 3 := ⟨N - 3, by omega⟩
 refine T.bind (skyT N (by omega) _ okl f4) fun r4 h4 => ?_
 refine T.eq (pV (by simp; omega)) (T.eq (pV (by simp; omega)) (T.eq (pV (by simp; omega)) ?_))
 simp only [aX, List.nil_append]
 refine T.bind (T.loopG0 (n := s.gK.length) (fun i (l : List (List aD)) => l.length = i ∧ ∀ x ∈ l, aK8 x) (fun r => r.length = s.gK.length ∧ ∀ x ∈ r, aK8 x) (F := nR (N + 3) (s.gK.length : Int) s) (fun k l i hi hl hk => ?_) (fun k l hl => ?_) (by omega) (s := []) ⟨rfl, fun x h => absurd h (by simp)⟩) fun p9 h9 => ?_
 ·rw [nR, dt (by omega), cond_true, iQ, List.getElem?_eq_getElem hi, Option.bind_some]
  refine T.bind (aNs (N + 3) hN _ (f5 _ (List.getElem_mem hi))) fun r13 h13 => T.eq (pV (by simp; omega)) ?_
  rw [jD (by omega)]
  refine hk _ ⟨by simp; omega, fun x hx => ?_⟩
  rw [List.mem_append, List.mem_singleton] at hx
  rcases hx with hx | rfl
  ·exact hl.2 x hx
  ·exact h13
 ·rw [nR, df (by omega), cond_false]; exact T.ret hl
 have rdy : Rdy p9 s v r4 := ⟨fun t ht => by have := okt t ht; exact ⟨this.1, by rw [h9.1]; exact this.2.1, this.2.2.1, this.2.2.2⟩, f1, okm, okl, f4, h9.2, h4.2, h4.1, vok⟩
 refine T.cond (fun hc => ?_) (fun hc => ?_)
 ·refine T.bind (aOo _ _) fun r15 h15 => T.bind (aKM (N + 3) s.gM r15.1 (by rw [h15]; exact cb) (by rw [h15]; exact fit.1)) fun q hq => ?_
  cases q with
  | inl e => exact hq.elim
  | inr r => exact T.ret ⟨⟨rfl, rfl, rfl, rdy, hq.2.2, hq.1, hc, by rw [← h15]; exact hq.2.1, fit⟩, nv⟩
 ·refine T.bind (aLb (N + 3) (by omega) (R := s.gM) ⟨fun t ht => (okt t ht).2.2.2, f1⟩) fun q hq => ?_
  cases q with
  | inl e => exact hq.elim
  | inr r => exact T.ret ⟨⟨rfl, rfl, rfl, rdy, ⟨hq.2.2, hq.2.1⟩, hq.1, hc⟩, nv⟩
def TU {ι ρ α : Type} (f : ι → Option ρ) (P : α → Prop) (S : ι → α → ρ → Prop) : Prop := ∃ a, P a ∧ ∀ i, ∃ r, f i = some r ∧ S i a r
section
variable {ι ρ ρ' α β : Type}
theorem TU.bind {A : ι → Option ρ} {B : ι → ρ → Option ρ'} {P : α → Prop} {S : ι → α → ρ → Prop} {Q : β → Prop} {S' : ι → β → ρ' → Prop} (h : TU A P S)
  (hf : ∀ a, P a → ∀ r : ι → ρ, (∀ i, S i a (r i)) → TU (fun i => B i (r i)) Q S') : TU (fun i => Option.bind (A i) (B i)) Q S' := by
 obtain ⟨a, pa, h⟩ := h
 have h' : ∃ r : ι → ρ, ∀ i, A i = some (r i) ∧ S i a (r i) := ⟨fun i => (h i).choose, fun i => (h i).choose_spec⟩
 obtain ⟨r, hr⟩ := h'
 obtain ⟨b, qb, hb⟩ := hf a pa r fun i => (hr i).2
 refine ⟨b, qb, fun i => ?_⟩
 obtain ⟨x, e, s⟩ := hb i
 exact ⟨x, by show Option.bind (A i) (B i) = some x; rw [(hr i).1]; exact e, s⟩
theorem TU.t {o : Option α} {B : ι → α → Option ρ} {P : α → Prop} {Q : β → Prop} {S : ι → β → ρ → Prop} (h : T o P) (hf : ∀ a, P a → TU (fun i => B i a) Q S) : TU (fun i => Option.bind o (B i)) Q S := by
 obtain ⟨a, rfl, pa⟩ := h
 exact hf a pa
theorem TU.e {A : ι → Option ρ} {B : ι → ρ → Option ρ'} {a : ρ} {Q : β → Prop} {S' : ι → β → ρ' → Prop} (e : ∀ i, A i = some a) (h : TU (fun i => B i a) Q S') : TU (fun i => Option.bind (A i) (B i)) Q S' := by
 rw [show (fun i => Option.bind (A i) (B i)) = fun i => B i a from funext fun i => by rw [e i]; rfl]; exact h
theorem TU.cond {c : Bool} {A B : ι → Option ρ} {Q : β → Prop} {S : ι → β → ρ → Prop} (h1 : c = true → TU A Q S) (h2 : c = false → TU B Q S) : TU (fun i => _root_.cond c (A i) (B i)) Q S := by
 cases c with
 | true => exact h1 rfl
 | false => exact h2 rfl
theorem TU.ret {g : ι → ρ} (b : β) {Q : β → Prop} {S : ι → β → ρ → Prop} (hq : Q b) (h : ∀ i, S i b (g i)) : TU (fun i => some (g i)) Q S := ⟨b, hq, fun i => ⟨g i, rfl, h i⟩⟩
theorem TU.mono {f : ι → Option ρ} {P P' : α → Prop} {S S' : ι → α → ρ → Prop} (h : TU f P S) (hp : ∀ a, P a → P' a) (hs : ∀ i a r, P a → S i a r → S' i a r) : TU f P' S' := by
 obtain ⟨a, pa, h⟩ := h
 refine ⟨a, hp a pa, fun i => ?_⟩
 obtain ⟨r, e, s⟩ := h i
 exact ⟨r, e, hs i a r pa s⟩
theorem TU.loop {σ τ : Type} {n : Nat} {P : α → Prop} {S : ι → α → ρ → Prop} (I : Nat → σ → (ι → τ) → Prop) {F : ι → Nat → τ → σ → Int → Option ρ}
  (hstep : ∀ k (h : ι → τ) s j, j < n → I j s h → (∀ s' h', I (j + 1) s' h' → TU (fun i => F i k (h' i) s' ((j + 1 : Nat) : Int)) P S) → TU (fun i => F i (k + 1) (h i) s (j : Int)) P S)
  (hend : ∀ k (h : ι → τ) s, I n s h → TU (fun i => F i (k + 1) (h i) s (n : Int)) P S) : ∀ (k j : Nat) (s : σ) (h : ι → τ), I j s h → j ≤ n → n - j < k → TU (fun i => F i k (h i) s (j : Int)) P S
 | 0, j, _, _, _, _, hk => by omega
 | k + 1, j, s, h, hi, hj, hk => by
  by_cases hn : j < n
  ·exact hstep k h s j hn hi fun s' h' hi' => TU.loop I hstep hend k (j + 1) s' h' hi' (by omega) (by omega)
  ·obtain rfl : j = n := by omega
   exact hend k h s hi
end
end Go.UK
