/- A part of the proof: what the functions of the program compute. -/
import Derived.Test.YtmfanigkgeohiaaGreatJ2
namespace Go.UK
open Go Go.Proofs
set_option maxRecDepth 20000
set_option maxHeartbeats 2000000
set_option linter.all false
theorem aM3 {a : Int} (m : Nat) (hm : m < 9223372036854775808) : 0 ≤ iA .i64 a (m : Int) ∧ iA .i64 a (m : Int) ≤ (m : Int) := by
 have h1 : (BitVec.ofInt 64 (m : Int)).toNat = m := aDg m (by omega)
 have h2 : (BitVec.ofInt 64 a &&& BitVec.ofInt 64 (m : Int)).toNat ≤ m := by
  rw [BitVec.toNat_and, h1]; exact Nat.and_le_right
 have h3 : iA .i64 a (m : Int) = I64 ((BitVec.ofInt 64 a &&& BitVec.ofInt 64 (m : Int)).toNat : Int) := rfl
 rw [h3]
 generalize (BitVec.ofInt 64 a &&& BitVec.ofInt 64 (m : Int)).toNat = x at *
 rw [bQ (by omega) (by omega)]
 omega
theorem keyT (N : Nat) (hN : 20 < N) (a : Int) : T (vA N a) (fun _ => True) := by
 unfold vA
 refine T.eq (a := ()) (by decide) ?_
 refine T.bind (P := fun _ => True) ?_ fun v _ => ?_
 ·unfold cpV
  rw [dif_pos (by decide)]
  exact T.ret trivial
 refine T.bind (T.loop0 (n := 8) (by decide) (fun _ _ => True) (F := nH N a) (fun k s i hi _ Q hk => ?_) (fun k s => by rw [nH, df (by omega), cond_false]) (by omega) trivial) fun v _ => T.ret trivial
 rw [nH, dt (by omega), cond_true, show (8 : Int) = ((8 : Nat) : Int) from rfl, i4 (by omega), show (24 : Int) = ((24 : Nat) : Int) from rfl, ia (by omega)]
 refine T.eq (aAk .u64 (by omega)) ?_
 refine T.bind (T.inRO (by omega) (by omega)) fun _ _ => T.bind (T.vget (by omega)) fun e _ => ?_
 rw [hP (by omega)]
 exact hk _ trivial
theorem aP8 (N : Nat) (hN : 20 < N) (p : bS) (a : Int) : T (kV N p a) (fun _ => True) := by
 unfold kV
 refine T.bind (T.loop0 (n := 4) (by decide) (fun _ _ => True) (F := fO N p) (fun k s i hi _ Q hk => ?_) (fun k s => by rw [fO, df (by omega), cond_false]) (by omega) trivial) fun v _ => ?_
 ·rw [fO, dt (by omega), cond_true, show (8 : Int) = ((8 : Nat) : Int) from rfl, i4 (by omega), show (4 : Int) = ((4 : Nat) : Int) from rfl, ia (by omega)]
  refine T.eq (aAk .u32 (by omega)) ?_
  refine T.eq (aAk .u32 (by omega)) ?_
  refine T.bind (T.inRO (by omega) (by omega)) fun _ _ => T.bind (T.vget (by omega)) fun e _ => ?_
  refine T.bind (T.inRO (by omega) (by omega)) fun _ _ => T.bind (T.vget (by omega)) fun e _ => ?_
  rw [hP (by omega)]
  exact hk _ trivial
 refine T.bind (keyT N hN a) fun _ _ => T.bind (aQY N hN _ _ _) fun _ _ => T.ret trivial
theorem aPD (N : Nat) (b : Vector Int 64) (a : Int) : T (qB N b a) (fun _ => True) := by
 unfold qB
 have h := aM3 (a := a) 15 (by decide)
 simp only [aU]
 generalize hx : iA .i64 a 15 = x at *
 rw [show ((15 : Nat) : Int) = 15 from rfl] at h
 rw [show I64 (4 * x) = 4 * x from bQ (by omega) (by omega), show I64 (4 * x + 1) = 4 * x + 1 from bQ (by omega) (by omega), show I64 (4 * x + 2) = 4 * x + 2 from bQ (by omega) (by omega), show I64 (4 * x + 3) = 4 * x + 3 from bQ (by omega) (by omega)]
 refine T.bind (T.idx (by omega) (by simp; omega)) fun _ _ => T.bind (T.idx (by omega) (by simp; omega)) fun _ _ => T.bind (T.idx (by omega) (by simp; omega)) fun _ _ => T.bind (T.idx (by omega) (by simp; omega)) fun _ _ => T.ret trivial
theorem nextT (N : Nat) (hN : 20 < N) (a b : Int) (s : aA) : T (eZ N a b s) (fun _ => True) := by
 unfold eZ
 refine T.cond (fun _ => T.ret trivial) (fun _ => ?_)
 refine T.bind (P := fun _ => True) ?_ fun p1 _ => T.bind (aPD N _ _) fun _ _ => T.ret trivial
 refine T.bind (P := fun _ => True) (by unfold uT; simp only [aU]; exact T.ret trivial) fun r2 _ => ?_
 refine T.bind (P := fun _ => True) (T.cond (fun _ => T.ret trivial) (fun _ => T.ret trivial)) fun p3 _ => ?_
 refine T.cond (fun _ => T.bind (aP8 N hN _ _) fun _ _ => T.ret trivial) (fun _ => T.ret trivial)
theorem T.loopG {σ ρ : Type} {n : Nat} (I : Nat → σ → Prop) (Q : ρ → Prop) {F : Nat → σ → Int → Option ρ}
  (hstep : ∀ k s i, i < n → I i s → (∀ s', I (i + 1) s' → T (F k s' ((i + 1 : Nat) : Int)) Q) → T (F (k + 1) s (i : Int)) Q) (hend : ∀ k s, I n s → T (F (k + 1) s (n : Int)) Q) :
  ∀ (k i : Nat) (s : σ), I i s → i ≤ n → n - i < k → T (F k s (i : Int)) Q
 | 0, i, _, _, _, h => by omega
 | k + 1, i, s, hs, hi, hk => by
  by_cases h : i < n
  ·exact hstep k s i h hs fun s' h' => T.loopG I Q hstep hend k (i + 1) s' h' (by omega) (by omega)
  ·obtain rfl : i = n := by omega
   exact hend _ _ hs
theorem T.loopG0 {σ ρ : Type} {n : Nat} (I : Nat → σ → Prop) (Q : ρ → Prop) {F : Nat → σ → Int → Option ρ}
  (hstep : ∀ k s i, i < n → I i s → (∀ s', I (i + 1) s' → T (F k s' ((i + 1 : Nat) : Int)) Q) → T (F (k + 1) s (i : Int)) Q) (hend : ∀ k s, I n s → T (F (k + 1) s (n : Int)) Q) {N : Nat} (hN : n < N) {s : σ} (hs : I 0 s) : T (F N s 0) Q :=
 T.loopG I Q hstep hend N 0 s hs (by omega) (by omega)
theorem T.true {α : Type} {o : Option α} {P : α → Prop} (h : T o P) : T o (fun _ => True) := h.mono fun _ _ => trivial
theorem aFz (N : Nat) {a b : Int} (ha : cL a) (hb : cL b) : T (fS N a b) wok := by
 obtain ⟨w, e, h, _⟩ := aIo N ha hb
 exact ⟨w, e, h⟩
theorem aKT {x y c : Int} (hx : 0 ≤ x) (hx' : x < 18446744073709551616) (hy : 0 ≤ y) (hy' : y < 18446744073709551616) (hc : 0 ≤ c) (hc' : c ≤ 1) : T (xO x y c) (fun r => 0 ≤ r.1 ∧ r.1 < 18446744073709551616 ∧ 0 ≤ r.2 ∧ r.2 ≤ 1) := by
 unfold xO
 rw [dt hx, dt hy, dt hc, dt hc']
 exact ⟨_, rfl, by dsimp only; omega, by dsimp only; omega, by dsimp only; omega, by dsimp only; omega⟩
theorem aOH (k : Nat) {w : aO} {y : Int} (hw : wok w) (hy : cL y) : T (oG (k + 3) w y) (fun r => wok r.1 ∧ cL r.2.1) := by
 obtain ⟨⟨w1, w2⟩, w3, w4⟩ := hw
 unfold oG
 refine T.cond (fun _ => T.ret ⟨⟨z64, by decide, by decide⟩, z64⟩) (fun hc => ?_)
 have hy0 : y ≠ 0 := by simpa using hc
 refine T.bind (P := fun p => 0 ≤ p.1 ∧ p.1 < 18446744073709551616 ∧ 0 ≤ p.2 ∧ p.2 < 18446744073709551616) ?_ fun p hp => ?_
 ·refine T.cond (fun _ => ?_) (fun _ => T.ret ⟨zX _, aBe _, w3, w4⟩)
  obtain ⟨h', l', e, a1, a2, a3, a4, _⟩ := aEo (k + 3) (h := U64 w.gHi) (l := w.gLo) (zX _) (aBe _) w3 w4
  exact T.eq e (T.ret ⟨a1, a2, a3, a4⟩)
 obtain ⟨p1, p2, p3, p4⟩ := hp
 refine T.eq (wsz (k + 3) hy) ?_
 have hY : 0 < (if y < 0 then -y else y) ∧ (if y < 0 then -y else y) < 18446744073709551616 := by obtain ⟨y1, y2⟩ := hy; split <;> omega
 dsimp only
 generalize (if y < 0 then -y else y) = Y at *
 obtain ⟨Y1, Y2⟩ := hY
 refine T.eq (aHW (k + 3) Y1 p1 p2) ?_
 refine T.eq (aM5 k Y1 Y2 (Int.emod_nonneg _ (by omega)) (Int.emod_lt_of_pos _ Y1) p3 p4) ?_
 dsimp only
 have q1 : 0 ≤ p.1 / Y ∧ p.1 / Y < 18446744073709551616 := ⟨Int.ediv_nonneg p1 (by omega), Int.lt_of_le_of_lt (Int.ediv_le_self _ p1) p2⟩
 have m1 := Int.emod_nonneg p.1 (show Y ≠ 0 by omega)
 have m2 := Int.emod_lt_of_pos p.1 Y1
 have q2 : 0 ≤ (p.1 % Y * 18446744073709551616 + p.2) / Y := Int.ediv_nonneg (by omega) (by omega)
 have q3 : (p.1 % Y * 18446744073709551616 + p.2) / Y < 18446744073709551616 := by
  rw [Int.ediv_lt_iff_lt_mul Y1]
  generalize p.1 % Y = m at *
  omega
 generalize (p.1 % Y * 18446744073709551616 + p.2) / Y = Q at *
 generalize (p.1 % Y * 18446744073709551616 + p.2) % Y = R at *
 generalize p.1 / Y = P1 at *
 refine T.bind (P := fun p => 0 ≤ p.1 ∧ p.1 < 18446744073709551616 ∧ 0 ≤ p.2.1 ∧ p.2.1 < 18446744073709551616) ?_ fun p6 h6 => ?_
 ·simp only [aU]
  refine T.cond (fun _ => ?_) (fun _ => T.ret ⟨q1.1, q1.2, q2, q3⟩)
  refine T.bind (aKT q2 q3 (by decide) (by decide) (by decide) (by decide)) fun r9 h9 => T.ret ⟨zX _, aBe _, h9.1, h9.2.1⟩
 simp only [aU]
 refine T.bind (aOe (k + 3) _ h6.1 h6.2.1 h6.2.2.1 h6.2.2.2) fun r11 h11 => ?_
 refine T.cond (fun _ => T.ret ⟨⟨z64, by decide, by decide⟩, z64⟩) (fun _ => ?_)
 refine T.bind (P := fun _ => True) (T.cond (fun _ => T.ret trivial) (fun _ => T.ret trivial)) fun p12 _ => T.ret ⟨h11, cW _⟩
theorem aEm (k : Nat) {a b y : Int} (ha : cL a) (hb : cL b) (hy : cL y) : T (iG (k + 3) a b y) cL := by
 unfold iG
 refine T.cond (fun _ => T.ret z64) (fun _ => ?_)
 refine T.bind (aFz _ ha hb) fun r1 h1 => T.bind (aOH k h1 hy) fun r2 h2 => T.bind (aEu _ h2.1) fun r3 h3 => ?_
 refine T.cond (fun _ => T.ret h3.1) (fun _ => T.cond (fun _ => T.ret ⟨by decide, by decide⟩) (fun _ => T.ret ⟨by decide, by decide⟩))
theorem wofT (N : Nat) {a : Int} (ha : cL a) : T (sC N a) wok := by
 unfold sC
 obtain ⟨h1, h2⟩ := ha
 refine T.ret ⟨?_, zX _, aBe _⟩
 show -9223372036854775808 ≤ shr .i64 a 63 ∧ shr .i64 a 63 ≤ 9223372036854775807
 rw [aJ5]
 omega
theorem aN9 (N : Nat) (a b : aO) : T (rS N a b) (fun _ => True) := by
 unfold rS
 simp only [aU]
 refine T.cond (fun _ => T.ret trivial) (fun _ => T.bind (P := fun _ => True) (T.cond (fun _ => T.ret trivial) (fun _ => T.ret trivial)) fun _ _ => T.cond (fun _ => T.ret trivial) (fun _ => T.ret trivial))
theorem aNc (N : Nat) (l : List aO) (h : ∀ w ∈ l, wok w) (hl : l.length < N) (hb : l.length < 1000000) : T (tT N l) (fun r => wok r.1) := by
 unfold tT
 have w0 : wok (aO.mk 0 0) := ⟨z64, by decide, by decide⟩
 refine T.bind (T.loopG0 (n := l.length) (fun _ s => wok s) (fun r => match r with | .inl s => wok s | .inr p => wok p.1) (F := qI N l) (fun k s i hi hs hk => ?_) (fun k s hs => ?_) hl w0) fun o ho => ?_
 ·rw [qI, aU, dt (by omega), cond_true, pK, List.getElem?_eq_getElem hi, Option.bind_some]
  have he := h _ (List.getElem_mem hi)
  refine T.bind (aKT hs.2.1 hs.2.2 he.2.1 he.2.2 (by decide) (by decide)) fun r6 h6 => T.bind (aKT (zX _) (aBe _) (zX _) (aBe _) h6.2.2.1 h6.2.2.2) fun r7 h7 => ?_
  simp only [aU]
  refine T.cond (fun _ => T.ret w0) (fun _ => ?_)
  rw [hP (by omega)]
  exact hk _ ⟨cW _, h6.1, h6.2.1⟩
 ·rw [qI, aU, df (by omega), cond_false]
  exact T.ret hs
 ·cases o with
  | inl s => exact T.ret ho
  | inr p => exact T.ret ho
theorem aOa (N : Nat) (l : List Int) (h : ∀ x ∈ l, cL x) (hl : l.length < N) (hb : l.length < 1000000) : T (lF N l) cL := by
 unfold lF
 refine T.bind (T.loopG0 (n := l.length) (fun _ s => cL s) cL (F := lW N l) (fun k s i hi hs hk => ?_) (fun k s hs => ?_) hl z64) fun o ho => T.ret ho
 ·rw [lW, aU, dt (by omega), cond_true, pK, List.getElem?_eq_getElem hi, Option.bind_some]
  refine T.eq (aFi hs (h _ (List.getElem_mem hi))) ?_
  rw [hP (by omega)]
  exact hk _ (eG _)
 ·rw [lW, aU, df (by omega), cond_false]
  exact T.ret hs
theorem aBm (k : Nat) (l : List aB) (h : ∀ x ∈ l, vin x) (hl : l.length < k + 3) (hb : l.length < 1000000) : T (iD (k + 3) l) vin := by
 unfold iD
 refine T.bind (T.loopG0 (n := l.length) (fun _ s => vin s) vin (F := jH (k + 3) l) (fun k' s i hi hs hk => ?_) (fun k s hs => ?_) hl ⟨⟨by decide, by decide⟩, ⟨by decide, by decide⟩, ⟨by decide, by decide⟩⟩) fun o ho => T.ret ho
 ·rw [jH, aU, dt (by omega), cond_true, pK, List.getElem?_eq_getElem hi, Option.bind_some]
  refine T.eq (aNb k hs (h _ (List.getElem_mem hi))) ?_
  rw [hP (by omega)]
  exact hk _ ⟨eG _, eG _, eG _⟩
 ·rw [jH, aU, df (by omega), cond_false]
  exact T.ret hs
theorem aPA (k : Nat) (l : List aB) (h : ∀ x ∈ l, vin x) (hl : l.length < k + 3) (hb : l.length < 1000) : T (lI (k + 3) l) vin := by
 refine ⟨_, aEx k l h hl hb, ?_⟩
 have : ∀ (l : List aB) (a : aB), vin a → vin (l.foldl aGU a) := by
  intro l
  induction l with
  | nil => intro a ha; exact ha
  | cons x l ih => intro a _; exact ih _ (aBn _ _)
 exact this l _ ⟨z64, z64, z64⟩
theorem aLz (k : Nat) {u v : aB} (hu : vin u) (hv : vin v) : T (qJ (k + 4) u v) cL := by
 unfold qJ
 refine T.bind (aBm (k + 1) _ (by intro x hx; simp at hx; rcases hx with rfl | rfl; exact hu; exact hv) (by simp) (by simp)) fun r hr => ?_
 refine T.bind (aOa _ _ (by intro x hx; simp at hx; rcases hx with rfl | rfl | rfl; exact hr.1; exact hr.2.1; exact hr.2.2) (by simp) (by simp)) fun r2 h2 => T.ret h2
theorem wok0 {x : Int} (h : cL x) : wok (aO.mk x 0) := ⟨h, Int.le_refl _, show (0 : Int) < 18446744073709551616 by decide⟩
theorem wval0 {x : Int} (h : 0 ≤ x) : 0 ≤ sS (aO.mk x 0) := by show 0 ≤ x * 18446744073709551616 + 0; omega
theorem aH4 (N : Nat) (a : Int) : T (mN N a) (fun r => -1073741824 ≤ r ∧ r ≤ 1073741824) := by
 unfold mN
 simp only [aU, tS, rG]
 exact T.ret ⟨by omega, by omega⟩
theorem aH8 (k : Nat) {a b : Int} (ha : cL a) (hb : cL b) : T (iY (k + 3) a b) cL := by
 unfold iY
 refine T.bind (aOH k (w := aO.mk a 0) (wok0 ha) hb) fun r1 h1 => T.bind (aEu _ h1.1) fun r2 h2 => T.ret h2.1
theorem aNz {a : Int} (h : -1073741824 ≤ a ∧ a ≤ 1073741824) : 0 ≤ a * a ∧ a * a ≤ 1152921504606846976 := by
 have h0 : a * a = (a.natAbs : Int) * (a.natAbs : Int) := by rw [← Int.natAbs_mul_self' a]
 have h1 : a.natAbs ≤ 1073741824 := by omega
 have h2 : a.natAbs * a.natAbs ≤ 1073741824 * 1073741824 := Nat.mul_le_mul h1 h1
 rw [h0]
 constructor
 ·exact_mod_cast Nat.zero_le _
 ·have : ((a.natAbs * a.natAbs : Nat) : Int) ≤ ((1073741824 * 1073741824 : Nat) : Int) := by exact_mod_cast h2
  rw [Int.natCast_mul] at this
  exact this
theorem zP (k : Nat) (p : aC) : T (fM (k + 65) p) vin := by
 unfold fM
 refine T.bind (aH4 _ _) fun r1 h1 => T.bind (aH4 _ _) fun r2 h2 => T.bind (aH4 _ _) fun r3 h3 => ?_
 simp only [aU]
 have s1 := aNz h1
 have s2 := aNz h2
 have s3 := aNz h3
 have hx : 0 ≤ I64 (I64 (I64 (r1 * r1) + I64 (r2 * r2)) + I64 (r3 * r3)) ∧ I64 (I64 (I64 (r1 * r1) + I64 (r2 * r2)) + I64 (r3 * r3)) ≤ 9223372036854775807 := by
  generalize r1 * r1 = a at *
  generalize r2 * r2 = b at *
  generalize r3 * r3 = c at *
  rw [bQ (x := a) (by omega) (by omega), bQ (x := b) (by omega) (by omega), bQ (x := c) (by omega) (by omega), bQ (x := a + b) (by omega) (by omega), bQ (by omega) (by omega)]
  omega
 generalize I64 (I64 (I64 (r1 * r1) + I64 (r2 * r2)) + I64 (r3 * r3)) = X at *
 obtain ⟨r, e, _⟩ := aPj k (w := aO.mk X 0) (wok0 ⟨by omega, hx.2⟩) (wval0 hx.1)
 refine T.eq e ?_
 refine T.cond (fun _ => T.ret ⟨z64, z64, z64⟩) (fun _ => ?_)
 have c : ∀ {r : Int}, (-1073741824 ≤ r ∧ r ≤ 1073741824) → cL r := fun h => ⟨by omega, by omega⟩
 refine T.bind (aH8 (k + 62) (c h1) (cW _)) fun _ a => T.bind (aH8 (k + 62) (c h2) (cW _)) fun _ b => T.bind (aH8 (k + 62) (c h3) (cW _)) fun _ d => T.ret ⟨a, b, d⟩
theorem aHd (N : Nat) {a : Int} (ha : cL a) : T (mP N a) wok := by
 unfold mP
 exact T.bind (aFz _ ha ha) fun r h => T.ret h
theorem aOU (k : Nat) {v : aB} (hv : vin v) : T (pY (k + 65) v) cL := by
 unfold pY
 obtain ⟨a, b, c⟩ := hv
 refine T.bind (aHd _ a) fun r1 h1 => T.bind (aHd _ b) fun r2 h2 => T.bind (aHd _ c) fun r3 h3 => T.bind (aNc _ _ (by intro x hx; simp at hx; rcases hx with rfl | rfl | rfl; exact h1; exact h2; exact h3) (by simp) (by simp)) fun r4 h4 => ?_
 refine T.cond (fun _ => T.ret ⟨by decide, by decide⟩) (fun _ => ?_)
 simp only [aU]
 refine T.bind (P := fun _ => True) ?_ fun r5 _ => T.ret (cW _)
 by_cases h : r4.1.gHi < 0
 ·unfold rH
  rw [dt h, cond_true]
  exact T.ret trivial
 ·obtain ⟨r, e, _⟩ := aPj k (w := r4.1) h4 (by obtain ⟨_, q, _⟩ := h4; show 0 ≤ r4.1.gHi * 18446744073709551616 + r4.1.gLo; omega)
  exact ⟨_, e, trivial⟩
theorem aHf {α : Type} (l : List α) (G : α → Option Int) (P : α → Prop) {F : Nat → Int → Option (Sum Unit Int)}
  (hF : ∀ k i, F (k + 1) i = aR (decide (i < ((l.length : Int)))) fun x => cond x (Option.bind (idx l i) fun e => Option.bind (G e) fun r => cond (r != 0) (some (Sum.inr r)) (F k (I64 (i + 1)))) (some (Sum.inl (()))))
  (hG : ∀ x ∈ l, T (G x) (fun r => r = 0 → P x)) {N : Nat} (hN : l.length < N) (hl : l.length < 1000000) :
  T (Option.bind (F N 0) fun o => jU o (fun _ => some 0) (fun r => some r)) (fun r => r = 0 → ∀ x ∈ l, P x) := by
 refine T.bind (T.loopG0 (n := l.length) (fun i _ => ∀ j, (h : j < l.length) → j < i → P l[j]) (fun o => match o with | .inl _ => ∀ x ∈ l, P x | .inr r => r ≠ 0) (F := fun k (_ : Unit) i => F k i) (fun k s i hi hs hk => ?_) (fun k s hs => ?_) hN (s := ()) (fun j _ h => absurd h (by omega))) fun o ho => ?_
 ·rw [hF, aU, dt (by omega), cond_true, pK, List.getElem?_eq_getElem hi, Option.bind_some]
  refine T.bind (hG _ (List.getElem_mem hi)) fun r hr => ?_
  refine T.cond (fun hc => T.ret (by simpa using hc)) (fun hc => ?_)
  rw [hP (by omega)]
  refine hk () fun j h hj => ?_
  by_cases e : j = i
  ·subst e; exact hr (by simpa using hc)
  ·exact hs j h (by omega)
 ·rw [hF, aU, df (by omega), cond_false]
  refine T.ret fun x hx => ?_
  obtain ⟨j, h, rfl⟩ := List.getElem_of_mem hx
  exact hs j h h
 ·cases o with
  | inl _ => exact T.ret fun _ => ho
  | inr r => exact T.ret fun e => absurd e ho
theorem aNF {α : Type} (l : List α) (G : α → Option Bool) (P : α → Prop) {F : Nat → Int → Option (Sum Unit Int)}
  (hF : ∀ k i, F (k + 1) i = aR (decide (i < ((l.length : Int)))) fun x => cond x (Option.bind (idx l i) fun e => Option.bind (G e) fun r => cond r (some (Sum.inr i)) (F k (I64 (i + 1)))) (some (Sum.inl (()))))
  (hG : ∀ x ∈ l, T (G x) (fun r => r = false → P x)) {N : Nat} (hN : l.length < N) (hl : l.length < 1000000) :
  T (Option.bind (F N 0) fun o => jU o (fun _ => some (-1)) (fun r => some r)) (fun r => decide (r ≥ 0) = false → ∀ x ∈ l, P x) := by
 refine T.bind (T.loopG0 (n := l.length) (fun i _ => ∀ j, (h : j < l.length) → j < i → P l[j]) (fun o => match o with | .inl _ => ∀ x ∈ l, P x | .inr r => 0 ≤ r) (F := fun k (_ : Unit) i => F k i) (fun k s i hi hs hk => ?_) (fun k s hs => ?_) hN (s := ()) (fun j _ h => absurd h (by omega))) fun o ho => ?_
 ·rw [hF, aU, dt (by omega), cond_true, pK, List.getElem?_eq_getElem hi, Option.bind_some]
  refine T.bind (hG _ (List.getElem_mem hi)) fun r hr => ?_
  refine T.cond (fun hc => T.ret (by dsimp only; omega)) (fun hc => ?_)
  rw [hP (by omega)]
  refine hk () fun j h hj => ?_
  by_cases e : j = i
  ·subst e; exact hr hc
  ·exact hs j h (by omega)
 ·rw [hF, aU, df (by omega), cond_false]
  refine T.ret fun x hx => ?_
  obtain ⟨j, h, rfl⟩ := List.getElem_of_mem hx
  exact hs j h h
 ·cases o with
  | inl _ => exact T.ret fun _ => ho
  | inr r => exact T.ret fun e => absurd (of_decide_eq_false e) (by simpa using ho)
def pwi (m : Int) (p : aC) : Prop := (-m ≤ p.gX ∧ p.gX ≤ m) ∧ (-m ≤ p.gY ∧ p.gY ≤ m) ∧ -m ≤ p.gZ ∧ p.gZ ≤ m
theorem aKK {m : Int} {p : aC} (h : pwi m p) (hm : m ≤ 1000000000) : pin p := by
 obtain ⟨⟨a, b⟩, ⟨c, d⟩, e, f⟩ := h
 exact ⟨⟨by omega, by omega⟩, ⟨by omega, by omega⟩, by omega, by omega⟩
theorem aIO (N : Nat) (p : aC) {m : Int} (hm : 0 ≤ m) (hm' : m ≤ 1000000000) : T (pU N p m) (fun r => r = true ↔ pwi m p) := by
 unfold pU
 simp only [aU, rG, tS]
 rw [bQ (by omega) (by omega)]
 unfold pwi
 refine T.bind (P := fun r => r = true ↔ ((-m ≤ p.gX ∧ p.gX ≤ m) ∧ (-m ≤ p.gY ∧ p.gY ≤ m) ∧ -m ≤ p.gZ ∧ p.gZ ≤ m)) ?_ fun r h => T.ret h
 refine T.cond (fun h => T.ret ?_) (fun h => T.ret ?_)
 ·have := of_decide_eq_true h
  rw [decide_eq_true_eq]
  omega
 ·have := of_decide_eq_false h
  constructor
  ·intro h; cases h
  ·intro h; omega
theorem mayT (N : Nat) (a b : aC) : T (sE N a b) (fun r => r = true → pwi 65536 a ∧ pwi 131072 b ∧ aC.eq b (aC.mk 0 0 0) = false) := by
 unfold sE
 refine T.bind (P := fun r => r = true → pwi 65536 a ∧ pwi 131072 b ∧ aC.eq b (aC.mk 0 0 0) = false) ?_ fun r h => T.ret h
 refine T.bind (aIO N a (by decide) (by decide)) fun r2 h2 => ?_
 refine T.cond (fun hc => ?_) (fun _ => T.ret fun h => by cases h)
 refine T.bind (aIO N b (by decide) (by decide)) fun r3 h3 => ?_
 refine T.cond (fun hc' => ?_) (fun _ => T.ret fun h => by cases h)
 simp only [aU]
 refine T.ret fun h => ⟨h2.1 hc, h3.1 hc', by simpa using h⟩
theorem aL9 (N : Nat) (a b : aC) : T (oT N a b) pin := ⟨_, rfl, cW _, cW _, cW _⟩
theorem aJg (N : Nat) (a b : aC) : T (rA N a b) pin := ⟨_, rfl, cW _, cW _, cW _⟩
theorem aJV (N : Nat) (a b : aC) : T (uK N a b) cL := ⟨_, rfl, cW _⟩
def vL (m : aT) : Prop := cL m.gB9 ∧ cL m.gB1 ∧ cL m.gU ∧ cL m.gV
theorem aHi : vL (aT.mk 0 0 0 0) := ⟨z64, z64, z64, z64⟩
theorem hit1T (N : Nat) (p : aC) : T (uH N p) (fun r => r = false → pwi 65536 p) := by
 unfold uH
 refine T.bind (aIO N p (by decide) (by decide)) fun r h => T.ret fun e => h.1 (by simpa using e)
theorem hitCT (N : Nat) (l : List aC) (hN : l.length < N) (hl : l.length < 1000000) : T (bX N l) (fun r => r = false → ∀ p ∈ l, pwi 65536 p) := by
 unfold bX cX
 refine T.bind (aNF l (uH N) (pwi 65536) (fun k i => by rw [cS]) (fun p _ => hit1T N p) hN hl) fun r h => T.ret h
theorem hitT (N : Nat) (hN : 3 < N) (o d : aC) (P : Vector aC 3) : T (xT N o d P) (fun r => vL r.1) := by
 unfold xT
 refine T.bind (P := fun _ => True) ?_ fun p1 _ => ?_
 ·refine T.bind (mayT N o d) fun r2 h2 => ?_
  refine T.cond (fun _ => T.ret trivial) (fun _ => ?_)
  refine T.bind (T.slc (by decide) (by decide) (by simp)) fun s3 h3 => T.bind (hitCT N s3 (by omega) (by omega)) fun r4 _ => T.ret trivial
 refine T.cond (fun _ => T.ret aHi) (fun _ => ?_)
 refine T.bind (T.idx (by decide) (by simp)) fun e5 _ => T.bind (T.idx (by decide) (by simp)) fun e6 _ => T.bind (aL9 N _ _) fun r7 _ => ?_
 refine T.bind (T.idx (by decide) (by simp)) fun e8 _ => T.bind (T.idx (by decide) (by simp)) fun e9 _ => T.bind (aL9 N _ _) fun r10 _ => ?_
 refine T.bind (aJg N _ _) fun r11 _ => T.bind (T.idx (by decide) (by simp)) fun e12 _ => T.bind (aL9 N _ _) fun r13 _ => T.bind (aJg N _ _) fun r14 _ => ?_
 refine T.bind (aJV N _ _) fun r15 h15 => T.bind (aJV N _ _) fun r16 h16 => T.bind (aJV N _ _) fun r17 h17 => T.bind (aJV N _ _) fun r18 h18 => ?_
 refine T.bind (P := vL) (T.cond (fun _ => T.ret ⟨cW _, cW _, cW _, cW _⟩) (fun _ => T.ret ⟨h15, h16, h17, h18⟩)) fun p19 h19 => ?_
 simp only [aU]
 exact T.cond (fun _ => T.ret aHi) (fun _ => T.ret h19)
theorem lessT (N : Nat) {m n : aT} (hm : vL m) (hn : vL n) : T (tN N m n) (fun _ => True) := by
 unfold tN
 simp only [aU]
 refine T.cond (fun _ => T.ret trivial) (fun _ => T.bind (aFz N hm.1 hn.2.1) fun r2 _ => T.bind (aFz N hn.1 hm.2.1) fun r3 _ => T.bind (aN9 N _ _) fun r4 _ => T.ret trivial)
theorem aPd (N : Nat) (hN : 2 < N) {a b : Int} (ha : cL a) (hb : cL b) : T (vW N a b) cL := by
 unfold vW
 refine T.bind (wofT N ha) fun r1 h1 => T.bind (wofT N hb) fun r2 h2 => T.bind (aNc N _ (by intro x hx; simp at hx; rcases hx with rfl | rfl; exact h1; exact h2) (by simpa using hN) (by simp)) fun r3 h3 => ?_
 refine T.bind (wofT N ⟨by decide, by decide⟩) fun r4 _ => T.bind (wofT N ⟨by decide, by decide⟩) fun r5 _ => T.bind (aN9 N _ _) fun r6 _ => ?_
 refine T.cond (fun _ => T.ret ⟨by decide, by decide⟩) (fun _ => T.bind (aN9 N _ _) fun r7 _ => ?_)
 refine T.cond (fun _ => T.ret ⟨by decide, by decide⟩) (fun _ => T.bind (aEu N h3) fun r8 h8 => T.ret h8.1)
theorem aHw (k : Nat) {a b : Int} {m : aT} (ha : cL a) (hb : cL b) (hm : vL m) : T (jN (k + 3) a b m) cL := by
 unfold jN
 refine T.cond (fun _ => T.bind (aPd _ (by omega) ha z64) fun r h => T.ret h) (fun _ => ?_)
 refine T.bind (aEm k hb hm.1 hm.2.1) fun r2 h2 => T.bind (aPd _ (by omega) ha h2) fun r h => T.ret h
theorem aPO (k : Nat) {o d : aC} {m : aT} (ho : pin o) (hd : pin d) (hm : vL m) : T (rJ (k + 3) o d m) pin := by
 unfold rJ
 refine T.bind (aHw k ho.1 hd.1 hm) fun _ a => T.bind (aHw k ho.2.1 hd.2.1 hm) fun _ b => T.bind (aHw k ho.2.2 hd.2.2 hm) fun _ c => T.ret ⟨a, b, c⟩
def few (s : aE) : Prop := s.gQ.length ≤ 20 ∧ s.gA3.length ≤ 8 ∧ s.gR.length ≤ 4 ∧ s.gL.length ≤ 5 ∧ (∀ t ∈ s.gR, t.gO.length ≤ 260)
theorem aEy {α : Type} (l : List α) (n : Nat) : (l.take n).length ≤ n := by rw [List.length_take]; omega
theorem T.slcMin {α : Type} (l : List α) (n : Nat) : T (wG l 0 (jC (l.length : Int) (n : Int))) (fun r => r = l.take n) := ⟨_, aMp l n, rfl⟩
theorem fewT (N : Nat) (hN : 10 < N) (s : aE) : T (mL N s) few := by
 unfold mL
 have main : ∀ (m i : Nat) (a : List aD), i ≤ 4 → a.length = i → (∀ t ∈ a, t.gO.length ≤ 260) → 5 - i ≤ m → T (lT N s m a (i : Int)) (fun r => r.length ≤ 4 ∧ ∀ t ∈ r, t.gO.length ≤ 260) := by
  intro m
  induction m with
  | zero => intro i a h1 _ _ h; omega
  | succ m ih =>
   intro i a h1 h2 h3 h4
   rw [lT]
   simp only [aU]
   refine T.cond (fun hc => ?_) (fun _ => T.ret ⟨by omega, h3⟩)
   have hc1 : (i : Int) < (s.gR.length : Int) ∧ (i : Int) < 4 := by
    by_cases h : (i : Int) < (s.gR.length : Int)
    ·rw [dt h, cond_true] at hc; exact ⟨h, of_decide_eq_true hc⟩
    ·rw [df h, cond_false] at hc; cases hc
   refine T.bind (T.idx (by omega) hc1.1) fun e6 _ => ?_
   refine T.bind (T.slcMin e6.gO 260) fun s8 h8 => ?_
   refine T.eq (qS (by simp; omega)) ?_
   rw [hP (by omega)]
   refine ih (i + 1) _ (by omega) (by simp; omega) ?_ (by omega)
   intro t ht
   rw [List.mem_append, List.mem_singleton] at ht
   rcases ht with ht | rfl
   ·exact h3 t ht
   ·rw [h8]; exact aEy _ _
 refine T.bind (main N 0 [] (by decide) rfl (fun t h => absurd h (by simp)) (by omega)) fun p1 h1 => ?_
 simp only [aU]
 refine T.bind (T.slcMin s.gQ 20) fun s11 h11 => T.bind (T.slcMin s.gA3 8) fun s13 h13 => T.bind (T.slcMin s.gL 5) fun s15 h15 => T.bind (T.slcMin s.gA7 20) fun s17 _ => T.bind (T.slcMin s.gA8 20) fun s19 _ => ?_
 refine T.ret ⟨?_, ?_, h1.1, ?_, h1.2⟩
 ·show s11.length ≤ 20; rw [h11]; exact aEy _ _
 ·show s13.length ≤ 8; rw [h13]; exact aEy _ _
 ·show s15.length ≤ 5; rw [h15]; exact aEy _ _
def aLR (s : aE) (t : aG) : Prop := (0 ≤ t.gC1 ∧ t.gC1 < (s.gA3.length : Int)) ∧ t.gB2 < (s.gR.length : Int) ∧ (∀ v ∈ t.gUv.toList, ∀ x ∈ v.toList, 0 ≤ x ∧ x ≤ 65535) ∧ ∀ p ∈ t.gP.toList, pwi 65536 p
theorem v2mem {α : Type} {v : Vector α 2} {P : α → Prop} (h0 : ∀ x, v.toList[0]? = some x → P x) (h1 : ∀ x, v.toList[1]? = some x → P x) : ∀ x ∈ v.toList, P x := by
 intro x hx
 obtain ⟨j, h, rfl⟩ := List.getElem_of_mem hx
 have h' : j < 2 := by simpa using h
 match j, h' with
 | 0, _ => exact h0 _ (List.getElem?_eq_getElem h)
 | 1, _ => exact h1 _ (List.getElem?_eq_getElem h)
theorem aPl {α : Type} {v : Vector α 3} {P : α → Prop} (h0 : ∀ x, v.toList[0]? = some x → P x) (h1 : ∀ x, v.toList[1]? = some x → P x) (h2 : ∀ x, v.toList[2]? = some x → P x) : ∀ x ∈ v.toList, P x := by
 intro x hx
 obtain ⟨j, h, rfl⟩ := List.getElem_of_mem hx
 have h' : j < 3 := by simpa using h
 match j, h' with
 | 0, _ => exact h0 _ (List.getElem?_eq_getElem h)
 | 1, _ => exact h1 _ (List.getElem?_eq_getElem h)
 | 2, _ => exact h2 _ (List.getElem?_eq_getElem h)
theorem T.vg {α : Type} {m : Nat} {v : Vector α m} {i : Nat} (h : i < m) : T (v.toList[i]?) (fun x => v.toList[i]? = some x) := ⟨_, Go.UK.aHC v i h, Go.UK.aHC v i h⟩
theorem T.vgI {α : Type} {m : Nat} {v : Vector α m} {i : Nat} (h : i < m) : T (v.toList[(i : Int).toNat]?) (fun x => v.toList[i]? = some x) := T.vg h
theorem lV {α : Type} {o : Option α} {a b : α} (h : o = some a) (h' : o = some b) : a = b := by rw [h] at h'; exact Option.some.inj h'
theorem triT (N : Nat) (hN : 10 < N) (s : aE) (t : aG) : T (oY N s t) (fun r => r = 0 → aLR s t) := by
 unfold oY
 simp only [aU]
 refine T.cond (fun _ => T.ret fun h => by cases h) (fun hc => ?_)
 have c1 : (0 ≤ t.gC1 ∧ t.gC1 < (s.gA3.length : Int)) ∧ t.gB2 < (s.gR.length : Int) := by
  have o : ∀ {a : Prop} [Decidable a] {b : Bool}, cond b true (decide a) = false → b = false ∧ ¬ a := by
   intro a _ b h
   cases b with
   | true => cases h
   | false => exact ⟨rfl, of_decide_eq_false h⟩
  obtain ⟨hc, _⟩ := o hc
  obtain ⟨hc, _⟩ := o hc
  obtain ⟨hc, h4⟩ := o hc
  obtain ⟨hc, _⟩ := o hc
  obtain ⟨hc, h2⟩ := o hc
  exact ⟨⟨by have := of_decide_eq_false hc; omega, by omega⟩, by omega⟩
 refine T.bind (T.loopG0 (n := 3) (fun i _ => ∀ j, (h : j < 3) → j < i → ∀ x ∈ t.gUv[j].toList, 0 ≤ x ∧ x ≤ 65535) (fun o => match o with | .inl _ => ∀ v ∈ t.gUv.toList, ∀ x ∈ v.toList, 0 ≤ x ∧ x ≤ 65535 | .inr r => r ≠ 0) (F := fun k (_ : Unit) i => jQ N t k i) (fun k _ i hi hs hk => ?_) (fun k _ hs => ?_) (by omega) (s := ()) (fun j _ h => absurd h (by omega))) fun o ho => ?_
 ·rw [jQ, dt (by omega), cond_true]
  refine T.bind (T.idx (by omega) (by simp; omega)) fun e10 h10 => ?_
  have e10e : e10 = t.gUv[i] := lV h10 (by rw [Int.toNat_natCast]; exact aHC _ _ hi)
  refine T.bind (P := fun r => r = false → ∀ x ∈ e10.toList, 0 ≤ x ∧ x ≤ 65535) ?_ fun p11 h11 => ?_
  ·refine T.bind (T.inRO (by decide) (by decide)) fun _ _ => T.bind (T.vg (i := 0) (by decide)) fun a ha => T.bind (T.inRO (by decide) (by decide)) fun _ _ => T.bind (T.vg (i := 1) (by decide)) fun b hb => ?_
   simp only [aU, tS, rG]
   refine T.cond (fun _ => T.ret fun h => by cases h) (fun h1 => ?_)
   refine T.bind (T.inRO (by decide) (by decide)) fun _ _ => T.bind (T.vg (i := 0) (by decide)) fun a' ha' => T.bind (T.inRO (by decide) (by decide)) fun _ _ => T.bind (T.vg (i := 1) (by decide)) fun b' hb' => ?_
   refine T.ret fun h2 => ?_
   obtain rfl := lV ha ha'
   obtain rfl := lV hb hb'
   have h1 := of_decide_eq_false h1
   have h2 := of_decide_eq_false h2
   exact v2mem (fun x hx => by obtain rfl := lV ha hx; omega) (fun x hx => by obtain rfl := lV hb hx; omega)
  refine T.cond (fun _ => T.ret (fun h => by cases h)) (fun hc => ?_)
  rw [hP (by omega)]
  refine hk () fun j h hj => ?_
  by_cases e : j = i
  ·subst e; rw [← e10e]; exact h11 hc
  ·exact hs j h (by omega)
 ·rw [jQ, df (by omega), cond_false]
  refine T.ret fun v hv => ?_
  obtain ⟨j, h, rfl⟩ := List.getElem_of_mem hv
  have h' : j < 3 := by simpa using h
  have := hs j h' h'
  simpa using this
 cases o with
 | inr r => exact T.ret fun e => absurd e ho
 | inl _ =>
 refine T.bind (T.loopG0 (n := 3) (fun i _ => ∀ j, (h : j < 3) → j < i → pwi 65536 t.gP[j]) (fun o => match o with | .inl _ => ∀ v ∈ t.gP.toList, pwi 65536 v | .inr r => r ≠ 0) (F := fun k (_ : Unit) i => jP N t k i) (fun k _ i hi hs hk => ?_) (fun k _ hs => ?_) (by omega) (s := ()) (fun j _ h => absurd h (by omega))) fun o' ho' => ?_
 ·rw [jP, dt (by omega), cond_true]
  refine T.bind (T.idx (by omega) (by simp; omega)) fun e10 h10 => ?_
  have e10e : e10 = t.gP[i] := lV h10 (by rw [Int.toNat_natCast]; exact aHC _ _ hi)
  refine T.bind (mayT N _ _) fun r hr => ?_
  refine T.cond (fun _ => T.ret (fun h => by cases h)) (fun hc => ?_)
  rw [hP (by omega)]
  refine hk () fun j h hj => ?_
  by_cases e : j = i
  ·subst e; rw [← e10e]; exact (hr (by simpa using hc)).1
  ·exact hs j h (by omega)
 ·rw [jP, df (by omega), cond_false]
  refine T.ret fun v hv => ?_
  obtain ⟨j, h, rfl⟩ := List.getElem_of_mem hv
  have h' : j < 3 := by simpa using h
  have := hs j h' h'
  simpa using this
 cases o' with
 | inr r => exact T.ret fun e => absurd e ho'
 | inl _ => exact T.ret fun _ => ⟨c1.1, c1.2, ho, ho'⟩
theorem aOB (N : Nat) (hN : 30 < N) (s : aE) (h : few s) : T (eN N s.gQ s) (fun r => r = 0 → ∀ t ∈ s.gQ, aLR s t) := by
 unfold eN
 have h1 := h.1
 refine aHf s.gQ (fun t => mZ N t s) (aLR s) (fun k i => by rw [fJ]) (fun t _ => ?_) (by omega) (by omega)
 unfold mZ
 exact T.bind (triT N (by omega) s t) fun r h => T.ret h
theorem aCw (N : Nat) (m : Int) (l : List Int) (hN : l.length < N) (hl : l.length < 1000000) : T (jS N m l) (fun r => r = false → ∀ x ∈ l, 0 ≤ x ∧ x ≤ m) := by
 unfold jS dP eD
 refine T.bind (P := fun r => r = false → ∀ x ∈ l, 0 ≤ x ∧ x ≤ m) ?_ fun r h => T.ret h
 refine T.bind (aNF l (fun e => kW N e m) (fun x => 0 ≤ x ∧ x ≤ m) (fun k i => by rw [dO]) (fun x _ => ?_) hN hl) fun r h => T.ret h
 unfold kW
 simp only [aU]
 refine T.ret fun h => ?_
 by_cases h1 : x < 0
 ·rw [dt h1, cond_true] at h; cases h
 ·rw [df h1, cond_false] at h
  have := of_decide_eq_false h
  omega
def aBO (m : aQ) : Prop := (∀ x ∈ m.gA2.toList, 0 ≤ x ∧ x ≤ 65535) ∧ 0 ≤ m.gC6 ∧ m.gC6 ≤ 65535
theorem matT (N : Nat) (hN : 10 < N) (m : aQ) : T (mK N m) (fun r => r = 0 → aBO m) := by
 unfold mK
 refine T.bind (P := fun r => r = false → aBO m) ?_ fun p1 h1 => T.cond (fun _ => T.ret fun h => by cases h) (fun hc => T.ret fun _ => h1 hc)
 refine T.bind (aCw N 4 _ (by simp; omega) (by simp)) fun r2 _ => ?_
 refine T.cond (fun _ => T.ret fun h => by cases h) (fun _ => ?_)
 refine T.bind (T.idx (by decide) (by simp)) fun a ha => T.bind (T.idx (by decide) (by simp)) fun b hb => T.bind (T.idx (by decide) (by simp)) fun c hc => ?_
 refine T.bind (aCw N 65535 _ (by simp; omega) (by simp)) fun r6 h6 => T.ret fun e => ?_
 have h := h6 e
 refine ⟨aPl (fun x hx => ?_) (fun x hx => ?_) (fun x hx => ?_), h _ (by simp)⟩
 ·obtain rfl := lV ha hx; exact h _ (by simp)
 ·obtain rfl := lV hb hx; exact h _ (by simp)
 ·obtain rfl := lV hc hx; exact h _ (by simp)
theorem aMW (N : Nat) (hN : 30 < N) (s : aE) (h : few s) : T (dE N s.gA3) (fun r => r = 0 → ∀ t ∈ s.gA3, aBO t) := by
 unfold dE
 have h1 := h.2.1
 exact aHf s.gA3 (mK N) aBO (fun k i => by rw [dU]) (fun t _ => matT N (by omega) t) (by omega) (by omega)
def aLE (t : aD) : Prop := (t.gF = 1 ∨ t.gF = 2 ∨ t.gF = 4 ∨ t.gF = 8 ∨ t.gF = 16) ∧ (t.gO.length : Int) = t.gF * t.gF ∧ ∀ v ∈ t.gO, ∀ x ∈ v.toList, 0 ≤ x ∧ x ≤ 255
theorem aL2 (N : Nat) (l : List Int) (a : Int) (hN : l.length < N) (hl : l.length < 1000000) : T (hK N l a) (fun r => r = true → a ∈ l) := by
 unfold hK lZ
 refine T.bind (P := fun r => 0 ≤ r → a ∈ l) ?_ fun r h => T.ret fun e => h (of_decide_eq_true e)
 refine T.bind (T.loopG0 (n := l.length) (fun _ _ => True) (fun o => match o with | .inl _ => True | .inr r => a ∈ l) (F := fun k (_ : Unit) i => eQ N l a k i) (fun k _ i hi hs hk => ?_) (fun k _ hs => ?_) hN (s := ()) trivial) fun o ho => ?_
 ·rw [eQ, aU, dt (by omega), cond_true, pK, List.getElem?_eq_getElem hi, Option.bind_some]
  refine T.cond (fun hc => T.ret ?_) (fun _ => ?_)
  ·have e : a = l[i] := by simpa using hc
   show a ∈ l
   rw [e]; exact List.getElem_mem hi
  ·rw [hP (by omega)]; exact hk () trivial
 ·rw [eQ, aU, df (by omega), cond_false]; exact T.ret trivial
 ·cases o with
  | inl _ => exact T.ret fun h => absurd h (by decide)
  | inr r => exact T.ret fun _ => ho
theorem texT (N : Nat) (t : aD) (hN : t.gO.length < N) (hN' : 10 < N) (hl : t.gO.length < 1000000) : T (iJ N t) (fun r => r = 0 → aLE t) := by
 unfold iJ
 refine T.bind (aL2 N _ _ (by simp; omega) (by simp)) fun r1 h1 => ?_
 simp only [aU]
 refine T.cond (fun _ => T.ret fun h => by cases h) (fun hc => ?_)
 have c : t.gF ∈ [1, 2, 4, 8, 16] ∧ (t.gO.length : Int) = I64 (t.gF * t.gF) := by
  cases r1 with
  | false => cases hc
  | true => exact ⟨h1 rfl, by simpa using hc⟩
 have c1 : t.gF = 1 ∨ t.gF = 2 ∨ t.gF = 4 ∨ t.gF = 8 ∨ t.gF = 16 := by simpa using c.1
 have c2 : (t.gO.length : Int) = t.gF * t.gF := by
  rw [c.2]; rcases c1 with h | h | h | h | h <;> rw [h] <;> decide
 refine T.bind (T.loopG0 (n := t.gO.length) (fun i _ => ∀ j, (h : j < t.gO.length) → j < i → ∀ x ∈ t.gO[j].toList, 0 ≤ x ∧ x ≤ 255) (fun o => match o with | .inl _ => ∀ v ∈ t.gO, ∀ x ∈ v.toList, 0 ≤ x ∧ x ≤ 255 | .inr r => r ≠ 0) (F := fun k (_ : Unit) i => kG N (t.gO.length : Int) t k i) (fun k _ i hi hs hk => ?_) (fun k _ hs => ?_) hN (s := ()) (fun j _ h => absurd h (by omega))) fun o ho => ?_
 ·rw [kG, dt (by omega), cond_true, pK, List.getElem?_eq_getElem hi, Option.bind_some]
  refine T.bind (P := fun r => r = false → ∀ x ∈ (t.gO[i]).toList, 0 ≤ x ∧ x ≤ 255) ?_ fun p11 h11 => ?_
  ·refine T.bind (T.inRO (by decide) (by decide)) fun _ _ => T.bind (T.vg (i := 0) (by decide)) fun a ha => T.bind (T.inRO (by decide) (by decide)) fun _ _ => T.bind (T.vg (i := 1) (by decide)) fun b hb => T.bind (T.inRO (by decide) (by decide)) fun _ _ => T.bind (T.vg (i := 2) (by decide)) fun d hd => ?_
   simp only [aU, tS, rG]
   refine T.cond (fun _ => T.ret fun h => by cases h) (fun h1 => ?_)
   refine T.bind (T.inRO (by decide) (by decide)) fun _ _ => T.bind (T.vg (i := 0) (by decide)) fun a' ha' => T.bind (T.inRO (by decide) (by decide)) fun _ _ => T.bind (T.vg (i := 1) (by decide)) fun b' hb' => T.bind (T.inRO (by decide) (by decide)) fun _ _ => T.bind (T.vg (i := 2) (by decide)) fun d' hd' => ?_
   refine T.ret fun h2 => ?_
   obtain rfl := lV ha ha'
   obtain rfl := lV hb hb'
   obtain rfl := lV hd hd'
   have h1 := of_decide_eq_false h1
   have h2 := of_decide_eq_false h2
   exact aPl (fun x hx => by obtain rfl := lV ha hx; omega) (fun x hx => by obtain rfl := lV hb hx; omega) (fun x hx => by obtain rfl := lV hd hx; omega)
  refine T.cond (fun _ => T.ret (fun h => by cases h)) (fun hc => ?_)
  rw [hP (by omega)]
  refine hk () fun j h hj => ?_
  by_cases e : j = i
  ·subst e; exact h11 hc
  ·exact hs j h (by omega)
 ·rw [kG, df (by omega), cond_false]
  refine T.ret fun v hv => ?_
  obtain ⟨j, h, rfl⟩ := List.getElem_of_mem hv
  exact hs j h h
 cases o with
 | inr r => exact T.ret fun e => absurd e ho
 | inl _ => exact T.ret fun _ => ⟨c1, c2, ho⟩
theorem aMy (N : Nat) (hN : 300 < N) (s : aE) (h : few s) : T (dZ N s.gR) (fun r => r = 0 → ∀ t ∈ s.gR, aLE t) := by
 unfold dZ
 have h1 := h.2.2.1
 exact aHf s.gR (iJ N) aLE (fun k i => by rw [eS]) (fun t ht => texT N t (by have := h.2.2.2.2 t ht; omega) (by omega) (by have := h.2.2.2.2 t ht; omega)) (by omega) (by omega)
def vC (l : aP) : Prop := (∀ x ∈ l.gA2.toList, 0 ≤ x ∧ x ≤ 1048576) ∧ pwi 4096 l.gAt ∧ pwi 4096 l.gU ∧ pwi 4096 l.gV
theorem aHr (N : Nat) (p : aC) : T (lP N p) (fun r => r = false → pwi 4096 p) := by
 unfold lP pwi
 simp only [aU, rG, tS]
 refine T.bind (P := fun r => r = false → (-4096 ≤ p.gX ∧ p.gX ≤ 4096) ∧ (-4096 ≤ p.gY ∧ p.gY ≤ 4096) ∧ -4096 ≤ p.gZ ∧ p.gZ ≤ 4096) ?_ fun r h => T.ret h
 refine T.cond (fun _ => T.ret fun h => by cases h) (fun h => T.ret fun h2 => ?_)
 have h := of_decide_eq_false h
 have h2 := of_decide_eq_false h2
 omega
theorem aMq (N : Nat) (hN : 10 < N) (l : aP) : T (oM N l) (fun r => r = 0 → vC l) := by
 unfold oM
 refine T.bind (P := fun r => r = false → ∀ x ∈ l.gA2.toList, 0 ≤ x ∧ x ≤ 1048576) ?_ fun p1 h1 => ?_
 ·refine T.bind (aCw N 2 _ (by simp; omega) (by simp)) fun r2 _ => ?_
  refine T.cond (fun _ => T.ret fun h => by cases h) (fun _ => ?_)
  refine T.bind (T.slc (by decide) (by decide) (by simp)) fun s3 h3 => T.bind (aCw N _ s3 (by omega) (by omega)) fun r4 h4 => T.ret fun e => ?_
  have hs : s3 = l.gA2.toList := by rw [h3.1]; exact List.take_of_length_le (show l.gA2.toList.length ≤ 3 by simp)
  rw [← hs]; exact h4 e
 refine T.cond (fun _ => T.ret fun h => by cases h) (fun hc => ?_)
 refine T.bind (P := fun r => r = false → pwi 4096 l.gAt ∧ pwi 4096 l.gU ∧ pwi 4096 l.gV) ?_ fun p5 h5 => ?_
 ·refine T.bind (aHr N _) fun r6 h6 => T.cond (fun _ => T.ret fun h => by cases h) (fun c6 => ?_)
  refine T.bind (aHr N _) fun r7 h7 => T.cond (fun _ => T.ret fun h => by cases h) (fun c7 => ?_)
  exact T.bind (aHr N _) fun r8 h8 => T.ret fun c8 => ⟨h6 c6, h7 c7, h8 c8⟩
 refine T.cond (fun _ => T.ret fun h => by cases h) (fun hc5 => ?_)
 have ok : vC l := ⟨h1 hc, h5 hc5⟩
 simp only [aU]
 refine T.bind (P := fun _ => True) ?_ fun o _ => ?_
 ·refine T.cond (fun _ => T.cond (fun _ => T.ret trivial) (fun _ => ?_)) (fun _ => T.cond (fun _ => ?_) (fun _ => T.ret trivial))
  ·exact T.bind (P := fun _ => True) (T.cond (fun _ => T.ret trivial) (fun _ => T.ret trivial)) fun _ _ => T.cond (fun _ => T.ret trivial) (fun _ => T.ret trivial)
  ·exact T.bind (P := fun _ => True) (T.cond (fun _ => T.ret trivial) (fun _ => T.ret trivial)) fun _ _ => T.cond (fun _ => T.ret trivial) (fun _ => T.ret trivial)
 ·cases o with
  | inl _ => exact T.ret fun _ => ok
  | inr r => exact T.ret fun _ => ok
theorem aJs (N : Nat) (hN : 30 < N) (s : aE) (h : few s) : T (eJ N s.gL) (fun r => r = 0 → ∀ t ∈ s.gL, vC t) := by
 unfold eJ
 have h1 := h.2.2.2.1
 exact aHf s.gL (oM N) vC (fun k i => by rw [fK]) (fun t _ => aMq N (by omega) t) (by omega) (by omega)
structure aOg (s : aE) : Prop where
 few : few s
 tri : ∀ t ∈ s.gQ, aLR s t
 mat : ∀ t ∈ s.gA3, aBO t
 tex : ∀ t ∈ s.gR, aLE t
 light : ∀ t ∈ s.gL, vC t
theorem aP4 (N : Nat) (hN : 300 < N) (s : aE) (h : few s) : T (mI N s) (fun r => r = 0 → aOg s) := by
 unfold mI
 simp only [aU]
 refine T.cond (fun _ => T.ret fun h => by cases h) (fun _ => ?_)
 have nz : ∀ {r : Int} {P : Prop}, (r != 0) = true → (r = 0 → P) := fun h e => by rw [e] at h; cases h
 refine T.bind (aOB N (by omega) s h) fun r3 h3 => T.cond (fun c => T.ret (nz c)) (fun c3 => ?_)
 refine T.bind (aMW N (by omega) s h) fun r4 h4 => T.cond (fun c => T.ret (nz c)) (fun c4 => ?_)
 refine T.bind (aMy N (by omega) s h) fun r5 h5 => T.cond (fun c => T.ret (nz c)) (fun c5 => ?_)
 refine T.bind (aJs N (by omega) s h) fun r6 h6 => T.ret fun e => ?_
 exact ⟨h, h3 (by simpa using c3), h4 (by simpa using c4), h5 (by simpa using c5), h6 e⟩
def aJm (v : aI) : Prop := aJF v.gA5 v.gW v.gH ∧ (1 ≤ v.gS ∧ v.gS ≤ 16) ∧ (0 ≤ v.gJ ∧ v.gJ ≤ 8) ∧ 0 ≤ v.gI ∧ v.gI ≤ 2
theorem mayVT (N : Nat) (v : aI) : T (nZ N v) (fun r => r = 0 → aJm v) := by
 unfold nZ
 refine T.bind (aFF N _ _ _) fun r1 h1 => ?_
 refine T.cond (fun c => T.ret fun e => by rw [e] at c; cases c) (fun c => ?_)
 simp only [aU]
 refine T.cond (fun _ => T.ret fun h => by cases h) (fun hc => T.ret fun _ => ?_)
 have o : ∀ {a : Prop} [Decidable a] {b : Bool}, cond b true (decide a) = false → b = false ∧ ¬ a := by
  intro a _ b h
  cases b with
  | true => cases h
  | false => exact ⟨rfl, of_decide_eq_false h⟩
 obtain ⟨hc, c6⟩ := o hc
 obtain ⟨hc, c5⟩ := o hc
 obtain ⟨hc, c4⟩ := o hc
 obtain ⟨hc, c3⟩ := o hc
 obtain ⟨hc, c2⟩ := o hc
 have c1 := of_decide_eq_false hc
 exact ⟨h1 (by simpa using c), by omega, by omega, by omega, by omega⟩
def eH (c : Int) : Int × Int := cond (c == 0) (16, 4) (cond (c == 1) (64, 4) (cond (c == 2) (256, 8) (0, 0)))
theorem aH3 (N : Nat) (c : Int) : fX N c = some (eH c) := by
 unfold fX eH
 cases (c == 0) <;> cases (c == 1) <;> cases (c == 2) <;> rfl
theorem aPu (N : Nat) (c : Int) : T (fX N c) (fun r => r = eH c) := ⟨_, aH3 N c, rfl⟩
def fits (s : aE) (c : Int) : Prop := (s.gQ.length : Int) ≤ (eH c).1 ∧ (s.gL.length : Int) ≤ (eH c).2
theorem fitsT (N : Nat) (s : aE) (c : Int) : T (pB N s c) (fun r => r = 0 → fits s c) := by
 unfold pB
 refine T.eq (aH3 N c) ?_
 simp only [aU]
 refine T.cond (fun _ => T.ret fun h => by cases h) (fun hc => T.ret fun _ => ?_)
 by_cases h : (s.gQ.length : Int) > (eH c).1
 ·rw [dt h, cond_true] at hc; cases hc
 ·rw [df h, cond_false] at hc
  have := of_decide_eq_false hc
  exact ⟨by omega, by omega⟩
theorem aH7 (k : Nat) {a b : Int} (ha : cL a) (hb : cL b) (h0 : S64 (b * 4294967296) ≠ 0) : T (iM (k + 3) a b) cL := by
 unfold iM
 refine T.eq (tV _ ha) (T.eq (tV _ hb) (T.eq (wZ k (eG _) (eG _) h0) (T.ret (eG _))))
theorem aNC (k : Nat) (c : Vector Int 3) {b : Int} (hc : ∀ x ∈ c.toList, cL x) (hb : cL b) (h0 : S64 (b * 4294967296) ≠ 0) : T (qL (k + 3) c b) vin := by
 unfold qL
 refine T.bind (T.idx (by decide) (by simp)) fun e1 h1 => T.bind (aH7 k (hc _ (List.mem_of_getElem? h1)) hb h0) fun r2 a => ?_
 refine T.bind (T.idx (by decide) (by simp)) fun e3 h3 => T.bind (aH7 k (hc _ (List.mem_of_getElem? h3)) hb h0) fun r4 b => ?_
 refine T.bind (T.idx (by decide) (by simp)) fun e5 h5 => T.bind (aH7 k (hc _ (List.mem_of_getElem? h5)) hb h0) fun r6 d => T.ret ⟨a, b, d⟩
theorem aHS (k : Nat) {l : aP} (h : vC l) : T (oF (k + 3) l) vin := by
 unfold oF
 exact T.bind (aNC k _ (fun x hx => by have := h.1 x hx; exact ⟨by omega, by omega⟩) ⟨by decide, by decide⟩ (by decide)) fun r h => T.ret h
theorem skyT (k : Nat) (hk : 10 < k) (l : List aP) (h : ∀ x ∈ l, vC x) (hl : l.length ≤ 5) : T (yS (k + 3) l) (fun r => vin r ∧ (l = [] → r = aB.mk 0 0 0)) := by
 unfold yS
 refine T.bind (T.loopG0 (n := l.length) (fun i s => s.length ≤ i ∧ ∀ v ∈ s, vin v) (fun r => r.length ≤ l.length ∧ ∀ v ∈ r, vin v) (F := qM (k + 3) l) (fun k' s i hi hs hk' => ?_) (fun k' s hs => ?_) (by omega) (s := []) ⟨by simp, fun v h => absurd h (by simp)⟩) fun r hr => ?_
 ·rw [qM, aU, dt (by omega), cond_true]
  refine T.bind (P := fun p => p.1.length ≤ i + 1 ∧ ∀ v ∈ p.1, vin v) ?_ fun p5 h5 => ?_
  ·rw [pK, List.getElem?_eq_getElem hi, Option.bind_some]
   refine T.cond (fun _ => ?_) (fun _ => T.ret ⟨by dsimp only; omega, hs.2⟩)
   refine T.bind (aHS k (h _ (List.getElem_mem hi))) fun r7 h7 => T.eq (qS (by simp; omega)) (T.ret ⟨by simp; omega, ?_⟩)
   intro v hv
   rw [List.mem_append, List.mem_singleton] at hv
   rcases hv with hv | rfl
   ·exact hs.2 v hv
   ·exact h7
  ·rw [hP (by omega)]; exact hk' _ h5
 ·rw [qM, aU, df (by omega), cond_false]; exact T.ret hs
 ·refine T.eq (aEx k r hr.2 (by omega) (by omega)) (T.ret ⟨?_, fun h => ?_⟩)
  ·obtain ⟨x, e, hx⟩ := aPA k r hr.2 (by omega) (by omega)
   rw [aEx k r hr.2 (by omega) (by omega)] at e
   cases e
   exact hx
  ·subst h
   have : r = [] := List.eq_nil_of_length_eq_zero (by have := hr.1; simpa using this)
   subst this
   rfl
def aI3 (t : aD) : Prop := (t.gF = 1 ∨ t.gF = 2 ∨ t.gF = 4 ∨ t.gF = 8 ∨ t.gF = 16) ∧ (t.gO.length : Int) = t.gF * t.gF
theorem aFt (N : Nat) {t : aD} (h : aI3 t) (x y : Int) : T (mA N t x y) (fun _ => True) := by
 obtain ⟨h1, h2⟩ := h
 unfold mA
 simp only [aU]
 have b : ∀ (a : Int) (m : Nat), t.gF = (m : Int) + 1 → m < 100 → 0 ≤ iA .i64 a (I64 (t.gF - 1)) ∧ iA .i64 a (I64 (t.gF - 1)) ≤ (m : Int) := by
  intro a m h hm
  rw [h, show I64 ((m : Int) + 1 - 1) = (m : Int) by rw [bQ (by omega) (by omega)]; omega]
  exact aM3 m (by omega)
 have key : ∀ m : Nat, t.gF = (m : Int) + 1 → m < 100 → T (Option.bind (idx t.gO (I64 (I64 (iA .i64 y (I64 (t.gF - 1)) * t.gF) + iA .i64 x (I64 (t.gF - 1))))) fun e4 => some e4) (fun _ => True) := by
  intro m hm hb
  have bx := b x m hm hb
  have by' := b y m hm hb
  generalize iA .i64 x (I64 (t.gF - 1)) = X at *
  generalize iA .i64 y (I64 (t.gF - 1)) = Y at *
  rw [hm] at h2 ⊢
  have n1 : 0 ≤ Y * ((m : Int) + 1) := Int.mul_nonneg by'.1 (by omega)
  have n2 : Y * ((m : Int) + 1) ≤ (m : Int) * ((m : Int) + 1) := Int.mul_le_mul_of_nonneg_right by'.2 (by omega)
  have n3 : (m : Int) * ((m : Int) + 1) ≤ 100 * 101 := by
   have : (m : Int) * ((m : Int) + 1) ≤ 100 * ((m : Int) + 1) := Int.mul_le_mul_of_nonneg_right (by omega) (by omega)
   omega
  have n4 : ((m : Int) + 1) * ((m : Int) + 1) = (m : Int) * ((m : Int) + 1) + ((m : Int) + 1) := by rw [Int.add_mul, Int.one_mul]
  rw [n4] at h2
  generalize Y * ((m : Int) + 1) = Z at *
  generalize (m : Int) * ((m : Int) + 1) = W at *
  rw [bQ (x := Z) (by omega) (by omega), bQ (by omega) (by omega)]
  exact T.bind (T.idx (by omega) (by omega)) fun _ _ => T.ret trivial
 rcases h1 with h | h | h | h | h
 ·exact key 0 h (by decide)
 ·exact key 1 h (by decide)
 ·exact key 3 h (by decide)
 ·exact key 7 h (by decide)
 ·exact key 15 h (by decide)
theorem aQT (N : Nat) (hN : 10 < N) (a b c d : Vector Int 3) : T (jM N a b c d N (#v[0, 0, 0]) 0) (fun _ => True) := by
 refine T.loopG0 (n := 3) (fun _ _ => True) _ (F := jM N a b c d) (fun k s i hi _ hk => ?_) (fun k s _ => ?_) (by omega) trivial
 ·rw [jM, dt (by omega), cond_true]
  refine T.bind (T.inRO (by omega) (by omega)) fun _ _ => T.bind (T.vg hi) fun _ _ => T.bind (T.inRO (by omega) (by omega)) fun _ _ => T.bind (T.vg hi) fun _ _ => T.bind (T.inRO (by omega) (by omega)) fun _ _ => T.bind (T.vg hi) fun _ _ => ?_
  simp only [aU]
  refine T.bind (T.inRO (by omega) (by omega)) fun _ _ => T.bind (T.vg hi) fun _ _ => T.bind (T.inRO (by omega) (by omega)) fun _ _ => T.bind (T.vg hi) fun _ _ => ?_
  rw [hP (by omega)]
  exact hk _ trivial
 ·rw [jM, df (by omega), cond_false]; exact T.ret trivial
theorem halfT (N : Nat) (hN : 100 < N) {t : aD} (h : aI3 t) (h1 : t.gF > 1) : T (rU N t) (fun r => aI3 r ∧ r.gF * 2 = t.gF) := by
 unfold rU
 obtain ⟨H, e1, e2, e3⟩ : ∃ H : Nat, I64 (Int.tdiv t.gF 2) = (H : Int) ∧ t.gF = (H : Int) * 2 ∧ (H = 1 ∨ H = 2 ∨ H = 4 ∨ H = 8) := by
  rcases h.1 with e | e | e | e | e
  ·omega
  ·exact ⟨1, by rw [e]; decide, by rw [e]; decide, by simp⟩
  ·exact ⟨2, by rw [e]; decide, by rw [e]; decide, by simp⟩
  ·exact ⟨4, by rw [e]; decide, by rw [e]; decide, by simp⟩
  ·exact ⟨8, by rw [e]; decide, by rw [e]; decide, by simp⟩
 simp only [aU, e1]
 have sq : I64 ((H : Int) * (H : Int)) = ((H * H : Nat) : Int) := by rcases e3 with e | e | e | e <;> subst e <;> decide
 have sb : H * H ≤ 64 := by rcases e3 with e | e | e | e <;> subst e <;> decide
 have nz : (H : Int) ≠ 0 := by omega
 refine T.bind (T.loopG0 (n := H * H) (fun i s => s.length = i) (fun r => r.length = H * H) (F := lM N (H : Int) (H : Int) t) (fun k s i hi hs hk => ?_) (fun k s hs => ?_) (by omega) (s := []) rfl) fun p4 h4 => T.ret ⟨⟨?_, ?_⟩, ?_⟩
 ·rw [lM]
  simp only [aU, e1, sq]
  rw [dt (by omega), cond_true]
  refine T.eq (aEv .i64 nz) (T.eq (aC4 .i64 nz) ?_)
  refine T.bind (aFt N h _ _) fun r12 _ => T.bind (aFt N h _ _) fun r14 _ => T.bind (aFt N h _ _) fun r16 _ => T.bind (aFt N h _ _) fun r19 _ => T.bind (aQT N (by omega) _ _ _ _) fun p20 _ => ?_
  refine T.eq (qS (by simp; omega)) ?_
  rw [hP (by omega)]
  exact hk _ (by simp; omega)
 ·rw [lM]
  simp only [aU, sq]
  rw [df (by omega), cond_false]
  exact T.ret hs
 ·show (H : Int) = 1 ∨ (H : Int) = 2 ∨ (H : Int) = 4 ∨ (H : Int) = 8 ∨ (H : Int) = 16
  omega
 ·show (p4.length : Int) = (H : Int) * (H : Int)
  rw [h4]; push_cast; rfl
 ·show (H : Int) * 2 = t.gF
  exact e2.symm
def aGM (l : List aD) : Prop := l.length ≤ 20 ∧ ∀ t ∈ l, t.gO.length ≤ 260
theorem aG1 {t : aD} (h : aI3 t) : t.gO.length ≤ 260 := by
 obtain ⟨h1, h2⟩ := h
 rcases h1 with e | e | e | e | e <;> rw [e] at h2 <;> omega
theorem lvR2 (N : Nat) (l : List aD) (a t : aD) (h : l.length ≤ 1000) : lS N l a t = some (l ++ [t]) := by
 unfold lS
 rw [qS (by simp; omega)]
 rfl
theorem aNi (N : Nat) (hN : 100 < N) : ∀ (j k : Nat) (l : List aD) (t : aD), aI3 t → t.gF ≤ 2 ^ j → j < k → (l.length + j ≤ 10 ∧ ∀ t ∈ l, t.gO.length ≤ 260) → T (bT N k l t) (fun r => aGM r.1) := by
 intro j
 induction j with
 | zero =>
  intro k l t ht hs hk hl
  obtain ⟨k, rfl⟩ : ∃ k', k = k' + 1 := ⟨k - 1, by omega⟩
  rw [bT]
  refine T.eq (lvR2 N _ _ _ (by omega)) ?_
  rw [df (by simpa using hs), cond_false]
  refine T.ret ⟨by simp; omega, ?_⟩
  intro u hu
  rw [List.mem_append, List.mem_singleton] at hu
  rcases hu with hu | rfl
  ·exact hl.2 u hu
  ·exact aG1 ht
 | succ j ih =>
  intro k l t ht hs hk hl
  obtain ⟨k, rfl⟩ : ∃ k', k = k' + 1 := ⟨k - 1, by omega⟩
  rw [bT]
  refine T.eq (lvR2 N _ _ _ (by omega)) ?_
  have all : ∀ u ∈ l ++ [t], u.gO.length ≤ 260 := by
   intro u hu
   rw [List.mem_append, List.mem_singleton] at hu
   rcases hu with hu | rfl
   ·exact hl.2 u hu
   ·exact aG1 ht
  refine T.cond (fun hc => ?_) (fun _ => T.ret ⟨by simp; omega, all⟩)
  refine T.bind (halfT N hN ht (of_decide_eq_true hc)) fun r5 h5 => ?_
  have hp : (2 : Int) ^ (j + 1) = 2 ^ j * 2 := Int.pow_succ _ _
  exact ih k _ r5 h5.1 (by have := h5.2; omega) (by omega) ⟨by simp; omega, all⟩
theorem aOV (N : Nat) (l : List (Vector Int 3)) (h : l.length ≤ 1000) : T (fT N l) (fun r => r = l) := by
 unfold fT
 exact T.eq (qS (by simp; omega)) (T.ret (by simp))
theorem aOW (N : Nat) (hN : 300 < N) (t : aD) (h : t.gO.length ≤ 260) : T (oV N t) (fun r => aGM r.1) := by
 unfold oV
 refine T.bind (texT N t (by omega) (by omega) (by omega)) fun r1 h1 => ?_
 refine T.cond (fun _ => T.ret ⟨by simp, fun t h => absurd h (by simp)⟩) (fun hc => ?_)
 have ok := h1 (by simpa using hc)
 refine T.bind (aOV N _ (by omega)) fun r2 h2 => ?_
 subst h2
 unfold sH dM
 refine T.eq rfl ?_
 refine T.bind (P := fun r => aGM r.1) ?_ fun r4 h4 => T.ret h4
 refine T.bind (aNi N (by omega) 4 N [] _ ⟨ok.1, ok.2.1⟩ (by have := ok.1; show t.gF ≤ 2 ^ 4; omega) (by omega) ⟨by simp, fun t h => absurd h (by simp)⟩) fun p1 h1 => T.ret h1
theorem aMJ (N : Nat) (l : List aG) (m : Int) (hm' : 0 ≤ m ∧ m ≤ 4096) (hl' : (l.length : Int) ≤ m) : T (rF N l m) (fun q => match q with | .inl e => False | .inr r => r.2 = 0 ∧ (r.1.length : Int) = m ∧ r.1.length ≤ 4096 ∧ ∀ i, l.length ≤ i → ∀ t, r.1[i]? = some t → t.gC5 = 0) := by
 unfold rF
 simp only [aU]
 rw [df (show ¬ m < 0 by omega), df (show ¬ m > 4096 by omega)]
 refine T.cond (fun hc => by cases hc) (fun hc => ?_)
 have hm := hm'
 obtain ⟨n, rfl⟩ := Int.eq_ofNat_of_zero_le hm.1
 refine T.cond (fun hc => absurd (of_decide_eq_true hc) (by omega)) (fun hc2 => ?_)
 have hl := of_decide_eq_false hc2
 refine T.eq (a := ()) (by unfold mkO; rw [dt (by omega), dt (by omega), dt (by omega)]; rfl) ?_
 rw [Int.toNat_natCast]
 unfold cpD
 rw [dt (by simp), cond_true, Option.bind_some]
 have hlen : ∀ z : aG, (cpy (List.replicate n z) l 0 n).length = n := by intro z; unfold cpy; simp; omega
 refine T.eq (a := ()) (by unfold aAL; rw [hlen, Nat.beq_refl]; rfl) ?_
 refine T.ret ⟨rfl, by rw [hlen], by rw [hlen]; omega, ?_⟩
 intro i hi t ht
 unfold cpy at ht
 rw [show min l.length n = l.length by omega, List.take_zero, List.nil_append, List.take_length, List.getElem?_append_right hi, List.getElem?_drop] at ht
 have hm := List.mem_of_getElem? ht
 rw [List.mem_replicate] at hm
 rw [hm.2]
def ple (p q : aC) : Prop := p.gX ≤ q.gX ∧ p.gY ≤ q.gY ∧ p.gZ ≤ q.gZ
theorem aLg (N : Nat) (l : List aC) {m : Int} (hm : 0 ≤ m) (h : ∀ p ∈ l, pwi m p) (hN : l.length < N) (hl : l.length < 1000000) : T (mJ N l) (fun r => pwi m r.1 ∧ pwi m r.2 ∧ ∀ p ∈ l, ple r.1 p ∧ ple p r.2) := by
 unfold mJ
 have z : pwi m (aC.mk 0 0 0) := by unfold pwi; dsimp only; omega
 refine T.bind (T.loopG0 (n := l.length) (fun i (s : aC × aC) => pwi m s.1 ∧ pwi m s.2 ∧ ∀ j, (hj : j < l.length) → j < i → ple s.1 l[j] ∧ ple l[j] s.2) (fun r => pwi m r.1 ∧ pwi m r.2 ∧ ∀ p ∈ l, ple r.1 p ∧ ple p r.2) (F := fun k (s : aC × aC) i => rZ N l k s.1 s.2 i) (fun k s i hi hs hk => ?_) (fun k s hs => ?_) hN (s := (aC.mk 0 0 0, aC.mk 0 0 0)) ⟨z, z, fun j _ h => absurd h (by omega)⟩) fun r hr => T.ret hr
 ·rw [rZ, aU, dt (by omega), cond_true, pK, List.getElem?_eq_getElem hi, Option.bind_some]
  have he := h _ (List.getElem_mem hi)
  generalize hx : l[i] = x at *
  refine T.bind (P := fun p => pwi m p.1 ∧ pwi m p.2 ∧ ∀ j, (hj : j < l.length) → j < i → ple p.1 l[j] ∧ ple l[j] p.2) ?_ fun p7 h7 => ?_
  ·refine T.cond (fun hc => ?_) (fun _ => T.ret hs)
   have : i = 0 := by have := of_decide_eq_true hc; omega
   exact T.ret ⟨he, he, fun j _ h => absurd h (by omega)⟩
  ·rw [hP (by omega)]
   obtain ⟨a, b, c⟩ := h7
   refine hk (_, _) ⟨?_, ?_, fun j hj hji => ?_⟩
   ·unfold pwi at *; simp only [tS]; omega
   ·unfold pwi at *; simp only [rG]; omega
   ·by_cases e : j = i
    ·subst e
     rw [hx]
     unfold ple; simp only [tS, rG]; omega
    ·have := c j hj (by omega)
     unfold ple at *; simp only [tS, rG]; omega
 ·rw [rZ, aU, df (by omega), cond_false]
  refine T.ret ⟨hs.1, hs.2.1, fun p hp => ?_⟩
  obtain ⟨j, hj, rfl⟩ := List.getElem_of_mem hp
  exact hs.2.2 j hj hj
def tpw (t : aG) : Prop := ∀ p ∈ t.gP.toList, pwi 65536 p
theorem T.slc3 {α : Type} (v : Vector α 3) : T (wG v.toList 0 3) (fun r => r = v.toList) := by
 refine ⟨_, aG8 (by decide) (by decide) (by simp), ?_⟩
 exact List.take_of_length_le (show v.toList.length ≤ 3 by simp)
theorem aIG (N : Nat) (hN : 3 < N) {t : aG} (h : tpw t) : T (mJ N t.gP.toList) (fun r => pwi 65536 r.1 ∧ pwi 65536 r.2 ∧ ∀ p ∈ t.gP.toList, ple r.1 p ∧ ple p r.2) :=
 aLg N _ (by decide) h (by simpa using hN) (by simp)
theorem aEn (N : Nat) (hN : 3 < N) {t : aG} (h : tpw t) : T (iI N t) (pwi 131072) := by
 unfold iI
 refine T.bind (T.slc3 t.gP) fun s hs => ?_
 subst hs
 refine T.bind (aIG N hN h) fun r2 h2 => ?_
 simp only [aU]
 obtain ⟨a, b, _⟩ := h2
 refine T.ret ?_
 unfold pwi at *
 dsimp only
 rw [bQ (by omega) (by omega), bQ (by omega) (by omega), bQ (by omega) (by omega)]
 omega
def ax (p : aC) (i : Int) : Int := if i = 0 then p.gX else if i = 1 then p.gY else p.gZ
theorem aB7 (N : Nat) (p : aC) {i : Int} (h0 : 0 ≤ i) (h3 : i < 3) : T (kF N p i) (fun r => r = ax p i) := by
 have : i = 0 ∨ i = 1 ∨ i = 2 := by omega
 rcases this with rfl | rfl | rfl <;> exact ⟨_, rfl, rfl⟩
theorem ax_b {m : Int} {p : aC} (h : pwi m p) (i : Int) : -m ≤ ax p i ∧ ax p i ≤ m := by
 unfold pwi at h; unfold ax; split
 ·omega
 ·split <;> omega
def ord (n : Nat) (l : List Int) : Prop := ∀ x ∈ l, 0 ≤ x ∧ x < (n : Int)
def zH (l : List aG) : Prop := (∀ t ∈ l, tpw t) ∧ l.length ≤ 20
theorem T.tri {l : List aG} (h : zH l) {e : Int} (he : 0 ≤ e ∧ e < (l.length : Int)) : T (Go.UK.idx l e) tpw :=
 (T.idx he.1 he.2).mono fun t ht => h.1 t (List.mem_of_getElem? ht)
theorem aQQ (N : Nat) (hN : 3 < N) {l : List aG} (h : zH l) {a b i : Int} (ha : 0 ≤ a ∧ a < (l.length : Int)) (hb : 0 ≤ b ∧ b < (l.length : Int)) (hi : 0 ≤ i ∧ i < 3) : T (nY N a b l i) (fun _ => True) := by
 unfold nY
 refine T.bind (T.tri h ha) fun _ h1 => T.bind (aEn N hN h1) fun _ _ => T.bind (aB7 N _ hi.1 hi.2) fun _ _ => ?_
 refine T.bind (T.tri h hb) fun _ h1 => T.bind (aEn N hN h1) fun _ _ => T.bind (aB7 N _ hi.1 hi.2) fun _ _ => T.ret trivial
def aGV (a b : Int) : Prop := a ≠ b ∧ (-131072 ≤ a ∧ a ≤ 131072) ∧ (-131072 ≤ b ∧ b ≤ 131072)
theorem binT0 (N : Nat) {x a b : Int} (h : aGV a b) : T (uE N x a b) (fun _ => True) := by
 unfold uE
 simp only [aU]
 obtain ⟨h1, h2, h3⟩ := h
 rw [bQ (x := b - a) (by omega) (by omega)]
 exact T.eq (aC4 .i64 (by omega)) (T.ret trivial)
theorem binT (N : Nat) {x a b : Int} (h : aGV a b) (hx : a ≤ x ∧ x ≤ b) : T (uE N x a b) (fun r => 0 ≤ r ∧ r < 8) := by
 unfold uE
 simp only [aU]
 obtain ⟨h1, h2, h3⟩ := h
 rw [bQ (x := b - a) (by omega) (by omega), bQ (x := x - a) (by omega) (by omega), bQ (x := (x - a) * 8) (by omega) (by omega)]
 refine T.eq (aC4 .i64 (by omega)) (T.ret ?_)
 rw [Int.tdiv_eq_ediv_of_nonneg (by omega)]
 have q0 : 0 ≤ (x - a) * 8 / (b - a) := Int.ediv_nonneg (by omega) (by omega)
 have q1 : (x - a) * 8 / (b - a) ≤ (x - a) * 8 := Int.ediv_le_self _ (by omega)
 rw [show IntKind.i64.wrap ((x - a) * 8 / (b - a)) = (x - a) * 8 / (b - a) from bQ (by omega) (by omega), tS]
 omega
theorem aHX (N : Nat) (hN : 3 < N) {l : List aG} (h : zH l) {e a b c i : Int} (he : 0 ≤ e ∧ e < (l.length : Int)) (hab : aGV a b) (hi : 0 ≤ i ∧ i < 3) : T (fE N e l a b c i) (fun _ => True) := by
 unfold fE
 refine T.bind (T.tri h he) fun _ h1 => T.bind (aEn N hN h1) fun _ _ => T.bind (aB7 N _ hi.1 hi.2) fun _ _ => T.bind (binT0 N hab) fun _ _ => T.ret trivial
theorem aPw (N : Nat) (hN : 3 < N) {l : List aG} (h : zH l) {e e' a b c i : Int} (he : 0 ≤ e ∧ e < (l.length : Int)) (he' : 0 ≤ e' ∧ e' < (l.length : Int)) (hab : aGV a b) (hi : 0 ≤ i ∧ i < 3) : T (pD N e e' l a b c i) (fun _ => True) := by
 unfold pD
 refine T.bind (aHX N hN h he hab hi) fun _ _ => T.bind (aHX N hN h he' hab hi) fun _ _ => T.cond (fun _ => T.ret trivial) (fun _ => ?_)
 refine T.bind (aHX N hN h he' hab hi) fun _ _ => T.cond (fun _ => T.ret trivial) (fun _ => T.ret trivial)
theorem T.inRS {L lo n : Nat} {i : Int} (h1 : lo + n ≤ L) (h2 : 0 ≤ i) (h3 : i < (n : Int)) : T (wV L lo n i) (fun _ => True) := ⟨(), by unfold Go.UK.wV; rw [dt h1, dt h2, dt h3]; rfl, trivial⟩
theorem T.slcG {L lo0 n : Nat} {lo hi : Int} (h1 : lo0 + n ≤ L) (h2 : 0 ≤ lo) (h3 : lo ≤ hi) (h4 : hi ≤ (n : Int)) (h5 : lo = 0 ∨ lo < (n : Int)) : T (aHo L lo0 n lo hi) (fun _ => True) := ⟨(), by unfold Go.UK.aHo; rw [dt h1, dt h2, dt h3, dt h4, dt h5]; rfl, trivial⟩
theorem T.lenO {α : Type} {l : List α} {n : Nat} (h : l.length = n) : T (aAL l n) (fun _ => True) := ⟨(), by unfold Go.UK.aAL; rw [h, Nat.beq_refl]; rfl, trivial⟩
theorem T.setO {α : Type} {l : List α} {j : Nat} {e : α} (h : j < l.length) : T (aFS l j e) (fun r => r = l.set j e) := ⟨_, by unfold Go.UK.aFS; rw [show Nat.blt j l.length = Bool.true by rw [Nat.blt_eq]; exact h]; rfl, rfl⟩
theorem T.appG {α : Type} {b m : Nat} {l r : List α} (h : m ≤ l.length) (h' : (m + r.length) * b ≤ 140737488355328) : T (aJT b l m r) (fun x => x = uM l m r) := ⟨_, by unfold Go.UK.aJT; rw [dt h, show Nat.ble ((m + r.length) * b) 140737488355328 = Bool.true by rw [Nat.ble_eq]; exact h']; rfl, rfl⟩
theorem T.get0 {α : Type} {l : List α} {j : Nat} (h : j < l.length) : T (l[j]?) (fun e => e ∈ l) := ⟨l[j], List.getElem?_eq_getElem h, List.getElem_mem h⟩
theorem aEk {n : Nat} {l : List Int} {j : Nat} {e : Int} (h : ord n l) (he : 0 ≤ e ∧ e < (n : Int)) : ord n (l.set j e) := by
 intro x hx
 rcases List.mem_or_eq_of_mem_set hx with hx | rfl
 ·exact h x hx
 ·exact he
def okS (n L lo m : Nat) (s : List Int × Nat) : Prop := ord n s.1 ∧ s.1.length = L ∧ s.2 = m
theorem ia1 {a : Nat} (h : a < 900000) : I64 ((a : Int) + 1) = ((a + 1 : Nat) : Int) := hP (by omega)

theorem ins2A (N : Nat) (hN : 3 < N) {R : List aG} (hT : zH R) {L lo m : Nat} {a : Int} {i : Int} (hi : 0 ≤ i ∧ i < 3) (ha : 0 ≤ a) (hL : lo + m ≤ L) (hm : m ≤ 20) :
  ∀ (j k : Nat) (s : List Int), j < m → j < k → ord R.length s → s.length = L → T (bJ N a lo R i k s m (j : Int)) (okS R.length L lo m) := by
 intro j
 induction j with
 | zero =>
  intro k s hj hk ho hs
  obtain ⟨k, rfl⟩ : ∃ k', k = k' + 1 := ⟨k - 1, by omega⟩
  rw [bJ, df (by omega), cond_false]
  exact T.eq rfl (T.ret ⟨ho, hs, rfl⟩)
 | succ j ih =>
  intro k s hj hk ho hs
  obtain ⟨k, rfl⟩ : ∃ k', k = k' + 1 := ⟨k - 1, by omega⟩
  rw [bJ, show I64 (((j + 1 : Nat) : Int) - 1) = (j : Int) by rw [bQ (by omega) (by omega)]; omega]
  simp only [zO, Int.toNat_natCast]
  refine T.bind (P := fun _ => True) ?_ fun p9 _ => T.cond (fun _ => ?_) (fun _ => T.ret ⟨ho, hs, rfl⟩)
  ·refine T.cond (fun _ => ?_) (fun _ => T.ret trivial)
   refine T.bind (T.inRS (by omega) (by omega) (by omega)) fun _ _ => T.bind (T.get0 (by omega)) fun e11 h11 => T.bind (T.inRS (by omega) (by omega) (by omega)) fun _ _ => T.bind (T.get0 (by omega)) fun e13 h13 => ?_
   exact T.bind (aQQ N hN hT (ho _ h11) (ho _ h13) hi) fun _ _ => T.ret trivial
  ·refine T.bind (T.inRS (by omega) (by omega) (by omega)) fun _ _ => T.bind (T.get0 (by omega)) fun e16 h16 => T.bind (T.inRS (by omega) (by omega) (by omega)) fun _ _ => T.bind (T.get0 (by omega)) fun e18 h18 => ?_
   refine T.bind (T.inRS (by omega) (by omega) (by omega)) fun _ _ => T.bind (T.setO (by omega)) fun z20 h20 => T.bind (T.inRS (by omega) (by omega) (by omega)) fun _ _ => T.bind (T.setO (by rw [h20, List.length_set]; omega)) fun z22 h22 => ?_
   subst h22
   subst h20
   exact ih k _ (by omega) (by omega) (aEk (aEk ho (ho _ h16)) (ho _ h18)) (by simpa using hs)
theorem insA (N : Nat) (hN : 50 < N) {R : List aG} (hT : zH R) {L lo m : Nat} {a b : Nat} {i : Int} (hi : 0 ≤ i ∧ i < 3) (ha : a ≤ 20) (hb : b ≤ m) (hL : lo + m ≤ L) (hm : m ≤ 20) {s : List Int} (ho : ord R.length s) (hs : s.length = L) : T (bF N s lo m (a : Int) (b : Int) R i) (fun r => ord R.length r ∧ r.length = L) := by
 unfold bF
 have main : ∀ (k j : Nat) (s : List Int), b - j < k → j < 1000 → ord R.length s → s.length = L → T (bU N (b : Int) (a : Int) lo R i k s m (j : Int)) (fun r => ord R.length r ∧ r.length = L) := by
  intro k
  induction k with
  | zero => intro j s h; omega
  | succ k ih =>
   intro j s hj hj' ho hs
   rw [bU]
   refine T.cond (fun hc => ?_) (fun _ => T.ret ⟨ho, hs⟩)
   have hjb : j < b := by have := of_decide_eq_true hc; omega
   refine T.bind (ins2A N (by omega) hT hi (by omega) hL hm j N s (by omega) (by omega) ho hs) fun p5 h5 => ?_
   obtain ⟨q, m'⟩ := p5
   obtain ⟨o1, o2, o3⟩ := h5
   dsimp only at o1 o2 o3
   subst o3
   rw [hP (by omega)]
   exact ih (j + 1) q (by omega) (by omega) o1 o2
 by_cases h : True
 ·rw [ia1 (by omega)]
  exact T.bind (main N (a + 1) s (by omega) (by omega) ho hs) fun r h => T.ret h
 ·exact absurd trivial h
theorem aOR (N : Nat) (hN : 50 < N) {R : List aG} (hT : zH R) {L lo m : Nat} {i : Int} (hi : 0 ≤ i ∧ i < 3) (hL : lo + m ≤ L) (hm : m ≤ 20) {s : List Int} (ho : ord R.length s) (hs : s.length = L) : T (cE N s lo m R i) (fun r => ord R.length r ∧ r.length = L) := by
 unfold cE dS
 refine T.bind (P := fun r => ord R.length r ∧ r.length = L) ?_ fun r h => T.ret h
 obtain ⟨N, rfl⟩ : ∃ n, N = n + 2 := ⟨N - 2, by omega⟩
 have fin : ∀ (q : List Int) (a : Nat), a ≤ m → ord R.length q → q.length = L → T (Option.bind (bF (N + 2) q lo m (a : Int) (m : Int) R i) fun r8 => Option.bind (aAL r8 q.length) fun _ => Option.bind (cO (N + 2) (m : Int) (N + 2) 20) fun p10 => some r8) (fun r => ord R.length r ∧ r.length = L) := by
  intro q a ha ho hq
  refine T.bind (insA (N + 2) (by omega) hT hi (by omega) (Nat.le_refl _) hL hm ho hq) fun r8 h8 => T.bind (T.lenO (by rw [h8.2, hq])) fun _ _ => ?_
  rw [cO, df (by omega), cond_false]
  exact T.eq rfl (T.ret h8)
 by_cases h : m = 20
 ·rw [bV, dt (by omega), cond_true]
  have r1 := insA (N + 2) (by omega) hT hi (a := 0) (b := 20) (by omega) (by omega) hL hm ho hs
  obtain ⟨q, e, oq, lq⟩ := r1
  rw [show ((0 : Nat) : Int) = 0 from rfl, show ((20 : Nat) : Int) = 20 from rfl] at e
  refine T.eq (a := (q, m, 20)) ?_ (fin q 20 (by omega) oq lq)
  rw [e, Option.bind_some, show aAL q s.length = some () by unfold aAL; rw [lq, hs, Nat.beq_refl]; rfl, Option.bind_some]
  rw [bV, show I64 (20 + 20) = 40 by decide, df (by omega), cond_false]
 ·rw [bV, df (by omega), cond_false]
  exact T.eq rfl (fin s 0 (by omega) ho hs)


theorem ins2B (N : Nat) (hN : 3 < N) {R : List aG} (hT : zH R) {L lo m : Nat} {a : Int} {u v w i : Int} (hab : aGV u v) (hi : 0 ≤ i ∧ i < 3) (ha : 0 ≤ a) (hL : lo + m ≤ L) (hm : m ≤ 20) :
  ∀ (j k : Nat) (s : List Int), j < m → j < k → ord R.length s → s.length = L → T (bM N a lo R u v w i k s m (j : Int)) (okS R.length L lo m) := by
 intro j
 induction j with
 | zero =>
  intro k s hj hk ho hs
  obtain ⟨k, rfl⟩ : ∃ k', k = k' + 1 := ⟨k - 1, by omega⟩
  rw [bM, df (by omega), cond_false]
  exact T.eq rfl (T.ret ⟨ho, hs, rfl⟩)
 | succ j ih =>
  intro k s hj hk ho hs
  obtain ⟨k, rfl⟩ : ∃ k', k = k' + 1 := ⟨k - 1, by omega⟩
  rw [bM, show I64 (((j + 1 : Nat) : Int) - 1) = (j : Int) by rw [bQ (by omega) (by omega)]; omega]
  simp only [zO, Int.toNat_natCast]
  refine T.bind (P := fun _ => True) ?_ fun p9 _ => T.cond (fun _ => ?_) (fun _ => T.ret ⟨ho, hs, rfl⟩)
  ·refine T.cond (fun _ => ?_) (fun _ => T.ret trivial)
   refine T.bind (T.inRS (by omega) (by omega) (by omega)) fun _ _ => T.bind (T.get0 (by omega)) fun e11 h11 => T.bind (T.inRS (by omega) (by omega) (by omega)) fun _ _ => T.bind (T.get0 (by omega)) fun e13 h13 => ?_
   exact T.bind (aPw N hN hT (ho _ h11) (ho _ h13) hab hi) fun _ _ => T.ret trivial
  ·refine T.bind (T.inRS (by omega) (by omega) (by omega)) fun _ _ => T.bind (T.get0 (by omega)) fun e16 h16 => T.bind (T.inRS (by omega) (by omega) (by omega)) fun _ _ => T.bind (T.get0 (by omega)) fun e18 h18 => ?_
   refine T.bind (T.inRS (by omega) (by omega) (by omega)) fun _ _ => T.bind (T.setO (by omega)) fun z20 h20 => T.bind (T.inRS (by omega) (by omega) (by omega)) fun _ _ => T.bind (T.setO (by rw [h20, List.length_set]; omega)) fun z22 h22 => ?_
   subst h22
   subst h20
   exact ih k _ (by omega) (by omega) (aEk (aEk ho (ho _ h16)) (ho _ h18)) (by simpa using hs)
theorem insB (N : Nat) (hN : 50 < N) {R : List aG} (hT : zH R) {L lo m : Nat} {a b : Nat} {u v w i : Int} (hab : aGV u v) (hi : 0 ≤ i ∧ i < 3) (ha : a ≤ 20) (hb : b ≤ m) (hL : lo + m ≤ L) (hm : m ≤ 20) {s : List Int} (ho : ord R.length s) (hs : s.length = L) : T (bG N s lo m (a : Int) (b : Int) R u v w i) (fun r => ord R.length r ∧ r.length = L) := by
 unfold bG
 have main : ∀ (k j : Nat) (s : List Int), b - j < k → j < 1000 → ord R.length s → s.length = L → T (bW N (b : Int) (a : Int) lo R u v w i k s m (j : Int)) (fun r => ord R.length r ∧ r.length = L) := by
  intro k
  induction k with
  | zero => intro j s h; omega
  | succ k ih =>
   intro j s hj hj' ho hs
   rw [bW]
   refine T.cond (fun hc => ?_) (fun _ => T.ret ⟨ho, hs⟩)
   have hjb : j < b := by have := of_decide_eq_true hc; omega
   refine T.bind (ins2B N (by omega) hT hab hi (by omega) hL hm j N s (by omega) (by omega) ho hs) fun p5 h5 => ?_
   obtain ⟨q, m'⟩ := p5
   obtain ⟨o1, o2, o3⟩ := h5
   dsimp only at o1 o2 o3
   subst o3
   rw [hP (by omega)]
   exact ih (j + 1) q (by omega) (by omega) o1 o2
 by_cases h : True
 ·rw [ia1 (by omega)]
  exact T.bind (main N (a + 1) s (by omega) (by omega) ho hs) fun r h => T.ret h
 ·exact absurd trivial h
theorem aOh (N : Nat) (hN : 50 < N) {R : List aG} (hT : zH R) {L lo m : Nat} {u v w i : Int} (hab : aGV u v) (hi : 0 ≤ i ∧ i < 3) (hL : lo + m ≤ L) (hm : m ≤ 20) {s : List Int} (ho : ord R.length s) (hs : s.length = L) : T (cH N s lo m R u v w i) (fun r => ord R.length r ∧ r.length = L) := by
 unfold cH dY
 refine T.bind (P := fun r => ord R.length r ∧ r.length = L) ?_ fun r h => T.ret h
 obtain ⟨N, rfl⟩ : ∃ n, N = n + 2 := ⟨N - 2, by omega⟩
 have fin : ∀ (q : List Int) (a : Nat), a ≤ m → ord R.length q → q.length = L → T (Option.bind (bG (N + 2) q lo m (a : Int) (m : Int) R u v w i) fun r8 => Option.bind (aAL r8 q.length) fun _ => Option.bind (cR (N + 2) (m : Int) (N + 2) 20) fun p10 => some r8) (fun r => ord R.length r ∧ r.length = L) := by
  intro q a ha ho hq
  refine T.bind (insB (N + 2) (by omega) hT hab hi (by omega) (Nat.le_refl _) hL hm ho hq) fun r8 h8 => T.bind (T.lenO (by rw [h8.2, hq])) fun _ _ => ?_
  rw [cR, df (by omega), cond_false]
  exact T.eq rfl (T.ret h8)
 by_cases h : m = 20
 ·rw [bY, dt (by omega), cond_true]
  have r1 := insB (N + 2) (by omega) hT (w := w) hab hi (a := 0) (b := 20) (by omega) (by omega) hL hm ho hs
  obtain ⟨q, e, oq, lq⟩ := r1
  rw [show ((0 : Nat) : Int) = 0 from rfl, show ((20 : Nat) : Int) = 20 from rfl] at e
  refine T.eq (a := (q, m, 20)) ?_ (fin q 20 (by omega) oq lq)
  rw [e, Option.bind_some, show aAL q s.length = some () by unfold aAL; rw [lq, hs, Nat.beq_refl]; rfl, Option.bind_some]
  rw [bY, show I64 (20 + 20) = 40 by decide, df (by omega), cond_false]
 ·rw [bY, df (by omega), cond_false]
  exact T.eq rfl (fin s 0 (by omega) ho hs)

structure aHJ (R : List aG) (b : List Int) (lo m : Nat) : Prop where
 tris : zH R
 ord : ord R.length b
 len : lo + m ≤ b.length
 few : m ≤ 20
theorem aHJ.get {R : List aG} {b : List Int} {lo m : Nat} (h : aHJ R b lo m) {i : Nat} (hi : i < m) : T (b[xQ lo ((i : Int).toNat)]?) (fun e => 0 ≤ e ∧ e < (R.length : Int)) := by
 rw [zO, Int.toNat_natCast]
 have := h.len
 exact (T.get0 (by omega)).mono fun e he => h.ord e he
theorem aHJ.rs {R : List aG} {b : List Int} {lo m : Nat} (h : aHJ R b lo m) {i : Nat} (hi : i < m) : T (wV b.length lo m (i : Int)) (fun _ => True) := T.inRS h.len (by omega) (by omega)
theorem boxDT (N : Nat) (hN : 30 < N) {R : List aG} {b : List Int} {lo m : Nat} (h : aHJ R b lo m) : T (uN N b R lo m) (fun r => pwi 65536 r.1 ∧ pwi 65536 r.2) := by
 unfold uN
 have z : pwi 65536 (aC.mk 0 0 0) := by unfold pwi; dsimp only; omega
 have fw := h.few
 refine T.bind (T.loopG0 (n := m) (fun i (s : aC × aC) => pwi 65536 s.1 ∧ pwi 65536 s.2) (fun r => pwi 65536 r.1 ∧ pwi 65536 r.2) (F := fun k (s : aC × aC) i => nK N m b lo R k s.1 s.2 i) (fun k s i hi hs hk => ?_) (fun k s hs => ?_) (by omega) (s := (aC.mk 0 0 0, aC.mk 0 0 0)) ⟨z, z⟩) fun r hr => T.ret hr
 ·rw [nK, aU, dt (by omega), cond_true]
  refine T.bind (P := fun p => pwi 65536 p.1 ∧ pwi 65536 p.2.1) ?_ fun p6 h6 => by rw [hP (by omega)]; exact hk (_, _) h6
  refine T.bind (h.rs hi) fun _ _ => T.bind (h.get hi) fun e8 h8 => T.bind (T.tri h.tris h8) fun e9 h9 => T.bind (T.slc3 _) fun s10 h10 => ?_
  subst h10
  refine T.bind (aIG N (by omega) h9) fun r11 h11 => ?_
  refine T.cond (fun _ => T.ret ⟨h11.1, h11.2.1⟩) (fun _ => ?_)
  refine T.bind (aLg N _ (m := 65536) (by decide) (by intro p hp; simp at hp; rcases hp with rfl | rfl; exact hs.1; exact h11.1) (by simp; omega) (by simp)) fun r12 h12 => ?_
  refine T.bind (aLg N _ (m := 65536) (by decide) (by intro p hp; simp at hp; rcases hp with rfl | rfl; exact hs.2; exact h11.2.1) (by simp; omega) (by simp)) fun r13 h13 => T.ret ⟨h12.1, h13.2.1⟩
 ·rw [nK, aU, df (by omega), cond_false]; exact T.ret hs
def aCC (s : bA) : Prop := pwi 65536 s.glo ∧ pwi 65536 s.ghi
theorem aNt : aCC (bA.mk 0 (aC.mk 0 0 0) (aC.mk 0 0 0)) := by unfold aCC pwi; dsimp only; omega
theorem aMe (N : Nat) (hN : 10 < N) {s : bA} (hs : aCC s) (n : Int) {a b : aC} (ha : pwi 65536 a) (hb : pwi 65536 b) : T (mQ N s n a b) aCC := by
 unfold mQ
 refine T.cond (fun _ => T.ret hs) (fun _ => ?_)
 refine T.bind (P := fun p => pwi 65536 p.1 ∧ pwi 65536 p.2) ?_ fun p1 h1 => T.ret ⟨h1.1, h1.2⟩
 refine T.cond (fun _ => ?_) (fun _ => T.ret ⟨ha, hb⟩)
 refine T.bind (aLg N _ (m := 65536) (by decide) (by intro p hp; simp at hp; rcases hp with rfl | rfl; exact hs.1; exact ha) (by simp; omega) (by simp)) fun r12 h12 => ?_
 refine T.bind (aLg N _ (m := 65536) (by decide) (by intro p hp; simp at hp; rcases hp with rfl | rfl; exact hs.2; exact hb) (by simp; omega) (by simp)) fun r13 h13 => T.ret ⟨h12.1, h13.2.1⟩
theorem aPk (N : Nat) (s : bA) : T (nL N s) (fun _ => True) := by
 unfold nL
 refine T.cond (fun _ => T.ret trivial) (fun _ => T.bind (P := fun _ => True) (by unfold aAW; simp only [aU]; exact T.ret trivial) fun _ _ => T.ret trivial)
def midP (N : Nat) (R : List aG) (b : List Int) (lo m : Nat) (i u v : Int) : Prop := ∀ j, j < m → ∀ e, b[lo + j]? = some e → T (Option.bind (idx R e) fun t => iI N t) (fun p => u ≤ ax p i ∧ ax p i ≤ v)
theorem cutT (N : Nat) (hN : 30 < N) {R : List aG} {b : List Int} {lo m : Nat} (h : aHJ R b lo m) {i u v : Int} (hi : 0 ≤ i ∧ i < 3) (hab : aGV u v) (hm : midP N R b lo m i u v) : T (pZ N b R lo m i u v) (fun _ => True) := by
 unfold pZ
 have fw := h.few
 refine T.bind (P := fun p1 => ∀ s ∈ p1.toList, aCC s) ?_ fun p1 h1 => ?_
 ·refine T.loopG0 (n := m) (fun _ (s : Vector bA 8) => ∀ x ∈ s.toList, aCC x) _ (F := kH N m b lo R i u v) (fun k s j hj hs hk => ?_) (fun k s hs => ?_) (by omega) (by intro x hx; simp at hx; rw [hx]; exact aNt)
  ·rw [kH, aU, dt (by omega), cond_true]
   have hmj := hm j hj
   refine T.bind (h.rs hj) fun _ _ => ?_
   have hg := h.get hj
   obtain ⟨e6, ee6, he6⟩ := hg
   refine T.eq ee6 ?_
   rw [zO, Int.toNat_natCast] at ee6
   have hmid := hmj e6 ee6
   obtain ⟨t, et, ht⟩ := T.tri h.tris he6
   refine T.eq et (T.bind (T.slc3 _) fun s8 h8 => ?_)
   subst h8
   refine T.bind (aIG N (by omega) ht) fun r9 h9 => T.eq et ?_
   rw [et, Option.bind_some] at hmid
   obtain ⟨q, eq1, hq⟩ := hmid
   refine T.eq eq1 (T.bind (aB7 N q hi.1 hi.2) fun r12 h12 => ?_)
   subst h12
   refine T.bind (binT N hab hq) fun r13 h13 => T.bind (T.inRO h13.1 (by omega)) fun _ _ => ?_
   have hv : r13.toNat < 8 := by omega
   refine T.eq (aHC s _ hv) (T.bind (aMe N (by omega) (hs _ (vmem s hv)) 1 h9.1 h9.2.1) fun r16 h16 => T.bind (T.inRO h13.1 (by omega)) fun _ _ => T.eq (aHC s _ hv) ?_)
   rw [hP (by omega)]
   refine hk _ fun x hx => ?_
   rw [Vector.toList_setIfInBounds] at hx
   rcases List.mem_or_eq_of_mem_set hx with hx | rfl
   ·exact hs x hx
   ·exact h16
  ·rw [kH, aU, df (by omega), cond_false]; exact T.ret hs
 refine T.bind (P := fun _ => True) ?_ fun p19 _ => T.ret trivial
 have main : ∀ (k j : Nat) (a c : Int), 8 - j < k → j ≤ 8 → T (mO N p1 k a c (j : Int)) (fun _ => True) := by
  intro k
  induction k with
  | zero => intro j a c h; omega
  | succ k ih =>
   intro j a c hk hj
   rw [mO]
   refine T.cond (fun hc => ?_) (fun _ => T.ret trivial)
   have hj8 : j < 8 := by have := of_decide_eq_true hc; omega
   refine T.bind (P := fun _ => True) ?_ fun p23 _ => by rw [hP (by omega)]; exact ih (j + 1) _ _ (by omega) (by omega)
   refine T.bind (P := fun _ => True) ?_ fun p24 _ => ?_
   ·refine (T.loopG0 (n := 8) (fun _ (s : bA × bA) => aCC s.1 ∧ aCC s.2) (fun _ => True) (F := fun k (s : bA × bA) x => kI N p1 (j : Int) k s.1 s.2 x) (fun k s x hx hs hk => ?_) (fun k s hs => ?_) (by omega) (s := (bA.mk 0 (aC.mk 0 0 0) (aC.mk 0 0 0), bA.mk 0 (aC.mk 0 0 0) (aC.mk 0 0 0))) ⟨aNt, aNt⟩)
    ·rw [kI, dt (by omega), cond_true]
     refine T.bind (P := fun p => aCC p.1 ∧ aCC p.2.1) ?_ fun p28 h28 => by rw [hP (by omega)]; exact hk (_, _) h28
     refine T.bind (T.idx (by omega) (by simp; omega)) fun e29 h29 => ?_
     have he := h1 _ (List.mem_of_getElem? h29)
     refine T.cond (fun _ => T.bind (aMe N (by omega) hs.1 _ he.1 he.2) fun r h => T.ret ⟨h, hs.2⟩) (fun _ => T.bind (aMe N (by omega) hs.2 _ he.1 he.2) fun r h => T.ret ⟨hs.1, h⟩)
    ·rw [kI, df (by omega), cond_false]; exact T.ret trivial
   refine T.bind (aPk N _) fun _ _ => T.letO fun _ _ => T.bind (aPk N _) fun _ _ => ?_
   simp only [aU]
   exact T.cond (fun _ => T.ret trivial) (fun _ => T.ret trivial)
 exact main N 1 _ _ (by omega) (by decide)
theorem aPL (N : Nat) (hN : 30 < N) {R : List aG} {b : List Int} {lo m : Nat} (h : aHJ R b lo m) {i u v w : Int} (hi : 0 ≤ i ∧ i < 3) (hab : aGV u v) : T (cP N b lo m R u v w i) (fun r => r < (m : Int) ∧ r ≤ 20) := by
 unfold cP
 have fw := h.few
 by_cases hm : m = 0
 ·subst hm
  obtain ⟨N, rfl⟩ : ∃ n, N = n + 1 := ⟨N - 1, by omega⟩
  rw [bH, aU, df (by omega), cond_false]
  exact T.eq rfl (T.ret ⟨by decide, by decide⟩)
 refine T.bind (T.loopG0 (n := m) (fun _ _ => True) (fun o => match o with | .inl _ => True | .inr r => r < (m : Int) ∧ r ≤ 20) (F := fun k (_ : Unit) x => bH N m b lo R u v w i k x) (fun k _ x hx _ hk => ?_) (fun k _ _ => ?_) (by omega) (s := ()) trivial) fun o ho => ?_
 ·rw [bH, aU, dt (by omega), cond_true]
  refine T.bind (h.rs hx) fun _ _ => T.bind (h.get hx) fun e he => T.bind (aHX N (by omega) h.tris he hab hi) fun r _ => T.cond (fun _ => T.ret (show (x : Int) < (m : Int) ∧ (x : Int) ≤ 20 by omega)) (fun _ => by rw [hP (by omega)]; exact hk () trivial)
 ·rw [bH, aU, df (by omega), cond_false]; exact T.ret trivial
 ·cases o with
  | inl _ => exact T.ret ⟨by omega, by decide⟩
  | inr r => exact T.ret ho
theorem aNh {p q : aC} (h : ple p q) (i : Int) : ax p i ≤ ax q i := by
 obtain ⟨a, b, c⟩ := h
 unfold ax; split
 ·exact a
 ·split
  ·exact b
  ·exact c
theorem partT (N : Nat) (hN : 50 < N) {R : List aG} {b : List Int} {lo m : Nat} (h : aHJ R b lo m) (d : Int) : T (rY N b R lo m d) (fun r => ord R.length r.1 ∧ r.1.length = b.length ∧ (r.2 > 0 → r.2 < (m : Int))) := by
 unfold rY
 have fw := h.few
 rw [aU]
 refine T.cond (fun _ => T.ret ⟨h.ord, rfl, fun h => absurd h (show ¬ (0 : Int) > 0 by decide)⟩) (fun hc => ?_)
 have hm4 := of_decide_eq_false hc
 refine T.bind (P := fun p2 => p2.length = m ∧ (∀ p ∈ p2, pwi 131072 p) ∧ ∀ j, j < m → ∀ e, b[lo + j]? = some e → T (Option.bind (idx R e) fun t => iI N t) (fun p => p ∈ p2)) ?_ fun p2 h2 => ?_
 ·refine T.loopG0 (n := m) (fun x (s : List aC) => s.length = x ∧ (∀ p ∈ s, pwi 131072 p) ∧ ∀ j, j < x → ∀ e, b[lo + j]? = some e → T (Option.bind (idx R e) fun t => iI N t) (fun p => p ∈ s)) _ (F := lA N m b lo R) (fun k s x hx hs hk => ?_) (fun k s hs => ?_) (by omega) ⟨rfl, fun p h => absurd h (by simp), fun j h => absurd h (by omega)⟩
  ·rw [lA, aU, dt (by omega), cond_true]
   refine T.bind (h.rs hx) fun _ _ => ?_
   obtain ⟨e, ee, he⟩ := h.get hx
   refine T.eq ee ?_
   rw [zO, Int.toNat_natCast] at ee
   obtain ⟨t, et, ht⟩ := T.tri h.tris he
   refine T.eq et ?_
   obtain ⟨q, eq1, hq⟩ := aEn N (by omega) ht
   refine T.eq eq1 (T.eq (qS (by simp; omega)) ?_)
   rw [hP (by omega)]
   refine hk _ ⟨by simp; omega, ?_, ?_⟩
   ·intro p hp
    rw [List.mem_append, List.mem_singleton] at hp
    rcases hp with hp | rfl
    ·exact hs.2.1 p hp
    ·exact hq
   ·intro j hj e' he'
    by_cases ej : j = x
    ·subst ej
     obtain rfl := lV ee he'
     rw [et, Option.bind_some]
     exact ⟨q, eq1, by simp⟩
    ·exact (hs.2.2 j (by omega) e' he').mono fun p hp => by rw [List.mem_append]; exact Or.inl hp
  ·rw [lA, aU, df (by omega), cond_false]; exact T.ret hs
 refine T.bind (aLg N p2 (m := 131072) (by decide) h2.2.1 (by omega) (by omega)) fun r11 h11 => ?_
 refine T.bind (P := fun i => 0 ≤ i ∧ i < 3) ?_ fun i hi => ?_
 ·have main : ∀ (k j : Nat) (a : Int), 3 - j < k → j ≤ 3 → (0 ≤ a ∧ a < 3) → T (nT N r11 k a (j : Int)) (fun i => 0 ≤ i ∧ i < 3) := by
   intro k
   induction k with
   | zero => intro j a h; omega
   | succ k ih =>
    intro j a hk hj ha
    rw [nT]
    refine T.cond (fun hc => ?_) (fun _ => T.ret ha)
    have hj3 : j < 3 := by have := of_decide_eq_true hc; omega
    refine T.bind (P := fun i => 0 ≤ i ∧ i < 3) ?_ fun p h => by rw [hP (by omega)]; exact ih (j + 1) _ (by omega) (by omega) h
    refine T.bind (aB7 N _ (by omega) (by omega)) fun _ _ => T.bind (aB7 N _ (by omega) (by omega)) fun _ _ => T.bind (aB7 N _ ha.1 ha.2) fun _ _ => T.bind (aB7 N _ ha.1 ha.2) fun _ _ => ?_
    rw [aU]
    exact T.cond (fun _ => T.ret ⟨by omega, by omega⟩) (fun _ => T.ret ha)
  exact main N 1 0 (by omega) (by decide) (by decide)
 refine T.bind (aB7 N _ hi.1 hi.2) fun u hu => T.bind (aB7 N _ hi.1 hi.2) fun v hv => ?_
 refine T.cond (fun _ => T.ret ⟨h.ord, rfl, fun h => absurd h (show ¬ (0 : Int) > 0 by decide)⟩) (fun hc2 => ?_)
 have hab : aGV u v := ⟨by simpa using hc2, by rw [hu]; exact ax_b h11.1 i, by rw [hv]; exact ax_b h11.2.1 i⟩
 refine T.cond (fun _ => ?_) (fun _ => ?_)
 ·refine T.bind (aOR N hN h.tris hi h.len fw h.ord rfl) fun r23 h23 => T.bind (T.lenO h23.2) fun _ _ => ?_
  rw [aU]
  refine T.ret ⟨h23.1, h23.2, fun _ => ?_⟩
  show I64 (Int.tdiv (m : Int) 2) < (m : Int)
  rw [Int.tdiv_eq_ediv_of_nonneg (by omega), bQ (by omega) (by omega)]
  omega
 ·refine T.bind (cutT N (by omega) h hi hab ?_) fun w _ => ?_
  ·intro j hj e he
   refine (h2.2.2 j hj e he).mono fun p hp => ?_
   have := h11.2.2 p hp
   rw [hu, hv]
   exact ⟨aNh this.1 i, aNh this.2 i⟩
  refine T.bind (aOh N hN h.tris (w := w) hab hi h.len fw h.ord rfl) fun r27 h27 => T.bind (T.lenO h27.2) fun _ _ => ?_
  refine T.bind (aPL N (by omega) (b := r27) (lo := lo) (m := m) ⟨h.tris, h27.1, by rw [h27.2]; exact h.len, fw⟩ (w := w) hi hab) fun r29 h29 => T.ret ⟨h27.1, h27.2, fun _ => h29.1⟩
def aJW (n len i : Nat) (d : bE) : Prop := (0 ≤ d.gB8 → ((i : Int) < d.gB8 ∧ d.gB8 < (len : Int)) ∧ (i : Int) < d.gB6 ∧ d.gB6 < (len : Int)) ∧ (d.gB8 < 0 → 0 ≤ d.gC7 ∧ 0 ≤ d.gD4 ∧ d.gC7 + d.gD4 ≤ (n : Int))
def aEB (n len : Nat) (t : bB) : Prop := (0 ≤ t.gA9 ∧ t.gA9 < (len : Int)) ∧ 0 ≤ t.gB ∧ 1 ≤ t.gA1 ∧ t.gB + t.gA1 ≤ (n : Int)
def yG (l : List bB) : Int := (l.map fun t => 2 * t.gA1 - 1).sum
def aBH (l : List bB) : Int := (l.map fun t => 2 * t.gA1 - 2).sum
theorem aDf (a b : List bB) : yG (a ++ b) = yG a + yG b := by unfold yG; rw [List.map_append, List.sum_append]
theorem aGp (a b : List bB) : aBH (a ++ b) = aBH a + aBH b := by unfold aBH; rw [List.map_append, List.sum_append]
theorem aFB {n len : Nat} {l : List bB} (h : ∀ t ∈ l, aEB n len t) : (l.length : Int) ≤ yG l := by
 induction l with
 | nil => exact Int.le_refl _
 | cons t l ih =>
  have h1 := ih fun t ht => h t (List.mem_cons_of_mem _ ht)
  have h2 := h t (List.mem_cons_self ..)
  obtain ⟨_, _, h3, _⟩ := h2
  show ((l.length + 1 : Nat) : Int) ≤ (2 * t.gA1 - 1) + yG l
  omega
theorem aNL {n len : Nat} {l : List bB} (h : ∀ t ∈ l, aEB n len t) : 0 ≤ aBH l := by
 induction l with
 | nil => exact Int.le_refl _
 | cons t l ih =>
  have h1 := ih fun t ht => h t (List.mem_cons_of_mem _ ht)
  have h2 := h t (List.mem_cons_self ..)
  obtain ⟨_, _, h3, _⟩ := h2
  show 0 ≤ (2 * t.gA1 - 2) + aBH l
  omega
structure Bld (R : List aG) (o : List Int) (d : List bE) (l : List bB) : Prop where
 tris : zH R
 ord : ord R.length o
 len : o.length = R.length
 todo : ∀ t ∈ l, aEB R.length d.length t
 good : ∀ i, (h : i < d.length) → (∃ t ∈ l, t.gA9 = (i : Int)) ∨ aJW R.length d.length i d[i]
 room : (d.length : Int) + aBH l ≤ 39
def aNf (n : Nat) (b : bI) : Prop := ord n b.gE1 ∧ b.gE1.length = n ∧ b.gC4.length ≤ 39 ∧ ∀ i, (h : i < b.gC4.length) → aJW n b.gC4.length i b.gC4[i]
theorem aKb {n len len' i : Nat} {d : bE} (h : aJW n len i d) (hl : len ≤ len') : aJW n len' i d := by
 unfold aJW at *
 refine ⟨fun h0 => ?_, h.2⟩
 have := h.1 h0
 omega
theorem aJf {n len len' : Nat} {t : bB} (h : aEB n len t) (hl : len ≤ len') : aEB n len' t := by unfold aEB at *; omega
theorem aLW {α : Type} (l : List α) (m : Nat) (r : List α) (h : m ≤ l.length) : (uM l m r).take (m + r.length) = l.take m ++ r := by
 unfold uM
 rw [List.take_append_of_le_length (by rw [List.length_append, List.length_take]; omega)]
 exact List.take_of_length_le (by rw [List.length_append, List.length_take]; omega)
theorem aOr {α : Type} (l : List α) (m : Nat) (r : List α) (h : m ≤ l.length) : m + r.length ≤ (uM l m r).length := by rw [aJY h]; omega
theorem aGP {α : Type} {l : List α} {m : Nat} {e : α} (h : l[m]? = some e) : l.take (m + 1) = l.take m ++ [e] := by
 rw [List.take_succ, h]; rfl
theorem Bld.leaf {R : List aG} {o o' : List Int} {d : List bE} {l : List bB} {t : bB} {x : bE} (h : Bld R o d (l ++ [t])) (ho : Go.UK.ord R.length o') (hl : o'.length = o.length) (hx : x.gB8 < 0) (hf : x.gC7 = t.gB) (hc : x.gD4 = t.gA1) : Bld R o' (d.set t.gA9.toNat x) l := by
 have ht := h.todo t (by simp)
 refine ⟨h.tris, ho, hl.trans h.len, fun u hu => by rw [List.length_set]; exact h.todo u (by simp [hu]), fun i hi => ?_, ?_⟩
 ·rw [List.length_set] at hi ⊢
  by_cases e : i = t.gA9.toNat
  ·subst e
   right
   rw [List.getElem_set_self]
   obtain ⟨_, a, b, c⟩ := ht
   exact ⟨fun h => by omega, fun _ => by rw [hf, hc]; omega⟩
  ·rw [List.getElem_set_ne (by omega)]
   rcases h.good i hi with ⟨u, hu, e'⟩ | g
   ·rw [List.mem_append, List.mem_singleton] at hu
    rcases hu with hu | rfl
    ·exact Or.inl ⟨u, hu, e'⟩
    ·omega
   ·exact Or.inr g
 ·rw [List.length_set]
  have r := h.room
  rw [aGp] at r
  have : aBH [t] = 2 * t.gA1 - 2 + 0 := rfl
  obtain ⟨_, _, b, _⟩ := ht
  omega
theorem Bld.inner {R : List aG} {o o' : List Int} {d : List bE} {l : List bB} {t u v : bB} {x : bE} {e1 e2 : bE} {c : Int} (h : Bld R o d (l ++ [t])) (ho : Go.UK.ord R.length o') (hl : o'.length = o.length) (hx : x.gB8 = (d.length : Int)) (hy : x.gB6 = (d.length : Int) + 1) (hc : 0 < c ∧ c < t.gA1)
  (hu : u.gA9 = (d.length : Int) + 1 ∧ u.gB = t.gB + c ∧ u.gA1 = t.gA1 - c) (hv : v.gA9 = (d.length : Int) ∧ v.gB = t.gB ∧ v.gA1 = c) : Bld R o' ((d ++ [e1, e2]).set t.gA9.toNat x) (l ++ [u, v]) := by
 have ht := h.todo t (by simp)
 have dl : ((d ++ [e1, e2]).set t.gA9.toNat x).length = d.length + 2 := by rw [List.length_set, List.length_append]; rfl
 refine ⟨h.tris, ho, hl.trans h.len, fun w hw => ?_, fun i hi => ?_, ?_⟩
 ·rw [dl]
  rw [List.mem_append] at hw
  rcases hw with hw | hw
  ·exact aJf (h.todo w (by simp [hw])) (by omega)
  ·obtain ⟨_, a, b, c'⟩ := ht
   simp at hw
   rcases hw with rfl | rfl
   ·unfold aEB; omega
   ·unfold aEB; omega
 ·simp only [dl]
  rw [dl] at hi
  by_cases e : i = t.gA9.toNat
  ·subst e
   right
   rw [List.getElem_set_self]
   obtain ⟨⟨a1, a2⟩, a, b, c⟩ := ht
   exact ⟨fun _ => by rw [hx, hy]; omega, fun h => by omega⟩
  ·rw [List.getElem_set_ne (by omega)]
   by_cases hd : i < d.length
   ·rcases h.good i hd with ⟨w, hw, e'⟩ | g
    ·rw [List.mem_append, List.mem_singleton] at hw
     rcases hw with hw | rfl
     ·exact Or.inl ⟨w, by rw [List.mem_append]; exact Or.inl hw, e'⟩
     ·omega
    ·right
     rw [List.getElem_append_left hd]
     exact aKb g (by omega)
   ·left
    have : i = d.length ∨ i = d.length + 1 := by omega
    rcases this with rfl | rfl
    ·exact ⟨v, by simp, hv.1⟩
    ·exact ⟨u, by simp, by rw [hu.1]; omega⟩
 ·rw [dl]
  have r := h.room
  rw [aGp] at r ⊢
  have e1 : aBH [t] = 2 * t.gA1 - 2 + 0 := rfl
  have e2 : aBH [u, v] = 2 * u.gA1 - 2 + (2 * v.gA1 - 2 + 0) := rfl
  omega
theorem aOP (N : Nat) (hN : 100 < N) {R : List aG} : ∀ (k : Nat) (o : List Int) (d : List bE) (s : List bB) (m : Nat), m ≤ s.length → Bld R o d (s.take m) → yG (s.take m) < (k : Int) → yG (s.take m) ≤ 100 →
  T (pC N R k o d s m) (fun r => Bld R r.1 r.2.1 []) := by
 intro k
 induction k with
 | zero =>
  intro o d s m hm h hw
  have := aFB h.todo
  omega
 | succ k ih =>
  intro o d s m hm h hw hw'
  rw [pC, aU]
  have lenT : (s.take m).length = m := by rw [List.length_take]; omega
  have wl := aFB h.todo
  rw [lenT] at wl
  refine T.cond (fun hc => ?_) (fun hc => ?_)
  ·obtain ⟨m, rfl⟩ : ∃ m', m = m' + 1 := ⟨m - 1, by have := of_decide_eq_true hc; omega⟩
   have im : I64 (((m + 1 : Nat) : Int) - 1) = (m : Int) := by rw [bQ (by omega) (by omega)]; omega
   simp only [aU, im, Int.toNat_natCast]
   obtain ⟨t, et⟩ : ∃ t, s[m]? = some t := ⟨_, List.getElem?_eq_getElem (by omega)⟩
   have hs := aGP et
   rw [hs] at h hw hw'
   have ht := h.todo t (by simp)
   obtain ⟨⟨tn1, tn2⟩, t1, t2, t3⟩ := ht
   have n20 := h.tris.2
   have ol := h.len
   have rm := h.room
   have rg := aNL h.todo
   rw [aDf, show yG [t] = 2 * t.gA1 - 1 + 0 from rfl] at hw hw'
   have wl2 := aFB (l := s.take m) fun u hu => h.todo u (by simp [hu])
   rw [show (s.take m).length = m by rw [List.length_take]; omega] at wl2
   refine T.bind (T.inRS (by omega) (by omega) (by omega)) fun _ _ => T.eq et (T.bind (T.slcG (by omega) (by omega) (by omega) (by omega) (Or.inl rfl)) fun _ _ => ?_)
   have ifc : I64 (t.gB + t.gA1) = t.gB + t.gA1 := bQ (by omega) (by omega)
   rw [ifc]
   refine T.bind (T.slcG (by omega) t1 (by omega) (by omega) (by omega)) fun _ _ => ?_
   have hp : aHJ R o t.gB.toNat ((t.gB + t.gA1).toNat - t.gB.toNat) := ⟨h.tris, h.ord, by omega, by omega⟩
   refine T.bind (boxDT N (by omega) hp) fun r30 _ => ?_
   have step : ∀ (o' : List Int) (d' : List bE) (s' : List bB) (x : bE) (m' : Nat), m' ≤ s'.length → t.gA9 < (d'.length : Int) → Bld R o' (d'.set t.gA9.toNat x) (s'.take m') → yG (s'.take m') < (k : Int) → yG (s'.take m') ≤ 100 →
     T (Option.bind (eK t.gA9 d'.length) fun _ => Option.bind (aFS d' t.gA9.toNat x) fun z41 => pC N R k o' z41 s' m') (fun r => Bld R r.1 r.2.1 []) := by
    intro o' d' s' x m' h1 h2 h3 h4 h5
    refine T.bind (T.inRO tn1 h2) fun _ _ => T.bind (T.setO (by omega)) fun z hz => ?_
    subst hz
    exact ih _ _ _ _ h1 h3 h4 h5
   refine T.bind (P := fun p => p.2.2.2.2 ≤ p.2.2.1.length ∧ t.gA9 < (p.2.1.length : Int) ∧ Bld R p.1 (p.2.1.set t.gA9.toNat p.2.2.2.1) (p.2.2.1.take p.2.2.2.2) ∧ yG (p.2.2.1.take p.2.2.2.2) < (k : Int) ∧ yG (p.2.2.1.take p.2.2.2.2) ≤ 100) ?_ fun p31 h31 => step _ _ _ _ _ h31.1 h31.2.1 h31.2.2.1 h31.2.2.2.1 h31.2.2.2.2
   refine T.bind (partT N (by omega) hp t.gD1) fun r32 h32 => T.bind (T.lenO h32.2.1) fun _ _ => ?_
   refine T.cond (fun hc => ?_) (fun _ => ?_)
   ·have c0 := of_decide_eq_true hc
    have c1 := h32.2.2 c0
    have i1 : I64 ((d.length : Int) + 1) = (d.length : Int) + 1 := bQ (by omega) (by omega)
    have i2 : I64 (t.gB + r32.2) = t.gB + r32.2 := bQ (by omega) (by omega)
    have i3 : I64 (t.gA1 - r32.2) = t.gA1 - r32.2 := bQ (by omega) (by omega)
    rw [i1, i2, i3]
    refine T.eq (qS (by simp; omega)) (T.bind (T.appG (by omega) (show (m + 2) * 32 ≤ 140737488355328 by omega)) fun z39 h39 => T.ret ?_)
    subst h39
    have tk : ∀ a b : bB, (uM s m [a, b]).take (m + 2) = s.take m ++ [a, b] := fun a b => aLW s m [a, b] (by omega)
    dsimp only
    refine ⟨aOr s m [_, _] (by omega), by rw [List.length_append]; simp; omega, ?_, ?_, ?_⟩
    ·rw [tk]
     exact h.inner (c := r32.2) h32.1 h32.2.1 rfl rfl ⟨c0, by omega⟩ ⟨rfl, rfl, rfl⟩ ⟨rfl, rfl, rfl⟩
    ·rw [tk, aDf]
     show yG (s.take m) + (2 * (t.gA1 - r32.2) - 1 + (2 * r32.2 - 1 + 0)) < (k : Int)
     omega
    ·rw [tk, aDf]
     show yG (s.take m) + (2 * (t.gA1 - r32.2) - 1 + (2 * r32.2 - 1 + 0)) ≤ 100
     omega
   ·refine T.ret ⟨by dsimp only; omega, tn2, ?_, by dsimp only; omega, by dsimp only; omega⟩
    exact h.leaf h32.1 h32.2.1 (show (-1 : Int) < 0 by decide) rfl rfl
  ·have : m = 0 := by have := of_decide_eq_false hc; omega
   subst this
   exact T.ret h
theorem aM4 (N : Nat) (hN : 10 < N) {t : aG} (h : tpw t) : T (wL N t) (fun r => pwi 65536 r.1 ∧ pwi 65536 r.2) := by
 unfold wL
 refine T.bind (P := fun r => pwi 65536 r.1 ∧ pwi 65536 r.2) ?_ fun _ h => T.ret h
 have z : pwi 65536 (aC.mk 0 0 0) := by unfold pwi; dsimp only; omega
 refine T.loopG0 (n := 3) (fun _ (s : aC × aC) => pwi 65536 s.1 ∧ pwi 65536 s.2) _ (F := fun k (s : aC × aC) i => oZ N t k s.1 s.2 i) (fun k s i hi hs hk => ?_) (fun k s hs => ?_) (by omega) (s := (aC.mk 0 0 0, aC.mk 0 0 0)) ⟨z, z⟩
 ·rw [oZ, aU, dt (by omega), cond_true]
  refine T.bind (T.inRO (by omega) (by omega)) fun _ _ => T.eq (aHC t.gP i hi) ?_
  have he := h _ (vmem t.gP hi)
  generalize t.gP[i] = e at *
  refine T.bind (P := fun p => pwi 65536 p.1 ∧ pwi 65536 p.2) (T.cond (fun _ => T.ret ⟨he, he⟩) (fun _ => T.ret hs)) fun p hp => ?_
  rw [hP (by omega)]
  refine hk (_, _) ⟨?_, ?_⟩
  ·unfold pwi at *; simp only [tS]; omega
  ·unfold pwi at *; simp only [rG]; omega
 ·rw [oZ, aU, df (by omega), cond_false]; exact T.ret hs
theorem aQs (N : Nat) (hN : 100 < N) {R : List aG} (hR : zH R) : T (wI N R) (fun r => r.2 = 0 ∧ aNf R.length r.1) := by
 unfold wI
 have n20 := hR.2
 rw [aU]
 refine T.cond (fun hc => absurd (of_decide_eq_true hc) (by omega)) (fun _ => ?_)
 refine T.bind (T.loopG0 (n := R.length) (fun _ _ => True) (fun o => match o with | .inl _ => True | .inr r => False) (F := fun k (_ : Unit) i => oW N R k i) (fun k _ i hi _ hk => ?_) (fun k _ _ => ?_) (by omega) (s := ()) trivial) fun o ho => ?_
 ·rw [oW, aU, dt (by omega), cond_true]
  refine T.bind (T.tri hR ⟨by omega, by omega⟩) fun _ ht => T.eq (a := ()) (by decide) (T.bind (aM4 N (by omega) ht) fun r7 h7 => T.bind (P := fun p => p = false) ?_ fun p8 h8 => ?_)
  ·obtain ⟨g1, g2⟩ := h7
   unfold pwi at g1 g2
   simp only [aU, tS, rG]
   rw [df (show ¬ min (min r7.1.gX r7.1.gY) r7.1.gZ < -1048576 by omega), df (show ¬ max (max r7.2.gX r7.2.gY) r7.2.gZ > 1048576 by omega)]
   exact ⟨_, rfl, rfl⟩
  ·rw [h8, cond_false, hP (by omega)]; exact hk () trivial
 ·rw [oW, aU, df (by omega), cond_false]; exact T.ret trivial
 cases o with
 | inr r => exact ho.elim
 | inl _ =>
 show T (aR _ _) _
 rw [aU]
 refine T.cond (fun hc => T.ret ⟨rfl, ?_⟩) (fun hc => ?_)
 ·have : R.length = 0 := by have h0 : (R.length : Int) = 0 := (by simpa using hc); omega
  rw [this]
  exact ⟨fun x h => absurd h (by simp), rfl, by simp, fun i h => absurd h (by simp)⟩
 ·have n0 : R.length ≠ 0 := by intro e; rw [e] at hc; cases hc
  refine T.bind (T.loopG0 (n := R.length) (fun i (s : List Int) => s.length = i ∧ ord R.length s) (fun r => r.length = R.length ∧ ord R.length r) (F := oS N R) (fun k s i hi hs hk => ?_) (fun k s hs => ?_) (by omega) (s := []) ⟨rfl, fun x h => absurd h (by simp)⟩) fun p12 h12 => ?_
  ·rw [oS, aU, dt (by omega), cond_true]
   refine T.eq (qS (by simp; omega)) ?_
   rw [hP (by omega)]
   refine hk _ ⟨by simp; omega, fun x hx => ?_⟩
   rw [List.mem_append, List.mem_singleton] at hx
   rcases hx with hx | rfl
   ·exact hs.2 x hx
   ·omega
  ·rw [oS, aU, df (by omega), cond_false]; exact T.ret hs
  ·refine T.bind (aOP N hN N p12 _ _ 1 (Nat.le_refl _) ⟨hR, h12.2, h12.1, ?_, ?_, ?_⟩ ?_ ?_) fun p17 h17 => T.ret ⟨rfl, ?_⟩
   ·intro t ht
    have : t = bB.mk 0 0 (R.length : Int) 1 := by simpa using ht
    subst this
    exact ⟨⟨Int.le_refl _, by simp⟩, Int.le_refl _, by show 1 ≤ (R.length : Int); omega, by show 0 + (R.length : Int) ≤ (R.length : Int); omega⟩
   ·intro i hi
    have : i = 0 := by simpa using hi
    subst this
    exact Or.inl ⟨bB.mk 0 0 (R.length : Int) 1, by simp, rfl⟩
   ·show (1 : Int) + (2 * (R.length : Int) - 2 + 0) ≤ 39
    omega
   ·show 2 * (R.length : Int) - 1 + 0 < (N : Int)
    omega
   ·show 2 * (R.length : Int) - 1 + 0 ≤ 100
    omega
   ·refine ⟨h17.ord, h17.len, ?_, fun i hi => ?_⟩
    ·have := h17.room
     have e : aBH ([] : List bB) = 0 := rfl
     show p17.2.1.length ≤ 39
     omega
    ·rcases h17.good i hi with ⟨t, ht, _⟩ | g
     ·exact absurd ht (by simp)
     ·exact g
theorem aNE (N : Nat) (hN : 100 < N) {R : List aG} (hR : zH R) : T (tU N R) (fun q => match q with | .inl e => False | .inr r => r.2.2 = 0 ∧ r.2.1 = aM.mk r.1 true R 0 ∧ aNf R.length r.1) := by
 unfold tU
 refine T.bind (aQs N hN hR) fun r1 h1 => ?_
 refine T.cond (fun hc => by rw [h1.1] at hc; cases hc) (fun hc => ?_)
 have n20 := hR.2
 unfold fZ
 refine T.eq (a := R) (by rw [qS (by simp; omega)]; simp) (T.ret ⟨rfl, rfl, h1.2⟩)
structure Rdy (b : List (List aD)) (s : aE) (v : aI) (sky : aB) : Prop where
 tri : ∀ t ∈ s.gQ, (0 ≤ t.gC1 ∧ t.gC1 < (s.gA3.length : Int)) ∧ t.gB2 < (b.length : Int) ∧ (∀ v ∈ t.gUv.toList, ∀ x ∈ v.toList, 0 ≤ x ∧ x ≤ 65535) ∧ ∀ p ∈ t.gP.toList, pwi 65536 p
 few : s.gQ.length ≤ 20
 mat : ∀ m ∈ s.gA3, aBO m
 light : ∀ l ∈ s.gL, vC l
 lights : s.gL.length ≤ 5
 lev : ∀ l ∈ b, aGM l
 dark : s.gL = [] → sky = aB.mk 0 0 0
 sky : vin sky
 view : aJm v
def aE8 (n : Nat) (gl : List aG) : Prop := gl.length ≤ 4096 ∧ ∀ i, n ≤ i → ∀ t, gl[i]? = some t → t.gC5 = 0
def newS (s : aE) (v : aI) (r : (List aG) × (List aQ) × (List aP) × (List (List aD)) × aB × (List aG) × Int) : Prop :=
 r.1 = s.gQ ∧ r.2.1 = s.gA3 ∧ r.2.2.1 = s.gL ∧ Rdy r.2.2.2.1 s v r.2.2.2.2.1 ∧ aE8 s.gQ.length r.2.2.2.2.2.1 ∧ r.2.2.2.2.2.2 = 0 ∧ v.gT = true ∧ (r.2.2.2.2.2.1.length : Int) = (eH v.gI).1 ∧ fits s v.gI
def newW (s : aE) (v : aI) (r : (List aG) × (List aQ) × (List aP) × (List (List aD)) × aB × bI × aM × Int) : Prop :=
 r.1 = s.gQ ∧ r.2.1 = s.gA3 ∧ r.2.2.1 = s.gL ∧ Rdy r.2.2.2.1 s v r.2.2.2.2.1 ∧ (aNf s.gQ.length r.2.2.2.2.2.1 ∧ r.2.2.2.2.2.2.1 = aM.mk r.2.2.2.2.2.1 true s.gQ 0) ∧ r.2.2.2.2.2.2.2 = 0 ∧ v.gT = false
def newV (N : Nat) (s : aE) (v : aI) (r : Int) : Prop := (mI N s = some r ∧ r ≠ 0) ∨ (mI N s = some 0 ∧ nZ N v = some r ∧ r ≠ 0) ∨ (mI N s = some 0 ∧ nZ N v = some 0 ∧ pB N s v.gI = some r)
theorem newT (N : Nat) (hN : 300 < N) (s : aE) (v : aI) (hs : few s) : T (iP N s v) (fun q => match q with
  | .inl e => e ≠ 0 ∧ newV N s v e
  | .inr (.inl r) => False
  | .inr (.inr (.inl r)) => newS s v r ∧ newV N s v 0
  | .inr (.inr (.inr (.inl r))) => False
  | .inr (.inr (.inr (.inr r))) => newW s v r ∧ newV N s v 0) := by
 unfold iP
 have nz : ∀ {r : Int}, (r != 0) = true → r ≠ 0 := fun h => by simpa using h
 have ez : ∀ {r : Int}, (r != 0) = false → r = 0 := fun h => by simpa using h
 obtain ⟨r1, e1, h1⟩ := aP4 N hN s hs
 refine T.eq e1 (T.cond (fun hc => T.ret ⟨nz hc, Or.inl ⟨e1, nz hc⟩⟩) (fun hc1 => ?_))
 rw [ez hc1] at e1
 have ok := h1 (ez hc1)
 obtain ⟨r2, e2, h2⟩ := mayVT N v
 refine T.eq e2 (T.cond (fun hc => T.ret ⟨nz hc, Or.inr (Or.inl ⟨e1, e2, nz hc⟩)⟩) (fun hc2 => ?_))
 rw [ez hc2] at e2
 have vok := h2 (ez hc2)
 obtain ⟨r3, e3, h3⟩ := fitsT N s v.gI
 refine T.eq e3 (T.cond (fun hc => T.ret ⟨nz hc, Or.inr (Or.inr ⟨e1, e2, e3⟩)⟩) (fun hc3 => ?_))
 rw [ez hc3] at e3
 have nv : newV N s v 0 := Or.inr (Or.inr ⟨e1, e2, e3⟩)
 have cb : 0 ≤ (eH v.gI).1 ∧ (eH v.gI).1 ≤ 4096 := by unfold eH; cases (v.gI == 0) <;> cases (v.gI == 1) <;> cases (v.gI == 2) <;> decide
 have fit := h3 (ez hc3)
 obtain ⟨⟨f1, f2, f3, f4, f5⟩, okt, okm, okx, okl⟩ := ok
 obtain ⟨N, rfl⟩ : ∃ n, N = n + 3 := ⟨N - 3, by omega⟩
 refine T.bind (skyT N (by omega) _ okl f4) fun r4 h4 => ?_
 refine T.eq (qS (by simp; omega)) (T.eq (qS (by simp; omega)) (T.eq (qS (by simp; omega)) ?_))
 simp only [aU, List.nil_append]
 refine T.bind (T.loopG0 (n := s.gR.length) (fun i (l : List (List aD)) => l.length = i ∧ ∀ x ∈ l, aGM x) (fun r => r.length = s.gR.length ∧ ∀ x ∈ r, aGM x) (F := pM (N + 3) (s.gR.length : Int) s) (fun k l i hi hl hk => ?_) (fun k l hl => ?_) (by omega) (s := []) ⟨rfl, fun x h => absurd h (by simp)⟩) fun p9 h9 => ?_
 ·rw [pM, dt (by omega), cond_true, pK, List.getElem?_eq_getElem hi, Option.bind_some]
  refine T.bind (aOW (N + 3) hN _ (f5 _ (List.getElem_mem hi))) fun r13 h13 => T.eq (qS (by simp; omega)) ?_
  rw [hP (by omega)]
  refine hk _ ⟨by simp; omega, fun x hx => ?_⟩
  rw [List.mem_append, List.mem_singleton] at hx
  rcases hx with hx | rfl
  ·exact hl.2 x hx
  ·exact h13
 ·rw [pM, df (by omega), cond_false]; exact T.ret hl
 have rdy : Rdy p9 s v r4 := ⟨fun t ht => by have := okt t ht; exact ⟨this.1, by rw [h9.1]; exact this.2.1, this.2.2.1, this.2.2.2⟩, f1, okm, okl, f4, h9.2, h4.2, h4.1, vok⟩
 refine T.cond (fun hc => ?_) (fun hc => ?_)
 ·refine T.bind (aPu _ _) fun r15 h15 => T.bind (aMJ (N + 3) s.gQ r15.1 (by rw [h15]; exact cb) (by rw [h15]; exact fit.1)) fun q hq => ?_
  cases q with
  | inl e => exact hq.elim
  | inr r => exact T.ret ⟨⟨rfl, rfl, rfl, rdy, hq.2.2, hq.1, hc, by rw [← h15]; exact hq.2.1, fit⟩, nv⟩
 ·refine T.bind (aNE (N + 3) (by omega) (R := s.gQ) ⟨fun t ht => (okt t ht).2.2.2, f1⟩) fun q hq => ?_
  cases q with
  | inl e => exact hq.elim
  | inr r => exact T.ret ⟨⟨rfl, rfl, rfl, rdy, ⟨hq.2.2, hq.2.1⟩, hq.1, hc⟩, nv⟩
def TU {ι ρ α : Type} (f : ι → Option ρ) (P : α → Prop) (S : ι → α → ρ → Prop) : Prop := ∃ a, P a ∧ ∀ i, ∃ r, f i = some r ∧ S i a r
section
variable {ι ρ ρ' α β : Type}
theorem TU.bind {A : ι → Option ρ} {B : ι → ρ → Option ρ'} {P : α → Prop} {S : ι → α → ρ → Prop} {Q : β → Prop} {S' : ι → β → ρ' → Prop} (h : TU A P S)
  (hf : ∀ a, P a → ∀ r : ι → ρ, (∀ i, S i a (r i)) → TU (fun i => B i (r i)) Q S') : TU (fun i => Option.bind (A i) (B i)) Q S' := by
 obtain ⟨a, pa, h⟩ := h
 have h' : ∃ r : ι → ρ, ∀ i, A i = some (r i) ∧ S i a (r i) := ⟨fun i => (h i).choose, fun i => (h i).choose_spec⟩
 obtain ⟨r, hr⟩ := h'
 obtain ⟨b, qb, hb⟩ := hf a pa r fun i => (hr i).2
 refine ⟨b, qb, fun i => ?_⟩
 obtain ⟨x, e, s⟩ := hb i
 exact ⟨x, by show Option.bind (A i) (B i) = some x; rw [(hr i).1]; exact e, s⟩
theorem TU.t {o : Option α} {B : ι → α → Option ρ} {P : α → Prop} {Q : β → Prop} {S : ι → β → ρ → Prop} (h : T o P) (hf : ∀ a, P a → TU (fun i => B i a) Q S) : TU (fun i => Option.bind o (B i)) Q S := by
 obtain ⟨a, rfl, pa⟩ := h
 exact hf a pa
theorem TU.e {A : ι → Option ρ} {B : ι → ρ → Option ρ'} {a : ρ} {Q : β → Prop} {S' : ι → β → ρ' → Prop} (e : ∀ i, A i = some a) (h : TU (fun i => B i a) Q S') : TU (fun i => Option.bind (A i) (B i)) Q S' := by
 rw [show (fun i => Option.bind (A i) (B i)) = fun i => B i a from funext fun i => by rw [e i]; rfl]; exact h
theorem TU.cond {c : Bool} {A B : ι → Option ρ} {Q : β → Prop} {S : ι → β → ρ → Prop} (h1 : c = true → TU A Q S) (h2 : c = false → TU B Q S) : TU (fun i => _root_.cond c (A i) (B i)) Q S := by
 cases c with
 | true => exact h1 rfl
 | false => exact h2 rfl
theorem TU.ret {g : ι → ρ} (b : β) {Q : β → Prop} {S : ι → β → ρ → Prop} (hq : Q b) (h : ∀ i, S i b (g i)) : TU (fun i => some (g i)) Q S := ⟨b, hq, fun i => ⟨g i, rfl, h i⟩⟩
theorem TU.mono {f : ι → Option ρ} {P P' : α → Prop} {S S' : ι → α → ρ → Prop} (h : TU f P S) (hp : ∀ a, P a → P' a) (hs : ∀ i a r, P a → S i a r → S' i a r) : TU f P' S' := by
 obtain ⟨a, pa, h⟩ := h
 refine ⟨a, hp a pa, fun i => ?_⟩
 obtain ⟨r, e, s⟩ := h i
 exact ⟨r, e, hs i a r pa s⟩
theorem TU.loop {σ τ : Type} {n : Nat} {P : α → Prop} {S : ι → α → ρ → Prop} (I : Nat → σ → (ι → τ) → Prop) {F : ι → Nat → τ → σ → Int → Option ρ}
  (hstep : ∀ k (h : ι → τ) s j, j < n → I j s h → (∀ s' h', I (j + 1) s' h' → TU (fun i => F i k (h' i) s' ((j + 1 : Nat) : Int)) P S) → TU (fun i => F i (k + 1) (h i) s (j : Int)) P S)
  (hend : ∀ k (h : ι → τ) s, I n s h → TU (fun i => F i (k + 1) (h i) s (n : Int)) P S) : ∀ (k j : Nat) (s : σ) (h : ι → τ), I j s h → j ≤ n → n - j < k → TU (fun i => F i k (h i) s (j : Int)) P S
 | 0, j, _, _, _, _, hk => by omega
 | k + 1, j, s, h, hi, hj, hk => by
  by_cases hn : j < n
  ·exact hstep k h s j hn hi fun s' h' hi' => TU.loop I hstep hend k (j + 1) s' h' hi' (by omega) (by omega)
  ·obtain rfl : j = n := by omega
   exact hend k h s hi
theorem TU.loop0 {σ τ : Type} {n : Nat} {P : α → Prop} {S : ι → α → ρ → Prop} (I : Nat → σ → (ι → τ) → Prop) {F : ι → Nat → τ → σ → Int → Option ρ}
  (hstep : ∀ k (h : ι → τ) s j, j < n → I j s h → (∀ s' h', I (j + 1) s' h' → TU (fun i => F i k (h' i) s' ((j + 1 : Nat) : Int)) P S) → TU (fun i => F i (k + 1) (h i) s (j : Int)) P S)
  (hend : ∀ k (h : ι → τ) s, I n s h → TU (fun i => F i (k + 1) (h i) s (n : Int)) P S) {N : Nat} (hN : n < N) {s : σ} {h : ι → τ} (hi : I 0 s h) : TU (fun i => F i N (h i) s 0) P S :=
 TU.loop I hstep hend N 0 s h hi (by omega) (by omega)
end
def swp (gl : List aG) (t : Int) : aJ := aJ.mk (iW.mk t) true gl
def jV (a b n : Int) : Prop := I64 b = I64 (a + n) ∧ (cL a → cL b)
theorem aH1 {a b : Int} {n : Nat} (h : jV a b (n : Int)) : jV a (I64 (b + 1)) ((n + 1 : Nat) : Int) := by
 obtain ⟨h, _⟩ := h
 refine ⟨?_, fun _ => cW _⟩
 rw [vH] at *; rw [vH] at *; rw [vH] at *; omega
theorem aCh (a : Int) : jV a a 0 := ⟨by rw [Int.add_zero], fun h => h⟩
theorem aDn {a b c n m : Int} (h : jV a b n) (h' : jV b c m) : jV a c (n + m) := by
 obtain ⟨h, g⟩ := h
 obtain ⟨h', g'⟩ := h'
 refine ⟨?_, fun x => g' (g x)⟩
 rw [vH] at *; rw [vH] at *; omega
theorem aKC {a b n : Int} (h : jV a b n) (ha : cL a) : b = I64 (a + n) := by
 obtain ⟨h1, h2⟩ := h.2 ha
 rw [← h.1, bQ (by omega) (by omega)]
theorem aNU (N : Nat) (hN : 3 < N) {n : Nat} {gl : List aG} (h : aE8 n gl) (o d : aC) (m s : Int) {j : Nat} (hj : j < gl.length) : ∃ a : aT × Bool, vL a.1 ∧ (a.2 = true → j < n) ∧ ∀ t, dH N o d m s (j : Int) (swp gl t) = some a := by
 have key : T (dH N o d m s (j : Int) (swp gl 0)) (fun a => vL a.1 ∧ (a.2 = true → j < n)) := by
  unfold dH nU swp
  refine T.eq rfl ?_
  refine T.bind (T.idx (by omega) (by dsimp only; omega)) fun e2 h2 => T.bind (hitT N hN _ _ _) fun r3 h3 => ?_
  refine T.bind (P := fun r => r = true → j < n) ?_ fun p4 h4 => T.ret ⟨h3, h4⟩
  refine T.cond (fun _ => ?_) (fun _ => T.ret fun h => by cases h)
  refine T.bind (T.idx (by omega) (by dsimp only; omega)) fun e5 h5 => ?_
  rw [aU]
  refine T.cond (fun hc => T.ret fun _ => ?_) (fun _ => T.ret fun h => by cases h)
  by_cases hn : j < n
  ·exact hn
  ·have := h.2 j (by omega) e5 (by rw [Int.toNat_natCast] at h5; exact h5)
   rw [this] at hc
   exfalso
   have z : iA .u8 0 m = 0 := by
    unfold iA
    have : BitVec.ofInt IntKind.u8.bits 0 &&& BitVec.ofInt IntKind.u8.bits m = 0 := by
     rw [show BitVec.ofInt IntKind.u8.bits 0 = 0 from rfl]
     exact BitVec.zero_and
    rw [this]; rfl
   rw [z] at hc
   cases hc
 obtain ⟨a, e, h1, h2⟩ := key
 exact ⟨a, h1, h2, fun t => e⟩
theorem aMi {ι : Type} (N : Nat) (hN : 4100 < N) {n : Nat} {gl : List aG} (h : aE8 n gl) (o d : aC) (m s : Int) (t : ι → Int) :
  TU (fun i => fN N o d m s (swp gl (t i))) (fun a : Int × aT => a.1 < (n : Int) ∧ vL a.2) (fun i a r => ∃ t', r = (swp gl t', a) ∧ jV (t i) t' (gl.length : Int)) := by
 unfold fN fV
 refine TU.e (a := false) (fun i => rfl) ?_
 simp only [cond_false]
 have h4 := h.1
 refine TU.bind (P := fun a : aT × Int => a.2 < (n : Int) ∧ vL a.1) (S := fun i a r => ∃ t', r = (swp gl t', a) ∧ jV (t i) t' (gl.length : Int)) ?_ fun a ha r hr => ?_
 ·refine TU.loop0 (n := gl.length) (fun j (s : aT × Int) t' => (s.2 < (n : Int) ∧ vL s.1) ∧ ∀ i, jV (t i) (t' i) (j : Int)) (F := fun i k t' (x : aT × Int) j => dG N (swp gl (t i)) o d m s k (swp gl t') x.1 x.2 j) (fun k t' x j hj hx hk => ?_) (fun k t' x hx => ?_) (by omega) (s := (aT.mk 0 0 0 0, -1)) (h := t) ⟨⟨by dsimp only; omega, aHi⟩, fun i => aCh _⟩
  ·obtain ⟨a, a1, a2, a3⟩ := aNU N (by omega) h o d m s hj
   simp only [dG, aU]
   simp only [show ∀ t, (swp gl t).gl = gl from fun _ => rfl, dt (show (j : Int) < (gl.length : Int) by omega), cond_true, a3, Option.bind_some]
   refine TU.t (P := fun p : aT × aT × Int => p.2.2 < (n : Int) ∧ vL p.1) ?_ fun p hp => ?_
   ·refine T.bind (P := fun _ => True) (T.cond (fun _ => T.ret trivial) (fun _ => T.bind (lessT N a1 hx.1.2) fun _ _ => T.ret trivial)) fun p10 _ => ?_
    refine T.cond (fun hc => T.ret ⟨?_, a1⟩) (fun _ => T.ret ⟨hx.1.1, hx.1.2⟩)
    have : a.2 = true := by
     cases h2 : a.2 with
     | true => rfl
     | false => rw [h2] at hc; cases hc
    have := a2 this
    show (j : Int) < (n : Int)
    omega
   ·rw [hP (by omega)]
    exact hk (p.1, p.2.2) (fun i => I64 (t' i + 1)) ⟨hp, fun i => aH1 (hx.2 i)⟩
  ·simp only [dG, aU]
   simp only [show ∀ t, (swp gl t).gl = gl from fun _ => rfl, df (show ¬ (gl.length : Int) < (gl.length : Int) by omega), cond_false]
   exact TU.ret x hx.1 fun i => ⟨t' i, rfl, hx.2 i⟩
 ·refine TU.ret (a.2, a.1) ha fun i => ?_
  obtain ⟨t', e, p⟩ := hr i
  rw [e]
  exact ⟨t', rfl, p⟩
theorem anyU {ι : Type} (N : Nat) (hN : 4100 < N) {n : Nat} {gl : List aG} (h : aE8 n gl) (o d : aC) (m s : Int) (w : Bool) (t : ι → Int) :
  TU (fun i => eY N o d m s w (swp gl (t i))) (fun _ : Bool => True) (fun i a r => ∃ t', r = (swp gl t', a) ∧ jV (t i) t' (gl.length : Int)) := by
 unfold eY fV
 refine TU.e (a := false) (fun i => rfl) ?_
 simp only [cond_false]
 have h4 := h.1
 refine TU.bind (P := fun a : Bool => True) (S := fun i a r => ∃ t', r = (swp gl t', a) ∧ jV (t i) t' (gl.length : Int)) ?_ fun a ha r hr => ?_
 ·refine TU.loop0 (n := gl.length) (fun j (s : Bool) t' => ∀ i, jV (t i) (t' i) (j : Int)) (F := fun i k t' (x : Bool) j => dC N (swp gl (t i)) o d m s w k (swp gl t') x j) (fun k t' x j hj hx hk => ?_) (fun k t' x hx => ?_) (by omega) (s := false) (h := t) (fun i => aCh _)
  ·obtain ⟨a, a1, a2, a3⟩ := aNU N (by omega) h o d m s hj
   simp only [dC, aU]
   simp only [show ∀ t, (swp gl t).gl = gl from fun _ => rfl, dt (show (j : Int) < (gl.length : Int) by omega), cond_true, a3, Option.bind_some]
   rw [hP (by omega)]
   refine TU.cond (fun _ => ?_) (fun _ => ?_)
   ·exact hk _ (fun i => I64 (t' i + 1)) (fun i => aH1 (hx i))
   ·exact hk _ (fun i => I64 (t' i + 1)) (fun i => aH1 (hx i))
  ·simp only [dC, aU]
   simp only [show ∀ t, (swp gl t).gl = gl from fun _ => rfl, df (show ¬ (gl.length : Int) < (gl.length : Int) by omega), cond_false]
   exact TU.ret x trivial fun i => ⟨t' i, rfl, hx i⟩
 ·refine TU.ret a trivial fun i => ?_
  obtain ⟨t', e, p⟩ := hr i
  rw [e]
  exact ⟨t', rfl, p⟩
theorem aOd (k : Nat) {n : aB} (hn : vin n) (d : aC) : T (kL (k + 70) n d) vin := by
 unfold kL
 refine T.bind (zP (k + 5) d) fun r1 h1 => T.bind (aLz (k + 66) hn h1) fun r2 _ => T.cond (fun _ => T.ret hn) (fun _ => ?_)
 exact T.eq (qC (k + 67) hn ⟨by decide, by decide⟩) (T.ret (pE _ _))
theorem pickT (N : Nat) {l : List aD} (h : aGM l) (i : Int) : T (uY N l i) (fun r => r.1.gO.length ≤ 260) := by
 unfold uY
 rw [aU]
 refine T.cond (fun _ => T.ret (by simp)) (fun hc => ?_)
 have h0 : (l.length : Int) ≠ 0 := by simpa using hc
 have h20 := h.1
 rw [aU, bQ (x := (l.length : Int) - 1) (by omega) (by omega), tS, rG]
 exact T.bind (T.idx (by omega) (by omega)) fun e3 h3 => T.ret (h.2 _ (List.mem_of_getElem? h3))
def aNw (u : Vector (Vector Int 2) 3) : Prop := ∀ v ∈ u.toList, ∀ x ∈ v.toList, 0 ≤ x ∧ x ≤ 65535
theorem uvT {u : Vector (Vector Int 2) 3} (h : aNw u) {i j : Int} (hi : 0 ≤ i ∧ i < 3) (hj : 0 ≤ j ∧ j < 2) {β : Type} {f : Int → Option β} {Q : β → Prop} (hf : ∀ e, cL e → T (f e) Q) : T (Option.bind (idx u.toList i) fun e => Option.bind (idx e.toList j) f) Q := by
 refine T.bind (T.idx hi.1 (by simp; omega)) fun e he => T.bind (T.idx hj.1 (by simp; omega)) fun x hx => hf x ?_
 have := h _ (List.mem_of_getElem? he) _ (List.mem_of_getElem? hx)
 exact ⟨by omega, by omega⟩
theorem aNA (k : Nat) {j : Int} (hj : 0 ≤ j ∧ j < 2) {m : aT} (hm : vL m) {u : Vector (Vector Int 2) 3} (hu : aNw u) : T (kD (k + 5) j m u) (fun _ => True) := by
 unfold kD
 rw [aU]
 refine uvT hu ⟨by decide, by decide⟩ hj fun e3 h3 => T.bind (aFz _ (cW _) h3) fun r4 h4 => ?_
 refine uvT hu ⟨by decide, by decide⟩ hj fun e6 h6 => T.bind (aFz _ hm.2.2.1 h6) fun r7 h7 => ?_
 refine uvT hu ⟨by decide, by decide⟩ hj fun e9 h9 => T.bind (aFz _ hm.2.2.2 h9) fun r10 h10 => ?_
 refine T.bind (aNc _ _ (by intro x hx; simp at hx; rcases hx with rfl | rfl | rfl; exact h4; exact h7; exact h10) (by simp) (by simp)) fun r11 h11 => ?_
 refine T.cond (fun _ => T.ret trivial) (fun _ => T.bind (aOH (k + 2) h11 hm.2.1) fun r12 h12 => T.bind (aEu _ h12.1) fun r13 h13 => ?_)
 simp only [aU]
 exact T.cond (fun _ => T.ret trivial) (fun _ => T.cond (fun _ => T.ret trivial) (fun _ => T.ret trivial))
theorem baryT (k : Nat) {m : aT} (hm : vL m) {u : Vector (Vector Int 2) 3} (hu : aNw u) : T (uO (k + 5) m u) (fun _ => True) := by
 unfold uO
 refine T.bind (P := fun _ => True) ?_ fun p1 _ => ?_
 ·simp only [aU]
  exact T.cond (fun _ => T.ret trivial) (fun _ => T.cond (fun _ => T.ret trivial) (fun _ => T.ret trivial))
 ·exact T.cond (fun _ => T.ret trivial) (fun _ => T.bind (aNA k ⟨by decide, by decide⟩ hm hu) fun _ _ => T.bind (aNA k ⟨by decide, by decide⟩ hm hu) fun _ _ => T.ret trivial)
theorem aON (N : Nat) (hN : 300 < N) (t : aD) (h : t.gO.length ≤ 260) (x y : Int) : T (uW N t x y) (fun _ => True) := by
 unfold uW
 refine T.bind (texT N t (by omega) (by omega) (by omega)) fun r1 h1 => T.cond (fun _ => T.ret trivial) (fun hc => ?_)
 have ok := h1 (by simpa using hc)
 exact T.bind (aFt N ⟨ok.1, ok.2.1⟩ _ _) fun _ _ => T.ret trivial
theorem aOx (N : Nat) (hN : 300 < N) (t : aD) (h : t.gO.length ≤ 260) (x y : Int) : T (rK N t x y) (fun r => vin r.1) := by
 unfold rK
 refine T.bind (texT N t (by omega) (by omega) (by omega)) fun r1 h1 => T.cond (fun _ => T.ret ⟨z64, z64, z64⟩) (fun hc => ?_)
 rw [aU, aU]
 refine T.cond (fun _ => T.ret ⟨z64, z64, z64⟩) (fun _ => ?_)
 refine T.letO fun x4 _ => T.letO fun x5 _ => ?_
 simp only [aU]
 have s : ∀ a b : Int, T (dQ N a b t x4 x5) (fun _ => True) := by
  intro a b
  unfold dQ
  simp only [aU]
  exact T.bind (aON N hN t h _ _) fun _ _ => T.ret trivial
 refine T.bind (s _ _) fun r13 _ => T.bind (s _ _) fun r14 _ => T.bind (s _ _) fun r15 _ => T.bind (s _ _) fun r16 _ => ?_
 refine T.bind (P := fun _ => True) ?_ fun p17 _ => ?_
 ·refine T.loopG0 (n := 4) (fun _ _ => True) _ (F := lB N r13 r14 r15 r16 x4 x5) (fun k v i hi _ hk => ?_) (fun k v _ => ?_) (by omega) trivial
  ·rw [lB, dt (by omega), cond_true]
   refine T.bind (T.idx (by omega) (by simp; omega)) fun e20 _ => T.bind (P := fun _ => True) ?_ fun _ _ => by rw [hP (by omega)]; exact hk _ trivial
   refine T.loopG0 (n := 3) (fun _ _ => True) _ (F := lL N e20 (i : Int) x4 x5) (fun k v j hj _ hk => ?_) (fun k v _ => ?_) (by omega) trivial
   ·rw [lL, dt (by omega), cond_true]
    refine T.bind (T.inRO (by omega) (by omega)) fun _ _ => T.bind (T.vgI hj) fun _ _ => T.bind (T.inRO (by omega) (by omega)) fun _ _ => T.bind (T.vgI hj) fun _ _ => T.bind (T.inRO (by omega) (by omega)) fun _ _ => T.bind (T.vgI hi) fun _ _ => ?_
    rw [aU]
    refine T.bind (T.inRO (by omega) (by omega)) fun _ _ => T.bind (T.vgI hj) fun _ _ => ?_
    rw [hP (by omega)]
    exact hk _ trivial
   ·rw [lL, df (by omega), cond_false]; exact T.ret trivial
  ·rw [lB, df (by omega), cond_false]; exact T.ret trivial
 ·refine T.bind (T.inRO (by decide) (by decide)) fun _ _ => T.bind (T.vg (i := 0) (by decide)) fun _ _ => T.bind (T.inRO (by decide) (by decide)) fun _ _ => T.bind (T.vg (i := 1) (by decide)) fun _ _ => T.bind (T.inRO (by decide) (by decide)) fun _ _ => T.bind (T.vg (i := 2) (by decide)) fun _ _ => T.ret ⟨cW _, cW _, cW _⟩
theorem aND (k : Nat) {c : Vector Int 3} (hc : ∀ x ∈ c.toList, 0 ≤ x ∧ x ≤ 65535) {l : List aD} (hl : aGM l) {u : Vector (Vector Int 2) 3} (hu : aNw u) {m : aT} (hm : vL m) (i : Int) : T (lR (k + 400) c l u m i) vin := by
 unfold lR
 refine T.bind (aNC (k + 397) c (fun x hx => by have := hc x hx; exact ⟨by omega, by omega⟩) ⟨by decide, by decide⟩ (by decide)) fun r1 h1 => T.bind (pickT _ hl i) fun r2 h2 => T.cond (fun _ => T.ret h1) (fun _ => ?_)
 refine T.bind (baryT (k + 395) hm hu) fun r3 _ => T.letO fun x4 _ => T.letO fun x5 _ => T.bind (aOx _ (by omega) _ h2 _ _) fun r6 h6 => T.cond (fun _ => T.ret h1) (fun _ => ?_)
 exact T.bind (aBm (k + 397) _ (by intro x hx; simp at hx; rcases hx with rfl | rfl; exact h1; exact h6) (by simp) (by simp)) fun r7 h7 => T.ret h7
theorem aHa (k : Nat) {a b c : Int} (hb : cL b) (hc : cL c) (v : Vector Int 2) : T (hQ (k + 3) a b c v) cL := by
 unfold hQ
 refine T.bind (T.idx (by decide) (by simp)) fun e1 _ => T.bind (aEm k hb (cW _) ⟨by decide, by decide⟩) fun r2 h2 => T.bind (T.idx (by decide) (by simp)) fun e3 _ => T.bind (aEm k hc (cW _) ⟨by decide, by decide⟩) fun r4 h4 => ?_
 rw [aU]
 exact T.ret (cW _)
theorem aQm (k : Nat) {l : aP} (h : vC l) (v : Vector Int 2) : T (vE (k + 3) l v) pin := by
 unfold vE
 obtain ⟨_, a, b, c⟩ := h
 have b' := aKK b (by decide)
 have c' := aKK c (by decide)
 refine T.cond (fun _ => T.ret (aKK a (by decide))) (fun _ => ?_)
 exact T.bind (aHa k b'.1 c'.1 v) fun _ x => T.bind (aHa k b'.2.1 c'.2.1 v) fun _ y => T.bind (aHa k b'.2.2 c'.2.2 v) fun _ z => T.ret ⟨x, y, z⟩
theorem absT (N : Nat) {a : Int} (h : cL a) : T (kU N a) cL := by unfold kU; exact T.cond (fun _ => T.ret (cW _)) (fun _ => T.ret h)
theorem aNR (N : Nat) {a : Int} (b : Int) (h : cL a) : T (qF N a b) cL := by unfold qF; exact T.cond (fun _ => T.ret (cW _)) (fun _ => T.ret h)
theorem foldT (N : Nat) {a b : Int} (ha : cL a) (hb : cL b) : T (wJ N a b) (fun r => cL r.1 ∧ cL r.2) := by
 unfold wJ
 exact T.bind (absT N hb) fun _ _ => T.bind (aNR N _ (cW _)) fun _ x => T.bind (absT N ha) fun _ _ => T.bind (aNR N _ (cW _)) fun _ y => T.ret ⟨x, y⟩
theorem aPg (N : Nat) (a : Int) : T (nI N a) cL := by unfold nI; rw [aU]; exact T.ret (cW _)
theorem aPF (N : Nat) (a : Int) : T (sX N a) pin := by
 unfold sX
 refine T.bind (aPg N _) fun r1 h1 => T.bind (aPg N _) fun r2 h2 => T.bind (absT N h1) fun r3 _ => T.bind (absT N h2) fun r4 _ => ?_
 rw [aU]
 refine T.bind (P := fun p => cL p.1 ∧ cL p.2) (T.cond (fun _ => T.bind (foldT N h1 h2) fun r h => T.ret h) (fun _ => T.ret ⟨h1, h2⟩)) fun p h => T.ret ⟨h.1, h.2, cW _⟩
theorem aJt (N : Nat) (a : Int) : T (rQ N a) pin := by
 unfold rQ sZ
 simp only [aU, Option.bind_some]
 exact T.bind (aPF N _) fun r h => T.ret h
theorem aK0 (k : Nat) {a b : Int} (ha : cL a) (hb : cL b) : T (lF (k + 3) [a, b]) cL := ⟨_, aC7 k ha hb, eG _⟩
theorem negT (N : Nat) {a : Int} (ha : cL a) : T (sG N a) cL := ⟨_, aKx N ha, eG _⟩
theorem farT (k : Nat) {f : tX} (hf : pin f.gD2) (p : aC) {n : aB} (hn : vin n) : T (pA (k + 70) f p n) (fun r => pin r.1 ∧ cL r.2) := by
 unfold pA
 refine T.bind (zP (k + 5) _) fun r1 h1 => T.bind (aLz (k + 66) hn h1) fun r2 h2 => T.cond (fun _ => ?_) (fun _ => ?_)
 ·exact T.bind (negT _ h2) fun _ a => T.bind (negT _ h2) fun _ b => T.bind (aK0 (k + 67) a b) fun _ c => T.ret ⟨⟨cW _, cW _, cW _⟩, c⟩
 ·exact T.bind (aK0 (k + 67) h2 h2) fun _ c => T.ret ⟨hf, c⟩
theorem aQ4 (k : Nat) (f : uL) (p : aC) {n : aB} (hn : vin n) : T (nP (k + 70) f p n) (fun r => pin r.1 ∧ cL r.2) := by
 unfold nP
 refine T.bind (aL9 _ _ _) fun r1 h1 => T.bind (zP (k + 5) _) fun r2 h2 => T.bind (aLz (k + 66) hn h2) fun r3 h3 => ?_
 simp only [aU]
 refine T.cond (fun _ => T.ret ⟨⟨z64, z64, z64⟩, z64⟩) (fun _ => T.bind (aJV _ _ _) fun r6 h6 => T.bind (aEm (k + 67) h3 ⟨by decide, by decide⟩ h6) fun r7 h7 => T.ret ⟨h1, h7⟩)
theorem lampT (k : Nat) {l : aP} (h : vC l) (p : aC) {n : aB} (hn : vin n) (v : Vector Int 2) : T (oN (k + 70) l p n v) (fun r => vin r.gC0) := by
 unfold oN
 have v0 : vin (aB.mk 0 0 0) := ⟨z64, z64, z64⟩
 refine T.bind (P := fun _ => True) (T.bind (aMq _ (by omega) l) fun _ _ => T.cond (fun _ => T.ret trivial) (fun _ => T.bind (mayT _ _ _) fun _ _ => T.ret trivial)) fun p1 _ => T.cond (fun _ => T.ret v0) (fun _ => ?_)
 refine T.bind (aQm (k + 67) h v) fun r4 h4 => T.cond (fun _ => ?_) (fun _ => ?_)
 ·refine T.bind (T.idx (by decide) (by simp)) fun e5 _ => T.bind (aJt _ _) fun r6 h6 => T.bind (farT k (f := tX.mk r6) h6 _ hn) fun r7 h7 => T.cond (fun _ => T.ret v0) (fun _ => ?_)
  exact T.bind (aHS (k + 67) h) fun r8 h8 => T.eq (qC (k + 67) h8 h7.2) (T.ret (pE _ _))
 ·refine T.bind (aQ4 k _ _ hn) fun r10 h10 => T.cond (fun _ => T.ret v0) (fun _ => ?_)
  exact T.bind (aHS (k + 67) h) fun r8 h8 => T.eq (qC (k + 67) h8 h10.2) (T.ret (pE _ _))
def aF3 (t : cI) : Prop := pin t.gE5 ∧ vin t.gC0
theorem aKk : aF3 (cI.mk (aC.mk 0 0 0) (aB.mk 0 0 0) true) := ⟨⟨z64, z64, z64⟩, z64, z64, z64⟩
theorem aMg (k : Nat) {c n : aB} (hc : vin c) (hn : vin n) (a : Int) : T (nR (k + 70) c n a) aF3 := by
 unfold nR
 refine T.bind (aJt _ _) fun r1 h1 => T.bind (zP (k + 5) _) fun r2 h2 => T.bind (aLz (k + 66) hn h2) fun r3 h3 => ?_
 refine T.bind (P := fun p => pin p.1 ∧ cL p.2) (T.cond (fun _ => T.bind (negT _ h3) fun _ b => T.ret ⟨⟨cW _, cW _, cW _⟩, b⟩) (fun _ => T.ret ⟨h1, h3⟩)) fun p4 h4 => T.cond (fun _ => T.ret aKk) (fun _ => ?_)
 exact T.bind (aK0 (k + 67) h4.2 h4.2) fun r6 h6 => T.eq (qC (k + 67) hc h6) (T.ret ⟨h4.1, pE _ _⟩)
theorem aIF (k : Nat) {n : aB} (hn : vin n) (d : aC) : T (kE (k + 70) n d) vin := by
 unfold kE
 exact T.bind (zP (k + 5) _) fun r1 h1 => T.bind (aLz (k + 66) hn h1) fun r2 h2 => T.bind (aK0 (k + 67) h2 h2) fun r3 h3 => T.eq (qC (k + 67) hn h3) (T.eq (aIL _ h1 (pE _ _)) (T.ret (aHq _ _)))
theorem aHb (k : Nat) {a c : aB} (ha : vin a) (hc : vin c) : T (jR (k + 3) a c) aF3 := by
 unfold jR
 exact T.eq (aNZ k ha) (T.cond (fun _ => T.ret aKk) (fun _ => T.ret ⟨aCY (aGw ha), hc⟩))
theorem aMl (k : Nat) {m : aQ} (hm : aBO m) {c n : aB} (hc : vin c) (hn : vin n) (d : aC) (v : Vector Int 2) : T (jL (k + 70) m c n d v) aF3 := by
 unfold jL
 obtain ⟨_, r1, r2⟩ := hm
 refine T.cond (fun _ => T.bind (T.idx (by decide) (by simp)) fun e1 _ => T.bind (aMg k hc hn _) fun r h => T.ret h) (fun _ => ?_)
 refine T.cond (fun _ => ?_) (fun _ => ?_)
 ·refine T.eq (tV _ ⟨by omega, by omega⟩) (T.eq (tV _ ⟨by decide, by decide⟩) (T.eq (wZ (k + 67) (eG _) (eG _) (by decide)) ?_))
  refine T.bind (aIF k hn d) fun r6 h6 => T.bind (T.idx (by decide) (by simp)) fun e7 _ => T.bind (aJt _ _) fun r8 _ => T.bind (zP (k + 5) _) fun r9 h9 => T.eq (qC (k + 67) h9 (eG _)) ?_
  refine T.eq (aJv (k + 67) h6 (pE _ _)) (T.bind (aLz (k + 66) hn (aBn _ _)) fun r12 _ => T.cond (fun _ => T.ret aKk) (fun _ => T.bind (aHb (k + 67) (aBn _ _) hc) fun r h => T.ret h))
 refine T.cond (fun _ => ?_) (fun _ => ?_)
 ·refine T.bind (T.idx (by decide) (by simp)) fun e14 _ => T.bind (aMu _ _ _) fun r15 _ => ?_
  rw [aU]
  exact T.cond (fun _ => T.bind (zP (k + 5) _) fun r17 h17 => T.bind (aHb (k + 67) h17 hc) fun r h => T.ret h) (fun _ => T.bind (aIF k hn d) fun r19 h19 => T.bind (aHb (k + 67) h19 hc) fun r h => T.ret h)
 ·exact T.cond (fun _ => T.bind (aIF k hn d) fun r19 h19 => T.bind (aHb (k + 67) h19 hc) fun r h => T.ret h) (fun _ => T.ret aKk)
theorem T.eqo {α : Type} {o : Option α} {a : α} (h : o = some a) : (Option.bind o fun r => some r) = some a := by rw [h]; rfl
theorem aLj (k : Nat) {f : aB} (hf : vin f) (a : Int) : T (iL (k + 70) f a) (fun r => vin r.1) := by
 unfold iL zR oL fP
 refine T.eq (aIu _ hf) (T.eq rfl (T.eq rfl (T.cond (fun _ => T.ret ⟨z64, z64, z64⟩) (fun _ => ?_))))
 rw [tS, rG]
 generalize hx : min (max (vI f) 268435456) 4294967296 = x
 have hx1 : cL x ∧ x ≠ 0 := by unfold cL; omega
 refine T.eq (T.eqo (wZ (k + 67) hf.1 hx1.1 hx1.2)) ?_
 refine T.eq (T.eqo (wZ (k + 67) hf.2.1 hx1.1 hx1.2)) ?_
 refine T.eq (T.eqo (wZ (k + 67) hf.2.2 hx1.1 hx1.2)) ?_
 exact T.ret ⟨eG _, eG _, eG _⟩
theorem aNs (k : Nat) (c : bK) (w h x y : Int) (v : Vector Int 4) : T (tZ (k + 6) c w h x y v) (fun r => pin r.1 ∧ pin r.2.1) := by
 unfold tZ
 have p0 : pin (aC.mk 0 0 0) := ⟨z64, z64, z64⟩
 refine T.bind (T.idx (by decide) (by simp)) fun e1 _ => T.bind (T.idx (by decide) (by simp)) fun e2 _ => ?_
 refine T.bind (aIx k c w h x y _) fun r hr => ?_
 refine T.cond (fun hc => T.ret ⟨p0, p0⟩) (fun hc => ?_)
 have h0 : r.2 = 0 := by simpa using hc
 obtain ⟨hv, cam⟩ := hr
 obtain ⟨⟨w1, w2⟩, ⟨h1, h2⟩, hl, hf, o1, o2, o3, ee1, ee2⟩ := cam h0
 have eye : pin c.gN := by
  simp only [rG, tS] at ee1 ee2
  exact ⟨⟨by omega, by omega⟩, ⟨by omega, by omega⟩, by omega, by omega⟩
 refine T.bind (P := fun p => pin p.1 ∧ vin p.2) ?_ fun p hp => ?_
 ·refine T.cond (fun _ => ?_) (fun _ => T.ret ⟨eye, hv⟩)
  refine T.bind (aQZ k c v (aCY (aBY o1)) (aCY (aBY o2))) fun r5 h5 => ?_
  simp only [aU]
  refine T.eq (tV _ ⟨by omega, by omega⟩) ?_
  refine T.eq (tV _ ⟨by decide, by decide⟩) ?_
  refine T.eq (wZ (k + 3) (eG _) (eG _) (by decide)) ?_
  refine T.eq (qC (k + 3) hv (eG _)) ?_
  refine T.eq (aBj _ h5) ?_
  refine T.eq (aIL _ (pE _ _) (aBC _)) ?_
  exact T.ret ⟨⟨cW _, cW _, cW _⟩, aHq _ _⟩
 ·refine T.eq (aNZ (k + 3) hp.2) ?_
  exact T.cond (fun hc => T.ret ⟨p0, p0⟩) (fun _ => T.ret ⟨hp.1, aCY (aGw hp.2)⟩)
end Go.UK
