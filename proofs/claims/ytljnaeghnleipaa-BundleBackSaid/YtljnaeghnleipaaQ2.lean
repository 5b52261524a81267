/- A part of the proof: what the functions of the program compute. -/
import Derived.Test.YtljnaeghnleipaaQ1
namespace Go.UK
open Go
variable [Globs]
set_option linter.all false
theorem loopAny {α β : Type} (l : List α) (q : α → Bool) (r : β) (F : Nat → Int → Option (Sum Unit β)) (hl : l.length < 9223372036854775807)
  (h1 : ∀ k i (h : i < l.length), F (k + 1) (i : Int) = cond (q l[i]) (some (Sum.inr r)) (F k (I64 ((i : Int) + 1)))) (h2 : ∀ k, F (k + 1) (l.length : Int) = some (Sum.inl ())) :
  ∀ (k i : Nat), i ≤ l.length → l.length - i < k → F k (i : Int) = some (cond ((l.drop i).any q) (Sum.inr r) (Sum.inl ()))
 | 0, i, _, h => by omega
 | k + 1, i, hi, hk => by
  by_cases h : i < l.length
  ·rw [h1 k i h, List.drop_eq_getElem_cons h, List.any_cons]
   cases q l[i] with
   | true => rfl
   | false => rw [cond_false, I64_s (by omega), loopAny l q r F hl h1 h2 k (i + 1) (by omega) (by omega)]; rfl
  ·obtain rfl : i = l.length := by omega
   rw [h2, List.drop_length]; rfl
theorem loopAny0 {α β : Type} (l : List α) (q : α → Bool) (r : β) (F : Nat → Int → Option (Sum Unit β)) (hl : l.length < 9223372036854775807)
  (h1 : ∀ k i (h : i < l.length), F (k + 1) (i : Int) = cond (q l[i]) (some (Sum.inr r)) (F k (I64 ((i : Int) + 1)))) (h2 : ∀ k, F (k + 1) (l.length : Int) = some (Sum.inl ()))
  {N : Nat} (hN : l.length < N) : F N 0 = some (cond (l.any q) (Sum.inr r) (Sum.inl ())) := by
 have := loopAny l q r F hl h1 h2 N 0 (by omega) (by omega)
 rwa [List.drop_zero] at this
theorem loopFlat {α : Type} (n : Nat) (hn : n < 9223372036854775807) (g : Nat → List α) (I : List α → Nat → Prop) (F : Nat → List α → Int → Option (List α)) (hI : ∀ s i, i < n → I s i → I (s ++ g i) (i + 1))
  (hstep : ∀ k s i, i < n → I s i → F (k + 1) s (i : Int) = F k (s ++ g i) (I64 ((i : Int) + 1))) (hend : ∀ k s, F (k + 1) s (n : Int) = some s) :
  ∀ (k i : Nat) (s : List α), I s i → i ≤ n → n - i < k → F k s (i : Int) = some (s ++ (List.range' i (n - i)).flatMap g)
 | 0, i, _, _, _, h => by omega
 | k + 1, i, s, hs, hi, hk => by
  by_cases h : i < n
  ·rw [hstep k s i h hs, I64_s (by omega), loopFlat n hn g I F hI hstep hend k (i + 1) _ (hI s i h hs) (by omega) (by omega), show n - i = (n - (i + 1)) + 1 by omega, List.range'_succ, List.flatMap_cons, List.append_assoc]
  ·obtain rfl : i = n := by omega
   rw [hend, Nat.sub_self]; simp
theorem loopFlat0 {α : Type} (n : Nat) (hn : n < 9223372036854775807) (g : Nat → List α) (I : List α → Nat → Prop) (F : Nat → List α → Int → Option (List α)) (hI : ∀ s i, i < n → I s i → I (s ++ g i) (i + 1))
  (hstep : ∀ k s i, i < n → I s i → F (k + 1) s (i : Int) = F k (s ++ g i) (I64 ((i : Int) + 1))) (hend : ∀ k s, F (k + 1) s (n : Int) = some s)
  {N : Nat} (hN : n < N) {s : List α} (hs : I s 0) : F N s 0 = some (s ++ (List.range n).flatMap g) := by
 have := loopFlat n hn g I F hI hstep hend N 0 s hs (by omega) (by omega)
 rw [Nat.sub_zero, ← List.range_eq_range'] at this
 exact this
theorem flatMap_single {α : Type} (l : List Nat) (f : Nat → α) : l.flatMap (fun i => [f i]) = l.map f := by
 induction l with
 | nil => rfl
 | cons x l ih => simp [List.flatMap_cons, ih]
end Go.UK

