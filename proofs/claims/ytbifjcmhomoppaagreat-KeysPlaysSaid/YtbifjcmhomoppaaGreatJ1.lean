/- A part of the proof: what the functions of the program compute. -/
import Derived.Test.YtbifjcmhomoppaaGreatLib13
import Derived.Laws.Bits64
import Derived.Laws.BitsLemmas
namespace Go.UK
open Go
variable [Globs]
set_option linter.all false
theorem I64_e (x : Int) : I64 x = (x + 9223372036854775808) % 18446744073709551616 - 9223372036854775808 := IntKind.wrap_i64 x
theorem I64_id {x : Int} (h : -9223372036854775808 ≤ x) (h' : x < 9223372036854775808) : I64 x = x := by rw [I64_e]; omega
theorem letO_e {α β : Type} (x : α) (f : α → β) : letO x f = f x := rfl
theorem dt {p : Prop} [Decidable p] (h : p) : decide p = true := by simpa using h
theorem df {p : Prop} [Decidable p] (h : ¬ p) : decide p = false := by simpa using h
theorem I64_s {i : Nat} (h : i < 9223372036854775807) : I64 ((i : Int) + 1) = ((i + 1 : Nat) : Int) := by rw [I64_id (by omega) (by omega)]; rfl
theorem idx_get? {α : Type} (l : List α) (i : Nat) : idx l (i : Int) = l[i]? := by unfold idx; simp
theorem appO_ok {α : Type} {b : Nat} {l r : List α} (h : (l.length + r.length) * b ≤ 140737488355328) : appO b l r = some (l ++ r) := by
 unfold appO; rw [Nat.ble_eq_true_of_le h]; rfl
theorem inRO_ok {i : Int} {n : Nat} (h : 0 ≤ i) (h' : i < (n : Int)) : inRO i n = some () := by
 unfold inRO inR; simp [h, h']
end Go.UK
namespace Go.UK
open Go
variable [Globs]
set_option linter.all false
end Go.UK
namespace Go.UK
open Go
variable [Globs]
set_option linter.all false
end Go.UK
namespace Go.UK
open Go
variable [Globs]
set_option linter.all false
end Go.UK
namespace Go.UK
open Go
variable [Globs]
set_option linter.all false
def T {α : Type} (o : Option α) (Q : α → Prop) : Prop := ∃ a, o = some a ∧ Q a
section
variable {α β : Type}
theorem T.bind {o : Option α} {f : α → Option β} {P : α → Prop} {Q : β → Prop} (h : T o P) (hf : ∀ a, P a → T (f a) Q) : T (Option.bind o f) Q := by
 obtain ⟨a, rfl, ha⟩ := h
 exact hf a ha
theorem T.ret {a : α} {Q : α → Prop} (h : Q a) : T (some a) Q := ⟨a, rfl, h⟩
theorem T.mono {o : Option α} {P Q : α → Prop} (h : T o P) (hp : ∀ a, P a → Q a) : T o Q := by obtain ⟨a, e, ha⟩ := h; exact ⟨a, e, hp a ha⟩
theorem T.cond {c : Bool} {x y : Option α} {Q : α → Prop} (h1 : c = true → T x Q) (h2 : c = false → T y Q) : T (cond c x y) Q := by cases c with | true => exact h1 rfl | false => exact h2 rfl
theorem T.of {o : Option α} {a : α} {Q : α → Prop} (h : o = some a) (hq : Q a) : T o Q := ⟨a, h, hq⟩
theorem T.get {l : List α} {i : Nat} (h : i < l.length) : T (l[i]?) (fun e => l[i]? = some e) := by
 rw [List.getElem?_eq_getElem h]; exact ⟨_, rfl, rfl⟩
end
end Go.UK
