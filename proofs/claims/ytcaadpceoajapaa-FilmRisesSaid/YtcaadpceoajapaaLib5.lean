/- The own layer: abstract values, their memory, and the steps of the model over them: for any program. -/
import Derived.Test.YtcaadpceoajapaaLib4
import Derived.RowKit3
import Derived.OpenShut
import Derived.Deep.Slices
import Derived.Carry
namespace Go.UK
open Go
open Go.RowKit (Below)

theorem wf_i64 {x : Int} (h : (Lit.int .i64 x).wf = true) : -9223372036854775808 ≤ x ∧ x < 9223372036854775808 := by
  simp [Lit.wf, IntKind.min, IntKind.max] at h
  simp [IntKind.bits, IntKind.signed] at h
  omega
theorem ok_empty (w : World) : (⟨[], [], w, fun _ _ => False⟩ : Mem).OK where
  foreign _ _ h := h.elim
  clear _ _ _ h := h
  len := rfl
  box id o x h := by simp at h
  apart i j b x y h := by simp at h
abbrev emp (w : World) : Mem := ⟨[], [], w, fun _ _ => False⟩
theorem emp_M {w : World} {b o : Nat} : ¬ (emp w).M b o := by
  rintro (h | h)
  · exact h
  · obtain ⟨id, h, _⟩ := h
    simp at h

theorem add_none (b o n : Nat) : (⟨b, o, none⟩ : Addr).add n = ⟨b, o + n, none⟩ := by
  unfold Addr.add
  split
  · rename_i h; subst h; rfl
  · rfl
theorem spot_none {w : World} {a : Addr} {y : Value} (h : w.cell? a = some y) : a.spot = none := by
  unfold World.cell? at h
  split at h
  · cases hs : a.spot with
    | none => rfl
    | some _ => simp [hs] at h
  · cases h

/-- What reads as data of type t is typed data. -/
def Opens (P : Program) (t : TypeId) {α : Type} (f : α → AV) (ok : α → Prop) : Prop :=
  ∀ {H : Type} (enc : TypeId × Value → H) (w : World) (spare : Nat → Bool) (fuel : Nat) (cs : List Value) (x : DataW H × List MemPlace),
    DataW.trod enc P w 0 spare true fuel t cs = some x → ∃ a, ok a ∧ Rd w (emp w).M (f a) cs

section
variable {P : Program} {t e : TypeId}

theorem opens_int {k : IntKind} (ht : P.underlying t = some (.int k)) : Opens P t (eI k) (fun x => (Lit.int k x).wf = true) := by
  intro H enc w spare fuel cs x h
  obtain ⟨n, rfl, _, hw⟩ := DataW.trod_int ht h
  exact ⟨n, hw, by simp [eI, Rd, Value.oneCell']⟩
theorem opens_bool (ht : P.underlying t = some .bool) : Opens P t eB (fun _ => True) := by
  intro H enc w spare fuel cs x h
  obtain ⟨b, rfl, _⟩ := DataW.trod_bool ht h
  exact ⟨b, trivial, by simp [eB, Rd, Value.oneCell']⟩
theorem opens_str (ht : P.underlying t = some .string) : Opens P t eS (fun s => s.size ≤ maxLen) := by
  intro H enc w spare fuel cs x h
  obtain ⟨s, rfl, _, hs⟩ := DataW.trod_string ht h
  exact ⟨s, hs, by simp [eS, Rd, Value.oneCell']⟩

theorem rcl_map {α : Type} {w : World} {M : Nat → Nat → Prop} {f : α → AV} (x : Nat → α) (c : Nat → List Value) : ∀ (L : List Nat), (∀ i ∈ L, Rd w M (f (x i)) (c i)) → RdL w M ((L.map x).map f) (L.flatMap c)
  | [], _ => by simp [RdL]
  | i :: L, h => by
    simp only [List.map_cons, List.flatMap_cons, RdL]
    exact ⟨_, _, rfl, h i (by simp), rcl_map x c L fun j hj => h j (by simp [hj])⟩

theorem opens_slice {α : Type} {f : α → AV} {ok : α → Prop} {k : Nat} (ht : P.underlying t = some (.slice e)) (hk : P.cellsOf e = k) (hk0 : 0 < k) (hn : ∀ a, (f a).n = k) (hf : Opens P e f ok) :
    Opens P t (eL k f) (fun l => l.length ≤ maxLen ∧ ∀ a ∈ l, ok a) := by
  intro H enc w spare fuel cs x h
  rcases Go.Deep.open_slice ht h with ⟨rfl, _⟩ | ⟨a, len, cap, m, n, D, Pl, rfl, _, hle, hmax, hm, _, hel⟩
  · exact ⟨[], ⟨by simp, by simp⟩, by simp [eL, Rd]⟩
  · have hlm : len ≤ m := by rw [hm]; split <;> omega
    rcases Nat.eq_zero_or_pos len with h0 | hpos
    · subst h0
      exact ⟨[], ⟨by simp, by simp⟩, by simp [eL, Rd]⟩
    obtain ⟨ab, ao, as⟩ := a
    have : as = none := by
      obtain ⟨c, hc, htr⟩ := hel 0 (by omega)
      rw [hk] at hc
      unfold World.cells? at hc
      rw [if_pos (by omega)] at hc
      have h1 := mapM_some_get hc 0 0 (by simp [hk0])
      have h2 : c.length = k := by simpa using mapM_some_length hc
      have h3 : c[0]? = some c[0] := List.getElem?_eq_getElem (by omega)
      rw [h3] at h1
      have := spot_none h1
      simpa [Addr.add] using this
    subst this
    have hx : ∀ i, ∃ (c : List Value) (b : Option α), i < len → c.length = k ∧ (∀ j, j < k → w.cell? ⟨ab, ao + (i * k + j), none⟩ = c[j]?) ∧ ∃ b', b = some b' ∧ ok b' ∧ Rd w (emp w).M (f b') c := by
      intro i
      by_cases hi : i < len
      · obtain ⟨c, hc, htr⟩ := hel i (by omega)
        obtain ⟨b, hb1, hb2⟩ := hf enc w spare n c _ htr
        refine ⟨c, some b, fun _ => ?_⟩
        rw [hk] at hc
        unfold World.cells? at hc
        rw [if_pos (by omega)] at hc
        refine ⟨by simpa using mapM_some_length hc, fun j hj => ?_, b, rfl, hb1, hb2⟩
        have := mapM_some_get hc j j (by simp [hj])
        rw [← this, add_none, add_none, Nat.add_assoc]
      · exact ⟨[], none, fun h' => absurd h' hi⟩
    obtain ⟨c, hc⟩ := Classical.axiomOfChoice hx
    obtain ⟨b, hb⟩ := Classical.axiomOfChoice hc
    obtain ⟨_, _, y0, hy0, _⟩ := hb 0 hpos
    let g : Nat → α := fun i => (b i).getD y0
    have hg : ∀ i, i < len → ok (g i) ∧ Rd w (emp w).M (f (g i)) (c i) := by
      intro i hi
      obtain ⟨_, _, y, hy, h1, h2⟩ := hb i hi
      have : g i = y := by simp [g, hy]
      rw [this]
      exact ⟨h1, h2⟩
    have key : ∀ n, n ≤ len → ((List.range n).flatMap c).length = n * k ∧ ∀ j y, ((List.range n).flatMap c)[j]? = some y → w.cell? ⟨ab, ao + j, none⟩ = some y := by
      intro n
      induction n with
      | zero => intro _; simp
      | succ n ih =>
        intro hle'
        obtain ⟨i1, i2⟩ := ih (by omega)
        obtain ⟨c1, c2, _⟩ := hb n (by omega)
        rw [List.range_succ, List.flatMap_append]
        refine ⟨by simp [i1, c1, Nat.succ_mul], fun j y hj => ?_⟩
        rw [List.getElem?_append] at hj
        split at hj
        · exact i2 j y hj
        · rename_i hge
          simp only [List.flatMap_cons, List.flatMap_nil, List.append_nil] at hj
          rw [i1] at hj hge
          have hlt : j - n * k < k := by
            have := (List.getElem?_eq_some_iff.1 hj).1
            omega
          have := c2 (j - n * k) hlt
          rw [show n * k + (j - n * k) = j by omega] at this
          rw [this]
          exact hj
    obtain ⟨l1, l2⟩ := key len (Nat.le_refl _)
    refine ⟨(List.range len).map g, ⟨by simpa using Nat.le_trans hle hmax, fun y hy => ?_⟩, ?_⟩
    · obtain ⟨i, hi, rfl⟩ := List.mem_map.1 hy
      exact (hg i (by simpa using hi)).1
    · have hrl := rcl_map (w := w) (M := (emp w).M) (f := f) g c (List.range len) (fun i hi => (hg i (by simpa using hi)).2)
      simp only [eL, Rd]
      refine ⟨by simp, some ⟨ab, ao, none⟩, cap, by simp, by simpa using hle, fun z hz => ?_, ?_⟩
      · obtain ⟨y, _, rfl⟩ := List.mem_map.1 hz
        exact hn y
      · by_cases hz : (List.range len).flatMap c = []
        · left
          have hkz : len * k = 0 := by rw [← l1, hz]; rfl
          exfalso
          rcases Nat.mul_eq_zero.1 hkz with h | h
          · omega
          · omega
        · right
          exact ⟨ab, ao, _, rfl, hrl, fun j y hj => ⟨l2 j y hj, emp_M⟩⟩
end
theorem Later.below {w w' : World} (h : Later w w') : Below w.heap.size w w' := ⟨h.os, h.tape, h.output, h.size, h.block⟩
/-- A law whose pure function says true; nothing that was there turns. -/
theorem law_below {P : Program} {f : FuncId} {args : List AV} {vs : List Value} (h : FnM P f [] args (eB true) []) (w : World) (hr : RvL (emp w) args vs) :
    Calls P f vs.toArray w fun e w' => e = .returned (.bool true) ∧ Below w.heap.size w w' := by
  refine (h.later w _ vs (ok_empty w) hr).mono ?_
  rintro e w' ⟨y, rfl, hl, hy⟩
  exact ⟨by rw [rv_bool hy], hl.below⟩

section
variable {P : Program} {t e : TypeId}
theorem opens_array {α : Type} {f : α → AV} {ok : α → Prop} {n k m : Nat} (ht : P.underlying t = some (.array n e)) (hs : P.cellsOf t = m) (hk : P.cellsOf e = k) (hmk : m = n * k) (hn : ∀ a, (f a).n = k) (hf : Opens P e f ok) :
    Opens P t (eA m k f : Vector α n → AV) (fun v => ∀ a ∈ v.toList, ok a) := by
  intro H enc w spare fuel cs x h
  obtain ⟨xs, n', _, _, hl, hx, hel⟩ := DataW.trod_array ht h
  have hx : ∀ i, ∃ b : Option α, i < n → ∃ b', b = some b' ∧ ok b' ∧ Rd w (emp w).M (f b') ((cs.drop (i * k)).take k) := by
    intro i
    by_cases hi : i < n
    · have h1 := hel i hi
      rw [hk, List.getElem?_eq_getElem (by omega)] at h1
      obtain ⟨b, hb1, hb2⟩ := hf enc w spare n' _ _ h1
      exact ⟨some b, fun _ => ⟨b, rfl, hb1, hb2⟩⟩
    · exact ⟨none, fun h' => absurd h' hi⟩
  obtain ⟨b, hb⟩ := Classical.axiomOfChoice hx
  have hlen : cs.length = n * k := by rw [hl, hs, hmk]
  have key : ∀ j, j ≤ n → (List.range j).flatMap (fun i => (cs.drop (i * k)).take k) = cs.take (j * k) := by
    intro j
    induction j with
    | zero => intro _; simp
    | succ j ih =>
      intro hj
      rw [List.range_succ, List.flatMap_append, ih (by omega)]
      simp only [List.flatMap_cons, List.flatMap_nil, List.append_nil]
      rw [Nat.succ_mul, List.take_add]
  rcases Nat.eq_zero_or_pos n with h0 | hpos
  · subst h0
    refine ⟨⟨#[], rfl⟩, by simp [Vector.toList], ?_⟩
    have hc0 : cs = [] := by simpa using hlen
    subst hc0
    simp [eA, Vector.toList, Rd, RdL]
    omega
  · obtain ⟨y0, _⟩ := hb 0 hpos
    let g : Nat → α := fun i => (b i).getD y0
    have hg : ∀ i, i < n → ok (g i) ∧ Rd w (emp w).M (f (g i)) ((cs.drop (i * k)).take k) := by
      intro i hi
      obtain ⟨y, hy, h1, h2⟩ := hb i hi
      have : g i = y := by simp [g, hy]
      rw [this]
      exact ⟨h1, h2⟩
    refine ⟨⟨((List.range n).map g).toArray, by simp⟩, fun y hy => ?_, ?_⟩
    · simp only [Vector.toList] at hy
      obtain ⟨i, hi, rfl⟩ := List.mem_map.1 hy
      exact (hg i (by simpa using hi)).1
    · have hrl := rcl_map (w := w) (M := (emp w).M) (f := f) g (fun i => (cs.drop (i * k)).take k) (List.range n) (fun i hi => (hg i (by simpa using hi)).2)
      rw [key n (Nat.le_refl _), List.take_of_length_le (by omega)] at hrl
      simp only [eA, Vector.toList, Rd]
      refine ⟨by omega, fun z hz => ?_, hrl⟩
      obtain ⟨y, _, rfl⟩ := List.mem_map.1 hz
      exact hn y

theorem opens_fld {H : Type} {enc : TypeId × Value → H} {w : World} {spare : Nat → Bool} {n : Nat} {cs : List Value} {xs : List (DataW H × List MemPlace)} {fs : Array Field} (hx : xs.length = fs.size)
    (hf : ∀ (i : Nat) (f : Field), fs[i]? = some f → DataW.trod enc P w 0 spare true n f.type ((cs.drop f.offset).take (P.cellsOf f.type)) = xs[i]?) (i o s : Nat) (f : Field) (hi : fs[i]? = some f) (ho : f.offset = o) (hs : P.cellsOf f.type = s)
    {β : Type} {g : β → AV} {ok : β → Prop} (hop : Opens P f.type g ok) : ∃ b, ok b ∧ Rd w (emp w).M (g b) ((cs.drop o).take s) := by
  have h1 := hf i f hi
  have hlt : i < xs.length := by rw [hx]; exact (Array.getElem?_eq_some_iff.1 hi).1
  rw [List.getElem?_eq_getElem hlt, ho, hs] at h1
  exact hop enc w spare n _ _ h1
theorem rcl_step {w : World} {M : Nat → Nat → Prop} {p : AV} {ps : List AV} {cs : List Value} {o s : Nat} (h : Rd w M p ((cs.drop o).take s)) (hs : RdL w M ps (cs.drop (o + s))) : RdL w M (p :: ps) (cs.drop o) := by
  simp only [RdL]
  exact ⟨_, _, (List.take_append_drop s (cs.drop o)).symm, h, by rw [List.drop_drop]; exact hs⟩
theorem rcl_end {w : World} {M : Nat → Nat → Prop} {cs : List Value} {o : Nat} (h : cs.length = o) : RdL w M [] (cs.drop o) := by
  simp only [RdL]
  exact List.drop_of_length_le (by omega)
theorem rc_st {w : World} {M : Nat → Nat → Prop} {ps : List AV} {cs : List Value} {n : Nat} (hl : cs.length = n) (h : RdL w M ps (cs.drop 0)) : Rd w M (.st n ps) cs := by
  simp only [Rd]
  exact ⟨hl, h⟩

/-! the argument itself -/
def Form (v : Value) (agg : Bool) : Prop := if agg then ∃ cs, v = .agg cs else v.cells = #[v]
theorem form_int {w : World} {r : Reach} {b : Nat} {v : Value} {k : IntKind} (ht : P.underlying t = some (.int k)) (h : Value.okWide P w r b t v) : Form v false := by
  obtain ⟨n, rfl⟩ := Go.WideShapes.okWide_int ht h; rfl
theorem form_bool {w : World} {r : Reach} {b : Nat} {v : Value} (ht : P.underlying t = some .bool) (h : Value.okWide P w r b t v) : Form v false := by
  obtain ⟨n, rfl⟩ := Go.WideShapes.okWide_bool ht h; rfl
theorem form_str {w : World} {r : Reach} {b : Nat} {v : Value} (ht : P.underlying t = some .string) (h : Value.okWide P w r b t v) : Form v false := by
  obtain ⟨n, rfl⟩ := Go.WideShapes.okWide_string ht h; rfl
theorem form_slice {w : World} {r : Reach} {b : Nat} {v : Value} (ht : P.underlying t = some (.slice e)) (h : Value.okWide P w r b t v) : Form v false := by
  obtain ⟨a, l, c, rfl⟩ := Go.WideShapes.okWide_slice ht h; rfl
theorem form_struct {w : World} {r : Reach} {b : Nat} {v : Value} {fs : Array Field} (ht : P.underlying t = some (.struct fs)) (h : Value.okWide P w r b t v) : Form v true := by
  obtain ⟨cs, rfl, _⟩ := Go.WideShapes.okWide_struct ht h; exact ⟨cs, rfl⟩
theorem form_array {w : World} {r : Reach} {b : Nat} {v : Value} {n : Nat} (ht : P.underlying t = some (.array n e)) (h : Value.okWide P w r b t v) : Form v true := by
  unfold Value.okWide at h
  rw [ht] at h
  obtain ⟨cs, rfl, _⟩ := h
  exact ⟨cs, rfl⟩
theorem opens_val {α : Type} {f : α → AV} {ok : α → Prop} {g : Bool} {H : Type} {enc : TypeId × Value → H} {w : World} {spare : Nat → Bool} {v : Value} {d : DataW H} {ps : List MemPlace}
    (ho : Opens P t f ok) (hv : Form v g) (hg : ∀ a, (f a).isAgg = g) (h : DataW.Trod enc P w 0 spare true t v d ps) : ∃ a, ok a ∧ Rv0 (emp w) (f a) v := by
  obtain ⟨fuel, hf⟩ := h
  obtain ⟨a, h1, h2⟩ := ho enc w spare fuel _ _ hf
  refine ⟨a, h1, ?_⟩
  have h2 := Rd.rc (μ := emp w) _ _ h2
  unfold Rv0
  rw [hg a]
  cases g with
  | true =>
    obtain ⟨cs, rfl⟩ := hv
    exact ⟨cs, rfl, h2⟩
  | false =>
    have hv' : v.cells = #[v] := hv
    rw [hv'] at h2
    exact h2
end
end Go.UK

