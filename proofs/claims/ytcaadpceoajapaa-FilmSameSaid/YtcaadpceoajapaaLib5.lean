/- The own layer: abstract values, their memory, and the steps of the model over them: for any program. -/
import Derived.Test.YtcaadpceoajapaaLib4
import Derived.Carry
import Derived.ChangeKeysEq
import Derived.Laws.StructEq
namespace Go.UK
open Go
open Go.RowKit (Below)

theorem Later.below {w w' : World} (h : Later w w') : Below w.heap.size w w' := ⟨h.os, h.tape, h.output, h.size, h.block⟩
/-- A law whose pure function says true; nothing that was there turns. -/
theorem law_below {P : Program} {f : FuncId} {args : List AV} {vs : List Value} (h : Fn P f args (eB true)) (w : World) (hr : RvL (emp w) args vs) :
    Calls P f vs.toArray w fun e w' => e = .returned (.bool true) ∧ Below w.heap.size w w' := by
  refine (h w _ vs (ok_empty w) hr).mono ?_
  rintro e w' ⟨y, rfl, hl, hy⟩
  exact ⟨by rw [rv_bool hy], hl.below⟩

section
variable {P : Program} {t e : TypeId}
theorem opens_array {α : Type} {f : α → AV} {ok : α → Prop} {n k m : Nat} (ht : P.underlying t = some (.array n e)) (hs : P.cellsOf t = m) (hk : P.cellsOf e = k) (hmk : m = n * k) (hn : ∀ a, (f a).n = k) (hf : Opens P e f ok) :
    Opens P t (eA m k f : Vector α n → AV) (fun v => ∀ a ∈ v.toList, ok a) := by
  intro H enc w spare fuel cs x h
  obtain ⟨xs, n', _, _, hl, hx, hel⟩ := DataW.trod_array ht h
  have hx : ∀ i, ∃ b : Option α, i < n → ∃ b', b = some b' ∧ ok b' ∧ Rc (emp w) (f b') ((cs.drop (i * k)).take k) := by
    intro i
    by_cases hi : i < n
    · have h1 := hel i hi
      rw [hk, List.getElem?_eq_getElem (by omega)] at h1
      obtain ⟨b, hb1, hb2⟩ := hf enc w spare n' _ _ h1
      exact ⟨some b, fun _ => ⟨b, rfl, hb1, hb2⟩⟩
    · exact ⟨none, fun h' => absurd h' hi⟩
  obtain ⟨b, hb⟩ := Classical.axiomOfChoice hx
  have hlen : cs.length = n * k := by rw [hl, hs, hmk]
  have key : ∀ j, j ≤ n → (List.range j).flatMap (fun i => (cs.drop (i * k)).take k) = cs.take (j * k) := by
    intro j
    induction j with
    | zero => intro _; simp
    | succ j ih =>
      intro hj
      rw [List.range_succ, List.flatMap_append, ih (by omega)]
      simp only [List.flatMap_cons, List.flatMap_nil, List.append_nil]
      rw [Nat.succ_mul, List.take_add]
  rcases Nat.eq_zero_or_pos n with h0 | hpos
  · subst h0
    refine ⟨⟨#[], rfl⟩, by simp [Vector.toList], ?_⟩
    have hc0 : cs = [] := by simpa using hlen
    subst hc0
    simp [eA, Vector.toList, Rc, RcL]
    omega
  · obtain ⟨y0, _⟩ := hb 0 hpos
    let g : Nat → α := fun i => (b i).getD y0
    have hg : ∀ i, i < n → ok (g i) ∧ Rc (emp w) (f (g i)) ((cs.drop (i * k)).take k) := by
      intro i hi
      obtain ⟨y, hy, h1, h2⟩ := hb i hi
      have : g i = y := by simp [g, hy]
      rw [this]
      exact ⟨h1, h2⟩
    refine ⟨⟨((List.range n).map g).toArray, by simp⟩, fun y hy => ?_, ?_⟩
    · simp only [Vector.toList] at hy
      obtain ⟨i, hi, rfl⟩ := List.mem_map.1 hy
      exact (hg i (by simpa using hi)).1
    · have hrl := rcl_map (μ := emp w) (f := f) g (fun i => (cs.drop (i * k)).take k) (List.range n) (fun i hi => (hg i (by simpa using hi)).2)
      rw [key n (Nat.le_refl _), List.take_of_length_le (by omega)] at hrl
      simp only [eA, Vector.toList, Rc]
      refine ⟨by omega, fun z hz => ?_, hrl⟩
      obtain ⟨y, _, rfl⟩ := List.mem_map.1 hz
      exact hn y

theorem opens_fld {H : Type} {enc : TypeId × Value → H} {w : World} {spare : Nat → Bool} {n : Nat} {cs : List Value} {xs : List (DataW H × List MemPlace)} {fs : Array Field} (hx : xs.length = fs.size)
    (hf : ∀ (i : Nat) (f : Field), fs[i]? = some f → DataW.trod enc P w 0 spare true n f.type ((cs.drop f.offset).take (P.cellsOf f.type)) = xs[i]?) (i o s : Nat) (f : Field) (hi : fs[i]? = some f) (ho : f.offset = o) (hs : P.cellsOf f.type = s)
    {β : Type} {g : β → AV} {ok : β → Prop} (hop : Opens P f.type g ok) : ∃ b, ok b ∧ Rc (emp w) (g b) ((cs.drop o).take s) := by
  have h1 := hf i f hi
  have hlt : i < xs.length := by rw [hx]; exact (Array.getElem?_eq_some_iff.1 hi).1
  rw [List.getElem?_eq_getElem hlt, ho, hs] at h1
  exact hop enc w spare n _ _ h1
theorem rcl_step {μ : Mem} {p : AV} {ps : List AV} {cs : List Value} {o s : Nat} (h : Rc μ p ((cs.drop o).take s)) (hs : RcL μ ps (cs.drop (o + s))) : RcL μ (p :: ps) (cs.drop o) := by
  simp only [RcL]
  exact ⟨_, _, (List.take_append_drop s (cs.drop o)).symm, h, by rw [List.drop_drop]; exact hs⟩
theorem rcl_end {μ : Mem} {cs : List Value} {o : Nat} (h : cs.length = o) : RcL μ [] (cs.drop o) := by
  simp only [RcL]
  exact List.drop_of_length_le (by omega)
theorem rc_st {μ : Mem} {ps : List AV} {cs : List Value} {n : Nat} (hl : cs.length = n) (h : RcL μ ps (cs.drop 0)) : Rc μ (.st n ps) cs := by
  simp only [Rc]
  exact ⟨hl, h⟩

/-! the argument itself -/
def Form (v : Value) (agg : Bool) : Prop := if agg then ∃ cs, v = .agg cs else v.cells = #[v]
theorem form_int {w : World} {r : Reach} {b : Nat} {v : Value} {k : IntKind} (ht : P.underlying t = some (.int k)) (h : Value.okWide P w r b t v) : Form v false := by
  obtain ⟨n, rfl⟩ := Go.WideShapes.okWide_int ht h; rfl
theorem form_bool {w : World} {r : Reach} {b : Nat} {v : Value} (ht : P.underlying t = some .bool) (h : Value.okWide P w r b t v) : Form v false := by
  obtain ⟨n, rfl⟩ := Go.WideShapes.okWide_bool ht h; rfl
theorem form_str {w : World} {r : Reach} {b : Nat} {v : Value} (ht : P.underlying t = some .string) (h : Value.okWide P w r b t v) : Form v false := by
  obtain ⟨n, rfl⟩ := Go.WideShapes.okWide_string ht h; rfl
theorem form_slice {w : World} {r : Reach} {b : Nat} {v : Value} (ht : P.underlying t = some (.slice e)) (h : Value.okWide P w r b t v) : Form v false := by
  obtain ⟨a, l, c, rfl⟩ := Go.WideShapes.okWide_slice ht h; rfl
theorem form_struct {w : World} {r : Reach} {b : Nat} {v : Value} {fs : Array Field} (ht : P.underlying t = some (.struct fs)) (h : Value.okWide P w r b t v) : Form v true := by
  obtain ⟨cs, rfl, _⟩ := Go.WideShapes.okWide_struct ht h; exact ⟨cs, rfl⟩
theorem form_array {w : World} {r : Reach} {b : Nat} {v : Value} {n : Nat} (ht : P.underlying t = some (.array n e)) (h : Value.okWide P w r b t v) : Form v true := by
  unfold Value.okWide at h
  rw [ht] at h
  obtain ⟨cs, rfl, _⟩ := h
  exact ⟨cs, rfl⟩
theorem opens_val {α : Type} {f : α → AV} {ok : α → Prop} {g : Bool} {H : Type} {enc : TypeId × Value → H} {w : World} {spare : Nat → Bool} {v : Value} {d : DataW H} {ps : List MemPlace}
    (ho : Opens P t f ok) (hv : Form v g) (hg : ∀ a, (f a).isAgg = g) (h : DataW.Trod enc P w 0 spare true t v d ps) : ∃ a, ok a ∧ Rv0 (emp w) (f a) v := by
  obtain ⟨fuel, hf⟩ := h
  obtain ⟨a, h1, h2⟩ := ho enc w spare fuel _ _ hf
  refine ⟨a, h1, ?_⟩
  unfold Rv0
  rw [hg a]
  cases g with
  | true =>
    obtain ⟨cs, rfl⟩ := hv
    exact ⟨cs, rfl, h2⟩
  | false =>
    have hv' : v.cells = #[v] := hv
    rw [hv'] at h2
    exact h2
end
end Go.UK

namespace Go.UK
open Go

def EqT (P : Program) (t : TypeId) {α : Type} (f : α → AV) (eq : α → α → Bool) (m : Nat) : Prop :=
  ∀ (d : Nat) (w : World) (μ : Mem) (a b : α) (x y : Value), Rv0 μ (f a) x → Rv0 μ (f b) y → (Op.equalIn (d + m) t x y).run P w = .ok (eq a b) w

def eqL {α : Type} (eq : α → α → Bool) : List α → List α → Bool
  | [], [] => true
  | a :: as, b :: bs => eq a b && eqL eq as bs
  | _, _ => false
def eqV {α : Type} {n : Nat} (eq : α → α → Bool) (v w : Vector α n) : Bool := eqL eq v.toList w.toList

section
variable {P : Program} {T : TypeId → Option TI} {t e : TypeId}
theorem rv0_v {μ : Mem} {x y : Value} (h : Rv0 μ (.v x) y) : y = x := by
  simp [Rv0, AV.isAgg, Rc] at h; exact h.1
theorem eqT_int {k : IntKind} (ht : P.underlying t = some (.int k)) : EqT P t (eI k) (fun a b => a == b) 1 := by
  intro d w μ a b x y hx hy
  rw [rv0_v hx, rv0_v hy]
  exact run_equalIn_int w d t k k a b ht
theorem eqT_bool (ht : P.underlying t = some .bool) : EqT P t eB (fun a b => a == b) 1 := by
  intro d w μ a b x y hx hy
  rw [rv0_v hx, rv0_v hy]
  exact run_equalIn_bool' w d t a b ht
theorem eqT_str (ht : P.underlying t = some .string) : EqT P t eS (fun a b => a.toList == b.toList) 1 := by
  intro d w μ a b x y hx hy
  rw [rv0_v hx, rv0_v hy]
  exact run_equalIn_string w d t a b ht

theorem take_map_len {α : Type} {f : α → AV} {k : Nat} (hn : ∀ a, (f a).n = k) (l : List α) {μ : Mem} {ys : List Value} (h : RcL μ (l.map f) ys) : ys.length = l.length * k := by
  have := RcL.length _ _ h
  rw [this]
  clear this h
  induction l with
  | nil => simp [sizes]
  | cons a l ih => rw [List.map_cons, sizes_cons, ih, hn, List.length_cons, Nat.succ_mul, Nat.add_comm]

theorem eqT_array {α : Type} {f : α → AV} {eq : α → α → Bool} {n k M m : Nat} {ei : TI} (hT : TOK P T) (he : T e = some ei) (ht : P.underlying t = some (.array n e)) (hk : P.cellsOf e = k) (hn : ∀ a, (f a).n = k) (hek : ei.size = k)
    (hag : ∀ a, (f a).isAgg = ei.kind.agg) (NT : ∀ a, notTup (f a) = true) (h : EqT P e f eq m) : EqT P t (eA M k f : Vector α n → AV) (eqV eq) (m + 1) := by
  intro d w μ a b x y hx hy
  have hx' : ∃ xs, x = .agg xs ∧ Rc μ (eA M k f a) xs.toList := by simpa [Rv0, eA, AV.isAgg] using hx
  have hy' : ∃ ys, y = .agg ys ∧ Rc μ (eA M k f b) ys.toList := by simpa [Rv0, eA, AV.isAgg] using hy
  clear hx hy
  obtain ⟨xs, rfl, hx⟩ := hx'
  obtain ⟨ys, rfl, hy⟩ := hy'
  unfold eA at hx hy
  simp only [Rc] at hx hy
  replace hx := hx.2.2
  replace hy := hy.2.2
  obtain ⟨ti, _, hi, _⟩ := (hT e _ he).info
  rw [show d + (m + 1) = (d + m) + 1 from rfl, run_equalIn_array w (d + m) xs ys ht hi, hk]
  have la : a.toList.length = n := by simp
  have lb : b.toList.length = n := by simp
  unfold eqV
  generalize a.toList = A at *
  generalize b.toList = B at *
  have key : ∀ r s, s + r = n → (Op.eqItems (d + m) e k xs ys (List.range' s r)).run P w = .ok (eqL eq (A.drop s) (B.drop s)) w := by
    intro r
    induction r with
    | zero =>
      intro s hs
      rw [List.drop_of_length_le (by omega), List.drop_of_length_le (by omega)]
      simp [Op.eqItems, eqL]
    | succ r ih =>
      intro s hs
      have ha : A[s]? = some A[s] := List.getElem?_eq_getElem (by omega)
      have hb : B[s]? = some B[s] := List.getElem?_eq_getElem (by omega)
      obtain ⟨x1, x2, x3, g1, g2, g3, _⟩ := hx.pick (j := s) (p := f A[s]) (by rw [List.getElem?_map, ha]; rfl)
      obtain ⟨y1, y2, y3, k1, k2, k3, _⟩ := hy.pick (j := s) (p := f B[s]) (by rw [List.getElem?_map, hb]; rfl)
      have l1 : x1.length = s * k := by
        rw [← List.map_take] at g2
        rw [take_map_len hn _ g2, List.length_take]; congr 1; omega
      have l2 : y1.length = s * k := by
        rw [← List.map_take] at k2
        rw [take_map_len hn _ k2, List.length_take]; congr 1; omega
      obtain ⟨u, u1, u2⟩ := run_part hT he (cs := xs) g1 g3 (hag _) (by rw [hn, hek]) w
      obtain ⟨v, v1, v2⟩ := run_part hT he (cs := ys) k1 k3 (hag _) (by rw [hn, hek]) w
      rw [l1] at u1
      rw [l2] at v1
      have u3 : Rv0 μ (f A[s]) u := rv_rv0 u2 (NT _)
      have v3 : Rv0 μ (f B[s]) v := rv_rv0 v2 (NT _)
      have hq := h d w μ _ _ _ _ u3 v3
      rw [List.range'_succ]
      simp only [Op.eqItems, Sem.run_bind, u1, v1, hq, Result.andThen_ok]
      rw [List.drop_eq_getElem_cons (show s < A.length by omega), List.drop_eq_getElem_cons (show s < B.length by omega)]
      simp only [eqL]
      cases hqq : eq A[s] B[s] with
      | false => simp
      | true => simpa using ih (s + 1) (by omega)
  have := key n 0 (by omega)
  rw [List.range_eq_range']
  simpa using this
end
end Go.UK

namespace Go.UK
open Go
section
variable {P : Program} {T : TypeId → Option TI} {n : Fr}
theorem run_eqT {t : TypeId} {x y : Operand} {α : Type} {f : α → AV} {eq : α → α → Bool} {m : Nat} {a b : α} {vx vy : Value} {μ : Mem} (hE : EqT P t f eq m) (hm : Nat.ble m 10000 = true) (hg : P.eqGuardType P.depth t = false)
    (hag : ∀ a, (f a).isAgg = true) (hx : Rv0 μ (f a) vx) (hy : Rv0 μ (f b) vy) (w : World) :
    (do eqGuard .eql t x y vx vy; binOp .eql t vx vy).run P w = .ok (.bool (eq a b)) w ∧ (do eqGuard .neq t x y vx vy; binOp .neq t vx vy).run P w = .ok (.bool !(eq a b)) w := by
  have hm := Nat.le_of_ble_eq_true hm
  have he : (Op.equal t vx vy).run P w = .ok (eq a b) w := by
    have := hE (10000 - m) w μ a b vx vy hx hy
    rw [show 10000 - m + m = 10000 by omega] at this
    exact this
  have hx' : ∃ xs, vx = .agg xs ∧ Rc μ (f a) xs.toList := by simpa [Rv0, hag] using hx
  have hy' : ∃ ys, vy = .agg ys ∧ Rc μ (f b) ys.toList := by simpa [Rv0, hag] using hy
  obtain ⟨xs, rfl, _⟩ := hx'
  obtain ⟨ys, rfl, _⟩ := hy'
  constructor <;>
    simp only [eqGuard, binOp, Sem.run_bind, run_program, Result.andThen_ok, hg, Bool.not_false, Bool.not_true, if_true, Sem.run_pure, he, Bool.false_eq_true, if_false] <;> rfl
theorem owp_eql {o : Oper} {t t' : TypeId} {x y : Operand} {α : Type} {f : α → AV} {eq : α → α → Bool} {m : Nat} {a b : α} {d : Nat} {st : ASt} (ho : o.op = .binOp .eql t x y t') (hd : o.dst = some d) (hn : Nat.ble n.n d = false)
    (hx : opd st.env none x = some (f a)) (hy : opd st.env none y = some (f b)) (hE : EqT P t f eq m) (hm : Nat.ble m 10000 = true) (hg : P.eqGuardType P.depth t = false) (hag : ∀ a, (f a).isAgg = true) (hnt : ∀ a, notTup (f a) = true) :
    owp P n o st ⟨st.env.set d (none, eB (eq a b)), st.H⟩ := by
  refine owp_of_runs fun ctx a' μ hm' => ?_
  have h1 := rv_rv0 (opd_spec hm'.env noG hx) (hnt _)
  have h2 := rv_rv0 (opd_spec hm'.env noG hy) (hnt _)
  have := (run_eqT (x := x) (y := y) hE hm hg hag h1 h2 μ.w).1
  refine ⟨_, _, Runs.here (y := .bool (eq a b)) hm'.ok ?_ (rv_v rfl), fun y hy hx hok => ?_⟩
  · rw [Sem.run_bind] at this
    simp only [execOp, ho, Sem.run_bind, this, Result.andThen_ok, Sem.run_pure]
  · rw [hd, ← hm'.h]
    exact sat_put hm' hx hok (ble_lt hn) hy
theorem owp_neq {o : Oper} {t t' : TypeId} {x y : Operand} {α : Type} {f : α → AV} {eq : α → α → Bool} {m : Nat} {a b : α} {d : Nat} {st : ASt} (ho : o.op = .binOp .neq t x y t') (hd : o.dst = some d) (hn : Nat.ble n.n d = false)
    (hx : opd st.env none x = some (f a)) (hy : opd st.env none y = some (f b)) (hE : EqT P t f eq m) (hm : Nat.ble m 10000 = true) (hg : P.eqGuardType P.depth t = false) (hag : ∀ a, (f a).isAgg = true) (hnt : ∀ a, notTup (f a) = true) :
    owp P n o st ⟨st.env.set d (none, eB !(eq a b)), st.H⟩ := by
  refine owp_of_runs fun ctx a' μ hm' => ?_
  have h1 := rv_rv0 (opd_spec hm'.env noG hx) (hnt _)
  have h2 := rv_rv0 (opd_spec hm'.env noG hy) (hnt _)
  have := (run_eqT (x := x) (y := y) hE hm hg hag h1 h2 μ.w).2
  refine ⟨_, _, Runs.here (y := .bool !(eq a b)) hm'.ok ?_ (rv_v rfl), fun y hy hx hok => ?_⟩
  · rw [Sem.run_bind] at this
    simp only [execOp, ho, Sem.run_bind, this, Result.andThen_ok, Sem.run_pure]
  · rw [hd, ← hm'.h]
    exact sat_put hm' hx hok (ble_lt hn) hy
end
end Go.UK

namespace Go.UK
open Go
section
variable {P : Program} {T : TypeId → Option TI} {n : Fr}
/-- a plain operation behind a guard, in a region that draws -/
theorem opS_flag (hT : TOK P T) {ops : Array Oper} {o : Oper} {j dj d : Nat} {want b0 : Bool} {need env : Env} {H : List Box} {x : AV} (hs : Sub need env) (hg : o.guard = some (j, want)) (hdj : flagOf ops j = some dj) (hd : o.dst = some d)
    (hn : Nat.ble n.n d = false) (hne : dj ≠ d) (hget : get need dj = some (.v (.bool b0))) (he : ev T true (opd need (some (dj, want))) H o = some (x, none)) : opS P n ops o ⟨env, H⟩ ⟨env.set d (some (dj, want), x), H⟩ := by
  have hdn := ble_lt hn
  intro ctx a w Qx hsat
  obtain ⟨bs, hm⟩ := hsat
  have henv := sub_env hs hm.env
  obtain ⟨vc, hc1, hc2⟩ := henv.get hget
  have ec := rv_bool hc2
  subst ec
  have hwant : Region.wanted o (yielded ops a.tmps) = (b0 == want) := by
    unfold Region.wanted
    rw [hg]
    simp only [yielded_of hdj hc1]
    cases b0 <;> cases want <;> rfl
  rw [hwant]
  split
  · rename_i hb
    simp only [beq_iff_eq] at hb
    subst hb
    obtain ⟨bs', w', y, h1, h2, h3, h4⟩ := ev_sound (P := P) (μ := ⟨H, bs, w, ctx.F⟩) (a := a) hT (fun y v hv => opd_spec (g := some (dj, b0)) henv (fun g' hg' => by cases hg'; exact hc1) hv) hm.ok he
    unfold Oper.wp
    rw [h1]
    simp only [Oper.upon]
    refine ⟨bs', ?_⟩
    rw [hd]
    exact {
      h := rfl, ok := h4, ext := hm.ext.trans h3
      env := (hm.env.ext h3).set (by rw [hm.size]; exact hdn) (by intro g hg'; cases hg'; exact hne) (fun _ => h2)
      size := by simp [Act.put, hm.size]
      low := hm.low
      defers := by simp [Act.put, hm.defers] }
  · rename_i hb
    refine ⟨bs, ?_⟩
    rw [hd]
    exact {
      h := rfl, ok := hm.ok, ext := hm.ext
      env := hm.env.set (by rw [hm.size]; exact hdn) (by intro g hg'; cases hg'; exact hne) (fun hj => by
        rw [hc1] at hj
        cases hj
        simp at hb)
      size := by simp [Act.put, hm.size]
      low := hm.low
      defers := by simp [Act.put, hm.defers] }
theorem stab_flag (hT : TOK P T) {ops : Array Oper} {ms : List MI} {B : Env} {H : List Box} {bx : BX} {i d j dj : Nat} {keys : List Nat} {x : AV} {o : Oper} {need : Env} {want b0 : Bool} (ho : ops[i]? = some o) (hm : ms[i]? = some ⟨keys, d, (some (dj, want), x)⟩) (hneed : needOf ops ms B i = need)
    (hb : (match bx with | some (ai, _) => Nat.beq i ai | none => false) = false) (hg : o.guard = some (j, want)) (hdj : flagOf ops j = some dj) (hd : o.dst = some d) (hn : Nat.ble n.n d = false) (hne : Nat.beq dj d = false) (hget : get need dj = some (.v (.bool b0)))
    (he : (hsOf H bx).map (fun H' => ev T true (opd need (some (dj, want))) H' o) = (hsOf H bx).map (fun _ => some (x, none))) : Stab P n ops ms B H bx i := by
  refine stab_of ho hm hneed hb fun env H' hH hs => ?_
  have : ev T true (opd need (some (dj, want))) H' o = some (x, none) := by
    obtain ⟨q, hq⟩ := List.getElem?_of_mem hH
    have := congrArg (fun l => l[q]?) he
    simp only [List.getElem?_map, hq, Option.map_some, Option.some.injEq] at this
    exact this
  exact opS_flag hT hs hg hdj hd hn (fun e => by subst e; simp at hne) hget this
end
end Go.UK

namespace Go.UK
open Go
/-- what a guard, once known, makes of what hangs on it -/
def settle (dj : Nat) (b : Bool) : Env → Env
  | [] => []
  | (i, some (some (d, w), x)) :: r => (i, match Nat.beq d dj with
    | true => match sameB w b with | true => some (none, x) | false => none
    | false => some (some (d, w), x)) :: settle dj b r
  | (i, e) :: r => (i, e) :: settle dj b r
theorem look_settle {dj : Nat} {b : Bool} : ∀ {env : Env} {i : Nat} {e : EV}, look (settle dj b env) i = some e → look env i = some e ∨ (e.1 = none ∧ look env i = some (some (dj, b), e.2))
  | [], i, e, h => by simp [settle, look] at h
  | (j, none) :: r, i, e, h => by
    simp only [settle, look] at h ⊢
    cases hb : Nat.beq j i with
    | true => rw [hb] at h; exact .inl h
    | false => rw [hb] at h; exact look_settle h
  | (j, some (none, x)) :: r, i, e, h => by
    simp only [settle, look] at h ⊢
    cases hb : Nat.beq j i with
    | true => rw [hb] at h; exact .inl h
    | false => rw [hb] at h; exact look_settle h
  | (j, some (some (d, w), x)) :: r, i, e, h => by
    simp only [settle, look] at h ⊢
    cases hb : Nat.beq j i with
    | false => rw [hb] at h; exact look_settle h
    | true =>
      rw [hb] at h
      simp only at h ⊢
      cases hd : Nat.beq d dj with
      | false => rw [hd] at h; exact .inl h
      | true =>
        rw [hd] at h
        have := Nat.eq_of_beq_eq_true hd
        subst this
        cases hw : sameB w b with
        | false => rw [hw] at h; cases h
        | true =>
          rw [hw] at h
          have := sameB_spec hw
          subst this
          cases h
          exact .inr ⟨rfl, rfl⟩
section
variable {P : Program} {n : Fr}
theorem awl_settle {ops : Array Oper} {l : List Oper} {st : ASt} {K : ASt → Prop} (dj : Nat) (b : Bool) (hg : get st.env dj = some (.v (.bool b))) (hk : awl P n ops l K ⟨settle dj b st.env, st.H⟩) : awl P n ops l K st := by
  intro ctx a w hs
  refine hk ctx a w ?_
  obtain ⟨bs, hm⟩ := hs
  refine ⟨bs, { h := rfl, ok := hm.ok, ext := hm.ext, env := ?_, size := hm.size, low := hm.low, defers := hm.defers }⟩
  intro i e hl
  rcases look_settle hl with h | ⟨h1, h2⟩
  · exact hm.env i e h
  · obtain ⟨y, hy1, hy2⟩ := hm.env i _ h2
    obtain ⟨v, hv1, hv2⟩ := hm.env.get hg
    have := rv_bool hv2
    subst this
    refine ⟨y, hy1, ?_⟩
    obtain ⟨e1, e2⟩ := e
    simp only at h1
    subst h1
    exact hy2 hv1
end
end Go.UK

