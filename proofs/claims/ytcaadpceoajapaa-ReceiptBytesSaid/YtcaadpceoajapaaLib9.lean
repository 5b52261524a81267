/- The own layer: abstract values, their memory, and the steps of the model over them: for any program. -/
import Derived.Test.YtcaadpceoajapaaLib8
import Derived.Shelf.Spec.SlicesGrow
namespace Go.UK
open Go
/-! ### less is said of a slot -/
section
variable {P : Program} {n : Fr}
def wkS (d : Nat) (y : AV) (st : ASt) : ASt :=
  match get st.env d with
  | some x => match notTup x with
    | true => ⟨(d, some (none, wk x y)) :: st.env, st.H⟩
    | false => st
  | none => st
theorem sat_wkS {st : ASt} {d : Nat} {y : AV} {ctx : Mem} {a : Act} {w : World} (h : Sat n ctx st a w) : Sat n ctx (wkS d y st) a w := by
  unfold wkS
  split
  · rename_i x hx
    split
    · rename_i ht
      obtain ⟨bs, hm⟩ := h
      obtain ⟨v, h1, h2⟩ := hm.env.get hx
      refine ⟨bs, { h := rfl, ok := hm.ok, ext := hm.ext, env := ?_, size := hm.size, low := hm.low, defers := hm.defers, nod := hm.nod, outs := hm.outs }⟩
      intro i e hl
      simp only [look] at hl
      split at hl
      · rename_i hi
        have hi := Nat.eq_of_beq_eq_true hi
        subst hi
        cases hl
        refine ⟨v, h1, ?_⟩
        have h3 := rv_rv0 h2 ht
        have h4 : Rv0 ⟨st.H, bs, w, ctx.F⟩ (wk x y) v := by
          have h5 := vOf_imp (fun zs hz => wk_rc x y zs hz) (rv0_vOf.1 h3)
          refine rv0_vOf.2 ?_
          unfold vOf at h5 ⊢
          rw [(wk_n x y).2]
          exact h5
        show Rv ⟨st.H, bs, w, ctx.F⟩ (wk x y) v
        generalize hz : wk x y = z at h4
        cases z with
        | tup vs =>
          exfalso
          unfold wk at hz
          split at hz <;> cases hz <;> simp [notTup] at ht
        | _ => exact h4
      · exact hm.env i e hl
    · exact h
  · exact h
theorem awl_wk {ops : Array Oper} {l : List Oper} {st : ASt} {K : ASt → Prop} (d : Nat) (y : AV) (hk : awl P n ops l K (wkS d y st)) : awl P n ops l K st := fun ctx a w hs => hk ctx a w (sat_wkS hs)
theorem aw_wk {c : Code} {st : ASt} {Q : Exit → ASt → Prop} (d : Nat) (y : AV) (hk : aw P n c Q (wkS d y st)) : aw P n c Q st := fun ctx a w hs => hk ctx a w (sat_wkS hs)
end
end Go.UK

namespace Go.UK
open Go Go.Proofs
/-! ### slices.Grow of no slice: an appendable one; and a literal of places -/
def growO (α : Type) (b : Nat) (n : Int) : Option (List α) := cond (decide (0 ≤ n) && (decide (n ≤ 4611686018427387904) && decide (n * b ≤ 140737488355328))) (some []) none
theorem growO_t {α : Type} {b : Nat} {n : Int} {r : List α} (h : growO α b n = some r) : r = [] ∧ 0 ≤ n ∧ n ≤ 4611686018427387904 ∧ n * b ≤ 140737488355328 := by
  unfold growO at h
  cases hc : (decide (0 ≤ n) && (decide (n ≤ 4611686018427387904) && decide (n * b ≤ 140737488355328))) with
  | true =>
    rw [hc] at h
    simp only [cond_true, Option.some.injEq] at h
    simp only [Bool.and_eq_true, decide_eq_true_eq] at hc
    exact ⟨h.symm, hc.1, hc.2.1, hc.2.2⟩
  | false => rw [hc] at h; cases h
theorem growO_ok {α : Type} {b : Nat} {n : Int} (h0 : 0 ≤ n) (h1 : n ≤ 4611686018427387904) (h2 : n * b ≤ 140737488355328) : growO α b n = some [] := by
  unfold growO
  rw [show (decide (0 ≤ n) && (decide (n ≤ 4611686018427387904) && decide (n * b ≤ 140737488355328))) = true by simp [h0, h1, h2]]
  rfl

theorem rv_own_nil {α : Type} {F : α → AV} {k : Nat} {a : Option Addr} {cap : Nat} {bs : List (Option Nat)} {w : World} {G : Nat → Nat → Prop} (h : (∃ b, bs[0]? = some (some b) ∧ a = some ⟨b, 0, none⟩ ∧ (⟨[.tail 0], bs, w, G⟩ : Mem).row b (cap * k)) ∨ (bs[0]? = some none ∧ cap = 0)) :
    Rv ⟨[.tail 0], bs, w, G⟩ (eO 0 k F ([] : List α)) (.slice a 0 cap) := by
  show Rv0 _ (.own 0 k 0 []) _
  simp only [Rv0, AV.isAgg, Rc, Bool.false_eq_true, if_false]
  refine ⟨rfl, a, cap, rfl, Nat.zero_le _, by simp, .inl trivial, by simp, fun m hm => ?_⟩
  simp at hm
  subst hm
  exact ⟨by simp, fun _ => by simpa using h⟩

theorem grow_fn {P : Program} {ρ : Shelf.Ren} (L : Lays8.n4 P ρ) {f : FuncId} (hf : ρ.f 4 = f) {α : Type} (F : α → AV) {k b : Nat} {i0 : TypeInfo} {z : Value} (hi0 : P.info? (ρ.t 25) = some i0) (hz : i0.zero = some z) (hzl : z.cells.size = i0.size) (hk : i0.size = k) (hb : i0.bytes = b) (hk0 : 0 < k)
    {n : Int} {r : List α} (h : growO α b n = some r) : FnM P f [] [.v (.slice none 0 0), .v (.int .i64 n)] (eO 0 k F r) [.tail (r.length * k)] := by
  obtain ⟨rfl, h0, h1, h2⟩ := growO_t h
  subst hf hk hb
  rintro w G bs vs ok ⟨y0, r0, rfl, g0, y1, r1, rfl, g1, rfl⟩
  have hbs : bs = [] := List.eq_nil_of_length_eq_zero ok.len
  subst hbs
  have e0 := rv_bool (rv0_rv g0)
  have e1 := rv_bool (rv0_rv g1)
  subst e0 e1
  have hz0 : ([] : List α).length * i0.size = 0 := by simp
  rw [hz0]
  obtain ⟨m, rfl⟩ := Int.eq_ofNat_of_zero_le h0
  have hbb : m * i0.bytes ≤ 140737488355328 := by
    have : ((m * i0.bytes : Nat) : Int) ≤ 140737488355328 := by simpa using h2
    omega
  rcases Nat.eq_zero_or_pos m with hm | hm
  · subst hm
    refine (Any8.slices_Grow_room L none 0 0 0 w (by omega) (by omega) (by omega) (by omega)).mono ?_
    rintro e w' ⟨rfl, rfl⟩
    refine ⟨_, [none], rfl, Ext.snoc ok.len (Later.refl _) (.tail 0) none (by intro b e; cases e), OK.snoc ok (Later.refl _) (x := .tail 0) (o := none) (by intro b e; cases e) (by intro b e; cases e), ?_⟩
    exact rv_own_nil (.inr ⟨rfl, rfl⟩)
  · refine (Any8.slices_Grow_grow L i0 z hi0 hz hk0 none 0 0 m [] w (by omega) (by omega) (by simpa using hbb) (by omega) (by simp) (fun _ => rfl) (by intro a e; cases e)).mono ?_
    rintro e w' ⟨rfl, rfl⟩
    generalize hG : grownCap w (0 + m) 0 (ρ.t 25) = C
    have hC : m ≤ C := by rw [← hG]; exact Nat.le_trans (by omega) (grownCap_ge w _ _ _)
    have later := (Later.drew w).trans (Later.alloc w.drew (([] : List Value).toArray ++ Builtin.zeroCells z.cells (0 + m - 0) ++ Builtin.zeroCells z.cells (C - (0 + m))) (ρ.t 25))
    have hrow : ∀ H bs, (⟨H, bs, w.drew.alloc (.cells (([] : List Value).toArray ++ Builtin.zeroCells z.cells (0 + m - 0) ++ Builtin.zeroCells z.cells (C - (0 + m))) (ρ.t 25)), G⟩ : Mem).row w.heap.size (C * i0.size) := fun H bs => by
      refine ⟨_, _, heap_alloc_new (w := w.drew), ?_⟩
      simp only [Array.size_append, List.size_toArray, size_zeroCells, hzl, List.length_nil]
      rw [Nat.zero_add, ← Nat.add_mul]
      congr 1
      omega
    refine ⟨_, [some w.heap.size], rfl, Ext.snoc ok.len later (.tail 0) (some w.heap.size) (by intro b e; cases e; exact Nat.le_refl _), OK.snoc ok later (x := .tail 0) (o := some w.heap.size) (by intro b e; cases e; exact Nat.le_refl _) ?_, ?_⟩
    · intro b e
      cases e
      exact ⟨_, hrow _ _, Nat.zero_le _⟩
    · exact rv_own_nil (.inl ⟨_, rfl, rfl, hrow _ _⟩)

section
variable {P : Program} {T : TypeId → Option TI} {n : Fr}
/-- the elements of a literal that are no data: places -/
def stElems : AV → Option (Nat × List AV)
  | .st m es => some (m, es)
  | _ => none
def rowRV (T : TypeId → Option TI) (t : TypeId) (len : Nat) (l : List (Nat × AV)) : Option (Nat × Nat × List AV) :=
  match T t with
  | some { kind := .sl e, .. } => match T e with
    | some ie => match Nat.ble (len * ie.size) 16777216 && Nat.blt 0 (len * ie.size) with
      | true => match fillAV (fun i => some (i * ie.size, ie.size)) (.st (len * ie.size) (List.replicate len ie.zero)) l with
        | some x => match stElems x with
          | some (m, es) => match Nat.beq m (len * ie.size) with
            | true => some (ie.size, m, es)
            | false => none
          | none => none
        | none => none
      | false => none
    | none => none
  | _ => none
def rowR (T : TypeId → Option TI) (o : Oper) (need : Env) : Option (Nat × Nat × Nat × List AV) :=
  match o.op with
  | .buildSlice t len parts => match opds (opd need none) parts.toList with
    | some l => match rowRV T t len l with
      | some (k, m, es) => some (k, len, m, es)
      | none => none
    | none => none
  | _ => none
theorem big_rowR (hT : TOK P T) {o : Oper} {need : Env} {H : List Box} {k len m : Nat} {es : List AV} (hd : dOK n.n o.dst = true) (h : rowR T o need = some (k, len, m, es)) : Big P n o need H (.bsl H.length [] 0 k 0 len) (H ++ [.var (.st m es)]) := by
  refine big_of hd fun a μ ok hH hE => ?_
  unfold rowR at h
  split at h <;> try cases h
  rename_i t len' parts ho
  split at h <;> try cases h
  rename_i l hl
  split at h <;> cases h
  rename_i hr
  obtain ⟨hf, hl2⟩ := opds_spec _ _ hl
  have hvs : l.map Prod.fst = ((parts.map fun (i, x) => (i, a.eval x)).toList).map Prod.fst := by rw [hf]; simp
  have hv : ∀ (i : Nat) (q : Nat × AV) (v : Nat × Value), l[i]? = some q → (parts.map fun (i, x) => (i, a.eval x)).toList[i]? = some v → Rc μ q.2 v.2.cells.toList := by
    intro i q v hq hv
    rw [Array.toList_map, List.getElem?_map] at hv
    cases hp : parts.toList[i]? with
    | none => rw [hp] at hv; cases hv
    | some p =>
      rw [hp] at hv
      simp only [Option.map_some, Option.some.injEq] at hv
      subst hv
      have h1 := opd_spec hE noG (hl2 i q p hq hp).1
      exact h1.cells (notTup_spec (hl2 i q p hq hp).2)
  unfold rowRV at hr
  split at hr <;> try cases hr
  rename_i sz b1 z e ht
  split at hr <;> try cases hr
  rename_i ie he
  split at hr <;> try cases hr
  rename_i hle
  split at hr <;> try cases hr
  rename_i x hx
  split at hr <;> try cases hr
  rename_i m' es' hes
  split at hr <;> cases hr
  rename_i hb
  simp only [Bool.and_eq_true] at hle
  obtain ⟨hle1, hle2⟩ := hle
  have hle2 : 0 < len * ie.size := by
    have h' : Nat.ble (0 + 1) (len * ie.size) = true := hle2
    have := Nat.le_of_ble_eq_true h'
    omega
  obtain ⟨d, hd', hk⟩ := (hT t _ ht).kind
  simp only [TK.fits] at hk
  subst hk
  obtain ⟨zv, zs, g1, g2, g3, g4, g5⟩ := run_zero hT he μ.w
  have hz : Rc μ ie.zero zs := cst_rc _ _ g2
  have hrow : Rc μ (.st (len * ie.size) (List.replicate len ie.zero)) (List.replicate len zs).flatten := by
    simp only [Rc]
    exact ⟨by rw [rep_flat_length, g4], rcl_rep hz len⟩
  obtain ⟨ys', k1, k2, k3, k4⟩ := fillAV_spec l _ _ x (List.replicate len zs).flatten.toArray hvs hv hx (by simpa using hrow)
  cases x <;> simp only [stElems] at hes <;> try cases hes
  have hble : ¬ len * ie.size > 2 ^ 24 := by have := Nat.le_of_ble_eq_true hle1; omega
  have hpm : (parts.map fun (i, x) => (i, a.eval x)) = (parts.map fun x => (x.fst, a.eval x.snd)) := rfl
  have hrun : (execOp a.eval o).run P μ.w = .ok (.value (.slice (some ⟨μ.w.heap.size, 0, none⟩) len len)) (μ.w.alloc (.cells ys' e)) := by
    simp only [execOp, ho, Instr.buildSlice, Sem.run_bind, run_underlying hd', Result.andThen_ok, run_size hT he, Sem.run_ite, if_neg hble]
    have h0 : ¬ len * ie.size = 0 := by omega
    have hinit : (Array.range (len * ie.size)).map (fun i => zs.toArray[i % zs.toArray.size]!) = (List.replicate len zs).flatten.toArray := by
      rw [← Array.toList_inj, Array.toList_map, Array.toList_range]
      exact zeros_rep g4 len
    rw [if_neg h0]
    rw [hpm] at k1
    simp only [Sem.run_bind, g1, Result.andThen_ok, Sem.run_pure, g3, hinit, k1]
    simp only [newRow, Sem.run_bind, run_newObj, Result.andThen_ok, Sem.run_pure, World.alloc_eq]
  obtain ⟨H0, bs, w, F⟩ := μ
  dsimp only at hH
  subst hH
  obtain ⟨_, ext, ok'⟩ := new_var ok k2 e
  refine ⟨_, ⟨_, hrun, ?_, ext, ok'⟩, rfl⟩
  show Rv0 _ _ _
  simp only [Rv0, AV.isAgg, Rc, Bool.false_eq_true, if_false]
  refine ⟨w.heap.size, .st m es, len, ?_, ?_, Nat.le_refl _, by simp⟩
  · have hl : bs.length = H0.length := ok.len
    show (bs ++ [some w.heap.size])[H0.length]? = _
    rw [← hl]
    simp
  · show (H0 ++ [Box.var (.st m es)])[H0.length]? = _
    simp
end
end Go.UK

