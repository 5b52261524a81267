/- The own layer: abstract values, their memory, and the steps of the model over them: for any program. -/
import Derived.Test.YtlalbhcgnnbbmaaDoorLib10
set_option linter.all false
namespace Go.UK
open Go
/-! ### an error that is none; an appendable slice with room -/
section
variable {P : Program} {T : TypeId → Option TI} {n : Fr}
def isNilC : Operand → Bool
  | .const .nilIface => true
  | _ => false
def nilE (o : Oper) (need : Env) (op : BinOp) : Option TypeId :=
  match o.op with
  | .binOp op' t x y _ => match decide (op' = op) && isNilC y, opd need none x with
    | true, some (.v .nilIface) => some t
    | _, _ => none
  | _ => none
theorem nilE_spec {o : Oper} {need : Env} {op : BinOp} {t : TypeId} (h : nilE o need op = some t) : ∃ x t', o.op = .binOp op t x (.const .nilIface) t' ∧ opd need none x = some (.v .nilIface) := by
  unfold nilE at h
  split at h <;> try cases h
  rename_i op' t' x y t2 ho
  split at h <;> cases h
  rename_i hc hx
  simp only [Bool.and_eq_true, decide_eq_true_eq] at hc
  obtain ⟨rfl, hc⟩ := hc
  unfold isNilC at hc
  split at hc
  · exact ⟨x, t2, ho, hx⟩
  · cases hc
def isIfc : TypeDesc → Bool
  | .interface _ => true
  | _ => false
theorem run_eqnilI {t : TypeId} {d : TypeDesc} (w : World) (hd : P.underlying t = some d) (hk : isIfc d = true) : (Op.equal t .nilIface .nilIface).run P w = .ok true w := by
  have : (Op.equalIn (9999 + 1) t .nilIface .nilIface).run P w = .ok true w := by
    unfold Op.equalIn
    rw [Sem.run_bind, run_underlying hd]
    cases d <;> first | (cases hk; done) | rfl
  exact this
/-- e == nil, e != nil at an error that is none -/
theorem big_nil {o : Oper} {need : Env} {H : List Box} {t : TypeId} {d : TypeDesc} (hdst : dOK n.n o.dst = true) (hd : P.underlying t = some d) (hk : isIfc d = true) (op : BinOp) (b : Bool) (hb : (decide (op = .eql ∧ b = true) || decide (op = .neq ∧ b = false)) = true) (h : nilE o need op = some t) : Big P n o need H (eB b) H := by
  obtain ⟨x, t', ho, hx⟩ := nilE_spec h
  refine big_of hdst fun a μ ok hH hE => ?_
  have v1 := rv_bool (opd_spec hE noG hx)
  have v2 : a.eval (.const .nilIface) = .nilIface := rfl
  refine ⟨μ, Runs.here (y := .bool b) ok ?_ (rv_v rfl), hH⟩
  have he := run_eqnilI (P := P) μ.w hd hk
  simp only [Bool.or_eq_true, decide_eq_true_eq] at hb
  rcases hb with ⟨rfl, rfl⟩ | ⟨rfl, rfl⟩
  · simp [execOp, ho, v1, v2, eqGuard, binOp, he, Result.andThen]
  · simp [execOp, ho, v1, v2, eqGuard, binOp, he, Result.andThen]
/-! make([]T, 0, n) -/
theorem new_own0 {w w' : World} {H : List Box} {bs : List (Option Nat)} {F : Nat → Nat → Prop} (ok : (⟨H, bs, w, F⟩ : Mem).OK) (hl : Later w w') {k cap : Nat} (hrow : ∀ H bs, (⟨H, bs, w', F⟩ : Mem).row w.heap.size (cap * k)) :
    Ext ⟨H, bs, w, F⟩ ⟨H ++ [.tail 0], bs ++ [some w.heap.size], w', F⟩ ∧ (⟨H ++ [.tail 0], bs ++ [some w.heap.size], w', F⟩ : Mem).OK ∧
    Rv ⟨H ++ [.tail 0], bs ++ [some w.heap.size], w', F⟩ (.own H.length k 0 []) (.slice (some ⟨w.heap.size, 0, none⟩) 0 cap) := by
  have hbl : bs.length = H.length := ok.len
  have ext := Ext.snoc (F := F) ok.len hl (.tail 0) (some w.heap.size) (by intro b e; cases e; exact Nat.le_refl _)
  have ok' := OK.snoc ok hl (x := .tail 0) (o := some w.heap.size) (by intro b e; cases e; exact Nat.le_refl _) (by intro b e; cases e; exact ⟨_, hrow _ _, Nat.zero_le _⟩)
  refine ⟨ext, ok', ?_⟩
  show Rv0 _ _ _
  simp only [Rv0, AV.isAgg, Rc, Bool.false_eq_true, if_false]
  refine ⟨rfl, some ⟨w.heap.size, 0, none⟩, cap, rfl, Nat.zero_le _, by simp, .inl trivial, by simp, fun m hm => ?_⟩
  have hm : (H ++ [Box.tail 0])[H.length]? = some (.tail m) := hm
  simp at hm
  subst hm
  exact ⟨by simp, fun _ => .inl ⟨w.heap.size, by show (bs ++ [some w.heap.size])[H.length]? = _; rw [← hbl]; simp, rfl, hrow _ _⟩⟩
def mk0E (T : TypeId → Option TI) (o : Oper) (need : Env) : Option (Int × TI) :=
  match o.op with
  | .makeSlice t (.const (.int .i64 0)) b => match opd need none b, T t with
    | some (.v (.int .i64 i)), some ⟨_, _, _, .sl e⟩ => match T e with
      | some ei => some (i, ei)
      | none => none
    | _, _ => none
  | _ => none
theorem big_mk0 (hT : TOK P T) {o : Oper} {need : Env} {H : List Box} {α : Type} (f : α → AV) {i : Int} {b k : Nat} {z : AV} {kd : TK} {u : Unit} (hx : mkO b i = some u) (hd : dOK n.n o.dst = true) (h : mk0E T o need = some (i, ⟨k, b, z, kd⟩)) :
    Big P n o need H (eO H.length k f ([] : List α)) (H ++ [.tail (([] : List α).length * k)]) := by
  obtain ⟨h0, h1, h2⟩ := mkO_t hx
  refine big_of hd fun a μ ok hH hE => ?_
  unfold mk0E at h
  split at h <;> try cases h
  rename_i t y ho
  split at h <;> try cases h
  rename_i i' sz b1 z1 e hx ht
  split at h <;> cases h
  rename_i he
  have ex := rv_bool (opd_spec hE noG hx)
  obtain ⟨d, hd', hk⟩ := (hT t _ ht).kind
  simp only [TK.fits] at hk
  subst hk
  obtain ⟨zv, zs, g1, g2, g3, g4, g5⟩ := run_zero hT he μ.w
  obtain ⟨te, k1, k2, k3⟩ := run_bytes hT he μ.w
  dsimp only at g4 k2
  have hrun : (execOp a.eval o).run P μ.w = .ok (.value (.slice (some ⟨μ.w.heap.size, 0, none⟩) 0 i.toNat)) (μ.w.alloc (.cells (List.replicate i.toNat zs).flatten.toArray e)) := by
    have hw : IntKind.i64.wrap i = i := by rw [IntKind.wrap_i64]; omega
    have e1 : ¬ i < 0 := by omega
    have e2 : ¬ ((te.bytes : Int) * i > 2 ^ 48) := by rw [k2, Int.mul_comm]; omega
    have e3 : a.eval (.const (.int .i64 0)) = .int .i64 0 := rfl
    simp only [execOp, ho, Instr.makeSlice, Sem.run_bind, run_underlying hd', Result.andThen_ok, ex, e3, asInt, asIntOf, Sem.run_pure, k1, hw, show IntKind.i64.wrap 0 = 0 from rfl, run_askRoom, run_size hT he]
    simp only [decide_eq_false e1, decide_eq_false e2, Bool.or_false, Bool.false_eq_true, if_false, Int.lt_irrefl, or_self, gt_iff_lt, false_or, Result.andThen_ok, Sem.run_bind, run_askRoom]
    simp only [show (false || decide False) = false by simp, show decide (i < 0) = false by simpa using h0, Bool.false_eq_true, if_false, Sem.run_bind, run_askRoom, Result.andThen_ok, run_size hT he, Bool.or_self]
    by_cases hz : i.toNat * k = 0
    · have hfl : (List.replicate i.toNat zs).flatten = [] := List.eq_nil_of_length_eq_zero (by rw [rep_flat_length, g4]; exact hz)
      rw [hfl]
      simp only [hz, if_true, Sem.run_bind, Sem.run_pure, Result.andThen_ok]
      rw [show (Array.map (fun x : Nat => (#[] : Array Value)[x % (#[] : Array Value).size]!) (Array.range 0)) = [].toArray from by simp]
      simp only [newRow, Sem.run_bind, run_newObj, Result.andThen_ok, Sem.run_pure, World.alloc_eq]
      rfl
    · have hflat : (Array.range (i.toNat * k)).map (fun q => zs.toArray[q % zs.toArray.size]!) = (List.replicate i.toNat zs).flatten.toArray := by
        rw [← Array.toList_inj, Array.toList_map, Array.toList_range]
        exact zeros_rep g4 i.toNat
      simp only [if_neg hz, Sem.run_bind, g1, Result.andThen_ok, Sem.run_pure, g3, hflat]
      simp only [newRow, Sem.run_bind, run_newObj, Result.andThen_ok, Sem.run_pure, World.alloc_eq]
      rfl
  obtain ⟨H0, bs, w, F⟩ := μ
  dsimp only at hH
  subst hH
  obtain ⟨ext, ok', hv⟩ := new_own0 (k := k) (cap := i.toNat) ok (Later.alloc w (List.replicate i.toNat zs).flatten.toArray e) (fun H bs => ⟨_, _, heap_alloc_new, by simp [g4]⟩)
  have e0 : ([] : List α).length * k = 0 := by simp
  rw [e0]
  exact ⟨_, ⟨_, hrun, hv, ext, ok'⟩, rfl⟩
end
end Go.UK

