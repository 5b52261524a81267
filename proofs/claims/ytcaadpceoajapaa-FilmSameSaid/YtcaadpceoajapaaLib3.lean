/- The own layer: abstract values, their memory, and the steps of the model over them: for any program. -/
import Derived.Test.YtcaadpceoajapaaLib2
namespace Go.UK
open Go

/-! ### rows of zeros -/
theorem zeros_rep {k : Nat} {zs : List Value} (hk : zs.length = k) : ∀ (len : Nat), (List.range (len * k)).map (fun i => zs.toArray[i % zs.toArray.size]!) = (List.replicate len zs).flatten
  | 0 => by simp
  | len + 1 => by
    rcases Nat.eq_zero_or_pos k with h0 | h0
    · subst h0
      have : zs = [] := List.eq_nil_of_length_eq_zero hk
      subst this
      simp
    · rw [Nat.add_mul, Nat.one_mul, List.range_add, List.map_append, zeros_rep hk len, List.replicate_succ', List.flatten_append, List.map_map]
      congr 1
      simp only [List.flatten_cons, List.flatten_nil, List.append_nil]
      apply List.ext_getElem?
      intro i
      rw [List.getElem?_map]
      rcases Nat.lt_or_ge i k with hi | hi
      · rw [List.getElem?_range hi]
        have : (len * k + i) % k = i := by rw [Nat.mul_comm, Nat.mul_add_mod]; exact Nat.mod_eq_of_lt hi
        simp [hk, this, hi]
      · rw [List.getElem?_eq_none (by simp; omega), List.getElem?_eq_none (by omega)]; rfl

theorem rcl_rep {μ : Mem} {z : AV} {zs : List Value} (h : Rc μ z zs) : ∀ (len : Nat), RcL μ (List.replicate len z) (List.replicate len zs).flatten
  | 0 => by simp [RcL]
  | len + 1 => by
    rw [List.replicate_succ, List.replicate_succ, List.flatten_cons]
    simp only [RcL]
    exact ⟨zs, _, rfl, h, rcl_rep h len⟩

theorem rep_flat_length (len : Nat) (zs : List Value) : (List.replicate len zs).flatten.length = len * zs.length := by simp

section
variable {P : Program} {T : TypeId → Option TI} {n : Fr} {μ : Mem} {a : Act}

/-- a new row that nobody writes -/
theorem new_row {w : World} {H : List Box} {bs : List (Option Nat)} {F : Nat → Nat → Prop} (ok : (⟨H, bs, w, F⟩ : Mem).OK) {es : List AV} {k : Nat} {ys : List Value} (hk : ∀ e ∈ es, e.n = k) (hc : RcL ⟨H, bs, w, F⟩ es ys) (T : TypeId) (cap : Nat) (hcap : es.length ≤ cap) (more : List Value) :
    Rv ⟨H, bs, w.alloc (.cells (ys ++ more).toArray T), F⟩ (.sl k es) (.slice (some ⟨w.heap.size, 0, none⟩) es.length cap) := by
  have ext : Ext ⟨H, bs, w, F⟩ ⟨H, bs, w.alloc (.cells (ys ++ more).toArray T), F⟩ := Ext.later (Later.alloc _ _ _)
  show Rv0 _ _ _
  simp only [Rv0, AV.isAgg, Rc, Bool.false_eq_true, if_false]
  refine ⟨some ⟨w.heap.size, 0, none⟩, cap, rfl, hcap, hk, .inr ⟨w.heap.size, 0, ys, rfl, RcL.ext ext _ _ hc, ?_⟩⟩
  intro j y hy
  refine ⟨?_, ?_⟩
  · simp only [World.cell?, heap_alloc_new]
    have := get_lt hy
    simp [List.getElem?_append_left this]
    simpa using hy
  · rintro (hf | ⟨id, h1, h2⟩)
    · exact Nat.lt_irrefl _ (ok.foreign _ _ hf)
    · have : w.heap.size < w.heap.size := by
        rcases h2 with ⟨c, h2⟩ | ⟨m, h2, _⟩
        · exact box_block_lt ok (b := w.heap.size) h1 h2 (by simp)
        · exact box_block_lt ok (b := w.heap.size) h1 h2 (by simp)
      omega

def arrElems : AV → Option (List AV)
  | .arr _ _ es => some es
  | _ => none

def allN (k : Nat) : List AV → Bool
  | [] => true
  | e :: r => Nat.beq e.n k && allN k r

theorem allN_spec {k : Nat} : ∀ {es : List AV}, allN k es = true → ∀ e ∈ es, e.n = k
  | [], _, e, he => by cases he
  | x :: r, h, e, he => by
    simp only [allN, Bool.and_eq_true] at h
    rcases List.mem_cons.1 he with h' | h'
    · subst h'; exact Nat.eq_of_beq_eq_true h.1
    · exact allN_spec h.2 e h'

/-- the elements of a slice literal -/
def rowAV (T : TypeId → Option TI) (t : TypeId) (len : Nat) (l : List (Nat × AV)) : Option (Nat × List AV) :=
  match T t with
  | some { kind := .sl e, .. } => match T e with
    | some ie => match Nat.ble (len * ie.size) 16777216 with
      | true => match fillAV (fun i => some (i * ie.size, ie.size)) (.arr (len * ie.size) ie.size (List.replicate len ie.zero)) l with
        | some x => match arrElems x with
          | some es => match Nat.beq es.length len && allN ie.size es with
            | true => some (ie.size, es)
            | false => none
          | none => none
        | none => none
      | false => none
    | none => none
  | _ => none

theorem runs_buildSlice (hT : TOK P T) {o : Oper} {t : TypeId} {len k : Nat} {parts : Array (Nat × Operand)} {l : List (Nat × AV)} {es : List AV} (ho : o.op = .buildSlice t len parts) (ok : μ.OK)
    (hf : l.map Prod.fst = parts.toList.map Prod.fst) (hl : ∀ (i : Nat) q p, l[i]? = some q → parts.toList[i]? = some p → Rv μ q.2 (a.eval p.2) ∧ notTup q.2 = true) (h : rowAV T t len l = some (k, es)) :
    ∃ w', Runs P o a μ (.sl k es) ⟨μ.H, μ.bs, w', μ.F⟩ := by
  have hvs : l.map Prod.fst = ((parts.map fun (i, x) => (i, a.eval x)).toList).map Prod.fst := by rw [hf]; simp
  have hv : ∀ (i : Nat) (q : Nat × AV) (v : Nat × Value), l[i]? = some q → (parts.map fun (i, x) => (i, a.eval x)).toList[i]? = some v → Rc μ q.2 v.2.cells.toList := by
    intro i q v hq hv
    rw [Array.toList_map, List.getElem?_map] at hv
    cases hp : parts.toList[i]? with
    | none => rw [hp] at hv; cases hv
    | some p =>
      rw [hp] at hv
      simp only [Option.map_some, Option.some.injEq] at hv
      subst hv
      obtain ⟨h1, h2⟩ := hl i q p hq hp
      exact h1.cells (notTup_spec h2)
  unfold rowAV at h
  split at h <;> try cases h
  rename_i sz b1 z e ht
  split at h <;> try cases h
  rename_i ie he
  split at h <;> try cases h
  rename_i hle
  split at h <;> try cases h
  rename_i x hx
  split at h <;> try cases h
  rename_i es' hes
  split at h <;> cases h
  rename_i hb
  simp only [Bool.and_eq_true] at hb
  obtain ⟨d, hd, hk⟩ := (hT t _ ht).kind
  simp only [TK.fits] at hk
  subst hk
  obtain ⟨zv, zs, g1, g2, g3, g4, g5⟩ := run_zero hT he μ.w
  have hz : Rc μ ie.zero zs := cst_rc _ _ g2
  have hrow : Rc μ (.arr (len * ie.size) ie.size (List.replicate len ie.zero)) (List.replicate len zs).flatten := by
    simp only [Rc]
    refine ⟨by rw [rep_flat_length, g4], ?_, rcl_rep hz len⟩
    intro e' he'
    rw [List.eq_of_mem_replicate he', ← Rc.length _ _ hz, g4]
  obtain ⟨ys', k1, k2, k3, k4⟩ := fillAV_spec l _ _ x (List.replicate len zs).flatten.toArray hvs hv hx (by simpa using hrow)
  cases x <;> simp only [arrElems] at hes <;> try cases hes
  rename_i m k'
  simp only [Rc] at k2
  obtain ⟨H, bs, w, F⟩ := μ
  have hrow' := new_row ok (allN_spec hb.2) k2.2.2 e es.length (Nat.le_refl _) []
  simp only [List.append_nil] at hrow'
  refine ⟨w.alloc (.cells ys' e), .slice (some ⟨w.heap.size, 0, none⟩) es.length es.length, ?_, by simpa using hrow', Ext.later (Later.alloc _ _ _), OK.later (Later.alloc _ _ _) ok⟩
  have hlen := Nat.eq_of_beq_eq_true hb.1
  have hble : ¬ len * ie.size > 2 ^ 24 := by have := Nat.le_of_ble_eq_true hle; omega
  have hpm : (parts.map fun (i, x) => (i, a.eval x)) = (parts.map fun x => (x.fst, a.eval x.snd)) := rfl
  simp only [execOp, ho, Instr.buildSlice, Sem.run_bind, run_underlying hd, Result.andThen_ok, run_size hT he, Sem.run_ite, if_neg hble]
  by_cases h0 : len * ie.size = 0
  · have hfl : (List.replicate len zs).flatten = [] := List.eq_nil_of_length_eq_zero (by rw [rep_flat_length, g4]; exact h0)
    rw [hfl] at k1
    rw [if_pos h0, h0]
    simp only [Sem.run_pure, Result.andThen_ok]
    rw [show (Array.map (fun x : Nat => (#[] : Array Value)[x % (#[] : Array Value).size]!) (Array.range 0)) = [].toArray from by simp]
    rw [hpm] at k1
    simp only [k1, newRow, Sem.run_bind, run_newObj, Result.andThen_ok, Sem.run_pure, World.alloc_eq, hlen]
  · have hinit : (Array.range (len * ie.size)).map (fun i => zs.toArray[i % zs.toArray.size]!) = (List.replicate len zs).flatten.toArray := by
      rw [← Array.toList_inj, Array.toList_map, Array.toList_range]
      exact zeros_rep g4 len
    rw [if_neg h0]
    simp only [g1, Result.andThen_ok, g3, Sem.run_pure]
    rw [hinit]
    rw [hpm] at k1
    simp only [k1, newRow, Sem.run_bind, run_newObj, Result.andThen_ok, Sem.run_pure, World.alloc_eq, hlen]

theorem owp_buildSlice (hT : TOK P T) {o : Oper} {t : TypeId} {len k d : Nat} {parts : Array (Nat × Operand)} {l : List (Nat × AV)} {es : List AV} {st : ASt} (ho : o.op = .buildSlice t len parts) (hd : o.dst = some d) (hn : Nat.ble n.n d = false)
    (hl : opds (opd st.env none) parts.toList = some l) (h : rowAV T t len l = some (k, es)) : owp P n o st ⟨st.env.set d (none, .sl k es), st.H⟩ := by
  refine owp_of_runs fun ctx a μ hm => ?_
  obtain ⟨h1, h2⟩ := opds_spec _ _ hl
  obtain ⟨w', hr⟩ := runs_buildSlice (P := P) (a := a) hT ho hm.ok h1 (fun i q p hq hp => ⟨opd_spec hm.env noG (h2 i q p hq hp).1, (h2 i q p hq hp).2⟩) h
  refine ⟨_, _, hr, fun y hy hx hok => ?_⟩
  rw [hd, ← hm.h]
  exact sat_put hm hx hok (ble_lt hn) hy

theorem owp_bin (hT : TOK P T) {o : Oper} {op : BinOp} {t t' : TypeId} {x y : Operand} {vx vy z : Value} {d : Nat} {st : ASt} (ho : o.op = .binOp op t x y t') (hd : o.dst = some d) (hn : Nat.ble n.n d = false)
    (hx : opd st.env none x = some (.v vx)) (hy : opd st.env none y = some (.v vy)) (h : evBin op ((T t).map TI.kind) vx vy = some z) : owp P n o st ⟨st.env.set d (none, .v z), st.H⟩ := by
  refine owp_of_runs fun ctx a μ hm => ?_
  refine ⟨_, _, runs_bin hT ho hm.ok (opd_spec hm.env noG hx) (opd_spec hm.env noG hy) h, fun y hy hx hok => ?_⟩
  rw [hd, ← hm.h]
  exact sat_put hm hx hok (ble_lt hn) hy

theorem evBin_quo {kd : Option TK} {k : IntKind} {x y : Int} (h : decide (y = 0) = false) : evBin .quo kd (.int k x) (.int k y) = some (.int k (k.wrap (x.tdiv y))) := by
  simp [evBin, isShift, evInt, h]
theorem evBin_rem {kd : Option TK} {k : IntKind} {x y : Int} (h : decide (y = 0) = false) : evBin .rem kd (.int k x) (.int k y) = some (.int k (x.tmod y)) := by
  simp [evBin, isShift, evInt, h]
theorem evBin_shl {kd : Option TK} {k k' : IntKind} {x y : Int} (h : decide (y < 0) = false) : evBin .shl kd (.int k x) (.int k' y) = some (.int k (k.wrap (x * 2 ^ (min y.toNat k.bits)))) := by
  simp [evBin, isShift, evShift, h]
theorem evBin_shr {kd : Option TK} {k k' : IntKind} {x y : Int} (h : decide (y < 0) = false) : evBin .shr kd (.int k x) (.int k' y) = some (.int k (x.fdiv (2 ^ (min y.toNat k.bits)))) := by
  simp [evBin, isShift, evShift, h]

/-! ### control: lemmas for the scripts -/
theorem tn_n {K : ASt → Prop} {Q : Exit → ASt → Prop} {st : ASt} (h : K st) : tn K Q .normal st := h
theorem tn_r {K : ASt → Prop} {Q : Exit → ASt → Prop} {st : ASt} (h : Q .ret st) : tn K Q .ret st := h
theorem tn_x {K : ASt → Prop} {Q : Exit → ASt → Prop} {id : Nat} {st : ASt} (h : Q (.exit id) st) : tn K Q (.exit id) st := h
theorem inB_n {id : Nat} {Q : Exit → ASt → Prop} {st : ASt} (h : Q .normal st) : inB id Q .normal st := h
theorem inB_r {id : Nat} {Q : Exit → ASt → Prop} {st : ASt} (h : Q .ret st) : inB id Q .ret st := h
theorem inB_e {id : Nat} {Q : Exit → ASt → Prop} {st : ASt} (h : Q .normal st) : inB id Q (.exit id) st := by simp only [inB, if_true]; exact h
theorem inB_x {id id' : Nat} {Q : Exit → ASt → Prop} {st : ASt} (hne : Nat.beq id' id = false) (h : Q (.exit id') st) : inB id Q (.exit id') st := by
  simp only [inB]
  rw [if_neg (by intro e; subst e; simp at hne)]
  exact h

theorem obind {α β : Type} {x : Option α} {f : α → Option β} {r : β} (h : x.bind f = some r) : ∃ y, x = some y ∧ f y = some r := by
  cases x with
  | none => cases h
  | some y => exact ⟨y, rfl, h⟩
theorem cond_t {α : Type} {c : Bool} {x y r : α} (hc : c = true) (h : cond c x y = r) : x = r := by subst hc; exact h
theorem cond_f {α : Type} {c : Bool} {x y r : α} (hc : c = false) (h : cond c x y = r) : y = r := by subst hc; exact h
def req (c : Bool) : Option Unit := cond c (some ()) none
theorem req_t {c : Bool} {u : Unit} (h : req c = some u) : c = true := by cases c with | true => rfl | false => cases h
theorem not_t {c : Bool} (h : (!c) = true) : c = false := by cases c with | true => cases h | false => rfl

/-- sequence with a meeting point -/
theorem aw_join {x y : Code} {Q : Exit → ASt → Prop} {st : ASt} (R : ASt → Prop) (h : aw P n x (tn R Q) st) (hy : ∀ s, R s → aw P n y Q s) : aw P n (.seq x y) Q st :=
  aw_seq (aw_mono h fun e s hq => by cases e <;> first | exact hy s hq | exact hq)

end
end Go.UK

namespace Go.UK
open Go

/-! ### forgetting boxes, saying less -/
/-- x, as it reads in a memory, reads as y when the boxes from m on are forgotten. -/
structure PubT (m : Nat) (x y : AV) : Prop where
  cells : ∀ (μ μ' : Mem) (ys : List Value), μ'.w = μ.w → μ'.F = μ.F → (∀ i : Nat, i < m → μ'.H[i]? = μ.H[i]? ∨ ∃ c c', μ.H[i]? = some (.var c) ∧ μ'.H[i]? = some (.var c')) → (∀ i : Nat, i < m → μ'.bs[i]? = μ.bs[i]?) → m ≤ μ'.H.length → (∀ b o, μ'.M b o → μ.M b o) → Rc μ x ys → Rc μ' y ys
  agg : x.isAgg = y.isAgg

theorem PubA.t {x y : AV} (h : PubA x y) {m : Nat} : PubT m x y := ⟨fun μ μ' ys hw _ _ _ _ hM hr => h.cells μ μ' ys hw hM hr, h.agg⟩

theorem pubT_ref {m id o : Nat} {p : List Nat} (h : Nat.blt id m = true) : PubT m (.ref id p o) (.ref id p o) := by
  refine ⟨fun μ μ' ys hw hF hH hb hl hM hr => ?_, rfl⟩
  have hlt : id < m := by have h' : Nat.ble (id + 1) m = true := h; have := Nat.le_of_ble_eq_true h'; omega
  simp only [Rc] at hr ⊢
  obtain ⟨b, c, h1, h2, h3⟩ := hr
  rcases hH id hlt with e | ⟨c1, c2, e1, e2⟩
  · exact ⟨b, c, (hb id hlt).trans h1, e.trans h2, h3⟩
  · exact ⟨b, c2, (hb id hlt).trans h1, e2, h3⟩

theorem pubT_own {m id k : Nat} {es : List AV} (h : Nat.blt id m = true) (he : PubL es es) : PubT m (.own id k es) (.own id k es) := by
  refine ⟨fun μ μ' ys hw hF hH hb hl hM hr => ?_, rfl⟩
  have hlt : id < m := by have h' : Nat.ble (id + 1) m = true := h; have := Nat.le_of_ble_eq_true h'; omega
  simp only [Rc] at hr ⊢
  obtain ⟨a, cap, h1, h2, h3, h4, h5, h6⟩ := hr
  refine ⟨a, cap, h1, h2, h3, ?_, by omega, fun q hq => ?_⟩
  · rcases h4 with h4 | ⟨b, off, zs, g1, g2, g3⟩
    · exact .inl h4
    · exact .inr ⟨b, off, zs, g1, he.cells μ μ' zs hw hM g2, at_pub hw hM g3⟩
  · have hq' : μ.H[id]? = some (.tail q) := by
      rcases hH id hlt with e | ⟨c1, c2, e1, e2⟩
      · exact e.symm.trans hq
      · rw [e2] at hq; cases hq
    obtain ⟨k1, k2⟩ := h6 q hq'
    refine ⟨k1, fun e => ?_⟩
    rcases k2 e with ⟨b, k3, k4, c, T, k5, k6⟩ | ⟨k3, k4⟩
    · exact .inl ⟨b, (hb id hlt).trans k3, k4, c, T, by rw [hw]; exact k5, k6⟩
    · exact .inr ⟨(hb id hlt).trans k3, k4⟩

theorem pub_nil {k : Nat} : PubA (.v (.slice none 0 0)) (.sl k []) := by
  refine ⟨fun μ μ' ys hw hM hr => ?_, rfl, rfl⟩
  simp only [Rc] at hr ⊢
  exact ⟨none, 0, by simpa using hr.1, Nat.le_refl _, by simp, .inl trivial⟩

def PubTL (m : Nat) : List AV → List AV → Prop
  | [], l => l = []
  | x :: xs, l => ∃ y ys, l = y :: ys ∧ (PubT m x y ∧ x.n = y.n) ∧ PubTL m xs ys

theorem pubTL_cons {m : Nat} {x y : AV} {xs ys : List AV} (h : PubT m x y) (hn : x.n = y.n) (hs : PubTL m xs ys) : PubTL m (x :: xs) (y :: ys) := ⟨y, ys, rfl, ⟨h, hn⟩, hs⟩
theorem pubTL_nil {m : Nat} : PubTL m [] [] := rfl

theorem pubT_st {m n : Nat} {ps qs : List AV} (h : PubTL m ps qs) : PubT m (.st n ps) (.st n qs) := by
  refine ⟨fun μ μ' ys hw hF hH hb hl hM hr => ?_, rfl⟩
  simp only [Rc] at hr ⊢
  refine ⟨hr.1, ?_⟩
  have key : ∀ (ps qs : List AV) (vs : List Value), PubTL m ps qs → RcL μ ps vs → RcL μ' qs vs := by
    intro ps
    induction ps with
    | nil => intro qs vs h hr; have : qs = [] := h; subst this; simpa [RcL] using hr
    | cons p ps ih =>
      rintro qs vs ⟨q, r, e, ⟨h1, _⟩, h2⟩ hr
      subst e
      simp only [RcL] at hr ⊢
      obtain ⟨y1, y2, g1, g2, g3⟩ := hr
      exact ⟨y1, y2, g1, h1.cells μ μ' y1 hw hF hH hb hl hM g2, ih r y2 h2 g3⟩
  exact key ps qs ys h hr.2

/-- entry by entry -/
def EnvT (m : Nat) : Env → Env → Prop
  | _, [] => True
  | env, (i, e) :: r => (e = none ∨ ∃ x y, get env i = some x ∧ e = some (none, y) ∧ PubT m x y ∧ notTup x = true ∧ notTup y = true) ∧ EnvT m env r

theorem envT_nil {m : Nat} {env : Env} : EnvT m env [] := trivial
theorem envT_cons {m : Nat} {env r : Env} {i : Nat} {x y : AV} (hg : get env i = some x) (h : PubT m x y) (hx : notTup x = true) (hy : notTup y = true) (hr : EnvT m env r) : EnvT m env ((i, some (none, y)) :: r) :=
  ⟨.inr ⟨x, y, hg, rfl, h, hx, hy⟩, hr⟩

def isVar : Box → Bool
  | .var _ => true
  | _ => false

/-- the boxes, one by one, are those below m; none of them dies. -/
def BoxesT (m : Nat) : List Box → List Box → Prop
  | _, [] => True
  | [], _ :: _ => False
  | x :: xs, y :: ys => ((x = y ∧ isVar y = false) ∨ ∃ c c', x = .var c ∧ y = .var c' ∧ PubT m c c') ∧ BoxesT m xs ys

theorem boxesT_get {m : Nat} : ∀ {H H' : List Box} {i : Nat} {y : Box}, BoxesT m H H' → H'[i]? = some y → ∃ x, H[i]? = some x ∧ ((x = y ∧ isVar y = false) ∨ ∃ c c', x = .var c ∧ y = .var c' ∧ PubT m c c')
  | _, [], i, y, _, h => by simp at h
  | [], _ :: _, i, y, hb, _ => by cases hb
  | x :: xs, z :: zs, i, y, hb, h => by
    have h1 := hb.1
    have h2 := hb.2
    cases i with
    | zero => simp only [List.getElem?_cons_zero, Option.some.injEq] at h; subst h; exact ⟨x, rfl, h1⟩
    | succ i =>
      rw [List.getElem?_cons_succ] at h ⊢
      exact boxesT_get h2 h

theorem boxesT_len {m : Nat} : ∀ {H H' : List Box}, BoxesT m H H' → H'.length ≤ H.length
  | _, [], _ => by simp
  | [], _ :: _, hb => by cases hb
  | x :: xs, z :: zs, hb => by have := boxesT_len hb.2; simp; omega

section
variable {P : Program} {T : TypeId → Option TI} {n : Fr}

theorem sat_conv {st : ASt} {env' : Env} {H' : List Box} (hlo : Nat.ble n.lo H'.length = true) (hH : BoxesT H'.length st.H H') (hE : EnvT H'.length st.env env') {ctx : Mem} {a : Act} {w : World}
    (hs : Sat n ctx st a w) : Sat n ctx ⟨env', H'⟩ a w := by
  obtain ⟨bs, hm⟩ := hs
  obtain ⟨env, H⟩ := st
  dsimp only at hH hE hm
  have hlen := boxesT_len hH
  have hbl : bs.length = H.length := hm.ok.len
  have hown : ∀ b o, (⟨H', bs.take H'.length, w, ctx.F⟩ : Mem).own b o → (⟨H, bs, w, ctx.F⟩ : Mem).own b o := by
    rintro b o ⟨id, h1, h2⟩
    dsimp only at h1 h2
    have hid := get_lt h1
    rw [List.length_take] at hid
    rw [List.getElem?_take, if_pos (by omega)] at h1
    refine ⟨id, h1, ?_⟩
    dsimp only
    rcases h2 with ⟨c, h2⟩ | ⟨q, h2, h3⟩
    · obtain ⟨x, g1, g2⟩ := boxesT_get hH h2
      rcases g2 with ⟨g2, gv⟩ | ⟨c1, c2, g2, g3, _⟩
      · subst g2; exact .inl ⟨c, g1⟩
      · subst g2; exact .inl ⟨c1, g1⟩
    · obtain ⟨x, g1, g2⟩ := boxesT_get hH h2
      rcases g2 with ⟨g2, gv⟩ | ⟨c1, c2, g2, g3, _⟩
      · subst g2; exact .inr ⟨q, g1, h3⟩
      · cases g3
  have hM : ∀ b o, (⟨H', bs.take H'.length, w, ctx.F⟩ : Mem).M b o → (⟨H, bs, w, ctx.F⟩ : Mem).M b o := by
    rintro b o (h | h)
    · exact .inl h
    · exact .inr (hown b o h)
  have hHi : ∀ i : Nat, i < H'.length → H'[i]? = H[i]? ∨ ∃ c c', H[i]? = some (.var c) ∧ H'[i]? = some (.var c') := by
    intro i hi
    have e : H'[i]? = some H'[i] := List.getElem?_eq_getElem hi
    obtain ⟨x, g1, g2⟩ := boxesT_get hH e
    rcases g2 with ⟨g2, gv⟩ | ⟨c1, c2, g2, g3, _⟩
    · left; rw [e, g1, g2]
    · right; exact ⟨c1, c2, by rw [g1, g2], by rw [e, g3]⟩
  have hbi : ∀ i : Nat, i < H'.length → (bs.take H'.length)[i]? = bs[i]? := fun i hi => by rw [List.getElem?_take, if_pos hi]
  have tr : ∀ {x y : AV} {ys : List Value}, PubT H'.length x y → Rc ⟨H, bs, w, ctx.F⟩ x ys → Rc ⟨H', bs.take H'.length, w, ctx.F⟩ y ys := fun h hr =>
    h.cells ⟨H, bs, w, ctx.F⟩ ⟨H', bs.take H'.length, w, ctx.F⟩ _ rfl rfl hHi hbi (Nat.le_refl _) hM hr
  have hctx : ctx.H.length ≤ H'.length := Nat.le_trans hm.low (Nat.le_of_ble_eq_true hlo)
  refine ⟨bs.take H'.length, { h := rfl, ok := ?_, ext := ?_, env := ?_, size := hm.size, low := hm.low, defers := hm.defers }⟩
  · refine ⟨hm.ok.foreign, fun b o h => hm.ok.clear b o (hown b o h), by simp; omega, ?_, ?_⟩
    · intro id o x ho hx
      dsimp only at ho hx
      have hid := get_lt hx
      rw [hbi id hid] at ho
      obtain ⟨x0, g1, g2⟩ := boxesT_get hH hx
      have hb := hm.ok.box id o x0 ho g1
      rcases g2 with ⟨g2, gv⟩ | ⟨c1, c2, g2, g3, g4⟩
      · subst g2
        cases x0 with
        | dead => trivial
        | var c => simp [isVar] at gv
        | tail q =>
          intro b e
          obtain ⟨s, ⟨c, T, k1, k2⟩, k3⟩ := hb b e
          exact ⟨s, ⟨c, T, k1, k2⟩, k3⟩
      · subst g2 g3
        obtain ⟨b, ys, T, k1, k2, k3⟩ := hb
        exact ⟨b, ys, T, k1, k2, tr g4 k3⟩
    · intro i j b x y hi hj hx hy hxd hyd
      dsimp only at hi hj hx hy
      rw [hbi i (get_lt hx)] at hi
      rw [hbi j (get_lt hy)] at hj
      obtain ⟨x0, g1, g2⟩ := boxesT_get hH hx
      obtain ⟨y0, g3, g4⟩ := boxesT_get hH hy
      refine hm.ok.apart i j b x0 y0 hi hj g1 g3 ?_ ?_
      · rcases g2 with ⟨g2, gv⟩ | ⟨c1, c2, g2, _, _⟩
        · rw [g2]; exact hxd
        · rw [g2]; simp
      · rcases g4 with ⟨g4, gv⟩ | ⟨c1, c2, g4, _, _⟩
        · rw [g4]; exact hyd
        · rw [g4]; simp
  · have e := hm.ext
    refine { size := e.size, len := hctx, cells := e.cells, blocks := e.blocks, mm := fun b o hb h => e.mm b o hb (hown b o h), same := e.same, vars := ?_, toks := ?_, os := e.os, tape := e.tape, output := e.output, frozen := e.frozen }
    · intro id c hc
      have hid := get_lt hc
      obtain ⟨⟨c', h1⟩, h2⟩ := e.vars id c hc
      dsimp only at h1 h2
      refine ⟨?_, (hbi id (by omega)).trans h2⟩
      rcases hHi id (by omega) with g | ⟨c1, c2, g1, g2⟩
      · exact ⟨c', g.trans h1⟩
      · exact ⟨c2, g2⟩
    · intro id m' hid hm'
      dsimp only at hm'
      have : H[id]? = some (.tail m') := by
        rcases hHi id (get_lt hm') with g | ⟨c1, c2, g1, g2⟩
        · exact g.symm.trans hm'
        · rw [g2] at hm'; cases hm'
      obtain ⟨m, h1, h2, h3⟩ := e.toks id m' hid this
      refine ⟨m, h1, h2, fun em => ?_⟩
      obtain ⟨h4, h5⟩ := h3 em
      exact ⟨(hbi id (get_lt hm')).trans h4, fun b s hb hr => h5 b s hb hr⟩
  · have key : ∀ (env' : Env), EnvT H'.length env env' → EnvOK ⟨H', bs.take H'.length, w, ctx.F⟩ env' a.tmps := by
      intro env'
      induction env' with
      | nil => intro _ i e h; simp [look] at h
      | cons p r ih =>
        obtain ⟨j, e0⟩ := p
        rintro ⟨h1, h2⟩ i e h
        unfold look at h
        cases hb : Nat.beq j i with
        | false => rw [hb] at h; exact ih h2 i e h
        | true =>
          rw [hb] at h
          have ej := Nat.eq_of_beq_eq_true hb
          subst ej
          dsimp only at h
          rcases h1 with h1 | ⟨x, y, g1, g2, g3, g4, g5⟩
          · rw [h1] at h; cases h
          · rw [g2] at h
            cases h
            obtain ⟨v, k1, k2⟩ := hm.env.get g1
            refine ⟨v, k1, ?_⟩
            show Rv _ y v
            have k3 : Rv0 ⟨H, bs, w, ctx.F⟩ x v := by cases x <;> first | exact k2 | simp [notTup] at g4
            have k4 : Rv0 ⟨H', bs.take H'.length, w, ctx.F⟩ y v := by
              unfold Rv0 at *
              rw [← g3.agg]
              split at k3
              · rename_i hx; rw [if_pos hx]; obtain ⟨ys, q1, q2⟩ := k3; exact ⟨ys, q1, tr g3 q2⟩
              · rename_i hx; rw [if_neg hx]; exact tr g3 k3
            cases y <;> first | exact k4 | simp [notTup] at g5
    exact key env' hE

theorem awl_conv {ops : Array Oper} {l : List Oper} {st : ASt} {env' : Env} {H' : List Box} {K : ASt → Prop} (hlo : Nat.ble n.lo H'.length = true) (hH : BoxesT H'.length st.H H') (hE : EnvT H'.length st.env env') (hk : awl P n ops l K ⟨env', H'⟩) : awl P n ops l K st :=
  awl_wk (fun _ _ _ hs => sat_conv hlo hH hE hs) hk

theorem aw_conv {c : Code} {st : ASt} {env' : Env} {H' : List Box} {Q : Exit → ASt → Prop} (hlo : Nat.ble n.lo H'.length = true) (hH : BoxesT H'.length st.H H') (hE : EnvT H'.length st.env env') (hk : aw P n c Q ⟨env', H'⟩) : aw P n c Q st :=
  aw_wk (fun _ _ _ hs => sat_conv hlo hH hE hs) hk

end
end Go.UK

namespace Go.UK
open Go

/-! ### a region that draws its order -/
def Sub (a b : Env) : Prop := ∀ i e, look a i = some e → look b i = some e

theorem sub_env {μ : Mem} {a b : Env} {tmps : Array Value} (h : Sub a b) (hb : EnvOK μ b tmps) : EnvOK μ a tmps := fun i e hl => hb i e (h i e hl)

theorem sub_get {a b : Env} (h : Sub a b) {i : Nat} {x : AV} (hg : get a i = some x) : get b i = some x := by
  have := h i _ (get_spec hg)
  unfold get
  rw [this]

theorem sub_opd {a b : Env} (h : Sub a b) {g : Option (Nat × Bool)} {y : Operand} {x : AV} (ho : opd a g y = some x) : opd b g y = some x := by
  cases y with
  | tmp t =>
    simp only [opd] at ho ⊢
    cases hl : look a t with
    | none => rw [hl] at ho; cases ho
    | some e => rw [hl] at ho; rw [h t e hl]; exact ho
  | const c => exact ho
  | func f => exact ho
  | global g => exact ho

theorem sub_vals {a b : Env} (h : Sub a b) : ∀ {l : List Operand} {vs : List AV}, vals (opd a none) l = some vs → vals (opd b none) l = some vs
  | [], vs, hv => hv
  | x :: l, vs, hv => by
    simp only [vals] at hv ⊢
    split at hv <;> try cases hv
    rename_i v r h1 h2
    rw [sub_opd h h1, sub_vals h h2]
    exact hv

theorem sub_opds {a b : Env} (h : Sub a b) : ∀ {l : List (Nat × Operand)} {vs : List (Nat × AV)}, opds (opd a none) l = some vs → opds (opd b none) l = some vs
  | [], vs, hv => hv
  | (i, x) :: l, vs, hv => by
    simp only [opds] at hv ⊢
    split at hv <;> try cases hv
    rename_i v r h1 h2
    rw [sub_opd h h1, sub_opds h h2]
    exact hv

def dir (ops : Array Oper) (i : Nat) : List Nat :=
  match ops[i]? with
  | some o => (o.after.toList.filter (Region.binds .any)).map (·.on)
  | none => []

def clo (ops : Array Oper) : Nat → List Nat → List Nat
  | 0, S => S
  | i + 1, S => match S.any (Nat.beq i) with
    | true => clo ops i (dir ops i ++ S)
    | false => clo ops i S

def isOn (listed : Array Bool) (i : Nat) : Prop := listed.getD i false = true

def Down (ops : Array Oper) (listed : Array Bool) : Prop := ∀ i, isOn listed i → ∀ j ∈ dir ops i, isOn listed j

theorem clo_on {ops : Array Oper} {listed : Array Bool} (hd : Down ops listed) : ∀ (i : Nat) (S : List Nat), (∀ s ∈ S, isOn listed s) → ∀ s ∈ clo ops i S, isOn listed s
  | 0, S, h => h
  | i + 1, S, h => by
    unfold clo
    split
    · rename_i hb
      refine clo_on hd i _ ?_
      intro s hs
      rcases List.mem_append.1 hs with h' | h'
      · obtain ⟨q, hq, e⟩ := List.any_eq_true.1 hb
        have := Nat.eq_of_beq_eq_true e
        subst this
        exact hd _ (h _ hq) s h'
      · exact h s h'
    · exact clo_on hd i S h

structure MI where
  keys : List Nat
  d : Nat
  e : EV

def inClo (ops : Array Oper) (t i : Nat) : Bool := (clo ops t (dir ops t)).any (Nat.beq i)

def allB (n : Nat) (p : Nat → Bool) : Bool :=
  match n with
  | 0 => true
  | n + 1 => p n && allB n p

theorem allB_spec : ∀ {n : Nat} {p : Nat → Bool}, allB n p = true → ∀ i, i < n → p i = true
  | 0, p, _, i, h => by omega
  | n + 1, p, h, i, hi => by
    simp only [allB, Bool.and_eq_true] at h
    rcases Nat.lt_succ_iff_lt_or_eq.1 hi with h' | h'
    · exact allB_spec h.2 i h'
    · subst h'; exact h.1

def flagD (e : EV) (d : Nat) : Bool :=
  match e.1 with
  | some g => Nat.beq g.1 d
  | none => false

def oEq (o : Option Nat) (d : Nat) : Bool := match o with | some x => Nat.beq x d | none => false

def dAt (ms : List MI) (i : Nat) : Nat := match ms[i]? with | some x => x.d | none => 0

def baseOK (ms : List MI) : Env → Bool
  | [] => true
  | (k, e) :: r => ms.all (fun x => !Nat.beq x.d k && match e with | some e => !flagD e x.d | none => true) && baseOK ms r

def drawOK (ops : Array Oper) (ms : List MI) (B : Env) : Bool :=
  Nat.ble ms.length ops.size &&
  allB ops.size (fun i => (dir ops i).all fun j => Nat.blt j i) &&
  allB ms.length (fun i => oEq ((ops[i]?).bind (·.dst)) (dAt ms i)) &&
  allB ms.length (fun j => allB j fun i => !Nat.beq (dAt ms i) (dAt ms j)) &&
  baseOK ms B &&
  allB ms.length (fun j => allB ms.length fun i => match ms[j]? with | some x => !flagD x.e (dAt ms i) || inClo ops j i | none => true) &&
  allB ops.size (fun t => Nat.blt t ms.length || allB t fun i => inClo ops t i)

/-- where slot k comes from, at operation i -/
def srcOf (ops : Array Oper) (ms : List MI) (B : Env) (i k : Nat) : Nat → Option EV
  | 0 => look B k
  | j + 1 => match ms[j]? with
    | some x => match Nat.beq x.d k && inClo ops i j with
      | true => some x.e
      | false => srcOf ops ms B i k j
    | none => srcOf ops ms B i k j

def needOf (ops : Array Oper) (ms : List MI) (B : Env) (i : Nat) : Env :=
  match ms[i]? with
  | some x => x.keys.map fun k => (k, srcOf ops ms B i k ms.length)
  | none => []

theorem look_map {f : Nat → Option EV} : ∀ {l : List Nat} {i : Nat} {e : EV}, look (l.map fun k => (k, f k)) i = some e → f i = some e
  | [], i, e, h => by simp [look] at h
  | k :: l, i, e, h => by
    simp only [List.map_cons, look] at h
    cases hb : Nat.beq k i with
    | true => rw [hb] at h; rw [← Nat.eq_of_beq_eq_true hb]; exact h
    | false => rw [hb] at h; exact look_map h

/-- one operation may lay a box: its number, the box -/
abbrev BX := Option (Nat × Box)

def hOn (H : List Box) (bx : BX) (listed : Array Bool) : List Box :=
  match bx with
  | none => H
  | some (ai, b) => match listed.getD ai false with | true => H ++ [b] | false => H

def hFin (H : List Box) : BX → List Box
  | none => H
  | some (_, b) => H ++ [b]

def hsOf (H : List Box) : BX → List (List Box)
  | none => [H]
  | some (_, b) => [H, H ++ [b]]

theorem hOn_mem {H : List Box} {bx : BX} {listed : Array Bool} : hOn H bx listed ∈ hsOf H bx := by
  cases bx with
  | none => simp [hOn, hsOf]
  | some p =>
    obtain ⟨ai, b⟩ := p
    simp only [hOn, hsOf]
    split <;> simp

def boxOK (bx : BX) (m : Nat) : Bool := match bx with | none => true | some (ai, _) => Nat.blt ai m

def uc (listed : Array Bool) : Nat → Nat
  | 0 => 0
  | k + 1 => uc listed k + (match listed.getD k false with | true => 0 | false => 1)

theorem uc_ge {listed : Array Bool} {i : Nat} (hi : i < listed.size) : ∀ k, k ≤ i → uc (listed.setIfInBounds i true) k = uc listed k
  | 0, _ => rfl
  | k + 1, h => by
    unfold uc
    rw [uc_ge hi k (by omega), getD_set_ne false (show i ≠ k by omega)]

theorem uc_set {listed : Array Bool} {i : Nat} (hi : i < listed.size) (hu : listed.getD i false = false) : ∀ k, i < k → uc (listed.setIfInBounds i true) k + 1 = uc listed k
  | 0, h => by omega
  | k + 1, h => by
    unfold uc
    by_cases e : i = k
    · subst e
      rw [uc_ge hi i (Nat.le_refl _), hu]
      simp [hi]
    · rw [getD_set_ne false e]
      have := uc_set hi hu k (by omega)
      omega

theorem uc_low {listed : Array Bool} {q : Nat} : ∀ k, (∀ i, i < k → q ≤ i → listed.getD i false = false) → k - q ≤ uc listed k
  | 0, _ => by omega
  | k + 1, h => by
    have := uc_low (q := q) k (fun i hi hq => h i (by omega) hq)
    unfold uc
    by_cases hk : q ≤ k
    · rw [h k (by omega) hk]; dsimp only; omega
    · omega

theorem uc_zero {listed : Array Bool} : ∀ k, uc listed k = 0 → ∀ i, i < k → listed.getD i false = true
  | 0, _, i, h => by omega
  | k + 1, h, i, hi => by
    unfold uc at h
    rcases Nat.lt_succ_iff_lt_or_eq.1 hi with h' | h'
    · exact uc_zero k (by omega) i h'
    · subst h'
      cases hc : listed.getD i false with
      | true => rfl
      | false => rw [hc] at h; dsimp only at h; omega

section
variable {P : Program} {T : TypeId → Option TI} {n : Fr} {ops : Array Oper}

/-- operation i does its work, whenever it comes up -/
def Stab (P : Program) (n : Fr) (ops : Array Oper) (ms : List MI) (B : Env) (H : List Box) (bx : BX) (i : Nat) : Prop :=
  ∀ o x env, ops[i]? = some o → ms[i]? = some x → Sub (needOf ops ms B i) env →
    match bx with
    | none => opS P n ops o ⟨env, H⟩ ⟨env.set x.d x.e, H⟩
    | some (ai, b) => match Nat.beq i ai with
      | true => opS P n ops o ⟨env, H⟩ ⟨env.set x.d x.e, H ++ [b]⟩
      | false => opS P n ops o ⟨env, H⟩ ⟨env.set x.d x.e, H⟩ ∧ opS P n ops o ⟨env, H ++ [b]⟩ ⟨env.set x.d x.e, H ++ [b]⟩

theorem look_set_ne {env : Env} {d k : Nat} {e v : EV} (hne : d ≠ k) (hf : flagD v d = false) (h : look env k = some v) : look (env.set d e) k = some v := by
  unfold Env.set look
  have hb : Nat.beq d k = false := by
    cases hb : Nat.beq d k with
    | false => rfl
    | true => exact absurd (Nat.eq_of_beq_eq_true hb) hne
  rw [hb]
  have key : ∀ (env : Env), look env k = some v → look (unflag d env) k = some v := by
    intro env
    induction env with
    | nil => intro h; simp [look] at h
    | cons p r ih =>
      obtain ⟨j, e0⟩ := p
      intro h
      unfold look at h
      unfold unflag look
      cases hb : Nat.beq j k with
      | false => rw [hb] at h; exact ih h
      | true =>
        rw [hb] at h
        dsimp only at h ⊢
        subst h
        obtain ⟨g, x⟩ := v
        cases g with
        | none => rfl
        | some g =>
          have : hung d (some (some g, x)) = false := hf
          rw [this]
  exact key env h

theorem look_set_eq {env : Env} {d : Nat} {e : EV} : look (env.set d e) d = some e := by
  unfold Env.set look
  simp

theorem src_on {ms : List MI} {B env : Env} {listed : Array Bool} {i k : Nat} {e : EV} (hcl : ∀ s ∈ clo ops i (dir ops i), isOn listed s) (hB : ∀ i e, look B i = some e → look env i = some e)
    (hE : ∀ j x, ms[j]? = some x → isOn listed j → look env x.d = some x.e) : ∀ (j : Nat), srcOf ops ms B i k j = some e → look env k = some e
  | 0, h => hB k e h
  | j + 1, h => by
    unfold srcOf at h
    split at h
    · rename_i x hx
      split at h
      · rename_i hb
        cases h
        simp only [Bool.and_eq_true] at hb
        have e1 := Nat.eq_of_beq_eq_true hb.1
        obtain ⟨q, hq, e2⟩ := List.any_eq_true.1 hb.2
        have e3 := Nat.eq_of_beq_eq_true e2
        subst e3
        rw [← e1]
        exact hE j x hx (hcl _ hq)
      · exact src_on hcl hB hE j h
    · exact src_on hcl hB hE j h

theorem on_set {listed : Array Bool} {i j : Nat} (hi : i < listed.size) : isOn (listed.setIfInBounds i true) j ↔ (j = i ∨ isOn listed j) := by
  unfold isOn
  by_cases h : j = i
  · subst h; simp [hi]
  · rw [getD_set_ne false (Ne.symm h)]; simp [h]

theorem ready_spec {listed : Array Bool} {i : Nat} (h : i ∈ Region.ready .any ops listed) : listed.getD i true = false ∧ i < ops.size ∧ ∀ j ∈ dir ops i, isOn listed j := by
  obtain ⟨h0, o, ho, hall⟩ := mem_ready.1 h
  refine ⟨h0, (Array.getElem?_eq_some_iff.1 ho).1, fun j hj => ?_⟩
  unfold dir at hj
  rw [ho] at hj
  obtain ⟨e, he, e2⟩ := List.mem_map.1 hj
  rw [List.mem_filter] at he
  subst e2
  exact hall e (by simpa using he.1) he.2

theorem ready_of {listed : Array Bool} {i : Nat} (hs : listed.size = ops.size) (hi : i < ops.size) (hu : ¬ isOn listed i) (h : ∀ j ∈ dir ops i, isOn listed j) : i ∈ Region.ready .any ops listed := by
  rw [mem_ready]
  have ho : ops[i]? = some ops[i] := Array.getElem?_eq_getElem hi
  refine ⟨?_, ops[i], ho, fun e he hb => ?_⟩
  · unfold isOn at hu
    have hl : i < listed.size := by omega
    simp [hl] at hu ⊢
    exact hu
  · refine h e.on ?_
    unfold dir
    rw [ho]
    exact List.mem_map.2 ⟨e, List.mem_filter.2 ⟨by simpa using he, hb⟩, rfl⟩

theorem not_on {listed : Array Bool} {i : Nat} (h : listed.getD i true = false) : ¬ isOn listed i := by
  unfold isOn
  have : i < listed.size := by
    rcases Nat.lt_or_ge i listed.size with h' | h'
    · exact h'
    · simp [Array.getElem?_eq_none h'] at h
  simp [this] at h ⊢
  exact h

/-- the least that is not listed may come up -/
theorem some_ready {listed : Array Bool} (hs : listed.size = ops.size) (hedge : allB ops.size (fun i => (dir ops i).all fun j => Nat.blt j i) = true) : ∀ (k : Nat), k < ops.size → ¬ isOn listed k → ∃ i, i ∈ Region.ready .any ops listed := by
  intro k
  induction k using Nat.strongRecOn with
  | _ k ih =>
    intro hk hu
    by_cases h : ∃ j ∈ dir ops k, ¬ isOn listed j
    · obtain ⟨j, hj, hju⟩ := h
      have := List.all_eq_true.1 (allB_spec hedge k hk) j hj
      have h' : Nat.ble (j + 1) k = true := this
      have := Nat.le_of_ble_eq_true h'
      exact ih j (by omega) (by omega) hju
    · exact ⟨k, ready_of hs hk hu fun j hj => Classical.byContradiction fun hn => h ⟨j, hj, hn⟩⟩

theorem wpOp_eq {Q : Exit → Act → World → Prop} {i : Nat} {o : Oper} {K : Act → World → Prop} {a : Act} {w : World} (ho : ops[i]? = some o) :
    wpOp P ops Q i K a w = (if Region.wanted o (yielded ops a.tmps) then o.wp P a w K Q ∨ (o.asks P a w ∧ LetsOut Q) else K (a.put o.dst undef) w) := by
  unfold wpOp
  rw [ho]

/-- the tail comes in its order -/
theorem tail_any {Q : Exit → Act → World → Prop} {m : Nat} (hedge : allB ops.size (fun i => (dir ops i).all fun j => Nat.blt j i) = true)
    (htail : allB ops.size (fun t => Nat.blt t m || allB t fun i => inClo ops t i) = true) : ∀ (fuel q : Nat) (listed : Array Bool) (a : Act) (w : World), ops.size - q ≤ fuel → m ≤ q → q ≤ ops.size → listed.size = ops.size → Down ops listed →
    (∀ i, isOn listed i ↔ i < q) → wpList P ops Q (ops.toList.drop q) a w → wpAny P .any ops Q fuel listed a w
  | 0, q, listed, a, w, hf, hm, hq, hs, hd, hon, h => by
    have e : q = ops.size := by omega
    subst e
    rw [List.drop_eq_nil_of_le (by simp)] at h
    refine ⟨?_, h⟩
    refine List.eq_nil_iff_forall_not_mem.2 fun i hi => ?_
    obtain ⟨h1, h2, _⟩ := ready_spec hi
    exact not_on h1 ((hon i).2 h2)
  | fuel + 1, q, listed, a, w, hf, hm, hq, hs, hd, hon, h => by
    refine ⟨fun h0 => ?_, fun i hi => ?_⟩
    · rcases Nat.lt_or_ge q ops.size with hlt | hge
      · obtain ⟨i, hi⟩ := some_ready hs hedge q hlt (fun h' => by have := (hon q).1 h'; omega)
        rw [h0] at hi
        cases hi
      · have e : q = ops.size := by omega
        subst e
        rw [List.drop_eq_nil_of_le (by simp)] at h
        exact h
    · obtain ⟨h1, h2, h3⟩ := ready_spec hi
      have hu := not_on h1
      have hlt : q < ops.size := by
        rcases Nat.lt_or_ge q ops.size with hlt | hge
        · exact hlt
        · exact absurd ((hon i).2 (by omega)) hu
      have hiq : i = q := by
        rcases Nat.lt_trichotomy i q with h' | h' | h'
        · exact absurd ((hon i).2 h') hu
        · exact h'
        · exfalso
          have := allB_spec htail i h2
          simp only [Bool.or_eq_true] at this
          rcases this with h4 | h4
          · have h5 : Nat.ble (i + 1) m = true := h4
            have := Nat.le_of_ble_eq_true h5
            omega
          · have h5 := allB_spec h4 q h'
            obtain ⟨s, hs', e⟩ := List.any_eq_true.1 h5
            have e := Nat.eq_of_beq_eq_true e
            subst e
            have := (hon q).1 (clo_on hd i _ h3 q hs')
            omega
      subst hiq
      have ho : ops[i]? = some ops[i] := Array.getElem?_eq_getElem hlt
      rw [wpOp_eq ho]
      rw [show ops.toList.drop i = ops[i] :: ops.toList.drop (i + 1) from by rw [List.drop_eq_getElem_cons (by simpa using hlt)]; simp] at h
      unfold wpList at h
      have next : ∀ a w, wpList P ops Q (ops.toList.drop (i + 1)) a w → wpAny P .any ops Q fuel (listed.setIfInBounds i true) a w := fun a w h' =>
        tail_any hedge htail fuel (i + 1) _ a w (by omega) (by omega) (by omega) (by simpa using hs)
          (fun p hp j hj => by
            rw [on_set (by omega)] at hp ⊢
            rcases hp with hp | hp
            · subst hp; exact .inr (h3 j hj)
            · exact .inr (hd p hp j hj))
          (fun p => by rw [on_set (by omega), hon]; omega) h'
      split
      · rename_i hw
        rw [if_pos hw] at h
        exact h.imp (Oper.wp_mono next) id
      · rename_i hw
        rw [if_neg hw] at h
        exact next _ _ h

def finEnv (ms : List MI) (B : Env) : Env := (ms.map fun x => (x.d, some x.e)) ++ B


theorem mono_any {ms : List MI} {B : Env} {H : List Box} {bx : BX} {ctx : Mem} {Q : Exit → Act → World → Prop} (hok : drawOK ops ms B = true) (hbx : boxOK bx ms.length = true) (hst : ∀ i, i < ms.length → Stab P n ops ms B H bx i)
    (hk : ∀ a w env, Sat n ctx ⟨env, hFin H bx⟩ a w → (∀ k e, look B k = some e → look env k = some e) → (∀ (j : Nat) (x : MI), ms[j]? = some x → look env x.d = some x.e) → wpList P ops Q (ops.toList.drop ms.length) a w) :
    ∀ (fuel : Nat) (listed : Array Bool) (a : Act) (w : World) (env : Env), listed.size = ops.size → Down ops listed → (∀ i, isOn listed i → i < ms.length) → uc listed ops.size ≤ fuel →
    Sat n ctx ⟨env, hOn H bx listed⟩ a w → (∀ k e, look B k = some e → look env k = some e) → (∀ (j : Nat) (x : MI), ms[j]? = some x → isOn listed j → look env x.d = some x.e) → wpAny P .any ops Q fuel listed a w := by
  simp only [drawOK, Bool.and_eq_true] at hok
  obtain ⟨⟨⟨⟨⟨⟨h1, h2⟩, h3⟩, h4⟩, h5⟩, h6⟩, h7⟩ := hok
  have hsz := Nat.le_of_ble_eq_true h1
  intro fuel
  induction fuel with
  | zero =>
    intro listed a w env hs hd hm hc hsat hB hE
    have hall : ∀ i, i < ops.size → isOn listed i := uc_zero ops.size (by omega)
    have hdone := hk a w env (by
      have : hOn H bx listed = hFin H bx := by
        cases bx with
        | none => rfl
        | some p =>
          obtain ⟨ai, b⟩ := p
          have h' : Nat.ble (ai + 1) ms.length = true := hbx
          have := Nat.le_of_ble_eq_true h'
          have : listed.getD ai false = true := hall ai (by omega)
          simp only [hOn, hFin, this]
      rw [← this]; exact hsat) hB (fun j x hx => hE j x hx (hall j (by have := get_lt hx; omega)))
    exact tail_any h2 h7 0 ms.length listed a w (by
      have : ¬ ms.length < ops.size := fun h => by have := hm _ (hall _ h); omega
      omega) (Nat.le_refl _) hsz hs hd (fun i => ⟨hm i, fun h => hall i (by omega)⟩) hdone
  | succ fuel ih =>
    intro listed a w env hs hd hm hc hsat hB hE
    by_cases hall : ∀ j, j < ms.length → isOn listed j
    · have hdone := hk a w env (by
        have : hOn H bx listed = hFin H bx := by
          cases bx with
          | none => rfl
          | some p =>
            obtain ⟨ai, b⟩ := p
            have h' : Nat.ble (ai + 1) ms.length = true := hbx
            have := Nat.le_of_ble_eq_true h'
            have : listed.getD ai false = true := hall ai (by omega)
            simp only [hOn, hFin, this]
        rw [← this]; exact hsat) hB (fun j x hx => hE j x hx (hall j (get_lt hx)))
      refine tail_any h2 h7 (fuel + 1) ms.length listed a w ?_ (Nat.le_refl _) hsz hs hd (fun i => ⟨hm i, hall i⟩) hdone
      refine Nat.le_trans (uc_low ops.size fun i hi hq => ?_) hc
      cases hc' : listed.getD i false with
      | false => rfl
      | true => have := hm i hc'; omega
    · refine ⟨fun h0 => ?_, fun i hi => ?_⟩
      · exfalso
        apply hall
        intro j hj
        apply Classical.byContradiction
        intro hn
        obtain ⟨i, hi⟩ := some_ready hs h2 j (by omega) hn
        rw [h0] at hi
        cases hi
      · obtain ⟨r1, r2, r3⟩ := ready_spec hi
        have hu := not_on r1
        have hcl := clo_on hd i _ r3
        have him : i < ms.length := by
          rcases Nat.lt_or_ge i ms.length with h | h
          · exact h
          · exfalso
            apply hall
            intro j hj
            have := allB_spec h7 i r2
            simp only [Bool.or_eq_true] at this
            rcases this with h8 | h8
            · have h9 : Nat.ble (i + 1) ms.length = true := h8
              have := Nat.le_of_ble_eq_true h9
              omega
            · obtain ⟨s, hs', e⟩ := List.any_eq_true.1 (allB_spec h8 j (by omega))
              have e := Nat.eq_of_beq_eq_true e
              subst e
              exact hcl j hs'
        have ho : ops[i]? = some ops[i] := Array.getElem?_eq_getElem r2
        have hx : ms[i]? = some ms[i] := List.getElem?_eq_getElem him
        have hsub : Sub (needOf ops ms B i) env := by
          intro k e hl
          unfold needOf at hl
          rw [hx] at hl
          dsimp only at hl
          exact src_on hcl hB hE _ (look_map (f := fun k => srcOf ops ms B i k ms.length) hl)
        have hstab := hst i him ops[i] ms[i] env ho hx hsub
        have hdi : dAt ms i = ms[i].d := by unfold dAt; rw [hx]
        have hops : opS P n ops ops[i] ⟨env, hOn H bx listed⟩ ⟨env.set ms[i].d ms[i].e, hOn H bx (listed.setIfInBounds i true)⟩ := by
          cases bx with
          | none => exact hstab
          | some p =>
            obtain ⟨ai, b⟩ := p
            dsimp only at hstab
            cases hb : Nat.beq i ai with
            | true =>
              rw [hb] at hstab
              have e := Nat.eq_of_beq_eq_true hb
              subst e
              have e1 : listed.getD i false = false := by
                cases hc' : listed.getD i false with
                | false => rfl
                | true => exact absurd hc' hu
              have e2 : (listed.setIfInBounds i true).getD i false = true := (on_set (by omega)).2 (.inl rfl)
              simp only [hOn, e1, e2]
              exact hstab
            | false =>
              rw [hb] at hstab
              have hne : i ≠ ai := fun e => by subst e; simp at hb
              simp only [hOn, getD_set_ne false hne]
              split
              · exact hstab.2
              · exact hstab.1
        have hstep := hops ctx a w Q hsat
        rw [wpOp_eq ho]
        have next : ∀ a' w', Sat n ctx ⟨env.set ms[i].d ms[i].e, hOn H bx (listed.setIfInBounds i true)⟩ a' w' → wpAny P .any ops Q fuel (listed.setIfInBounds i true) a' w' := by
          intro a' w' hs'
          refine ih _ a' w' _ (by simpa using hs) ?_ ?_ ?_ hs' ?_ ?_
          · intro p hp j hj
            rw [on_set (by omega)] at hp ⊢
            rcases hp with hp | hp
            · subst hp; exact .inr (r3 j hj)
            · exact .inr (hd p hp j hj)
          · intro p hp
            rw [on_set (by omega)] at hp
            rcases hp with hp | hp
            · subst hp; exact him
            · exact hm p hp
          · have := uc_set (k := ops.size) (show i < listed.size by omega) (by
              cases hc' : listed.getD i false with
              | false => rfl
              | true => exact absurd hc' hu) r2
            omega
          · intro k e hke
            refine look_set_ne ?_ ?_ (hB k e hke)
            · have key : ∀ (B : Env), baseOK ms B = true → look B k = some e → ms[i].d ≠ k ∧ flagD e ms[i].d = false := by
                intro B
                induction B with
                | nil => intro _ h; simp [look] at h
                | cons p r ihb =>
                  obtain ⟨j, e0⟩ := p
                  intro hb hl
                  simp only [baseOK, Bool.and_eq_true] at hb
                  unfold look at hl
                  cases hj : Nat.beq j k with
                  | false => rw [hj] at hl; exact ihb hb.2 hl
                  | true =>
                    rw [hj] at hl
                    dsimp only at hl
                    subst hl
                    have := List.all_eq_true.1 hb.1 ms[i] (List.getElem_mem him)
                    simp only [Bool.and_eq_true, Bool.not_eq_true'] at this
                    refine ⟨fun e => ?_, this.2⟩
                    rw [← Nat.eq_of_beq_eq_true hj] at e
                    rw [e] at this
                    simp at this
              exact (key B h5 hke).1
            · have key : ∀ (B : Env), baseOK ms B = true → look B k = some e → flagD e ms[i].d = false := by
                intro B
                induction B with
                | nil => intro _ h; simp [look] at h
                | cons p r ihb =>
                  obtain ⟨j, e0⟩ := p
                  intro hb hl
                  simp only [baseOK, Bool.and_eq_true] at hb
                  unfold look at hl
                  cases hj : Nat.beq j k with
                  | false => rw [hj] at hl; exact ihb hb.2 hl
                  | true =>
                    rw [hj] at hl
                    dsimp only at hl
                    subst hl
                    have := List.all_eq_true.1 hb.1 ms[i] (List.getElem_mem him)
                    simp only [Bool.and_eq_true, Bool.not_eq_true'] at this
                    exact this.2
              exact key B h5 hke
          · intro j x hjx hj
            rw [on_set (by omega)] at hj
            by_cases hji : j = i
            · subst hji
              rw [hx] at hjx
              cases hjx
              exact look_set_eq
            · have hjo := hj.resolve_left hji
              refine look_set_ne ?_ ?_ (hE j x hjx hjo)
              · have hdj : dAt ms j = x.d := by unfold dAt; rw [hjx]
                intro e
                have hjm := get_lt hjx
                rcases Nat.lt_trichotomy i j with hlt | hlt | hlt
                · have := allB_spec (allB_spec h4 j hjm) i hlt
                  rw [hdi, hdj, e] at this
                  simp at this
                · exact hji hlt.symm
                · have := allB_spec (allB_spec h4 i him) j hlt
                  rw [hdi, hdj, e] at this
                  simp at this
              · have := allB_spec (allB_spec h6 j (get_lt hjx)) i him
                rw [hjx] at this
                dsimp only at this
                rw [hdi] at this
                simp only [Bool.or_eq_true, Bool.not_eq_true'] at this
                rcases this with h8 | h8
                · exact h8
                · exfalso
                  obtain ⟨s, hs'', e⟩ := List.any_eq_true.1 h8
                  have e := Nat.eq_of_beq_eq_true e
                  subst e
                  exact hu (clo_on hd j _ (hd j hjo) i hs'')
        split
        · rename_i hw
          rw [if_pos hw] at hstep
          exact .inl (Oper.wp_mono next hstep)
        · rename_i hw
          rw [if_neg hw] at hstep
          exact next _ _ hstep

theorem look_fin {ms : List MI} {B env : Env} (hB : ∀ k e, look B k = some e → look env k = some e) : ∀ {l : List MI}, (∀ x ∈ l, look env x.d = some x.e) → Sub ((l.map fun x => (x.d, some x.e)) ++ B) env
  | [], _ => fun i e h => hB i e h
  | x :: l, hE => by
    intro i e h
    simp only [List.map_cons, List.cons_append, look] at h
    cases hb : Nat.beq x.d i with
    | true => rw [hb] at h; rw [← Nat.eq_of_beq_eq_true hb, ← h]; exact hE x (by simp)
    | false => rw [hb] at h; exact look_fin (ms := ms) hB (fun y hy => hE y (by simp [hy])) i e h

/-- A region that draws its order: the first operations, in whatever order; then the tail. -/
theorem aw_draw {id : Nat} {l : List Oper} {Q : Exit → ASt → Prop} {st : ASt} (hm : P.follows .mixedOrders = true) (ms : List MI) (slots keep : List Nat) (bx : BX) {B : Env} {st' : ASt} (hB : prune slots st.env = B)
    (hok : (drawOK l.toArray ms B && boxOK bx ms.length) = true) (hst : ∀ i, i < ms.length → Stab P n l.toArray ms B st.H bx i)
    (hfin : (⟨prune keep (finEnv ms B), hFin st.H bx⟩ : ASt) = st') (hk : awl P n l.toArray (l.drop ms.length) (fun s => Q .normal s) st') : aw P n (.region id l.toArray true) Q st := by
  simp only [Bool.and_eq_true] at hok
  intro ctx a w hs
  subst hB hfin
  refine wp_region_any hm ?_
  obtain ⟨bs, hmm⟩ := hs
  have hdrew : Sat n ctx ⟨prune slots st.env, st.H⟩ a { w with drawn := w.drawn + 1 } := by
    have hl : Later w w.drew := Later.drew w
    refine ⟨bs, { h := rfl, ok := OK.later hl hmm.ok, ext := hmm.ext.trans (Ext.later hl), env := ?_, size := hmm.size, low := hmm.low, defers := hmm.defers }⟩
    exact fun i e h => (hmm.env.ext (Ext.later hl)) i e (look_prune h)
  have hl0 : ∀ i, ¬ isOn (Array.replicate l.toArray.size false) i := by
    intro i h
    unfold isOn at h
    rw [Array.getD_eq_getD_getElem?] at h
    rw [Array.getElem?_replicate] at h
    split at h <;> simp at h
  refine mono_any (H := st.H) (bx := bx) (ctx := ctx) (B := prune slots st.env) hok.1 hok.2 hst ?_ _ _ _ _ (prune slots st.env) (by simp) (fun i h => absurd h (hl0 i)) (fun i h => absurd h (hl0 i)) ?_ ?_ (fun _ _ h => h) (fun j x _ h => absurd h (hl0 j))
  · intro a w env hs hB hE
    have := hk ctx a w (sat_env (st := ⟨env, hFin st.H bx⟩) (fun i e h => look_fin (ms := ms) hB (fun x hx => by
      obtain ⟨j, hj⟩ := List.getElem?_of_mem hx
      exact hE j x hj) i e (look_prune h)) hs)
    refine wpList_monoQ ?_ _ _ _ (by simpa using this)
    rintro e a' w' ⟨rfl, s, h1, h2⟩
    exact ⟨s, h1, h2⟩
  · have : ∀ k, uc (Array.replicate l.toArray.size false) k ≤ k := by
      intro k
      induction k with
      | zero => exact Nat.le_refl _
      | succ k ih => unfold uc; split <;> omega
    exact this _
  · have : hOn st.H bx (Array.replicate l.toArray.size false) = st.H := by
      cases bx with
      | none => rfl
      | some p =>
        obtain ⟨ai, b⟩ := p
        simp only [hOn]
        split
        · rename_i h; exact absurd h (hl0 ai)
        · rfl
    rw [this]
    exact hdrew

theorem aw_sdraw {id : Nat} {l : List Oper} {y : Code} {Q : Exit → ASt → Prop} {st : ASt} (hm : P.follows .mixedOrders = true) (ms : List MI) (slots keep : List Nat) (bx : BX) {B : Env} {st' : ASt} (hB : prune slots st.env = B)
    (hok : (drawOK l.toArray ms B && boxOK bx ms.length) = true) (hst : ∀ i, i < ms.length → Stab P n l.toArray ms B st.H bx i)
    (hfin : (⟨prune keep (finEnv ms B), hFin st.H bx⟩ : ASt) = st') (hk : awl P n l.toArray (l.drop ms.length) (aw P n y Q) st') : aw P n (.seq (.region id l.toArray true) y) Q st :=
  aw_seq (aw_draw hm ms slots keep bx hB hok hst hfin hk)

/-- all of them, one by one -/
def StabL (P : Program) (n : Fr) (ops : Array Oper) (ms : List MI) (B : Env) (H : List Box) (bx : BX) : Nat → List MI → Prop
  | _, [] => True
  | i, _ :: r => Stab P n ops ms B H bx i ∧ StabL P n ops ms B H bx (i + 1) r

theorem stabL {ms : List MI} {B : Env} {H : List Box} {bx : BX} : ∀ (k : Nat) (l : List MI), StabL P n ops ms B H bx k l → ∀ i, k ≤ i → i < k + l.length → Stab P n ops ms B H bx i
  | k, [], _, i, h1, h2 => by simp at h2; omega
  | k, _ :: r, h, i, h1, h2 => by
    rcases Nat.eq_or_lt_of_le h1 with h' | h'
    · subst h'; exact h.1
    · exact stabL (k + 1) r h.2 i h' (by simp at h2 ⊢; omega)

theorem stab_all {ms : List MI} {B : Env} {H : List Box} {bx : BX} (h : StabL P n ops ms B H bx 0 ms) : ∀ i, i < ms.length → Stab P n ops ms B H bx i :=
  fun i hi => stabL 0 ms h i (Nat.zero_le _) (by omega)

/-- the operation does its work over any boxes -/
theorem stab_of {ms : List MI} {B : Env} {H : List Box} {bx : BX} {i d : Nat} {keys : List Nat} {e : EV} {o : Oper} {need : Env} (ho : ops[i]? = some o) (hm : ms[i]? = some ⟨keys, d, e⟩) (hneed : needOf ops ms B i = need)
    (hb : (match bx with | some (ai, _) => Nat.beq i ai | none => false) = false)
    (h : ∀ env H', H' ∈ hsOf H bx → Sub need env → opS P n ops o ⟨env, H'⟩ ⟨env.set d e, H'⟩) : Stab P n ops ms B H bx i := by
  intro o' x env h1 h2 h3
  rw [ho] at h1
  cases h1
  rw [hm] at h2
  cases h2
  rw [hneed] at h3
  cases bx with
  | none => exact h env H (by simp [hsOf]) h3
  | some p =>
    obtain ⟨ai, b⟩ := p
    dsimp only at hb ⊢
    rw [hb]
    exact ⟨h env H (by simp [hsOf]) h3, h env (H ++ [b]) (by simp [hsOf]) h3⟩

theorem stab_box {ms : List MI} {B : Env} {H : List Box} {b : Box} {i d : Nat} {keys : List Nat} {e : EV} {o : Oper} {need : Env} (ho : ops[i]? = some o) (hm : ms[i]? = some ⟨keys, d, e⟩) (hneed : needOf ops ms B i = need)
    (h : ∀ env, Sub need env → opS P n ops o ⟨env, H⟩ ⟨env.set d e, H ++ [b]⟩) : Stab P n ops ms B H (some (i, b)) i := by
  intro o' x env h1 h2 h3
  rw [ho] at h1
  cases h1
  rw [hm] at h2
  cases h2
  rw [hneed] at h3
  dsimp only
  rw [Nat.beq_refl]
  exact h env h3

theorem owp_ev_sub (hT : TOK P T) {im : Bool} {o : Oper} {need env : Env} {H : List Box} {x : AV} {b : Option Box} {d : Nat} (hs : Sub need env) (hd : o.dst = some d) (hn : Nat.ble n.n d = false) (he : ev T im (opd need none) H o = some (x, b)) :
    owp P n o ⟨env, H⟩ ⟨env.set d (none, x), addBox H b⟩ := by
  refine owp_of_runs fun ctx a μ hm => ?_
  have he' : ev T im (opd need none) μ.H o = some (x, b) := by rw [hm.h]; exact he
  obtain ⟨bs', w', hr⟩ := ev_sound (P := P) (a := a) hT (fun y v hv => opd_spec (sub_env hs hm.env) noG hv) hm.ok he'
  rw [hm.h] at hr
  refine ⟨x, _, hr, fun y hy hx hok => ?_⟩
  rw [hd]
  exact sat_put hm hx hok (ble_lt hn) hy

/-- a plain operation without a guard -/
theorem stab_ev (hT : TOK P T) {ms : List MI} {B : Env} {H : List Box} {bx : BX} {i d : Nat} {keys : List Nat} {x : AV} {o : Oper} {need : Env} (ho : ops[i]? = some o) (hm : ms[i]? = some ⟨keys, d, (none, x)⟩) (hneed : needOf ops ms B i = need)
    (hb : (match bx with | some (ai, _) => Nat.beq i ai | none => false) = false) (hg : o.guard = none) (hd : o.dst = some d) (hn : Nat.ble n.n d = false) (he : (hsOf H bx).map (fun H' => ev T true (opd need none) H' o) = (hsOf H bx).map (fun _ => some (x, none))) :
    Stab P n ops ms B H bx i := by
  refine stab_of ho hm hneed hb fun env H' hH hs => opS_of (by simp [gOK, hg]) ?_
  have : ev T true (opd need none) H' o = some (x, none) := by
    obtain ⟨j, hj⟩ := List.getElem?_of_mem hH
    have := congrArg (fun l => l[j]?) he
    simp only [List.getElem?_map, hj, Option.map_some, Option.some.injEq] at this
    exact this
  exact owp_ev_sub hT hs hd hn this

theorem stab_alloc (hT : TOK P T) {ms : List MI} {B : Env} {H : List Box} {b : Box} {i d : Nat} {keys : List Nat} {x : AV} {o : Oper} {need : Env} (ho : ops[i]? = some o) (hm : ms[i]? = some ⟨keys, d, (none, x)⟩) (hneed : needOf ops ms B i = need)
    (hg : o.guard = none) (hd : o.dst = some d) (hn : Nat.ble n.n d = false) (he : ev T false (opd need none) H o = some (x, some b)) : Stab P n ops ms B H (some (i, b)) i :=
  stab_box ho hm hneed fun env hs => opS_of (by simp [gOK, hg]) (owp_ev_sub hT hs hd hn he)

/-- one that is carried out as it stands (a call, an index, a slice literal) -/
theorem stab_owp {ms : List MI} {B : Env} {H : List Box} {bx : BX} {i d : Nat} {keys : List Nat} {e : EV} {o : Oper} {need : Env} (ho : ops[i]? = some o) (hm : ms[i]? = some ⟨keys, d, e⟩) (hneed : needOf ops ms B i = need)
    (hb : (match bx with | some (ai, _) => Nat.beq i ai | none => false) = false) (hg : o.guard = none) (h : ∀ env H', Sub need env → owp P n o ⟨env, H'⟩ ⟨env.set d e, H'⟩) : Stab P n ops ms B H bx i :=
  stab_of ho hm hneed hb fun env H' _ hs => opS_of (by simp [gOK, hg]) (h env H' hs)

end
end Go.UK

namespace Go.UK
open Go

/-! ### append -/
theorem growBy_le (n : Nat) : ∀ (r c : Nat), c ≤ 2 * n → 256 ≤ c → Builtin.growBy n r c ≤ 2 * n
  | 0, c, h, _ => h
  | r + 1, c, h, h2 => by
    unfold Builtin.growBy
    split
    · exact h
    · exact growBy_le n r _ (by omega) (by omega)

theorem next_le {n c : Nat} (h : c < n) : Builtin.nextslicecap n c ≤ 2 * n := by
  unfold Builtin.nextslicecap
  split
  · omega
  · split
    · omega
    · exact growBy_le n 4 c (by omega) (by omega)

theorem splice_low {c : Array Value} {o : Nat} {vs : List Value} (h : o + vs.length ≤ c.size) {i : Nat} (hi : i < o) : (splice c o vs)[i]? = c[i]? := by
  rw [← Array.getElem?_toList, splice_list _ _ _ h, List.append_assoc, List.getElem?_append_left (by simp; omega), List.getElem?_take, if_pos hi, Array.getElem?_toList]

theorem splice_mid {c : Array Value} {o : Nat} {vs : List Value} (h : o + vs.length ≤ c.size) {i : Nat} {v : Value} (hi : vs[i]? = some v) : (splice c o vs)[o + i]? = some v := by
  have hl := get_lt hi
  rw [← Array.getElem?_toList, splice_list _ _ _ h, List.append_assoc, List.getElem?_append_right (by simp; omega), List.getElem?_append_left (by simp; omega)]
  have : o + i - (List.take o c.toList).length = i := by simp; omega
  rw [this]
  exact hi

section
variable {P : Program} {T : TypeId → Option TI} {n : Fr}

/-- what an append takes its elements from -/
structure Src (P : Program) (w : World) (k : Nat) (x : Value) (zs : List Value) (m : Nat) : Prop where
  len : (Builtin.lenOf x).run P w = .ok m w
  cells : (Builtin.firstCells k m x).run P w = .ok zs.toArray w

theorem src_of_sl {μ : Mem} {k : Nat} {ys : List AV} {x : Value} (h : Rv μ (.sl k ys) x) : ∃ zs, RcL μ ys zs ∧ zs.length = ys.length * k ∧ ∀ w', w'.heap = μ.w.heap → Src P w' k x zs ys.length := by
  obtain ⟨a, cap, e, hcap, hk, hc⟩ := rv_sl h
  subst e
  rcases hc with hc | ⟨b, off, zs, e, h1, h2⟩
  · subst hc
    refine ⟨[], by simp [RcL], by simp, fun w' _ => ⟨by simp [Builtin.lenOf], ?_⟩⟩
    cases a with
    | none => simp [Builtin.firstCells]
    | some a => simp [Builtin.firstCells, loadCells, loadCellsFrom]
  · subst e
    have hl := RcL.length _ _ h1
    rw [sizes_k hk] at hl
    refine ⟨zs, h1, hl, fun w' hw => ⟨by simp [Builtin.lenOf], ?_⟩⟩
    simp only [Builtin.firstCells]
    rw [← hl]
    exact run_loadCells fun j y hy => by
      have := (h2 j y hy).1
      simp only [World.cell?, hw] at this ⊢
      exact this

def TK.noInt : TK → Bool
  | .sl _ => true
  | .str => true
  | _ => false

theorem noInt_spec (hT : TOK P T) {xt : TypeId} {xi : TI} (hxt : T xt = some xi) (hk : xi.kind.noInt = true) : ∃ d, P.underlying xt = some d ∧ (match d with | .int _ => true | _ => false) = false := by
  obtain ⟨d, hd, hf⟩ := (hT xt _ hxt).kind
  refine ⟨d, hd, ?_⟩
  cases hxk : xi.kind <;> rw [hxk] at hk hf <;> simp only [TK.noInt] at hk <;> first | (cases hk; done) | skip
  · simp only [TK.fits] at hf; subst hf; rfl
  · simp only [TK.fits] at hf; subst hf; rfl

/-- The run of an append that finds room. -/
theorem run_append_room (hT : TOK P T) {t xt e : TypeId} {sz b1 : Nat} {z : AV} {ei xi : TI} (ht : T t = some ⟨sz, b1, z, .sl e⟩) (he : T e = some ei) (hxt : T xt = some xi) (hxk : xi.kind.noInt = true) {w w' : World} {base : Option Addr} {sl sc m : Nat} {x : Value} {zs : List Value} {ty : TypeId}
    (hs : Src P w ei.size x zs m) (hroom : sl + m ≤ sc) (hst : ∀ a, base = some a → (storeCells (a.add (sl * ei.size)) zs).run P w = .ok () w') (hno : base = none → w' = w) :
    (Builtin.append_ #[t, xt] ty #[.slice base sl sc, x]).run P w = .ok (.slice base (sl + m) sc) w' := by
  obtain ⟨d, hd, hk⟩ := (hT t _ ht).kind
  simp only [TK.fits] at hk
  subst hk
  obtain ⟨d', hd', hz⟩ := noInt_spec hT hxt hxk
  unfold Builtin.append_
  simp only [List.getElem?_toArray, List.getElem?_cons_zero, List.getElem?_cons_succ, Sem.run_bind, run_underlying hd, run_underlying hd', Result.andThen_ok, run_size hT he, Sem.run_pure]
  cases base with
  | none =>
    rw [hno rfl]
    cases d' <;> first | (simp at hz; done) | simp [hs.len, hs.cells, hroom]
  | some a =>
    have := hst a rfl
    cases d' <;> first | (simp at hz; done) | simp [hs.len, hs.cells, hroom, this]

/-- The run of an append that moves. -/
theorem run_append_move (hT : TOK P T) {t xt e : TypeId} {sz b1 : Nat} {z : AV} {ei xi : TI} (ht : T t = some ⟨sz, b1, z, .sl e⟩) (he : T e = some ei) (hxt : T xt = some xi) (hxk : xi.kind.noInt = true) {w : World} {base : Option Addr} {sl sc m : Nat} {x : Value} {zs old : List Value} {ty : TypeId}
    (hs : Src P w ei.size x zs m) (hs' : Src P w.drew ei.size x zs m) (hold : (Builtin.firstCells ei.size sl (.slice base sl sc)).run P w.drew = .ok old.toArray w.drew) (hroom : ¬ sl + m ≤ sc) (hb : ei.bytes ≠ 0) (hbound : (sl + m) * ei.bytes ≤ 140737488355328) :
    ∃ (cap : Nat) (more : List Value), sl + m ≤ cap ∧ more.length = (cap - (sl + m)) * ei.size ∧
      (Builtin.append_ #[t, xt] ty #[.slice base sl sc, x]).run P w = .ok (.slice (some ⟨w.heap.size, 0, none⟩) (sl + m) cap) (w.drew.alloc (.cells (old ++ zs ++ more).toArray e)) := by
  obtain ⟨d, hd, hk⟩ := (hT t _ ht).kind
  simp only [TK.fits] at hk
  subst hk
  obtain ⟨d', hd', hz⟩ := noInt_spec hT hxt hxk
  obtain ⟨zv, zz, g1, g2, g3, g4, g5⟩ := run_zero hT he w.drew
  obtain ⟨te, k1, k2, k3⟩ := run_bytes hT he w
  obtain ⟨te', k1', k2', k3'⟩ := run_bytes hT he w.drew
  let q := Question.appendCap (sl + m) sc e
  let cap := q.cut (w.tape w.drawn q)
  refine ⟨cap, (Builtin.zeroCells zz.toArray (cap - (sl + m))).toList, ?_, ?_, ?_⟩
  · show sl + m ≤ (sl + m) + _ % _
    omega
  · simp [Builtin.zeroCells, g4]
  · have hnext := next_le (n := sl + m) (c := sc) (by omega)
    have hn2 : ¬ Builtin.nextslicecap (sl + m) sc * te.bytes > 2 ^ 48 := by
      rw [k2]
      have : Builtin.nextslicecap (sl + m) sc * ei.bytes ≤ (2 * (sl + m)) * ei.bytes := Nat.mul_le_mul_right _ hnext
      have e2 : (2 * (sl + m)) * ei.bytes = 2 * ((sl + m) * ei.bytes) := by rw [Nat.mul_assoc]
      omega
    have hb' : te.bytes ≠ 0 := by rw [k2]; exact hb
    have harr : old.toArray ++ zs.toArray ++ Builtin.zeroCells zz.toArray (cap - (sl + m)) = (old ++ zs ++ (Builtin.zeroCells zz.toArray (cap - (sl + m))).toList).toArray := by rw [← Array.toList_inj]; simp
    have hcap : (Question.appendCap (sl + m) sc e).cut (w.tape w.drawn (Question.appendCap (sl + m) sc e)) = cap := rfl
    have hlen := hs.len
    unfold Builtin.append_
    simp only [List.getElem?_toArray, List.getElem?_cons_zero, List.getElem?_cons_succ, Sem.run_bind, run_underlying hd, run_underlying hd', Result.andThen_ok, run_size hT he, Sem.run_pure]
    have hc := hs'.cells
    cases d' <;> first
      | (simp at hz; done)
      | (simp only [Bool.false_eq_true, if_false, hlen, Result.andThen_ok, Sem.run_ite, if_neg hroom, Sem.run_bind, k1, hb', hn2, false_or, and_false, run_choose, Sem.run_pure]
         simp only [show Question.forced (.appendCap (sl + m) sc e) = false from rfl, Bool.false_eq_true, if_false, Result.andThen_ok, World.drew_eq, k1', run_askRoom, hold, Bool.not_false, if_true, hc, g1, g3, hcap]
         simp only [newRow, Sem.run_bind, run_newObj, Result.andThen_ok, Sem.run_pure, World.alloc_eq]
         rw [harr]
         rfl)
/-- the source of an append: a slice, or a string -/
def srcAV : AV → Option (Nat × List AV)
  | .v (.string s) => some (1, s.data.toList.map fun b => .v (.int .u8 b.toNat))
  | x => elemsOf x

theorem rcl_bytes {μ : Mem} : ∀ (l : List UInt8), RcL μ (l.map fun b => AV.v (.int .u8 b.toNat)) (l.map fun b => Value.int .u8 b.toNat)
  | [] => by simp [RcL]
  | b :: l => by
    simp only [List.map_cons, RcL]
    exact ⟨[_], _, rfl, by simp [Rc, Value.oneCell'], rcl_bytes l⟩

theorem src_spec {μ : Mem} {k k' : Nat} {ys : List AV} {v : AV} {x : Value} (hv : srcAV v = some (k, ys)) (hk : k = k') (h : Rv μ v x) : ∃ zs, RcL μ ys zs ∧ zs.length = ys.length * k ∧ (∀ e ∈ ys, e.n = k) ∧ ∀ w', w'.heap = μ.w.heap → Src P w' k' x zs ys.length := by
  subst hk
  have sl : elemsOf v = some (k, ys) → ∃ zs, RcL μ ys zs ∧ zs.length = ys.length * k ∧ (∀ e ∈ ys, e.n = k) ∧ ∀ w', w'.heap = μ.w.heap → Src P w' k x zs ys.length := by
    intro hv
    have h' := elems_spec hv h
    obtain ⟨_, _, _, _, hk, _⟩ := rv_sl h'
    obtain ⟨zs, h1, h2, h3⟩ := src_of_sl (P := P) h'
    exact ⟨zs, h1, h2, hk, h3⟩
  cases v with
  | v y =>
    cases y with
    | string s =>
      simp only [srcAV, Option.some.injEq, Prod.mk.injEq] at hv
      obtain ⟨rfl, rfl⟩ := hv
      have e := rv_bool h
      subst e
      refine ⟨_, rcl_bytes s.data.toList, by simp, by intro e he; obtain ⟨b, _, e2⟩ := List.mem_map.1 he; subst e2; rfl, fun w' _ => ⟨by simp [Builtin.lenOf], ?_⟩⟩
      simp only [Builtin.firstCells, Sem.run_pure]
      congr 1
      rw [← Array.toList_inj]
      have : (s.extract 0 s.size) = s := by simp
      simp
    | _ => exact sl hv
  | _ => exact sl hv

theorem rv_own {μ : Mem} {id k : Nat} {es : List AV} {y : Value} (h : Rv μ (.own id k es) y) : ∃ a cap, y = .slice a es.length cap ∧ es.length ≤ cap ∧ (∀ e ∈ es, e.n = k) ∧
      (es = [] ∨ ∃ b off zs, a = some ⟨b, off, none⟩ ∧ RcL μ es zs ∧ μ.at b off zs) ∧ μ.tok id k es.length a cap := by
  simpa [Rv, Rv0, AV.isAgg, Rc] using h

/-- An append to a slice of the call's own. -/
theorem owp_append (hT : TOK P T) {o : Oper} {t xt e : TypeId} {sz b1 : Nat} {z : AV} {ei xi : TI} {p q : Operand} {st : ASt} {id k m d : Nat} {es ys : List AV} {v : AV}
    (ho : o.op = .call { callee := .builtin .append, args := #[p, q], argTypes := #[t, xt] }) (hd : o.dst = some d) (hn : Nat.ble n.n d = false) (ht : T t = some ⟨sz, b1, z, .sl e⟩) (he : T e = some ei) (hek : ei.size = k) (hxt : T xt = some xi) (hxk : xi.kind.noInt = true)
    (hp : opd st.env none p = some (.own id k es)) (hq : opd st.env none q = some v) (hv : srcAV v = some (k, ys)) (hH : st.H[id]? = some (.tail m)) (hm : es.length * k = m) (hkp : Nat.blt 0 k = true) (hbp : Nat.beq ei.bytes 0 = false)
    (hbound : (es.length + ys.length) * ei.bytes ≤ 140737488355328) : owp P n o st ⟨st.env.set d (none, .own id k (es ++ ys)), st.H.set id (.tail ((es ++ ys).length * k))⟩ := by
  have hk0 : 0 < k := by have h' : Nat.ble (0 + 1) k = true := hkp; have := Nat.le_of_ble_eq_true h'; omega
  have hb0 : ei.bytes ≠ 0 := by intro e0; rw [e0] at hbp; cases hbp
  intro ctx a w Qx hs
  obtain ⟨bs, hmm⟩ := hs
  obtain ⟨env, H⟩ := st
  dsimp only at hp hq hH hmm ⊢
  have hv1 := opd_spec hmm.env noG hp
  have hv2 := opd_spec hmm.env noG hq
  obtain ⟨ad, cap, g1, g2, g3, g4, g5⟩ := rv_own hv1
  obtain ⟨zs, k1, k2, k3, k4⟩ := src_spec (P := P) hv rfl hv2
  obtain ⟨cs, hexec⟩ := run_builtin ho a.eval
  have hbl : bs.length = H.length := hmm.ok.len
  obtain ⟨hidlt, htok⟩ := g5
  have htok' := (htok m hH).2 hm
  have hcase : ∃ v' bs' w', (Builtin.append_ #[t, xt] o.type #[a.eval p, a.eval q]).run P w = .ok v' w' ∧ Ext ⟨H, bs, w, ctx.F⟩ ⟨H.set id (.tail ((es ++ ys).length * k)), bs', w', ctx.F⟩ ∧
      (⟨H.set id (.tail ((es ++ ys).length * k)), bs', w', ctx.F⟩ : Mem).OK ∧ Rv ⟨H.set id (.tail ((es ++ ys).length * k)), bs', w', ctx.F⟩ (.own id k (es ++ ys)) v' := by
    have hlenk : (es ++ ys).length * k = m + zs.length := by rw [List.length_append, Nat.add_mul, hm, k2]
    -- the old elements, as cells
    have hold : ∃ old : List Value, RcL ⟨H, bs, w, ctx.F⟩ es old ∧ old.length = m ∧ (∀ w', w'.heap = w.heap → (Builtin.firstCells k es.length (.slice ad es.length cap)).run P w' = .ok old.toArray w') ∧ (es = [] ∨ ∃ b off, ad = some ⟨b, off, none⟩ ∧ (⟨H, bs, w, ctx.F⟩ : Mem).at b off old) := by
      rcases g4 with g4 | ⟨b, off, old, q1, q2, q3⟩
      · subst g4
        refine ⟨[], by simp [RcL], by simpa using hm, fun w' _ => ?_, .inl rfl⟩
        cases ad with
        | none => simp [Builtin.firstCells]
        | some a => simp [Builtin.firstCells, loadCells, loadCellsFrom]
      · have hl := RcL.length _ _ q2
        rw [sizes_k g3] at hl
        refine ⟨old, q2, by omega, fun w' hw => ?_, .inr ⟨b, off, q1, q3⟩⟩
        subst q1
        simp only [Builtin.firstCells]
        rw [← hl]
        exact run_loadCells fun j y hy => by
          have := (q3 j y hy).1
          simp only [World.cell?, hw] at this ⊢
          exact this
    obtain ⟨old, o1, o2, o3, o4⟩ := hold
    have hall : ∀ e ∈ es ++ ys, e.n = k := by
      intro e he
      rcases List.mem_append.1 he with h' | h'
      · exact g3 e h'
      · exact k3 e h'
    by_cases hroom : es.length + ys.length ≤ cap
    · rcases htok' with ⟨b, t1, t2, c, TT, t3, t4⟩ | ⟨t1, t2⟩
      · -- into its own block
        subst t2
        have hsz : m + zs.length ≤ c.size := by
          rw [t4]
          have : (es.length + ys.length) * k ≤ cap * k := Nat.mul_le_mul_right _ hroom
          rw [Nat.add_mul] at this
          omega
        have hstore : (storeCells ⟨b, m, none⟩ zs).run P w = .ok () (setBlock w b (.cells (splice c m zs) TT (0, 0))) := by
          have := run_storeCells (P := P) zs m 0 w c t3 (by omega) (RcL.oneCell _ _ k1)
          simpa using this
        have ext := Ext.grow (m' := (es ++ ys).length * k) t1 hH t3 hmm.ok (by omega) (size_splice zs c m) (fun i hi => splice_low hsz hi)
        have ok := OK.grow (m' := (es ++ ys).length * k) t1 hH t3 hmm.ok (by omega) (size_splice zs c m) (fun i hi => splice_low hsz hi) (by rw [size_splice]; omega)
        refine ⟨.slice (some ⟨b, 0, none⟩) (es.length + ys.length) cap, bs, _, ?_, ext, ok, ?_⟩
        · rw [g1]
          refine run_append_room hT ht he hxt hxk (zs := zs) (by rw [hek]; exact k4 w rfl) hroom ?_ (by intro h; cases h)
          intro a' e'
          cases e'
          rw [add_plain, hek, hm, Nat.zero_add]
          exact hstore
        · show Rv0 _ _ _
          simp only [Rv0, AV.isAgg, Rc, Bool.false_eq_true, if_false]
          refine ⟨some ⟨b, 0, none⟩, cap, by rw [List.length_append], by rw [List.length_append]; exact hroom, hall, .inr ⟨b, 0, old ++ zs, rfl, ?_, ?_⟩, ?_⟩
          · exact RcL.append (RcL.ext ext _ _ o1) (RcL.ext ext _ _ k1)
          · intro j y hy
            rw [Nat.zero_add]
            have hjl := get_lt hy
            rw [List.length_append, o2] at hjl
            have hcell : (setBlock w b (.cells (splice c m zs) TT (0, 0))).cell? ⟨b, j, none⟩ = (splice c m zs)[j]? := by
              simp only [World.cell?, heap_setBlock_same (heap_lt t3)]
              simp
            have hF : ¬ ctx.F b j := by
              rcases Nat.lt_or_ge j m with hj | hj
              · rcases o4 with o4 | ⟨b', off', e', q3⟩
                · subst o4; simp at hm; omega
                · cases e'
                  obtain ⟨q4, q5⟩ := q3 j (old[j]'(by omega)) (List.getElem?_eq_getElem (by omega))
                  rw [Nat.zero_add] at q5
                  exact fun hf => q5 (.inl hf)
              · exact hmm.ok.clear b j ⟨id, t1, .inr ⟨m, hH, hj⟩⟩
            refine ⟨?_, ?_⟩
            · show (setBlock w b (.cells (splice c m zs) TT (0, 0))).cell? ⟨b, j, none⟩ = some y
              rw [hcell]
              rcases Nat.lt_or_ge j m with hj | hj
              · rw [splice_low hsz hj]
                rcases o4 with o4 | ⟨b', off', e', q3⟩
                · subst o4; simp at hm; omega
                · cases e'
                  rw [List.getElem?_append_left (by omega)] at hy
                  obtain ⟨q4, q5⟩ := q3 j y hy
                  rw [Nat.zero_add] at q4
                  simp only [World.cell?, t3] at q4
                  simpa using q4
              · rw [List.getElem?_append_right (by omega), o2] at hy
                have := splice_mid hsz hy
                rw [show m + (j - m) = j by omega] at this
                exact this
            · rintro (hf | hown)
              · exact hF hf
              · obtain ⟨i, i1, i2⟩ := hown
                dsimp only at i1 i2
                rcases i2 with ⟨c', i2⟩ | ⟨q, i2, i3⟩
                · rcases get_set i2 with ⟨_, e'⟩ | ⟨hne, e'⟩
                  · cases e'
                  · exact hne (hmm.ok.apart id i b _ _ t1 i1 hH e' (by simp) (by simp))
                · rcases get_set i2 with ⟨_, e'⟩ | ⟨hne, e'⟩
                  · cases e'; omega
                  · exact hne (hmm.ok.apart id i b _ _ t1 i1 hH e' (by simp) (by simp))
          · refine ⟨by simpa using hidlt, fun q hq => ?_⟩
            dsimp only at hq
            rw [get_set_eq hH] at hq
            cases hq
            exact ⟨Nat.le_refl _, fun _ => .inl ⟨b, t1, rfl, _, TT, heap_setBlock_same (heap_lt t3), by rw [size_splice]; exact t4⟩⟩
      · -- no room but for nothing
        have hys : ys = [] := List.eq_nil_of_length_eq_zero (by omega)
        subst hys
        have hzs : zs = [] := List.eq_nil_of_length_eq_zero (by simpa using k2)
        subst hzs
        have hset : H.set id (.tail ((es ++ []).length * k)) = H := by
          simp only [List.append_nil, hm]
          apply List.ext_getElem?
          intro i
          by_cases hi : id = i
          · subst hi; rw [get_set_eq hH, hH]
          · rw [get_set_ne hi]
        rw [hset]
        refine ⟨.slice ad es.length cap, bs, w, ?_, Ext.refl _, hmm.ok, ?_⟩
        · rw [g1]
          have := run_append_room (P := P) (w := w) (w' := w) (base := ad) (sl := es.length) (sc := cap) (ty := o.type) hT ht he hxt hxk (zs := []) (by rw [hek]; exact k4 w rfl) hroom (by intro a' _; simp [storeCells]) (fun _ => rfl)
          simpa using this
        · rw [g1] at hv1
          simpa using hv1
    · -- to a new block
      have hheap : w.drew.heap = w.heap := rfl
      obtain ⟨cap', more, c1, c2, c3⟩ := run_append_move (P := P) (w := w) (base := ad) (sl := es.length) (sc := cap) (m := ys.length) (x := a.eval q) (zs := zs) (old := old) (ty := o.type) hT ht he hxt hxk (by rw [hek]; exact k4 w rfl) (by rw [hek]; exact k4 w.drew rfl) (by rw [hek]; exact o3 w.drew rfl) hroom hb0 hbound
      have hlt : m < (es ++ ys).length * k := by
        have : 0 < ys.length := by omega
        have : 0 < ys.length * k := Nat.mul_pos this hk0
        omega
      obtain ⟨ob, hob⟩ : ∃ ob, bs[id]? = some ob := ⟨bs[id]'(by dsimp only at hidlt; omega), List.getElem?_eq_getElem (by dsimp only at hidlt; omega)⟩
      have hlater : Later w (w.drew.alloc (.cells (old ++ zs ++ more).toArray e)) := (Later.drew w).trans (Later.alloc _ _ _)
      have hrowlen : (old ++ zs ++ more).length = cap' * k := by
        simp only [List.length_append, o2, c2, hek]
        rw [k2, ← hm, ← Nat.add_mul, ← Nat.add_mul]
        congr 1
        omega
      have hnewb : (w.drew.alloc (.cells (old ++ zs ++ more).toArray e)).heap[w.heap.size]? = some (.cells (old ++ zs ++ more).toArray e (0, 0)) := heap_alloc_new (w := w.drew)
      have ext := Ext.move (F := ctx.F) (m' := (es ++ ys).length * k) hob hH hlater (Nat.le_refl _) hlt
      have ok := OK.move (m' := (es ++ ys).length * k) hob hH hmm.ok hlater (Nat.le_refl _) hlt ⟨cap' * k, ⟨_, e, hnewb, by simpa using hrowlen⟩, by
        rw [List.length_append]; exact Nat.mul_le_mul_right _ c1⟩
      refine ⟨.slice (some ⟨w.heap.size, 0, none⟩) (es.length + ys.length) cap', _, _, by rw [g1]; exact c3, ext, ok, ?_⟩
      show Rv0 _ _ _
      simp only [Rv0, AV.isAgg, Rc, Bool.false_eq_true, if_false]
      refine ⟨some ⟨w.heap.size, 0, none⟩, cap', by rw [List.length_append], by rw [List.length_append]; exact c1, hall, .inr ⟨w.heap.size, 0, old ++ zs, rfl, ?_, ?_⟩, ?_⟩
      · exact RcL.append (RcL.ext ext _ _ o1) (RcL.ext ext _ _ k1)
      · intro j y hy
        rw [Nat.zero_add]
        have hjl := get_lt hy
        refine ⟨?_, ?_⟩
        · simp only [World.cell?, hnewb]
          have : (old ++ zs ++ more)[j]? = some y := by rw [List.getElem?_append_left hjl]; exact hy
          simpa using this
        · rintro (hf | hown)
          · exact Nat.lt_irrefl _ (hmm.ok.foreign _ _ hf)
          · obtain ⟨i, i1, i2⟩ := hown
            dsimp only at i1 i2
            by_cases hi : id = i
            · subst hi
              rcases i2 with ⟨c', i2⟩ | ⟨q, i2, i3⟩
              · rw [get_set_eq hH] at i2; cases i2
              · rw [get_set_eq hH] at i2
                cases i2
                rw [List.length_append, o2] at hjl
                omega
            · rw [get_set_ne hi] at i1
              rcases i2 with ⟨c', i2⟩ | ⟨q, i2, i3⟩
              · rw [get_set_ne hi] at i2
                exact Nat.lt_irrefl _ (box_block_lt hmm.ok (b := w.heap.size) i1 i2 (by simp))
              · rw [get_set_ne hi] at i2
                exact Nat.lt_irrefl _ (box_block_lt hmm.ok (b := w.heap.size) i1 i2 (by simp))
      · refine ⟨by simpa using hidlt, fun q hq => ?_⟩
        dsimp only at hq
        rw [get_set_eq hH] at hq
        cases hq
        exact ⟨Nat.le_refl _, fun _ => .inl ⟨w.heap.size, get_set_eq hob, rfl, _, e, hnewb, by simpa using hrowlen⟩⟩
  obtain ⟨v', bs', w', c1, c2, c3, c4⟩ := hcase
  unfold Oper.wp
  have hargs : (#[p, q] : Array Operand).map a.eval = #[a.eval p, a.eval q] := by simp
  rw [hexec, hargs]
  simp only [builtin, Sem.run_bind, c1, Result.andThen_ok, Sem.run_pure, Oper.upon]
  rw [hd]
  exact (hmm.put c2 c3 (ble_lt hn) c4).sat

/-! ### a nil slice becomes an appendable one -/
theorem sat_own_nil {st : ASt} {s k : Nat} (hg : get st.env s = some (.v (.slice none 0 0))) (hs : Nat.ble n.n s = false) {ctx : Mem} {a : Act} {w : World} (h : Sat n ctx st a w) :
    Sat n ctx ⟨st.env.set s (none, .own st.H.length k []), st.H ++ [.tail 0]⟩ a w := by
  obtain ⟨bs, hm⟩ := h
  obtain ⟨env, H⟩ := st
  dsimp only at hg hm ⊢
  obtain ⟨y, h1, h2⟩ := hm.env.get hg
  have e := rv_bool h2
  subst e
  have ext := Ext.snoc (F := ctx.F) hm.ok.len (Later.refl w) (.tail 0) none (by intro b e; cases e)
  have ok := OK.snoc hm.ok (Later.refl w) (x := .tail 0) (o := none) (by intro b e; cases e) (by intro b e; cases e)
  have hput := hm.put (d := s) (x := .own H.length k []) (y := .slice none 0 0) ext ok (ble_lt hs) (by
    show Rv0 _ _ _
    simp only [Rv0, AV.isAgg, Rc, Bool.false_eq_true, if_false]
    refine ⟨none, 0, rfl, Nat.le_refl _, by simp, .inl trivial, by simp, fun m hmm => ?_⟩
    dsimp only at hmm
    simp at hmm
    subst hmm
    refine ⟨by simp, fun _ => .inr ⟨?_, rfl⟩⟩
    have : bs.length = H.length := hm.ok.len
    rw [← this]
    simp)
  have ha : a.put (some s) (.slice none 0 0) = a := by
    simp only [Act.put]
    cases a with
    | mk tmps defers =>
      congr 1
      apply Array.ext_getElem?
      intro i
      rw [Array.getElem?_setIfInBounds]
      split
      · rename_i e; subst e; rw [if_pos (get_lt' h1)]; exact h1.symm
      · rfl
  rw [ha] at hput
  exact hput.sat
where
  get_lt' {tmps : Array Value} {i : Nat} {y : Value} (h : tmps[i]? = some y) : i < tmps.size := (Array.getElem?_eq_some_iff.1 h).1

theorem awl_own_nil {ops : Array Oper} {l : List Oper} {st : ASt} {K : ASt → Prop} (s k : Nat) (hg : get st.env s = some (.v (.slice none 0 0))) (hs : Nat.ble n.n s = false)
    (hk : awl P n ops l K ⟨st.env.set s (none, .own st.H.length k []), st.H ++ [.tail 0]⟩) : awl P n ops l K st := awl_wk (fun _ _ _ h => sat_own_nil hg hs h) hk

theorem aw_own_nil {c : Code} {st : ASt} {Q : Exit → ASt → Prop} (s k : Nat) (hg : get st.env s = some (.v (.slice none 0 0))) (hs : Nat.ble n.n s = false)
    (hk : aw P n c Q ⟨st.env.set s (none, .own st.H.length k []), st.H ++ [.tail 0]⟩) : aw P n c Q st := aw_wk (fun _ _ _ h => sat_own_nil hg hs h) hk

end
end Go.UK

namespace Go.UK
open Go

section
variable {P : Program} {T : TypeId → Option TI} {n : Fr}

/-- a result: in a slot, or in a cell -/
def resAV (T : TypeId → Option TI) (env : Env) (H : List Box) : ResultVar → Option AV
  | .tmp t => match get env t with
    | some x => match notTup x with | true => some x | false => none
    | none => none
  | .cell a ty => match get env a, T ty with
    | some q, some i => match deref H q with
      | some x => match Nat.beq x.n i.size && (x.isAgg == i.kind.agg) && notTup x with | true => some x | false => none
      | none => none
    | _, _ => none

def resAVs (T : TypeId → Option TI) (env : Env) (H : List Box) : List ResultVar → Option (List AV)
  | [] => some []
  | r :: rs => match resAV T env H r, resAVs T env H rs with
    | some x, some l => some (x :: l)
    | _, _ => none

def RetV (T : TypeId → Option TI) (rs : List ResultVar) (ret : AV) (e : Exit) (st : ASt) : Prop :=
  (e = .ret ∨ e = .normal) ∧ ∃ xs, resAVs T st.env st.H rs = some xs ∧ PubR (tupOf xs) ret

theorem rv_rv0 {μ : Mem} {x : AV} {y : Value} (h : Rv μ x y) (hn : notTup x = true) : Rv0 μ x y := by
  cases x <;> first | exact h | simp [notTup] at hn

theorem rv0_rv {μ : Mem} {x : AV} {y : Value} (h : Rv0 μ x y) : Rv μ x y := by
  cases x <;> first | exact h | (simp [Rv0, AV.isAgg, Rc] at h)

theorem run_resVar (hT : TOK P T) {μ : Mem} {env : Env} {tmps : Array Value} (ok : μ.OK) (he : EnvOK μ env tmps) {r : ResultVar} {x : AV} (h : resAV T env μ.H r = some x) :
    ∃ y, (match r with | .tmp t => (pure (tmps.getD t undef) : Sem Value) | .cell a t => do loadVar t (← asAddr (tmps.getD a undef))).run P μ.w = .ok y μ.w ∧ Rv0 μ x y := by
  cases r with
  | tmp t =>
    simp only [resAV] at h
    split at h <;> try cases h
    rename_i x' hx
    split at h <;> cases h
    rename_i hn
    obtain ⟨y, h1, h2⟩ := he.get hx
    exact ⟨y, by simp only [getD_of h1, Sem.run_pure], rv_rv0 h2 hn⟩
  | cell a ty =>
    simp only [resAV] at h
    split at h <;> try cases h
    rename_i q i hq hi
    split at h <;> try cases h
    rename_i x' hx
    split at h <;> cases h
    rename_i hb
    simp only [Bool.and_eq_true, beq_iff_eq] at hb
    obtain ⟨y, h1, h2⟩ := he.get hq
    obtain ⟨b, off, zs, h3, h4, h5⟩ := deref_spec ok hx h2
    obtain ⟨v, h6, h7⟩ := run_loadVar hT hi h4 hb.1.2 (Nat.eq_of_beq_eq_true hb.1.1) h5
    refine ⟨v, ?_, rv_rv0 h7 hb.2⟩
    simp only [getD_of h1, h3, asAddr, Sem.run_bind, Sem.run_pure, Result.andThen_ok, h6]

theorem run_resVars (hT : TOK P T) {μ : Mem} {env : Env} {tmps : Array Value} (ok : μ.OK) (he : EnvOK μ env tmps) : ∀ (rs : List ResultVar) (xs : List AV), resAVs T env μ.H rs = some xs →
    ∃ ys, (List.mapM (fun (r : ResultVar) => match r with | .tmp t => (pure (tmps.getD t undef) : Sem Value) | .cell a t => do loadVar t (← asAddr (tmps.getD a undef))) rs).run P μ.w = .ok ys μ.w ∧ RvL μ xs ys ∧ ys.length = rs.length
  | [], xs, h => by
    simp only [resAVs, Option.some.injEq] at h
    subst h
    exact ⟨[], by simp, rfl, rfl⟩
  | r :: rs, xs, h => by
    simp only [resAVs] at h
    split at h <;> cases h
    rename_i x l h1 h2
    obtain ⟨y, g1, g2⟩ := run_resVar (P := P) hT ok he h1
    obtain ⟨ys, g3, g4, g5⟩ := run_resVars hT ok he rs l h2
    refine ⟨y :: ys, ?_, ⟨y, ys, rfl, g2, g4⟩, by simp [g5]⟩
    simp only [List.mapM_cons, Sem.run_bind, g1, Result.andThen_ok, g3, Sem.run_pure]

theorem fn_of_awR (hT : TOK P T) {f : FuncId} {fn : Func} {c : Code} {rs : List ResultVar} {args : List AV} {ret : AV} (hf : P.funcs[f]? = some fn) (hb : fn.body = some c) (hn : fn.ntmps = n.n) (hargs : Nat.ble args.length n.n = true)
    (hres : fn.results = rs.toArray) (h : aw P n c (RetV T rs ret) ⟨envOf 0 args, []⟩) : Fn P f args ret := by
  intro w F vs ok hr
  have hargs := Nat.le_of_ble_eq_true hargs
  refine calls_of_wp hf hb ?_
  have lens : ∀ (μ : Mem) (xs : List AV) (vs : List Value), RvL μ xs vs → vs.length = xs.length := by
    intro μ xs
    induction xs with
    | nil => intro vs h; have : vs = [] := h; subst this; rfl
    | cons x xs ih => rintro vs ⟨v, r, e, _, h2⟩; subst e; simp [ih r h2]
  have hlen := lens _ _ _ hr
  have hsat : Sat n ⟨[], [], w, F⟩ ⟨envOf 0 args, []⟩ { tmps := vs.toArray ++ Array.replicate (fn.ntmps - vs.toArray.size) undef, defers := [] } w := by
    refine ⟨[], { h := rfl, ok := ok, ext := Ext.refl _, env := envOf_ok args vs 0 hr ?_, size := ?_, low := Nat.zero_le _, defers := rfl }⟩
    · intro i v hv
      have := get_lt hv
      rw [Nat.zero_add, Array.getElem?_append_left (by simpa using this)]
      simpa using hv
    · simp
      omega
  refine wp_mono (h ⟨[], [], w, F⟩ _ _ hsat) ?_
  rintro e a' w' ⟨st', ⟨he, xs, h1, h2⟩, bs, hm⟩
  have hlater : Later w w' := by
    refine ⟨hm.ext.size, fun b hb => hm.ext.blocks b hb ?_, hm.ext.os, hm.ext.tape, hm.ext.output, hm.ext.frozen⟩
    rintro o ⟨id, h, _⟩
    simp at h
  obtain ⟨ys, hys, hrl, hyl⟩ := run_resVars (P := P) (μ := ⟨st'.H, bs, w', F⟩) hT hm.ok hm.env rs xs h1
  have hxl := lens _ _ _ hrl
  obtain ⟨v, hres', hrv⟩ : ∃ v, (results fn a'.tmps).run P w' = .ok v w' ∧ Rv ⟨st'.H, bs, w', F⟩ (tupOf xs) v := by
    have h0 : (results fn a'.tmps).run P w' = Sem.run P (pure (if h : ys.toArray.size = 1 then ys.toArray[0] else Value.tuple ys.toArray)) w' := by
      simp only [results, hres, Sem.run_bind, Array.mapM_eq_mapM_toList, Sem.run_map]
      exact (congrArg (fun r : Result (List Value) => (r.andThen fun a w' => Result.ok a.toArray w').andThen fun a w' => Sem.run P (pure (if h : a.size = 1 then a[0] else Value.tuple a)) w') hys)
    match xs, ys, hrl, hxl, h0 with
    | [], ys, hrl, hxl, h0 =>
      have : ys = [] := hrl
      subst this
      exact ⟨_, h0, #[], rfl, rfl⟩
    | [x], ys, hrl, hxl, h0 =>
      obtain ⟨y, r, e, g1, g2⟩ := hrl
      have : r = [] := g2
      subst this e
      exact ⟨y, h0, rv0_rv g1⟩
    | x :: x' :: xr, ys, hrl, hxl, h0 =>
      have : ¬ ys.toArray.size = 1 := by simp at hxl ⊢; omega
      rw [dif_neg this] at h0
      exact ⟨_, h0, _, rfl, by simpa using hrl⟩
  have hfin : Rv ⟨[], [], w', F⟩ ret v := by
    refine Rv.pub (μ := ⟨st'.H, bs, w', F⟩) (μ' := ⟨[], [], w', F⟩) h2 rfl ?_ hrv
    rintro b o (hh | ⟨id, hh, _⟩)
    · exact .inl hh
    · simp at hh
  rcases he with rfl | rfl
  · exact ⟨hm.defers, _, hres', _, rfl, hlater, hfin⟩
  · exact ⟨hm.defers, _, hres', _, rfl, hlater, hfin⟩

/-! ### an index into a text -/
theorem owp_index_str (hT : TOK P T) {o : Oper} {t : TypeId} {ti : TI} {p ix : Operand} {st : ASt} {s : ByteArray} {kk : IntKind} {i : Int} {b : UInt8} {d : Nat} (ho : o.op = .index t p ix) (hd : o.dst = some d) (hn : Nat.ble n.n d = false)
    (ht : T t = some ti) (hk : ti.kind = .str) (hp : opd st.env none p = some (.v (.string s))) (hi : opd st.env none ix = some (.v (.int kk i))) (h0 : 0 ≤ i) (hx : s.data.toList[i.toNat]? = some b) :
    owp P n o st ⟨st.env.set d (none, .v (.int .u8 b.toNat)), st.H⟩ := by
  refine owp_of_runs fun ctx a μ hm => ?_
  have e1 := rv_bool (opd_spec hm.env noG hp)
  have e2 := rv_bool (opd_spec hm.env noG hi)
  obtain ⟨dd, hdd, hf⟩ := (hT t ti ht).kind
  rw [hk] at hf
  simp only [TK.fits] at hf
  subst hf
  have hlt := get_lt hx
  have hs : s[i.toNat]? = some b := by
    have h1 : i.toNat < s.size := by have : s.data.toList.length = s.size := by simp
                                     omega
    rw [getElem?_pos s i.toNat h1]
    have h2 : i.toNat < s.data.size := h1
    have h3 : s.data[i.toNat]? = some b := by rw [← Array.getElem?_toList]; exact hx
    rw [Array.getElem?_eq_getElem h2] at h3
    exact h3
  refine ⟨_, μ, Runs.here (y := .int .u8 b.toNat) hm.ok ?_ (rv_v rfl), fun y hy hx hok => ?_⟩
  · simp [execOp, ho, Instr.index, e1, e2, asIntOf, run_underlying hdd, h0, hs]
  · rw [hd, ← hm.h]
    exact sat_put hm hx hok (ble_lt hn) hy

end
end Go.UK

