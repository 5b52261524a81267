/- The own layer: abstract values, their memory, and the steps of the model over them: for any program. -/
import Derived.Test.YtljnaeghnleipaaLib11
namespace Go.UK
open Go
set_option linter.all false
variable [Globs]
section
variable {P : Program} {T : TypeId → Option TI} {n : Fr}
def or2SL (P : Program) (n : Fr) (l : List Oper) (C : List (List Nat)) (ms : List MI) (B : Env) : O2S → List (List (List Box)) → Prop
 | (i, f) :: r, S :: R => allIn (fun H => Big P n (opAt l i) (needOf C ms B i) H f.x (H.set f.id f.y)) S ∧ or2SL P n l C ms B r R
 | _, _ => True
theorem or2SL_spec {l : List Oper} {C : List (List Nat)} {ms : List MI} {B : Env} {H0 : List Box} {es : ES} : ∀ {o : O2S} {sts : List (List (List Box))} {i : Nat} {f : OE}, or2SL P n l C ms B o sts → o.map (fun q => stagesS C q.1 H0 es) = sts → lookN o i = some f → ∀ {H}, H ∈ stagesS C i H0 es → Big P n (opAt l i) (needOf C ms B i) H f.x (H.set f.id f.y)
 | [], _, i, x, _, _, h, _, _ => by simp [lookN] at h
 | (j, y) :: r, sts, i, x, ho, hs, h, H, hH => by
  subst hs
  simp only [List.map_cons, or2SL] at ho
  unfold lookN at h
  cases hb : Nat.beq j i with
  | true =>
   rw [hb] at h
   have e := Nat.eq_of_beq_eq_true hb
   subst e
   cases h
   exact allIn_spec ho.1 H hH
  | false => rw [hb] at h; exact or2SL_spec ho.2 rfl h hH

theorem aw_drawT2 (hT : TOK P T) (hm : P.follows .mixedOrders = true) (im : Nat → Bool) (o1 : O1) (o2 : O2S) (sts : List (List (List Box))) {id : Nat} {l : List Oper} {Q : Exit → ASt → Prop} {st : ASt}
  (hB : dChkBS l (cloT l.toArray) (dAllS T im n.n l st o1 o2) st o1 o2 = true)
  (hE : dChkLS T im n.n l (cloT l.toArray) (dAllS T im n.n l st o1 o2) st o1 o2 = dChkRS l (cloT l.toArray) (dAllS T im n.n l st o1 o2) st o1 o2)
  (hdst : l.all (fun o => dOK n.n o.dst) = true)
  (h1 : or1 P n l (cloT l.toArray) (dAllS T im n.n l st o1 o2).ms st.env o1)
  (hst : o2.map (fun q => stagesS (cloT l.toArray) q.1 st.H (dAllS T im n.n l st o1 o2).es) = sts)
  (h2 : or2SL P n l (cloT l.toArray) (dAllS T im n.n l st o1 o2).ms st.env o2 sts)
  (hk : Q .normal (dStS T im n.n l st o1 o2)) : aw P n (.region id l.toArray true) Q st := by
 unfold dStS at hk
 unfold dChkBS at hB
 unfold dChkLS dChkRS at hE
 generalize dAllS T im n.n l st o1 o2 = s at *
 obtain ⟨ms, es, Hx⟩ := s
 dsimp only at *
 simp only [Bool.and_eq_true] at hB
 refine aw_drawS0 hm hB.1 (fun i hi => ?_) hk
 have hdb := allB_spec hB.2 i hi
 have hde := range_map_at hE hi
 intro o x env ho hx hs H' hH'
 have hlo : l[i]? = some o := by simpa using ho
 have ho' : opAt l i = o := by unfold opAt; rw [hlo]; rfl
 have hdo : dOK n.n o.dst = true := List.all_eq_true.1 hdst o (List.mem_of_getElem? hlo)
 have hxd : x.d = o.dst := by
  simp only [drawOKS, Bool.and_eq_true] at hB
  have := allB_spec hB.1.2.2.1 i hi
  rw [ho] at this
  simp only [Option.bind_some, dAt, hx] at this
  generalize o.dst = u at *
  generalize x.d = v at *
  cases u <;> cases v <;> simp [dEq] at this ⊢
  exact this.symm
 have hex : eAt ms i = x.e := by unfold eAt; rw [hx]
 unfold dBS at hdb
 unfold dLS dRS at hde
 simp only [ho', hex] at hdb hde
 have fin : ∀ (v : AV) (H1 H2 : List Box), x.e = some v → gOK l.toArray o (needOf (cloT l.toArray) ms st.env i) = true → Big P n o (needOf (cloT l.toArray) ms st.env i) H1 v H2 →
   opS P n l.toArray o ⟨env, H1⟩ ⟨match x.d with | some d => (match x.e with | some v => env.set d (none, v) | none => env.del d) | none => env, H2⟩ := by
  intro v H1 H2 hv hg hb
  have := opS_big hs hg hb
  rw [hv, hxd]
  cases hd : o.dst with
  | none => rw [hd] at this; exact this
  | some d => rw [hd] at this; exact this
 cases hdead : gDead l o (needOf (cloT l.toArray) ms st.env i) with
 | true =>
  rw [hdead] at hdb hde
  simp only [Bool.and_eq_true] at hdb
  have hnc : effAt i es = none := by cases hc : effAt i es with | none => rfl | some _ => rw [hc] at hdb; cases hdb.2
  have hne : x.e = some (.tup []) := isUndef_spec hdb.1
  rw [hnc]
  have := opS_dead (P := P) (n := n) (H := H') ho hs hdead hdo
  rw [hne, hxd]
  exact this
 | false =>
  rw [hdead] at hdb hde
  simp only [Bool.and_eq_true] at hdb
  obtain ⟨hg, hsome, hdb⟩ := hdb
  obtain ⟨v, hv⟩ : ∃ v, x.e = some v := by cases hc : x.e with | none => rw [hc] at hsome; cases hsome | some v => exact ⟨v, rfl⟩
  rw [hv] at hde
  cases hl1 : lookN o1 i with
  | some y =>
   rw [hl1] at hdb hde
   simp only [List.cons.injEq, Option.some.injEq, Prod.mk.injEq, and_true, Option.getD_some] at hde
   have hnc : effAt i es = none := by cases hc : effAt i es with | none => rfl | some _ => rw [hc] at hdb; cases hdb
   rw [hnc]
   have hb := or1_spec h1 hl1 H'
   rw [ho', hde] at hb
   exact fin v H' H' hv hg hb
  | none =>
   rw [hl1] at hdb hde
   cases hl2 : lookN o2 i with
   | some f =>
    rw [hl2] at hdb hde
    dsimp only at hdb hde
    simp only [List.cons.injEq, Option.some.injEq, Prod.mk.injEq, and_true, Option.getD_some] at hde
    obtain ⟨⟨e1, e2⟩, e3⟩ := hde
    have hb := or2SL_spec h2 hst hl2 hH'
    rw [ho', e1] at hb
    unfold effY at e2
    cases hc : effAt i es with
    | none => rw [hc] at hdb; cases hdb
    | some w =>
     obtain ⟨id', y'⟩ := w
     rw [hc] at hdb e2
     dsimp only at hdb e2 ⊢
     have := Nat.eq_of_beq_eq_true hdb
     subst this e2
     exact fin v _ _ hv hg hb
   | none =>
    rw [hl2] at hdb hde
    dsimp only at hdb hde
    obtain ⟨q, hq⟩ := List.getElem?_of_mem hH'
    have h9 := congrArg (fun l => l[q]?) hde
    simp only [List.getElem?_map, hq, Option.map_some, Option.some.injEq, Option.getD_some] at h9
    exact fin v H' _ hv hg (plU_big hT h9)


theorem new_own_at {w w' : World} {H : List Box} {bs : List (Option Nat)} {F : Nat → Nat → Prop} (ok : (⟨H, bs, w, F⟩ : Mem).OK) {id : Nat} (hd : H[id]? = some (.tail 0)) (hlt : Later w w') {es : List AV} {k : Nat} {ys : List Value} (hk : ∀ e ∈ es, e.n = k) (hc : RdL w (⟨H, bs, w, F⟩ : Mem).M es ys)
  (hcell : ∀ j y, ys[j]? = some y → w'.cell? ⟨w.heap.size, j, none⟩ = some y) : ∃ bs',
  Ext ⟨H, bs, w, F⟩ ⟨H.set id (.tail (es.length * k)), bs', w', F⟩ ∧ (⟨H.set id (.tail (es.length * k)), bs', w', F⟩ : Mem).OK ∧
  Rv ⟨H.set id (.tail (es.length * k)), bs', w', F⟩ (.own id k es.length es) (.slice (some ⟨w.heap.size, 0, none⟩) es.length es.length) := by
 have hl : bs.length = H.length := ok.len
 have hid := get_lt hd
 by_cases h0 : es.length * k = 0
 ·have hset : H.set id (.tail (es.length * k)) = H := by
   rw [h0]
   apply List.ext_getElem?
   intro i
   by_cases hi : id = i
   ·subst hi; rw [get_set_eq hd, hd]
   ·rw [get_set_ne hi]
  rw [hset]
  have hys : ys = [] := List.eq_nil_of_length_eq_zero (by rw [RdL.length (μ := ⟨H, bs, w, F⟩) hc, sizes_k hk, h0])
  have ext := Ext.later (F := F) (H := H) (bs := bs) hlt
  refine ⟨bs, ext, OK.later hlt ok, ?_⟩
  show Rv0 _ _ _
  simp only [Rv0, AV.isAgg, Rc, Bool.false_eq_true, if_false]
  refine ⟨trivial, _, es.length, rfl, Nat.le_refl _, hk, .inr ⟨w.heap.size, 0, ys, rfl, RdL.mono ext.keeps _ _ hc, ?_⟩, hid, fun m hm => ?_⟩
  ·intro j y hy; rw [hys] at hy; simp at hy
  ·dsimp only at hm
   rw [hd] at hm
   cases hm
   exact ⟨by omega, fun _ => .inr rfl⟩
 ·obtain ⟨ob, hob⟩ : ∃ ob, bs[id]? = some ob := ⟨bs[id]'(by omega), List.getElem?_eq_getElem (by omega)⟩
  have ne_of : ∀ {i : Nat} {y : Box}, H[i]? = some y → (∀ m, y ≠ .tail m) → id ≠ i := fun h hy e => by subst e; rw [hd] at h; cases h; exact hy 0 rfl
  have back : ∀ (i b : Nat) (y : Box), (bs.set id none)[i]? = some (some b) → (H.set id (.tail (es.length * k)))[i]? = some y → (id ≠ i ∧ bs[i]? = some (some b) ∧ H[i]? = some y) := by
   intro i b y h1 h2
   by_cases e : id = i
   ·subst e
    rw [get_set_eq hob] at h1
    cases h1
   ·rw [get_set_ne e] at h1 h2
    exact ⟨e, h1, h2⟩
  have ownb : ∀ b o, (⟨H.set id (.tail (es.length * k)), bs.set id none, w', F⟩ : Mem).own b o → (⟨H, bs, w, F⟩ : Mem).own b o := by
   rintro b o ⟨i, h1, h2⟩
   dsimp only at h1 h2
   rcases h2 with ⟨y, h2, h3⟩ | ⟨m, h2, h3⟩
   ·obtain ⟨_, g1, g2⟩ := back i b y h1 h2
    exact ⟨i, g1, .inl ⟨y, g2, h3⟩⟩
   ·obtain ⟨_, g1, g2⟩ := back i b _ h1 h2
    exact ⟨i, g1, .inr ⟨m, g2, h3⟩⟩
  have ext : Ext ⟨H, bs, w, F⟩ ⟨H.set id (.tail (es.length * k)), bs.set id none, w', F⟩ := {
   size := hlt.size
   len := by simp
   cells := fun b o hb _ => cell_of_heap (hlt.block b hb)
   blocks := fun b hb _ => hlt.block b hb
   mm := fun b o hb ho => ownb b o ho
   same := rfl
   vars := fun i c hc' => by
    have e := ne_of hc' (by simp)
    exact ⟨⟨c, (get_set_ne e).trans hc'⟩, get_set_ne e⟩
   maps := fun i c hc' => by
    have e := ne_of hc' (by simp)
    exact ⟨⟨c, (get_set_ne e).trans hc'⟩, get_set_ne e⟩
   loops := fun i c hc' => by
    have e := ne_of hc' (by simp)
    exact ⟨⟨c, (get_set_ne e).trans hc'⟩, get_set_ne e⟩
   toks := fun i m' hi hm => by
    dsimp only at hm
    by_cases e : id = i
    ·subst e
     rw [get_set_eq hd] at hm
     cases hm
     exact ⟨0, hd, Nat.zero_le _, fun e => absurd e.symm h0⟩
    ·rw [get_set_ne e] at hm
     exact ⟨m', hm, Nat.le_refl _, fun _ => ⟨get_set_ne e, fun b s _ hr => row_of_heap (hlt.block b (by obtain ⟨c, TT, h1, _⟩ := hr; exact heap_lt h1)) hr⟩⟩
   gros := fun i q es' hi hm => by
    dsimp only at hm
    by_cases e : id = i
    ·subst e; rw [get_set_eq hd] at hm; cases hm
    ·rw [get_set_ne e] at hm
     exact ⟨es', hm, Nat.le_refl _, fun _ => ⟨get_set_ne e, fun b s _ hr => row_of_heap (hlt.block b (by obtain ⟨c, TT, h1, _⟩ := hr; exact heap_lt h1)) hr⟩⟩
   os := hlt.os
   tape := hlt.tape
   output := hlt.output }
  refine ⟨bs.set id none, ext, ?_, ?_⟩
  ·refine ⟨fun b o hf => Nat.lt_of_lt_of_le (ok.foreign b o hf) hlt.size, fun b o ho hf => ok.clear b o (ownb b o ho) hf, by simp [hl], ?_, ?_, fun g hg => ext.globAt (ok.glob g hg)⟩
   ·intro i o y ho hy
    dsimp only at ho hy
    by_cases e : id = i
    ·subst e
     rw [get_set_eq hob] at ho
     rw [get_set_eq hd] at hy
     cases ho
     cases hy
     intro b e
     cases e
    ·rw [get_set_ne e] at ho hy
     have hok := ok.box i o y ho hy
     refine boxOK_keep ext (fun b hb hdd => ?_) hok
     subst hb
     exact hlt.block b (boxOK_lt hdd hok)
   ·intro i j b y z h1 h2 h3 h4 h5 h6
    dsimp only at h1 h2 h3 h4
    obtain ⟨e1, g1, g2⟩ := back i b y h1 h3
    obtain ⟨e3, g3, g4⟩ := back j b z h2 h4
    exact ok.apart i j b y z g1 g3 g2 g4 h5 h6
  ·show Rv0 _ _ _
   simp only [Rv0, AV.isAgg, Rc, Bool.false_eq_true, if_false]
   refine ⟨trivial, some ⟨w.heap.size, 0, none⟩, es.length, rfl, Nat.le_refl _, hk, .inr ⟨w.heap.size, 0, ys, rfl, RdL.mono ext.keeps _ _ hc, ?_⟩, by simpa using hid, fun m hm => ?_⟩
   ·intro j y hy
    rw [Nat.zero_add]
    refine ⟨hcell j y hy, ?_⟩
    rintro (hf | h)
    ·exact Nat.lt_irrefl _ (ok.foreign _ _ hf)
    ·obtain ⟨i, h1, h2⟩ := ownb _ _ h
     have : w.heap.size < w.heap.size := by
      rcases h2 with ⟨c, h2, hw⟩ | ⟨m, h2, _⟩
      ·exact box_block_lt ok (b := w.heap.size) h1 h2 (Box.whole_live hw)
      ·exact box_block_lt ok (b := w.heap.size) h1 h2 (by simp)
     omega
   ·dsimp only at hm
    rw [get_set_eq hd] at hm
    cases hm
    exact ⟨Nat.le_refl _, fun _ => .inr rfl⟩
theorem big_rowOS (hT : TOK P T) {o : Oper} {need : Env} {H : List Box} (id : Nat) {α : Type} (f : α → AV) {k : Nat} (l : List α) (hd : dOK n.n o.dst = true) (h : rowK T o need = some (k, l.length, l.map f)) (hb : H[id]? = some (.tail 0)) : Big P n o need H (eO id k f l) (H.set id (.tail (l.length * k))) := by
 refine big_of hd fun a μ ok hH hE => ?_
 obtain ⟨t, parts, ys, e, sz, b1, z, ho, ht, hrun, h1, h2, h3⟩ := rowK_run (P := P) hT h ok hE
 obtain ⟨H0, bs, w, F⟩ := μ
 dsimp only at hH
 subst hH
 obtain ⟨bs', ext, ok', hv⟩ := new_own_at ok hb (Later.alloc w ys.toArray e) h2 h1 (fun j y hy => cell_row hy)
 simp only [List.length_map] at ext ok' hv
 exact ⟨_, ⟨_, hrun, hv, ext, ok'⟩, rfl⟩

theorem sat_tail {st : ASt} {ctx : Mem} {a : Act} {w : World} (h : Sat n ctx st a w) : Sat n ctx ⟨st.env, st.H ++ [.tail 0]⟩ a w := by
 obtain ⟨bs, hm⟩ := h
 have ext := Ext.snoc (F := ctx.F) hm.ok.len (Later.refl w) (.tail 0) none (by intro b e; cases e)
 have ok := OK.snoc hm.ok (Later.refl w) (x := .tail 0) (o := none) (by intro b e; cases e) (by intro b e; cases e)
 exact ⟨bs ++ [none], { h := rfl, ok := ok, ext := hm.ext.trans ext, env := hm.env.ext ext, size := hm.size, low := hm.low, defers := Marks.ext hm.ok ext hm.defers, nod := hm.nod, outs := fun p hp => (hm.outs p hp).ext ext }⟩
def laid : List Bool → List Box
 | [] => []
 | true :: r => .tail 0 :: laid r
 | false :: r => .dead :: laid r
theorem sat_laid : ∀ (m : List Bool) {st : ASt} {ctx : Mem} {a : Act} {w : World}, Sat n ctx st a w → Sat n ctx ⟨st.env, st.H ++ laid m⟩ a w
 | [], st, ctx, a, w, h => by simpa [laid] using h
 | true :: r, st, ctx, a, w, h => by
  have := sat_laid r (sat_tail h)
  simpa [laid] using this
 | false :: r, st, ctx, a, w, h => by
  have h1 := sat_dead h 1
  have := sat_laid r h1
  simpa [laid] using this
theorem aw_drawS2 (hT : TOK P T) (hm : P.follows .mixedOrders = true) (im : Nat → Bool) (m : List Bool) (o1 : O1) (o2 : O2S) (sts : List (List (List Box))) {id : Nat} {l : List Oper} {Q : Exit → ASt → Prop} {st : ASt}
  (hB : dChkBS l (cloT l.toArray) (dAllS T im n.n l (dB0 l ⟨st.env, st.H ++ laid m⟩) o1 o2) (dB0 l ⟨st.env, st.H ++ laid m⟩) o1 o2 = true)
  (hE : dChkLS T im n.n l (cloT l.toArray) (dAllS T im n.n l (dB0 l ⟨st.env, st.H ++ laid m⟩) o1 o2) (dB0 l ⟨st.env, st.H ++ laid m⟩) o1 o2 = dChkRS l (cloT l.toArray) (dAllS T im n.n l (dB0 l ⟨st.env, st.H ++ laid m⟩) o1 o2) (dB0 l ⟨st.env, st.H ++ laid m⟩) o1 o2)
  (hdst : l.all (fun o => dOK n.n o.dst) = true)
  (h1 : or1 P n l (cloT l.toArray) (dAllS T im n.n l (dB0 l ⟨st.env, st.H ++ laid m⟩) o1 o2).ms (dB0 l ⟨st.env, st.H ++ laid m⟩).env o1)
  (hst : o2.map (fun q => stagesS (cloT l.toArray) q.1 (dB0 l ⟨st.env, st.H ++ laid m⟩).H (dAllS T im n.n l (dB0 l ⟨st.env, st.H ++ laid m⟩) o1 o2).es) = sts)
  (h2 : or2SL P n l (cloT l.toArray) (dAllS T im n.n l (dB0 l ⟨st.env, st.H ++ laid m⟩) o1 o2).ms (dB0 l ⟨st.env, st.H ++ laid m⟩).env o2 sts)
  (es : List (Nat × AV)) (hn : nmL es (dStS T im n.n l (dB0 l ⟨st.env, st.H ++ laid m⟩) o1 o2) = nmR es)
  (hk : Q .normal (nmS es (dStS T im n.n l (dB0 l ⟨st.env, st.H ++ laid m⟩) o1 o2))) : aw P n (.region id l.toArray true) Q st := by
 have h := aw_drawT2 (Q := fun e s => e = .normal ∧ s = dStS T im n.n l (dB0 l ⟨st.env, st.H ++ laid m⟩) o1 o2) (id := id) hT hm im o1 o2 sts hB hE hdst h1 hst h2 ⟨rfl, rfl⟩
 intro ctx a w hs
 refine wpIn_mono (h ctx a w (sat_dB0 (sat_laid m hs))) ?_
 rintro e a' w' ⟨s, ⟨rfl, rfl⟩, h2⟩
 exact ⟨_, hk, sat_env (sub_nm hn) h2⟩
end
end Go.UK


