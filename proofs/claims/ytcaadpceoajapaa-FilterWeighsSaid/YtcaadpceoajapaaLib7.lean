/- The own layer: abstract values, their memory, and the steps of the model over them: for any program. -/
import Derived.Test.YtcaadpceoajapaaLib6
import Derived.JoinedOf
namespace Go.UK
open Go
/-! ### a nil slice in a box becomes an appendable one -/
mutual
def putNil (id k : Nat) : AV → List Nat → AV
  | .v (.slice none 0 0), [] => .own id k 0 []
  | .st n ps, j :: p => .st n (putNilL id k ps j p)
  | x, _ => x
def putNilL (id k : Nat) : List AV → Nat → List Nat → List AV
  | [], _, _ => []
  | x :: xs, 0, p => putNil id k x p :: xs
  | x :: xs, j + 1, p => x :: putNilL id k xs j p
end
mutual
theorem putNil_rc {μ : Mem} {id k : Nat} (h1 : id < μ.H.length) (h2 : μ.H[id]? = some (.tail 0)) (h3 : μ.bs[id]? = some none) : ∀ (x : AV) (p : List Nat) (ys : List Value), Rc μ x ys → Rc μ (putNil id k x p) ys
  | .v x, p, ys, hr => by
    unfold putNil
    split
    · rename_i e
      cases e
      simp only [Rc] at hr ⊢
      refine ⟨rfl, none, 0, hr.1, Nat.le_refl _, by simp, .inl trivial, h1, fun m hm => ?_⟩
      rw [h2] at hm
      cases hm
      exact ⟨by simp, fun _ => .inr ⟨h3, rfl⟩⟩
    · rename_i e; cases e
    · exact hr
  | .st n ps, [], ys, hr => by unfold putNil; exact hr
  | .st n ps, j :: p, ys, hr => by
    unfold putNil
    simp only [Rc] at hr ⊢
    exact ⟨hr.1, putNilL_rc h1 h2 h3 ps j p ys hr.2⟩
  | .arr .., p, _, hr => by unfold putNil; exact hr
  | .sl .., p, _, hr => by unfold putNil; exact hr
  | .own .., p, _, hr => by unfold putNil; exact hr
  | .ref .., p, _, hr => by unfold putNil; exact hr
  | .bsl .., p, _, hr => by unfold putNil; exact hr
  | .im _, p, _, hr => by unfold putNil; exact hr
  | .tup _, p, _, hr => by unfold putNil; exact hr
  | .fn .., p, _, hr => by unfold putNil; exact hr
  | .ifc .., p, _, hr => by unfold putNil; exact hr
  | .mp _, p, _, hr => by unfold putNil; exact hr
  | .yld _, p, _, hr => by unfold putNil; exact hr
theorem putNilL_rc {μ : Mem} {id k : Nat} (h1 : id < μ.H.length) (h2 : μ.H[id]? = some (.tail 0)) (h3 : μ.bs[id]? = some none) : ∀ (ps : List AV) (j : Nat) (p : List Nat) (ys : List Value), RcL μ ps ys → RcL μ (putNilL id k ps j p) ys
  | [], _, _, _, hr => by unfold putNilL; exact hr
  | x :: xs, 0, p, ys, hr => by
    unfold putNilL
    simp only [RcL] at hr ⊢
    obtain ⟨y1, y2, e, g1, g2⟩ := hr
    exact ⟨y1, y2, e, putNil_rc h1 h2 h3 x p y1 g1, g2⟩
  | x :: xs, j + 1, p, ys, hr => by
    unfold putNilL
    simp only [RcL] at hr ⊢
    obtain ⟨y1, y2, e, g1, g2⟩ := hr
    exact ⟨y1, y2, e, g1, putNilL_rc h1 h2 h3 xs j p y2 g2⟩
end
section
variable {P : Program} {n : Fr}
theorem ok_boxes2 {H H' : List Box} {bs : List (Option Nat)} {w : World} {F : Nat → Nat → Prop} (hl : H.length = H'.length) (hk : ∀ (i : Nat) x y, H[i]? = some x → H'[i]? = some y → (y = x ∨ ∃ c c', x = .var c ∧ y = .var c' ∧ ∀ ys, Rc ⟨H', bs, w, F⟩ c ys → Rc ⟨H', bs, w, F⟩ c' ys))
    (ok : (⟨H, bs, w, F⟩ : Mem).OK) : (⟨H', bs, w, F⟩ : Mem).OK := by
  have ext : Ext ⟨H, bs, w, F⟩ ⟨H', bs, w, F⟩ := ext_boxes hl fun i x y hx hy => (hk i x y hx hy).imp id (fun ⟨c, e, h1, h2, _⟩ => ⟨c, _, h1, h2⟩)
  have old : ∀ (i : Nat) y, H'[i]? = some y → ∃ x, H[i]? = some x ∧ (y = x ∨ ∃ c c', x = .var c ∧ y = .var c' ∧ ∀ ys, Rc ⟨H', bs, w, F⟩ c ys → Rc ⟨H', bs, w, F⟩ c' ys) := by
    intro i y hy
    obtain ⟨x, hx⟩ : ∃ x, H[i]? = some x := ⟨_, List.getElem?_eq_getElem (by have := get_lt hy; omega)⟩
    exact ⟨x, hx, hk i x y hx hy⟩
  refine ⟨ok.foreign, fun b o h => ok.clear b o ?_, by have := ok.len; dsimp only at this ⊢; omega, ?_, ?_⟩
  · by_cases hb : b < w.heap.size
    · exact ext.mm b o hb h
    · obtain ⟨i, h1, h2⟩ := h
      exfalso
      dsimp only at h2
      have : ∃ y, H'[i]? = some y ∧ y ≠ .dead := by
        rcases h2 with ⟨y, h2, h3⟩ | ⟨m, h2, _⟩
        · exact ⟨y, h2, Box.whole_live h3⟩
        · exact ⟨_, h2, by simp⟩
      obtain ⟨y, hy, hd⟩ := this
      obtain ⟨x, hx, h⟩ := old i y hy
      refine hb (box_block_lt ok (b := b) h1 hx ?_)
      rcases h with e | ⟨c, e, h1, h2, _⟩
      · subst e; exact hd
      · subst h1; simp
  · intro i o y ho hy
    obtain ⟨x, hx, h⟩ := old i y hy
    have hok := ok.box i o x ho hx
    rcases h with e | ⟨c, e, h1, h2, h3⟩
    · subst e; exact boxOK_keep ext (fun _ _ _ => rfl) hok
    · subst h1 h2
      obtain ⟨b, ys, U, g1, g2, g3⟩ := hok
      exact ⟨b, ys, U, g1, g2, h3 _ (Rc.ext ext _ _ g3)⟩
  · intro i j b y z hi hj hy hz hyd hzd
    obtain ⟨x, hx, h⟩ := old i y hy
    obtain ⟨x2, hx2, h2⟩ := old j z hz
    refine ok.apart i j b x x2 hi hj hx hx2 ?_ ?_
    · rcases h with e | ⟨c, e, h1, _⟩
      · subst e; exact hyd
      · subst h1; simp
    · rcases h2 with e | ⟨c, e, h1, _⟩
      · subst e; exact hzd
      · subst h1; simp
def ownB (b k : Nat) (p : List Nat) (st : ASt) : ASt :=
  match st.H[b]? with
  | some (.var c) => ⟨st.env, (st.H ++ [Box.tail 0]).set b (.var (putNil st.H.length k c p))⟩
  | _ => st
theorem sat_own_box {st : ASt} {b k : Nat} {p : List Nat} {ctx : Mem} {a : Act} {w : World} (h : Sat n ctx st a w) : Sat n ctx (ownB b k p st) a w := by
  unfold ownB
  split
  · rename_i c hc
    obtain ⟨bs, hm⟩ := h
    have hl : bs.length = st.H.length := hm.ok.len
    have ext := Ext.snoc (F := ctx.F) hm.ok.len (Later.refl w) (.tail 0) none (by intro b e; cases e)
    have ok := OK.snoc hm.ok (Later.refl w) (x := .tail 0) (o := none) (by intro b e; cases e) (by intro b e; cases e)
    have hb := get_lt hc
    have hk : ∀ (i : Nat) x y, (st.H ++ [Box.tail 0])[i]? = some x → ((st.H ++ [Box.tail 0]).set b (.var (putNil st.H.length k c p)))[i]? = some y → (y = x ∨ ∃ d d', x = .var d ∧ y = .var d' ∧
        ∀ ys, Rc ⟨(st.H ++ [Box.tail 0]).set b (.var (putNil st.H.length k c p)), bs ++ [none], w, ctx.F⟩ d ys → Rc ⟨(st.H ++ [Box.tail 0]).set b (.var (putNil st.H.length k c p)), bs ++ [none], w, ctx.F⟩ d' ys) := by
      intro i x y hx hy
      by_cases hi : i = b
      · subst hi
        rw [get_snoc_lt hb, hc] at hx
        rw [List.getElem?_set_self (by simp; omega)] at hy
        cases hx; cases hy
        refine .inr ⟨c, _, rfl, rfl, fun ys hr => putNil_rc ?_ ?_ ?_ c p ys hr⟩
        · show st.H.length < List.length ((st.H ++ [Box.tail 0]).set _ _); rw [List.length_set, List.length_append]; exact Nat.lt_succ_self _
        · rw [List.getElem?_set_ne (by omega)]; simp
        · show (bs ++ [none])[st.H.length]? = some none
          rw [← hl]; simp
      · rw [List.getElem?_set_ne (fun e => hi e.symm)] at hy
        rw [hx] at hy
        cases hy
        exact .inl rfl
    have hlen : (st.H ++ [Box.tail 0]).length = ((st.H ++ [Box.tail 0]).set b (.var (putNil st.H.length k c p))).length := by rw [List.length_set]
    have ext2 := ext_boxes (bs := bs ++ [none]) (w := w) (F := ctx.F) hlen (fun i x y hx hy => (hk i x y hx hy).imp id (fun ⟨c, e, h1, h2, _⟩ => ⟨c, _, h1, h2⟩))
    have ok2 := ok_boxes2 (bs := bs ++ [none]) (w := w) (F := ctx.F) hlen hk ok
    have ext3 := ext.trans ext2
    exact ⟨bs ++ [none], rfl, ok2, hm.ext.trans ext3, hm.env.ext ext3, hm.size, hm.low, Marks.ext hm.ok ext3 hm.defers, hm.nod, fun p hp => (hm.outs p hp).ext ext3⟩
  · exact h
theorem awl_own_box {ops : Array Oper} {l : List Oper} {st : ASt} {K : ASt → Prop} (b k : Nat) (p : List Nat) (hk : awl P n ops l K (ownB b k p st)) : awl P n ops l K st :=
  fun ctx a w hs => hk ctx a w (sat_own_box hs)
theorem aw_own_box {c : Code} {st : ASt} {Q : Exit → ASt → Prop} (b k : Nat) (p : List Nat) (hk : aw P n c Q (ownB b k p st)) : aw P n c Q st :=
  fun ctx a w hs => hk ctx a w (sat_own_box hs)
end
end Go.UK

namespace Go.UK
open Go
/-! ### the closed facts of a statement, in parts -/
def joined_a (P : Program) (f : FuncId) (fn : Func) (s : ChangeSpec) (c : OpenClaim) : Bool := c.wf (OpenSpec.ofChange s) && laidOutB P && mapsRowed P && fn.params.all (P.readableRec ·) && namedTie P c.named s.vars && (c.stops == []) && (P.stops == []) && (c.knobs == []) && (P.stopKnobs == [])
def joined_b (P : Program) (f : FuncId) (fn : Func) (s : ChangeSpec) (c : OpenClaim) : Bool := (c.inPlace == P.inPlace f) && (c.unfollowed == P.unfollowed f)
def joined_c (P : Program) (f : FuncId) (fn : Func) (s : ChangeSpec) (c : OpenClaim) : Bool := (c.recurses == P.recurses f) && (c.named == P.varsNamed f)
def joined_d (P : Program) (f : FuncId) (fn : Func) (s : ChangeSpec) (c : OpenClaim) : Bool := (c.maps == (fn.params.toList ++ s.plain.varTypes P).any (P.mapsRec ·)) && (c.ifaces == (fn.params.toList ++ s.plain.varTypes P).any (P.ifacesRec ·)) && (c.mapsOut == P.mapsAmong fn.resultTypes.toList) && (c.loops == (fn.params.toList ++ s.plain.varTypes P).any (P.loopsFrom ·)) && (c.wideKeys == (fn.params.toList ++ s.plain.varTypes P ++ fn.resultTypes.toList).any (P.wideKeysFrom ·))
def joined_e (P : Program) (f : FuncId) (fn : Func) (s : ChangeSpec) (c : OpenClaim) : Bool := s.vars.all (P.varReadable ·) && fn.resultTypes.all (fun t => P.readableRec t && decide (t < P.types.size)) && (c.ifacesOut == fn.resultTypes.toList.any (P.ifacesRec ·)) && (c.loopsOut == fn.resultTypes.toList.any (P.loopsFrom ·))
def joined_f (P : Program) (f : FuncId) (fn : Func) (s : ChangeSpec) (c : OpenClaim) : Bool := (c.plainKeys == P.plainKeys)
def joined_g (P : Program) (f : FuncId) (fn : Func) (s : ChangeSpec) (c : OpenClaim) : Bool := c.shortTexts.isNone && P.stopsHeard && P.mayEnter && (c.lifted == P.liftsFinal) && (P.make == some c.make) && (c.kinds == (if c.domain.isEmpty then [] else fn.params.toList.map fun t => match P.underlying t with | some (.int k) => some k | _ => none)) && (c.pinned == c.pinnedBy)
def joined_h (P : Program) (f : FuncId) (fn : Func) (s : ChangeSpec) (c : OpenClaim) : Bool := (c.veiled == (fn.params.toList ++ s.plain.varTypes P ++ fn.resultTypes.toList).any (P.veiledRec ·)) && c.veiledFits P fn.params.toList (fn.params.toList ++ s.plain.varTypes P ++ fn.resultTypes.toList)
theorem joined_of {P : Program} {f : FuncId} {fn : Func} {s : ChangeSpec} {c : OpenClaim} (ha : joined_a P f fn s c = true) (hb : joined_b P f fn s c = true) (hc : joined_c P f fn s c = true) (hd : joined_d P f fn s c = true) (he : joined_e P f fn s c = true) (hf : joined_f P f fn s c = true) (hg : joined_g P f fn s c = true) (hh : joined_h P f fn s c = true) : joinedFacts P f fn s c = true := by
  unfold joined_a joined_b joined_c joined_d joined_e joined_f joined_g joined_h at *
  unfold joinedFacts
  simp only [Bool.and_eq_true] at *
  obtain ⟨⟨⟨⟨⟨⟨⟨⟨a1, a2⟩, a3⟩, a4⟩, a5⟩, a6⟩, a7⟩, a8⟩, a9⟩ := ha
  obtain ⟨b1, b2⟩ := hb
  obtain ⟨c1, c2⟩ := hc
  obtain ⟨⟨⟨⟨d1, d2⟩, d3⟩, d4⟩, d5⟩ := hd
  obtain ⟨⟨⟨e1, e2⟩, e3⟩, e4⟩ := he
  obtain ⟨⟨⟨⟨⟨⟨g1, g2⟩, g3⟩, g4⟩, g5⟩, g6⟩, g7⟩ := hg
  obtain ⟨h1, h2⟩ := hh
  have f1 := hf
  exact ⟨⟨⟨⟨⟨⟨⟨⟨⟨⟨⟨⟨⟨⟨⟨⟨⟨⟨⟨⟨⟨⟨⟨⟨⟨⟨⟨⟨⟨⟨⟨a1, a2⟩, a3⟩, a4⟩, a5⟩, a6⟩, a7⟩, a8⟩, a9⟩, b1⟩, b2⟩, c1⟩, c2⟩, d1⟩, d2⟩, d3⟩, d4⟩, d5⟩, e1⟩, e2⟩, e3⟩, e4⟩, f1⟩, g1⟩, g2⟩, g3⟩, g4⟩, g5⟩, g6⟩, g7⟩, h1⟩, h2⟩
end Go.UK

