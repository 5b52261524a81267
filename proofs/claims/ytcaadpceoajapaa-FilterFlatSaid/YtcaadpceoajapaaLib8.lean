/- The own layer: abstract values, their memory, and the steps of the model over them: for any program. -/
import Derived.Test.YtcaadpceoajapaaLib7
namespace Go.UK
open Go
/-! ### is a slice nil? what is known of it does not say; both ways are walked -/
section
variable {P : Program} {T : TypeId → Option TI} {n : Fr}
theorem run_eqnilD (hT : TOK P T) {t e : TypeId} {sz b1 : Nat} {z : AV} (ht : T t = some ⟨sz, b1, z, .sl e⟩) (ad : Option Addr) (ln cap : Nat) (w : World) (d : Nat) :
    (Op.equalIn (d + 1) t (.slice ad ln cap) (.slice none 0 0)).run P w = .ok ad.isNone w := by
  obtain ⟨d, hd, hk⟩ := (hT t _ ht).kind
  simp only [TK.fits] at hk
  subst hk
  unfold Op.equalIn
  rw [Sem.run_bind, run_underlying hd]
  cases ad <;> rfl
theorem run_eqnil (hT : TOK P T) {t e : TypeId} {sz b1 : Nat} {z : AV} (ht : T t = some ⟨sz, b1, z, .sl e⟩) {x y : Operand} (ad : Option Addr) (ln cap : Nat) (w : World) :
    (do eqGuard .eql t x y (.slice ad ln cap) (.slice none 0 0); binOp .eql t (.slice ad ln cap) (.slice none 0 0) : Sem Value).run P w = .ok (.bool ad.isNone) w := by
  have he : (Op.equal t (.slice ad ln cap) (.slice none 0 0)).run P w = .ok ad.isNone w := run_eqnilD hT ht ad ln cap w 9999
  have e1 : (if (!true) = true then pure () else pure () : Sem Unit).run P w = .ok () w := rfl
  simp only [eqGuard, binOp, Sem.run_bind]
  rw [show (Sem.run P (if (!true) = true then pure () else pure ()) w) = Result.ok () w from rfl]
  simp only [Result.andThen_ok, he, Sem.run_pure]
theorem awl_eqn (hT : TOK P T) {ops : Array Oper} {o : Oper} {l : List Oper} {st : ASt} {K : ASt → Prop} {d t e k sz b1 : Nat} {z x : AV} {es : List AV}
    (g1 : o.guard = none) (hd1 : o.dst = some d) (hn : Nat.ble n.n d = false) (ht : T t = some ⟨sz, b1, z, .sl e⟩) (h : eqE o st.env .eql = some (t, x, .v (.slice none 0 0))) (he : elemsOf x = some (k, es))
    (h1 : awl P n ops l K ⟨st.env.set d (none, .v (.bool false)), st.H⟩) (h2 : es = [] → awl P n ops l K ⟨st.env.set d (none, .v (.bool true)), st.H⟩) : awl P n ops (o :: l) K st := by
  intro ctx a w hs
  obtain ⟨bs, hm⟩ := hs
  obtain ⟨xo, yo, t', ho, hx, hy⟩ := eqE_spec h
  have v1 := elems_spec he (opd_spec hm.env noG hx)
  have v2 := rv_bool (opd_spec hm.env noG hy)
  obtain ⟨ad, cap, e1, e2, e3, e4⟩ := rv_sl v1
  have hrun : (execOp a.eval o).run P w = .ok (.value (.bool ad.isNone)) w := by
    have := run_eqnil (P := P) hT ht (x := xo) (y := yo) ad es.length cap w
    rw [Sem.run_bind] at this
    simp only [execOp, ho, e1, v2, Sem.run_bind, this, Result.andThen_ok, Sem.run_pure]
  have key : awl P n ops l K ⟨st.env.set d (none, .v (.bool ad.isNone)), st.H⟩ := by
    cases ad with
    | none =>
      refine h2 ?_
      rcases e4 with e | ⟨b, off, zs, e, _⟩
      · exact e
      · cases e
    | some q => exact h1
  refine wpListIn_step fun K' hK' => ?_
  rw [if_pos (by simp [Region.wanted, g1])]
  refine opIn_of rfl (noDefer_v hrun) ?_
  unfold Oper.wp
  rw [hrun]
  simp only [Oper.upon]
  refine hK' _ _ (key ctx _ _ ?_)
  rw [hd1]
  exact (hm.put (Ext.refl _) hm.ok (ble_lt hn) (rv_v rfl)).sat
end
end Go.UK

