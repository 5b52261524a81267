/- KeysOpens: whatever the arguments, the law's function returns true and leaves its arguments as they were. No condition. -/
import Derived.Test.YtogkmakcedgneaaGreatRows
import Derived.WalkKit
import Derived.ProofKit
import Derived.OpenShut
import Derived.ChangeOld
import Derived.Below
import Derived.Test.YtogkmakcedgneaaGreatLib15
import Derived.Test.YtogkmakcedgneaaGreatWO
import Derived.Test.YtogkmakcedgneaaGreatLK9

namespace Go.Proofs.YtogkmakcedgneaaGreat.keysOpens
open Go.ChangeShapes Go.WideShapes Go.ChangeAt Go.RowKit

set_option linter.unusedVariables false

theorem own : ownKnob Tryz.prog.godebug = none := by kernel_rfl
theorem laidOut : laidOutB Tryz.prog = true := by kernel_rfl

theorem of_change_wt {H : Type} {enc : TypeId × Value → H} {a : Assume} {C : Checked} {os : Os} {f : FuncId} {fn : Func} {s : ChangeSpec} {conds : List PathCond} {apart fresh handsOn again : Bool}
  (own : ownKnob C.prog.godebug = none) (started : os.Started) (noInit : C.prog.inits.idxOf? f = none) (hfn : C.prog.funcs[f]? = some fn)
  (witness : ∃ (w : World) (tape : Tape) (i : Input), w.os = os ∧ (w.forCall tape i).Shaped C.prog ∧ i.vars = [] ∧ Input.okWide C.prog (w.forCall tape i) .any w.heap.size f i ∧
   s.pre6 enc C.prog fn conds apart (w.forCall tape i).memory i.args ∧ a.holds C.prog (lone (Frame.enter C.prog f i.args .normal) [] (w.forCall tape i)))
  (contract : ∀ (W : World) (base : Nat) (args : Array Value) (ds gs : List (DataW H)) (before : List MemPlace),
   (∀ (j : Nat) t v, fn.params[j]? = some t → args[j]? = some v → Value.okWide C.prog W .any base t v) →
   DataW.Whole enc C.prog fn.params.toList s.vars apart W args.toList ds gs before →
   conds.all (PathCond.test C.prog ⟨fn.params.toList, ds, s.plain.varTypes C.prog, gs⟩) = true →
   (DataW.weightsEach C.prog (fn.params.toList ++ s.plain.varTypes C.prog) (ds ++ gs)).all (· ≤ reachBytes) = true →
   Calls C.prog f args W fun e W' => ∃ v, e = .returned v ∧ s.post enc C.prog fn apart fresh handsOn again W args v W') :
  ReturnsInHanded a C os f .any (s.pre6 enc C.prog fn conds apart) (s.post enc C.prog fn apart fresh handsOn again) := by
 have e : (fun w args => (s.pre enc C.prog fn conds apart w args ∧ True) ∧ sizedMet enc C.prog fn (OpenSpec.ofChange s) apart w args) = s.pre6 enc C.prog fn conds apart := by
  funext w args
  unfold ChangeSpec.pre6
  rw [and_true]
 rw [← e]
 obtain ⟨w, t, i, h1, h2, h3, h4, h5, h6⟩ := witness
 exact returnsInHanded_of_change_and (X := fun _ _ => True) (fun _ _ _ _ _ => trivial) own started noInit hfn ⟨w, t, i, h1, h2, h3, h4, ⟨⟨h5.1, trivial⟩, h5.2⟩, h6⟩
  (fun W base args ds gs before a b c d _ _ => contract W base args ds gs before a b c d)

set_option maxRecDepth 100000 in
theorem lifted (os : Os) (started : os.Started) (H : Type) (enc : TypeId × Value → H) :
  ReturnsInHanded {} Tryz.checked os 3 .any (Rows.keysOpensSpec.pre6 enc Tryz.prog Tryz.f3 Rows.keysOpensRow.domain false) (Rows.keysOpensSpec.post enc Tryz.prog Tryz.f3 false true false false) := by
 refine of_change_wt (C := Tryz.checked) own started (by kernel_rfl) Tryz.func3
  (ChangeSpec.witness6 (enc := enc) (C := Tryz.checked) false ⟨#[], #[.agg #[.int .u8 0, .int .u8 0, .int .u8 0, .int .u8 0, .int .u8 0, .int .u8 0, .int .u8 0, .int .u8 0, .int .u8 0, .int .u8 0, .int .u8 0, .int .u8 0, .int .u8 0, .int .u8 0, .int .u8 0, .int .u8 0, .int .u8 0, .int .u8 0, .int .u8 0, .int .u8 0, .int .u8 0, .int .u8 0, .int .u8 0, .int .u8 0, .int .u8 0, .int .u8 0, .int .u8 0, .int .u8 0, .int .u8 0, .int .u8 0, .int .u8 0, .int .u8 0], .slice none 0 0, .slice none 0 0], []⟩ 8 (by kernel_rfl) (by kernel_rfl) (by kernel_rfl) (by kernel_rfl)) ?_
 intro W base args ds gs before hval0 hW hcnd hwt
 have hval : ∀ (j : Nat) t v, Tryz.f3.params[j]? = some t → args[j]? = some v → Value.okWide Tryz.prog W .any base t v := hval0
 have hW' := hW
 obtain ⟨p, q, hA0, hV, rfl, hfz, hnd⟩ := hW
 have hA : DataW.TrodAll enc Tryz.prog W 0 (fun _ => true) true Tryz.f3.params.toList args.toList ds p := hA0
 rw [Tryz.params3] at hA hval
 obtain ⟨v0, vs0, d0, ds0, p0, q0, hargs, rfl, rfl, h0, r0⟩ := trodAll_cons hA
 obtain ⟨v1, vs1, d1, ds1, p1, q1, rfl, rfl, rfl, h1, r1⟩ := trodAll_cons r0
 obtain ⟨v2, vs2, d2, ds2, p2, q2, rfl, rfl, rfl, h2, r2⟩ := trodAll_cons r1
 obtain ⟨rfl, rfl, rfl⟩ := trodAll_nil r2
 obtain rfl : args = #[v0, v1, v2] := by cases args; simp_all
 obtain ⟨rfl, rfl⟩ := trodVars_none hV
 have k0 := h0
 have lt0 : ∀ x ∈ p0, x.block < W.heap.size := by obtain ⟨m, hm⟩ := k0; exact DataW.trod_lt m _ _ _ hm
 obtain ⟨a0, o0, rv0⟩ := Go.UK.aGK (g := true) Go.UK.aRZ (Go.UK.aNG Tryz.underlying22 (hval 0 22 v0 rfl rfl)) (fun _ => rfl) (Go.UK.aOg hwt (i := 0) (t := 22) (d := d0) (by kernel_rfl) rfl) h0
 have k1 := h1
 have lt1 : ∀ x ∈ p1, x.block < W.heap.size := by obtain ⟨m, hm⟩ := k1; exact DataW.trod_lt m _ _ _ hm
 obtain ⟨a1, o1, rv1⟩ := Go.UK.aGK (g := false) Go.UK.aRc (Go.UK.aHe Tryz.underlying23 (hval 1 23 v1 rfl rfl)) (fun _ => rfl) (Go.UK.aOg hwt (i := 1) (t := 23) (d := d1) (by kernel_rfl) rfl) h1
 have k2 := h2
 have lt2 : ∀ x ∈ p2, x.block < W.heap.size := by obtain ⟨m, hm⟩ := k2; exact DataW.trod_lt m _ _ _ hm
 obtain ⟨a2, o2, rv2⟩ := Go.UK.aGK (g := false) Go.UK.aR9 (Go.UK.aHe Tryz.underlying24 (hval 2 24 v2 rfl rfl)) (fun _ => rfl) (Go.UK.aOg hwt (i := 2) (t := 24) (d := d2) (by kernel_rfl) rfl) h2
 clear hA0 hval0
 refine (Go.UK.aQF (vs := [v0, v1, v2]) (Go.UK.aL5 a0 o0 a1 o1 a2 o2) W (fun g h => by cases h) ⟨v0, _, rfl, rv0, ⟨v1, _, rfl, rv1, ⟨v2, _, rfl, rv2, rfl⟩⟩⟩).mono fun e W' ⟨he, bel⟩ => ?_
 subst he
 exact ⟨_, rfl, _, _, _, [], _, [], hW', trodAll_mk1 (shut_bool Tryz.underlying4 _), (trodAll_cons_mk (Below.trod laidOut (by kernel_rfl) (of_decide_eq_true (by kernel_rfl)) k0 bel lt0) (trodAll_cons_mk (Below.trod laidOut (by kernel_rfl) (of_decide_eq_true (by kernel_rfl)) k1 bel lt1) (trodAll_cons_mk (Below.trod laidOut (by kernel_rfl) (of_decide_eq_true (by kernel_rfl)) k2 bel lt2) trodAll_mk0))), rfl, bel.frame _, fun h => by cases h⟩

theorem closed_a : Go.UK.aIB Tryz.prog 3 Tryz.f3 Rows.keysOpensSpec Rows.keysOpensRow = true := by kernel_rfl
theorem closed_b : Go.UK.aH5 Tryz.prog 3 Tryz.f3 Rows.keysOpensSpec Rows.keysOpensRow = true := by kernel_rfl
theorem closed_c : Go.UK.aID Tryz.prog 3 Tryz.f3 Rows.keysOpensSpec Rows.keysOpensRow = true := by kernel_rfl
theorem closed_d : Go.UK.aIx Tryz.prog 3 Tryz.f3 Rows.keysOpensSpec Rows.keysOpensRow = true := by kernel_rfl
theorem closed_e : Go.UK.aH1 Tryz.prog 3 Tryz.f3 Rows.keysOpensSpec Rows.keysOpensRow = true := by kernel_rfl
theorem closed_f : Go.UK.aJB Tryz.prog 3 Tryz.f3 Rows.keysOpensSpec Rows.keysOpensRow = true := by kernel_rfl
theorem closed_g : Go.UK.aJG Tryz.prog 3 Tryz.f3 Rows.keysOpensSpec Rows.keysOpensRow = true := by kernel_rfl
theorem closed_h : Go.UK.aIR Tryz.prog 3 Tryz.f3 Rows.keysOpensSpec Rows.keysOpensRow = true := by kernel_rfl
theorem closed : joinedFacts Tryz.prog 3 Tryz.f3 Rows.keysOpensSpec Rows.keysOpensRow = true := Go.UK.aPb closed_a closed_b closed_c closed_d closed_e closed_f closed_g closed_h

theorem over : Rows.keysOpensRow.holds Tryz.pinned (OpenSpec.ofChange Rows.keysOpensSpec) :=
 OpenClaim.holds_of_wide 3 Tryz.f3 rfl rfl rfl rfl rfl rfl rfl ⟨rfl, rfl, rfl, rfl, rfl⟩ rfl rfl rfl rfl rfl (by kernel_rfl) Tryz.func3 closed
  (of_decide_eq_true (by kernel_rfl)) (by unfold Func.isWrapper; first | (rw [if_pos (by decide +kernel)]; kernel_rfl) | (rw [if_neg (by decide +kernel)]; exact ⟨rfl, rfl⟩))
  (fun os started H enc _ => lifted os started H enc)

theorem proved : Rows.KeysOpensSaid := over
#print axioms proved
end Go.Proofs.YtogkmakcedgneaaGreat.keysOpens

