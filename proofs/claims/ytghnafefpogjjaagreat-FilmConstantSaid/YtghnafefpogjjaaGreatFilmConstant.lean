/- FilmConstant: whatever the arguments, the law's function returns true and leaves its arguments as they were. No condition. -/
import Derived.Test.YtghnafefpogjjaaGreatRows
import Derived.WalkKit
import Derived.ProofKit
import Derived.OpenShut
import Derived.ChangeOld
import Derived.Below
import Derived.Test.YtghnafefpogjjaaGreatLib13
import Derived.Test.YtghnafefpogjjaaGreatGO
import Derived.Test.YtghnafefpogjjaaGreatLF5

namespace Go.Proofs.YtghnafefpogjjaaGreat.filmConstant
open Go.ChangeShapes Go.WideShapes Go.ChangeAt Go.RowKit

set_option linter.unusedVariables false

theorem own : ownKnob Tryz.prog.godebug = none := by kernel_rfl
theorem laidOut : laidOutB Tryz.prog = true := by kernel_rfl

set_option maxRecDepth 100000 in
theorem lifted (os : Os) (started : os.Started) (H : Type) (enc : TypeId × Value → H) :
  ReturnsInHanded {} Tryz.checked os 5 .any (Rows.filmConstantSpec.pre6 enc Tryz.prog Tryz.f5 Rows.filmConstantRow.domain false) (Rows.filmConstantSpec.post enc Tryz.prog Tryz.f5 false true false false) := by
 refine returnsInHanded_of_change (C := Tryz.checked) own started (by kernel_rfl) Tryz.func5
  (ChangeSpec.witness6 (enc := enc) (C := Tryz.checked) false ⟨#[], #[.agg #[.slice none 0 0, .slice none 0 0, .slice none 0 0, .slice none 0 0, .slice none 0 0, .slice none 0 0, .int .u32 0, .int .u32 0, .int .u32 0], .agg #[.int .i64 0, .int .i64 0, .int .i64 0, .int .i64 0, .int .i64 0, .int .u64 0, .int .i64 0, .int .i64 0, .int .i64 0, .int .i64 0, .int .i64 0, .int .i64 0, .int .i64 0, .int .i64 0, .int .i64 0, .int .i64 0, .int .i64 0, .int .i64 0, .int .i64 0, .int .i64 0, .bool false]], []⟩ 8 (by kernel_rfl) (by kernel_rfl) (by kernel_rfl) (by kernel_rfl)) ?_
 intro W base args ds gs before hval0 hW hcnd _
 have hval : ∀ (j : Nat) t v, Tryz.f5.params[j]? = some t → args[j]? = some v → Value.okWide Tryz.prog W .any base t v := hval0
 have hW' := hW
 obtain ⟨p, q, hA0, hV, rfl, hfz, hnd⟩ := hW
 have hA : DataW.TrodAll enc Tryz.prog W 0 (fun _ => true) true Tryz.f5.params.toList args.toList ds p := hA0
 rw [Tryz.params5] at hA hval
 obtain ⟨v0, vs0, d0, ds0, p0, q0, hargs, rfl, rfl, h0, r0⟩ := trodAll_cons hA
 obtain ⟨v1, vs1, d1, ds1, p1, q1, rfl, rfl, rfl, h1, r1⟩ := trodAll_cons r0
 obtain ⟨rfl, rfl, rfl⟩ := trodAll_nil r1
 obtain rfl : args = #[v0, v1] := by cases args; simp_all
 obtain ⟨rfl, rfl⟩ := trodVars_none hV
 have k0 := h0
 have lt0 : ∀ x ∈ p0, x.block < W.heap.size := by obtain ⟨m, hm⟩ := k0; exact DataW.trod_lt m _ _ _ hm
 obtain ⟨a0, o0, rv0⟩ := Go.UK.aIx (g := true) Go.UK.aQw (Go.UK.aFx Tryz.underlying30 (hval 0 30 v0 rfl rfl)) (fun _ => rfl) h0
 have k1 := h1
 have lt1 : ∀ x ∈ p1, x.block < W.heap.size := by obtain ⟨m, hm⟩ := k1; exact DataW.trod_lt m _ _ _ hm
 obtain ⟨a1, o1, rv1⟩ := Go.UK.aIx (g := true) Go.UK.aPY (Go.UK.aFx Tryz.underlying37 (hval 1 37 v1 rfl rfl)) (fun _ => rfl) h1
 clear hA0 hval0
 refine (Go.UK.aOA (vs := [v0, v1]) (Go.UK.aHY a0 o0 a1 o1) W (fun g h => by cases h) ⟨v0, _, rfl, rv0, ⟨v1, _, rfl, rv1, rfl⟩⟩).mono fun e W' ⟨he, bel⟩ => ?_
 subst he
 exact ⟨_, rfl, _, _, _, [], _, [], hW', trodAll_mk1 (shut_bool Tryz.underlying4 _), (trodAll_cons_mk (Below.trod laidOut (by kernel_rfl) (of_decide_eq_true (by kernel_rfl)) k0 bel lt0) (trodAll_cons_mk (Below.trod laidOut (by kernel_rfl) (of_decide_eq_true (by kernel_rfl)) k1 bel lt1) trodAll_mk0)), rfl, bel.frame _, fun h => by cases h⟩

theorem closed_a : Go.UK.aGw Tryz.prog 5 Tryz.f5 Rows.filmConstantSpec Rows.filmConstantRow = true := by kernel_rfl
theorem closed_b : Go.UK.aHt Tryz.prog 5 Tryz.f5 Rows.filmConstantSpec Rows.filmConstantRow = true := by kernel_rfl
theorem closed_c : Go.UK.aG6 Tryz.prog 5 Tryz.f5 Rows.filmConstantSpec Rows.filmConstantRow = true := by kernel_rfl
theorem closed_d : Go.UK.aHo Tryz.prog 5 Tryz.f5 Rows.filmConstantSpec Rows.filmConstantRow = true := by kernel_rfl
theorem closed_e : Go.UK.aHb Tryz.prog 5 Tryz.f5 Rows.filmConstantSpec Rows.filmConstantRow = true := by kernel_rfl
theorem closed_f : Go.UK.aHV Tryz.prog 5 Tryz.f5 Rows.filmConstantSpec Rows.filmConstantRow = true := by kernel_rfl
theorem closed_g : Go.UK.aH9 Tryz.prog 5 Tryz.f5 Rows.filmConstantSpec Rows.filmConstantRow = true := by kernel_rfl
theorem closed_h : Go.UK.aH1 Tryz.prog 5 Tryz.f5 Rows.filmConstantSpec Rows.filmConstantRow = true := by kernel_rfl
theorem closed : joinedFacts Tryz.prog 5 Tryz.f5 Rows.filmConstantSpec Rows.filmConstantRow = true := Go.UK.aOQ closed_a closed_b closed_c closed_d closed_e closed_f closed_g closed_h

theorem over : Rows.filmConstantRow.holds Tryz.pinned (OpenSpec.ofChange Rows.filmConstantSpec) :=
 OpenClaim.holds_of_wide 5 Tryz.f5 rfl rfl rfl rfl rfl rfl rfl ⟨rfl, rfl, rfl, rfl, rfl⟩ rfl rfl rfl rfl rfl (by kernel_rfl) Tryz.func5 closed
  (of_decide_eq_true (by kernel_rfl)) (by unfold Func.isWrapper; first | (rw [if_pos (by decide +kernel)]; kernel_rfl) | (rw [if_neg (by decide +kernel)]; exact ⟨rfl, rfl⟩))
  (fun os started H enc _ => lifted os started H enc)

theorem proved : Rows.FilmConstantSaid := over
#print axioms proved
end Go.Proofs.YtghnafefpogjjaaGreat.filmConstant

