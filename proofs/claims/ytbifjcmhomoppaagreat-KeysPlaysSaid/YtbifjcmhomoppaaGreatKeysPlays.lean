/- KeysPlays: whatever the arguments, the law's function returns true and leaves its arguments as they were. No condition. -/
import Derived.Test.YtbifjcmhomoppaaGreatRows
import Derived.WalkKit
import Derived.ProofKit
import Derived.OpenShut
import Derived.ChangeOld
import Derived.Below
import Derived.Test.YtbifjcmhomoppaaGreatLib13
import Derived.Test.YtbifjcmhomoppaaGreatPO
import Derived.Test.YtbifjcmhomoppaaGreatLK6

namespace Go.Proofs.YtbifjcmhomoppaaGreat.keysPlays
open Go.ChangeShapes Go.WideShapes Go.ChangeAt Go.RowKit

set_option linter.unusedVariables false

theorem own : ownKnob Tryz.prog.godebug = none := by kernel_rfl
theorem laidOut : laidOutB Tryz.prog = true := by kernel_rfl

set_option maxRecDepth 100000 in
theorem lifted (os : Os) (started : os.Started) (H : Type) (enc : TypeId × Value → H) :
  ReturnsInHanded {} Tryz.checked os 6 .any (Rows.keysPlaysSpec.pre6 enc Tryz.prog Tryz.f6 Rows.keysPlaysRow.domain false) (Rows.keysPlaysSpec.post enc Tryz.prog Tryz.f6 false true false false) := by
 refine returnsInHanded_of_change (C := Tryz.checked) own started (by kernel_rfl) Tryz.func6
  (ChangeSpec.witness6 (enc := enc) (C := Tryz.checked) false ⟨#[], #[.slice none 0 0], []⟩ 8 (by kernel_rfl) (by kernel_rfl) (by kernel_rfl) (by kernel_rfl)) ?_
 intro W base args ds gs before hval0 hW hcnd _
 have hval : ∀ (j : Nat) t v, Tryz.f6.params[j]? = some t → args[j]? = some v → Value.okWide Tryz.prog W .any base t v := hval0
 have hW' := hW
 obtain ⟨p, q, hA0, hV, rfl, hfz, hnd⟩ := hW
 have hA : DataW.TrodAll enc Tryz.prog W 0 (fun _ => true) true Tryz.f6.params.toList args.toList ds p := hA0
 rw [Tryz.params6] at hA hval
 obtain ⟨v0, vs0, d0, ds0, p0, q0, hargs, rfl, rfl, h0, r0⟩ := trodAll_cons hA
 obtain ⟨rfl, rfl, rfl⟩ := trodAll_nil r0
 obtain rfl : args = #[v0] := by cases args; simp_all
 obtain ⟨rfl, rfl⟩ := trodVars_none hV
 have k0 := h0
 have lt0 : ∀ x ∈ p0, x.block < W.heap.size := by obtain ⟨m, hm⟩ := k0; exact DataW.trod_lt m _ _ _ hm
 obtain ⟨a0, o0, rv0⟩ := Go.UK.opens_val (g := false) Go.UK.opens_67 (Go.UK.form_slice Tryz.underlying67 (hval 0 67 v0 rfl rfl)) (fun _ => rfl) h0
 clear hA0 hval0
 refine (Go.UK.law_below (vs := [v0]) (Go.UK.keysPlaysFn a0 o0) W (fun g h => by cases h) ⟨v0, _, rfl, rv0, rfl⟩).mono fun e W' ⟨he, bel⟩ => ?_
 subst he
 exact ⟨_, rfl, _, _, _, [], _, [], hW', trodAll_mk1 (shut_bool Tryz.underlying4 _), (trodAll_cons_mk (Below.trod laidOut (by kernel_rfl) (of_decide_eq_true (by kernel_rfl)) k0 bel lt0) trodAll_mk0), rfl, bel.frame _, fun h => by cases h⟩

theorem closed_a : Go.UK.joined_a Tryz.prog 6 Tryz.f6 Rows.keysPlaysSpec Rows.keysPlaysRow = true := by kernel_rfl
theorem closed_b : Go.UK.joined_b Tryz.prog 6 Tryz.f6 Rows.keysPlaysSpec Rows.keysPlaysRow = true := by kernel_rfl
theorem closed_c : Go.UK.joined_c Tryz.prog 6 Tryz.f6 Rows.keysPlaysSpec Rows.keysPlaysRow = true := by kernel_rfl
theorem closed_d : Go.UK.joined_d Tryz.prog 6 Tryz.f6 Rows.keysPlaysSpec Rows.keysPlaysRow = true := by kernel_rfl
theorem closed_e : Go.UK.joined_e Tryz.prog 6 Tryz.f6 Rows.keysPlaysSpec Rows.keysPlaysRow = true := by kernel_rfl
theorem closed_f : Go.UK.joined_f Tryz.prog 6 Tryz.f6 Rows.keysPlaysSpec Rows.keysPlaysRow = true := by kernel_rfl
theorem closed_g : Go.UK.joined_g Tryz.prog 6 Tryz.f6 Rows.keysPlaysSpec Rows.keysPlaysRow = true := by kernel_rfl
theorem closed_h : Go.UK.joined_h Tryz.prog 6 Tryz.f6 Rows.keysPlaysSpec Rows.keysPlaysRow = true := by kernel_rfl
theorem closed : joinedFacts Tryz.prog 6 Tryz.f6 Rows.keysPlaysSpec Rows.keysPlaysRow = true := Go.UK.joined_of closed_a closed_b closed_c closed_d closed_e closed_f closed_g closed_h

theorem over : Rows.keysPlaysRow.holds Tryz.pinned (OpenSpec.ofChange Rows.keysPlaysSpec) :=
 OpenClaim.holds_of_wide 6 Tryz.f6 rfl rfl rfl rfl rfl rfl rfl ⟨rfl, rfl, rfl, rfl, rfl⟩ rfl rfl rfl rfl rfl (by kernel_rfl) Tryz.func6 closed
  (of_decide_eq_true (by kernel_rfl)) (by unfold Func.isWrapper; first | (rw [if_pos (by decide +kernel)]; kernel_rfl) | (rw [if_neg (by decide +kernel)]; exact ⟨rfl, rfl⟩))
  (fun os started H enc _ => lifted os started H enc)

theorem proved : Rows.KeysPlaysSaid := over
#print axioms proved
end Go.Proofs.YtbifjcmhomoppaaGreat.keysPlays

