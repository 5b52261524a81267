/- KeysWraps: whatever the arguments, the law's function returns true and leaves its arguments as they were. No condition. -/
import Derived.Test.YtbifjcmhomoppaaGreatRows
import Derived.WalkKit
import Derived.ProofKit
import Derived.OpenShut
import Derived.ChangeOld
import Derived.Below
import Derived.Test.YtbifjcmhomoppaaGreatLib14
import Derived.Test.YtbifjcmhomoppaaGreatWO
import Derived.Test.YtbifjcmhomoppaaGreatLK3

namespace Go.Proofs.YtbifjcmhomoppaaGreat.keysWraps
open Go.ChangeShapes Go.WideShapes Go.ChangeAt Go.RowKit

set_option linter.unusedVariables false

theorem own : ownKnob Tryz.prog.godebug = none := by kernel_rfl
theorem laidOut : laidOutB Tryz.prog = true := by kernel_rfl

set_option maxRecDepth 100000 in
theorem lifted (os : Os) (started : os.Started) (H : Type) (enc : TypeId × Value → H) :
  ReturnsInHanded {} Tryz.checked os 3 .any (Rows.keysWrapsSpec.pre6 enc Tryz.prog Tryz.f3 Rows.keysWrapsRow.domain false) (Rows.keysWrapsSpec.post enc Tryz.prog Tryz.f3 false true false false) := by
 refine returnsInHanded_of_change (C := Tryz.checked) own started (by kernel_rfl) Tryz.func3
  (ChangeSpec.witness6 (enc := enc) (C := Tryz.checked) false ⟨#[], #[.agg #[.int .u8 0, .int .u8 0, .int .u8 0, .int .u8 0, .int .u8 0, .int .u8 0, .int .u8 0, .int .u8 0, .int .u8 0, .int .u8 0, .int .u8 0, .int .u8 0, .int .u8 0, .int .u8 0, .int .u8 0, .int .u8 0, .int .u8 0, .int .u8 0, .int .u8 0, .int .u8 0, .int .u8 0, .int .u8 0, .int .u8 0, .int .u8 0, .int .u8 0, .int .u8 0, .int .u8 0, .int .u8 0, .int .u8 0, .int .u8 0, .int .u8 0, .int .u8 0, .int .i64 0, .int .i64 0, .int .u64 0, .int .i64 0, .int .u32 0, .int .u8 0, .int .u8 0, .int .u8 0, .int .u8 0, .int .u8 0, .int .u8 0, .int .u8 0, .int .u8 0, .int .u32 0, .int .u32 0, .int .i64 0, .int .i64 0], .agg #[.int .i64 0, .slice none 0 0, .slice none 0 0, .slice none 0 0, .int .i64 0, .slice none 0 0, .int .i64 0, .int .i64 0, .int .i64 0, .int .i64 0, .int .i64 0, .int .i64 0, .int .i64 0, .int .i64 0, .int .i64 0, .int .i64 0, .int .i64 0, .int .i64 0, .int .i64 0, .int .i64 0, .int .i64 0, .int .i64 0, .int .i64 0, .int .i64 0]], []⟩ 8 (by kernel_rfl) (by kernel_rfl) (by kernel_rfl) (by kernel_rfl)) ?_
 intro W base args ds gs before hval0 hW hcnd _
 have hval : ∀ (j : Nat) t v, Tryz.f3.params[j]? = some t → args[j]? = some v → Value.okWide Tryz.prog W .any base t v := hval0
 have hW' := hW
 obtain ⟨p, q, hA0, hV, rfl, hfz, hnd⟩ := hW
 have hA : DataW.TrodAll enc Tryz.prog W 0 (fun _ => true) true Tryz.f3.params.toList args.toList ds p := hA0
 rw [Tryz.params3] at hA hval
 obtain ⟨v0, vs0, d0, ds0, p0, q0, hargs, rfl, rfl, h0, r0⟩ := trodAll_cons hA
 obtain ⟨v1, vs1, d1, ds1, p1, q1, rfl, rfl, rfl, h1, r1⟩ := trodAll_cons r0
 obtain ⟨rfl, rfl, rfl⟩ := trodAll_nil r1
 obtain rfl : args = #[v0, v1] := by cases args; simp_all
 obtain ⟨rfl, rfl⟩ := trodVars_none hV
 have k0 := h0
 have lt0 : ∀ x ∈ p0, x.block < W.heap.size := by obtain ⟨m, hm⟩ := k0; exact DataW.trod_lt m _ _ _ hm
 obtain ⟨a0, o0, rv0⟩ := Go.UK.aJT (g := true) Go.UK.aQ9 (Go.UK.aGL Tryz.underlying29 (hval 0 29 v0 rfl rfl)) (fun _ => rfl) h0
 have k1 := h1
 have lt1 : ∀ x ∈ p1, x.block < W.heap.size := by obtain ⟨m, hm⟩ := k1; exact DataW.trod_lt m _ _ _ hm
 obtain ⟨a1, o1, rv1⟩ := Go.UK.aJT (g := true) Go.UK.aPU (Go.UK.aGL Tryz.underlying45 (hval 1 45 v1 rfl rfl)) (fun _ => rfl) h1
 clear hA0 hval0
 refine (Go.UK.aOz (vs := [v0, v1]) (Go.UK.aKx a0 o0 a1 o1) W (fun g h => by cases h) ⟨v0, _, rfl, rv0, ⟨v1, _, rfl, rv1, rfl⟩⟩).mono fun e W' ⟨he, bel⟩ => ?_
 subst he
 exact ⟨_, rfl, _, _, _, [], _, [], hW', trodAll_mk1 (shut_bool Tryz.underlying4 _), (trodAll_cons_mk (Below.trod laidOut (by kernel_rfl) (of_decide_eq_true (by kernel_rfl)) k0 bel lt0) (trodAll_cons_mk (Below.trod laidOut (by kernel_rfl) (of_decide_eq_true (by kernel_rfl)) k1 bel lt1) trodAll_mk0)), rfl, bel.frame _, fun h => by cases h⟩

theorem closed_a : Go.UK.aHl Tryz.prog 3 Tryz.f3 Rows.keysWrapsSpec Rows.keysWrapsRow = true := by kernel_rfl
theorem closed_b : Go.UK.aHA Tryz.prog 3 Tryz.f3 Rows.keysWrapsSpec Rows.keysWrapsRow = true := by kernel_rfl
theorem closed_c : Go.UK.aHn Tryz.prog 3 Tryz.f3 Rows.keysWrapsSpec Rows.keysWrapsRow = true := by kernel_rfl
theorem closed_d : Go.UK.aHF Tryz.prog 3 Tryz.f3 Rows.keysWrapsSpec Rows.keysWrapsRow = true := by kernel_rfl
theorem closed_e : Go.UK.aHN Tryz.prog 3 Tryz.f3 Rows.keysWrapsSpec Rows.keysWrapsRow = true := by kernel_rfl
theorem closed_f : Go.UK.aIM Tryz.prog 3 Tryz.f3 Rows.keysWrapsSpec Rows.keysWrapsRow = true := by kernel_rfl
theorem closed_g : Go.UK.aHM Tryz.prog 3 Tryz.f3 Rows.keysWrapsSpec Rows.keysWrapsRow = true := by kernel_rfl
theorem closed_h : Go.UK.aIJ Tryz.prog 3 Tryz.f3 Rows.keysWrapsSpec Rows.keysWrapsRow = true := by kernel_rfl
theorem closed : joinedFacts Tryz.prog 3 Tryz.f3 Rows.keysWrapsSpec Rows.keysWrapsRow = true := Go.UK.aOg closed_a closed_b closed_c closed_d closed_e closed_f closed_g closed_h

theorem over : Rows.keysWrapsRow.holds Tryz.pinned (OpenSpec.ofChange Rows.keysWrapsSpec) :=
 OpenClaim.holds_of_wide 3 Tryz.f3 rfl rfl rfl rfl rfl rfl rfl ⟨rfl, rfl, rfl, rfl, rfl⟩ rfl rfl rfl rfl rfl (by kernel_rfl) Tryz.func3 closed
  (of_decide_eq_true (by kernel_rfl)) (by unfold Func.isWrapper; first | (rw [if_pos (by decide +kernel)]; kernel_rfl) | (rw [if_neg (by decide +kernel)]; exact ⟨rfl, rfl⟩))
  (fun os started H enc _ => lifted os started H enc)

theorem proved : Rows.KeysWrapsSaid := over
#print axioms proved
end Go.Proofs.YtbifjcmhomoppaaGreat.keysWraps

