/- ScriptEncodes: whatever the arguments, the law's function returns true and leaves its arguments as they were. No condition. -/
import Derived.Test.YtidamaopieegkaaGreatDoorRows
import Derived.WalkKit
import Derived.ProofKit
import Derived.OpenShut
import Derived.ChangeOld
import Derived.Below
import Derived.Test.YtidamaopieegkaaGreatDoorCards
import Derived.Test.YtidamaopieegkaaGreatDoorTie
import Derived.LaidMore
import Derived.Lay
import Derived.SevenTiedAt
import Derived.Stop.Joined
import Derived.Test.YtidamaopieegkaaGreatDoorLib15
import Derived.Test.YtidamaopieegkaaGreatDoorSE
import Derived.Test.YtidamaopieegkaaGreatDoorSO
import Derived.Test.YtidamaopieegkaaGreatDoorLS7

namespace Go.Proofs.YtidamaopieegkaaGreatDoor.scriptEncodes
open Go.ChangeShapes Go.WideShapes Go.ChangeAt Go.RowKit

set_option linter.unusedVariables false

theorem own : ownKnob Tryz.prog.godebug = none := by kernel_rfl

set_option maxRecDepth 100000 in
theorem lifted (os : Os) (started : os.Started) (H : Type) (enc : TypeId × Value → H) :
  ReturnsInHanded {} Tryz.checked os 3 .any (fun w args => (Rows.scriptEncodesSpec.pre enc Tryz.prog Tryz.f3 Rows.scriptEncodesRow.domain false w args ∧ laidMetH Tryz.prog Rows.scriptEncodesRow.laid w) ∧ sizedMet enc Tryz.prog Tryz.f3 (OpenSpec.ofChange Rows.scriptEncodesSpec) false w args)
   (Rows.scriptEncodesSpec.post enc Tryz.prog Tryz.f3 false true false false) := by
 refine returnsInHanded_of_change_and (C := Tryz.checked) (X := fun w _ => laidMetH Tryz.prog Rows.scriptEncodesRow.laid w) (fun _ _ _ hh h => h.of_heap hh) own started (by kernel_rfl) Tryz.func3
  (ChangeSpec.witness_shaped (enc := enc) (C := Tryz.checked) (os := os) (X := fun w _ => laidMetH Tryz.prog Rows.scriptEncodesRow.laid w) false (World.laidAll Tryz.prog os Rows.scriptEncodesRow.laid) #[.slice none 0 0, .agg #[.int .i64 0, .slice none 0 0, .slice none 0 0]] 8 (World.laidAll_os _ _ _)
   (World.shaped_of_ZipB (by kernel_rfl) (by kernel_rfl)) (by kernel_rfl) (by kernel_rfl) (by kernel_rfl)
   (by rw [MakeChecks.laidMetH_plain _ _ _ (by kernel_rfl)]; exact laidMet_laidAll _ (by kernel_rfl) (by kernel_rfl))) ?_
 intro W base args ds gs before hval0 hW hcnd hwt hL _
 have hval : ∀ (j : Nat) t v, Tryz.f3.params[j]? = some t → args[j]? = some v → Value.okWide Tryz.prog W .any base t v := hval0
 have hW' := hW
 obtain ⟨p, q, hA0, hV, rfl, hfz, hnd⟩ := hW
 have hA : DataW.TrodAll enc Tryz.prog W 0 (fun _ => true) true Tryz.f3.params.toList args.toList ds p := hA0
 rw [Tryz.params3] at hA hval
 obtain ⟨v0, vs0, d0, ds0, p0, q0, hargs, rfl, rfl, h0, r0⟩ := trodAll_cons hA
 obtain ⟨v1, vs1, d1, ds1, p1, q1, rfl, rfl, rfl, h1, r1⟩ := trodAll_cons r0
 obtain ⟨rfl, rfl, rfl⟩ := trodAll_nil r1
 obtain rfl : args = #[v0, v1] := by cases args; simp_all
 obtain ⟨rfl, rfl⟩ := trodVars_none hV
 have k0 := h0
 have lt0 : ∀ x ∈ p0, x.block < W.heap.size := by obtain ⟨m, hm⟩ := k0; exact DataW.trod_lt m _ _ _ hm
 obtain ⟨a0, o0, rv0⟩ := Go.UK.aAT (g := false) Go.UK.aE4 (Go.UK.aCK Tryz.underlying22 (hval 0 22 v0 rfl rfl)) (fun _ => rfl) (Go.UK.aET hwt (i := 0) (t := 22) (d := d0) (by kernel_rfl) rfl) h0
 have k1 := h1
 have lt1 : ∀ x ∈ p1, x.block < W.heap.size := by obtain ⟨m, hm⟩ := k1; exact DataW.trod_lt m _ _ _ hm
 obtain ⟨a1, o1, rv1⟩ := Go.UK.aAT (g := true) Go.UK.aFL (Go.UK.aBE Tryz.underlying27 (hval 1 27 v1 rfl rfl)) (fun _ => rfl) (Go.UK.aET hwt (i := 1) (t := 27) (d := d1) (by kernel_rfl) rfl) h1
 clear hA0 hval0
 refine (Go.UK.aDQ (vs := [v0, v1]) (Go.UK.wX a0 o0 a1 o1) W (fun g h => by cases h) ⟨v0, _, rfl, rv0, ⟨v1, _, rfl, rv1, rfl⟩⟩).mono fun e W' ⟨he, bel⟩ => ?_
 subst he
 exact ⟨_, rfl, _, _, _, [], _, [], hW', trodAll_mk1 (shut_bool Tryz.underlying4 _), (trodAll_cons_mk (Below.trod Go.UK.aDA (by kernel_rfl) (of_decide_eq_true (by kernel_rfl)) k0 bel lt0) (trodAll_cons_mk (Below.trod Go.UK.aDA (by kernel_rfl) (of_decide_eq_true (by kernel_rfl)) k1 bel lt1) trodAll_mk0)), rfl, bel.frame _, fun h => by cases h⟩

theorem closed : joinedFacts Tryz.prog 3 Tryz.f3 Rows.scriptEncodesSpec Rows.scriptEncodesRow = true := Go.UK.aEC Go.UK.aFF Go.UK.aEa Go.UK.aFD Go.UK.aFb Go.UK.aEM Go.UK.aFM Go.UK.aFh Go.UK.aE0

theorem over : Rows.scriptEncodesRow.holds Tryz.pinned (OpenSpec.ofChange Rows.scriptEncodesSpec) :=
 OpenClaim.holds_of_wide 3 Tryz.f3 rfl rfl rfl rfl rfl rfl rfl ⟨rfl, rfl, rfl, rfl, rfl⟩ rfl rfl rfl rfl rfl (by kernel_rfl) Tryz.func3 closed
  (of_decide_eq_true (by kernel_rfl)) (by unfold Func.isWrapper; first | (rw [if_pos (by decide +kernel)]; kernel_rfl) | (rw [if_neg (by decide +kernel)]; exact ⟨rfl, rfl⟩))
  (fun os started H enc _ => lifted os started H enc)

theorem cardGoes : false = Rows.scriptEncodesRow.goesBy Tryz.prog := Go.UK.aDz Go.UK.aDm rfl
theorem proved : Rows.ScriptEncodesCardSaid :=
 Claim7.holds_tied_plain_at .later [] [.data, .data, .data] true (true, "6a5ad3c728b07bf09c52dd46d3eb4e7aa815595bb0e7e4bfef6eeeeb8c341bc5") true over (fun _ h => by cases h) (by kernel_rfl) (fun _ h => by cases h) scriptEncodes_row_tie rfl ⟨rfl, rfl⟩ (by kernel_rfl) rfl
  (fun f fn hf hfn => by
   obtain rfl : f = 3 := Option.some.inj (Go.UK.aDS.symm.trans hf) |>.symm
   obtain rfl : fn = Tryz.f3 := (Option.some.inj (Tryz.func3.symm.trans hfn)).symm
   exact ⟨Go.UK.aD8, fun j t ht => by
    rw [Tryz.params3] at ht
    have hm : t ∈ [22, 27] := by simpa using Array.mem_of_getElem? ht
    have hall : ([22, 27].all fun u => !Tryz.prog.wantsStandIn u) = true := by kernel_rfl
    exact (show Tryz.prog.wantsStandIn t = false by simpa using List.all_eq_true.1 hall t hm)⟩)
  cardGoes
#print axioms proved
end Go.Proofs.YtidamaopieegkaaGreatDoor.scriptEncodes

