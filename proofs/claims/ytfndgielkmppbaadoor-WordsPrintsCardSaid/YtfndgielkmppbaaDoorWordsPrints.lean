/- WordsPrints: whatever the arguments, the law's function returns true and leaves its arguments as they were. No condition. -/
import Derived.Test.YtfndgielkmppbaaDoorRows
import Derived.WalkKit
import Derived.ProofKit
import Derived.OpenShut
import Derived.ChangeOld
import Derived.Below
import Derived.Test.YtfndgielkmppbaaDoorCards
import Derived.Test.YtfndgielkmppbaaDoorTie
import Derived.LaidMore
import Derived.Lay
import Derived.SevenTiedAt
import Derived.Stop.Joined
import Derived.Test.YtfndgielkmppbaaDoorLib14
import Derived.Test.YtfndgielkmppbaaDoorPO
import Derived.Test.YtfndgielkmppbaaDoorLW2

namespace Go.Proofs.YtfndgielkmppbaaDoor.wordsPrints
open Go.ChangeShapes Go.WideShapes Go.ChangeAt Go.RowKit

set_option linter.unusedVariables false

theorem own : ownKnob Tryd.prog.godebug = none := by kernel_rfl
theorem laidOut : laidOutB Tryd.prog = true := by kernel_rfl

set_option maxRecDepth 100000 in
theorem lifted (os : Os) (started : os.Started) (H : Type) (enc : TypeId × Value → H) :
  ReturnsInHanded {} Tryd.checked os 4 .any (fun w args => (Rows.wordsPrintsSpec.pre enc Tryd.prog Tryd.f4 Rows.wordsPrintsRow.domain false w args ∧ laidMetH Tryd.prog Rows.wordsPrintsRow.laid w) ∧ sizedMet enc Tryd.prog Tryd.f4 (OpenSpec.ofChange Rows.wordsPrintsSpec) false w args)
   (Rows.wordsPrintsSpec.post enc Tryd.prog Tryd.f4 false true false false) := by
 refine returnsInHanded_of_change_and (C := Tryd.checked) (X := fun w _ => laidMetH Tryd.prog Rows.wordsPrintsRow.laid w) (fun _ _ _ hh h => h.of_heap hh) own started (by kernel_rfl) Tryd.func4
  (ChangeSpec.witness_shaped (enc := enc) (C := Tryd.checked) (os := os) (X := fun w _ => laidMetH Tryd.prog Rows.wordsPrintsRow.laid w) false (World.laidAll Tryd.prog os Rows.wordsPrintsRow.laid) #[.agg #[.int .i64 0, .int .i64 0, .slice none 0 0, .int .i64 0, .int .i64 0, .int .i64 0, .int .i64 0, .int .i64 0, .int .i64 0, .int .i64 0, .int .i64 0, .int .i64 0, .int .i64 0, .int .i64 0, .int .i64 0, .int .i64 0, .int .i64 0, .int .i64 0, .int .i64 0, .int .i64 0, .int .i64 0, .int .i64 0, .int .i64 0, .int .i64 0, .int .i64 0, .int .u64 0, .int .i64 0, .int .i64 0, .int .i64 0, .int .i64 0, .int .i64 0, .int .i64 0, .int .i64 0, .int .i64 0, .int .i64 0, .int .i64 0, .int .i64 0, .int .i64 0, .int .i64 0, .int .i64 0, .bool false, .int .i64 0, .int .i64 0, .int .u32 0, .int .i64 0, .int .i64 0], .agg #[.int .i64 0, .slice none 0 0, .slice none 0 0]] 8 (World.laidAll_os _ _ _)
   (World.shaped_of_ZipB (by kernel_rfl) (by kernel_rfl)) (by kernel_rfl) (by kernel_rfl) (by kernel_rfl)
   (by rw [MakeChecks.laidMetH_plain _ _ _ (by kernel_rfl)]; exact laidMet_laidAll _ (by kernel_rfl) (by kernel_rfl))) ?_
 intro W base args ds gs before hval0 hW hcnd _ hL _
 have hval : ∀ (j : Nat) t v, Tryd.f4.params[j]? = some t → args[j]? = some v → Value.okWide Tryd.prog W .any base t v := hval0
 have hW' := hW
 obtain ⟨p, q, hA0, hV, rfl, hfz, hnd⟩ := hW
 have hA : DataW.TrodAll enc Tryd.prog W 0 (fun _ => true) true Tryd.f4.params.toList args.toList ds p := hA0
 rw [Tryd.params4] at hA hval
 obtain ⟨v0, vs0, d0, ds0, p0, q0, hargs, rfl, rfl, h0, r0⟩ := trodAll_cons hA
 obtain ⟨v1, vs1, d1, ds1, p1, q1, rfl, rfl, rfl, h1, r1⟩ := trodAll_cons r0
 obtain ⟨rfl, rfl, rfl⟩ := trodAll_nil r1
 obtain rfl : args = #[v0, v1] := by cases args; simp_all
 obtain ⟨rfl, rfl⟩ := trodVars_none hV
 have k0 := h0
 have lt0 : ∀ x ∈ p0, x.block < W.heap.size := by obtain ⟨m, hm⟩ := k0; exact DataW.trod_lt m _ _ _ hm
 obtain ⟨a0, o0, rv0⟩ := Go.UK.wT (g := true) Go.UK.aDf (Go.UK.sE Tryd.underlying40 (hval 0 40 v0 rfl rfl)) (fun _ => rfl) h0
 have k1 := h1
 have lt1 : ∀ x ∈ p1, x.block < W.heap.size := by obtain ⟨m, hm⟩ := k1; exact DataW.trod_lt m _ _ _ hm
 obtain ⟨a1, o1, rv1⟩ := Go.UK.wT (g := true) Go.UK.aDg (Go.UK.sE Tryd.underlying54 (hval 1 54 v1 rfl rfl)) (fun _ => rfl) h1
 clear hA0 hval0
 refine (Go.UK.aB3 (vs := [v0, v1]) (Go.UK.vK a0 o0 a1 o1) W (Eq.mp (congrArg (fun l => laidMetH Tryd.prog l W) (show Rows.wordsPrintsRow.laid.filter (fun x => x.1 == "internal/strconv.uint64pow10") = Go.UK.aEw by kernel_rfl)) (hL.filter fun x => x.1 == "internal/strconv.uint64pow10") |> Go.UK.aAr) ⟨v0, _, rfl, rv0, ⟨v1, _, rfl, rv1, rfl⟩⟩).mono fun e W' ⟨he, bel⟩ => ?_
 subst he
 exact ⟨_, rfl, _, _, _, [], _, [], hW', trodAll_mk1 (shut_bool Tryd.underlying4 _), (trodAll_cons_mk (Below.trod laidOut (by kernel_rfl) (of_decide_eq_true (by kernel_rfl)) k0 bel lt0) (trodAll_cons_mk (Below.trod laidOut (by kernel_rfl) (of_decide_eq_true (by kernel_rfl)) k1 bel lt1) trodAll_mk0)), rfl, bel.frame _, fun h => by cases h⟩

theorem closed_a : Go.UK.uD Tryd.prog 4 Tryd.f4 Rows.wordsPrintsSpec Rows.wordsPrintsRow = true := by kernel_rfl
theorem closed_b : Go.UK.uX Tryd.prog 4 Tryd.f4 Rows.wordsPrintsSpec Rows.wordsPrintsRow = true := by kernel_rfl
theorem closed_c : Go.UK.vC Tryd.prog 4 Tryd.f4 Rows.wordsPrintsSpec Rows.wordsPrintsRow = true := by kernel_rfl
theorem closed_d : Go.UK.tY Tryd.prog 4 Tryd.f4 Rows.wordsPrintsSpec Rows.wordsPrintsRow = true := by kernel_rfl
theorem closed_e : Go.UK.tG Tryd.prog 4 Tryd.f4 Rows.wordsPrintsSpec Rows.wordsPrintsRow = true := by kernel_rfl
theorem closed_f : Go.UK.tF Tryd.prog 4 Tryd.f4 Rows.wordsPrintsSpec Rows.wordsPrintsRow = true := by kernel_rfl
theorem closed_g : Go.UK.uC Tryd.prog 4 Tryd.f4 Rows.wordsPrintsSpec Rows.wordsPrintsRow = true := by kernel_rfl
theorem closed_h : Go.UK.uZ Tryd.prog 4 Tryd.f4 Rows.wordsPrintsSpec Rows.wordsPrintsRow = true := by kernel_rfl
theorem closed : joinedFacts Tryd.prog 4 Tryd.f4 Rows.wordsPrintsSpec Rows.wordsPrintsRow = true := Go.UK.aB1 closed_a closed_b closed_c closed_d closed_e closed_f closed_g closed_h

theorem over : Rows.wordsPrintsRow.holds Tryd.pinned (OpenSpec.ofChange Rows.wordsPrintsSpec) :=
 OpenClaim.holds_of_wide 4 Tryd.f4 rfl rfl rfl rfl rfl rfl rfl ⟨rfl, rfl, rfl, rfl, rfl⟩ rfl rfl rfl rfl rfl (by kernel_rfl) Tryd.func4 closed
  (of_decide_eq_true (by kernel_rfl)) (by unfold Func.isWrapper; first | (rw [if_pos (by decide +kernel)]; kernel_rfl) | (rw [if_neg (by decide +kernel)]; exact ⟨rfl, rfl⟩))
  (fun os started H enc _ => lifted os started H enc)

theorem proved : Rows.WordsPrintsCardSaid :=
 Claim7.holds_tied_plain_at .later [] [.data, .data, .data, .data, .sentinel, .sentinel, .pinned] true (true, "cd0922fb36acffa2f59f882fe7f08287c59af6df286b6ada681a2c95fbd1f3ac") true over (fun _ h => by cases h) (by kernel_rfl) (fun _ h => by cases h) wordsPrints_row_tie rfl ⟨rfl, rfl⟩ (by kernel_rfl) rfl
  (fun f fn hf hfn => by
   obtain rfl : f = 4 := Option.some.inj ((show Tryd.prog.funcNamed "umbra/umbralaw43.WordsPrints" = some 4 by kernel_rfl).symm.trans hf) |>.symm
   obtain rfl : fn = Tryd.f4 := (Option.some.inj (Tryd.func4.symm.trans hfn)).symm
   exact ⟨by kernel_rfl, fun j t ht => by
    rw [Tryd.params4] at ht
    have hm : t ∈ [40, 54] := by simpa using Array.mem_of_getElem? ht
    have hall : ([40, 54].all fun u => !Tryd.prog.wantsStandIn u) = true := by kernel_rfl
    exact (show Tryd.prog.wantsStandIn t = false by simpa using List.all_eq_true.1 hall t hm)⟩)
  (by kernel_rfl)
#print axioms proved
end Go.Proofs.YtfndgielkmppbaaDoor.wordsPrints

