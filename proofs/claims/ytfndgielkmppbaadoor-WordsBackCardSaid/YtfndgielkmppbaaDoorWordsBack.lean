/- WordsBack: whatever the arguments, the law's function returns true and leaves its arguments as they were. No condition. -/
import Derived.Test.YtfndgielkmppbaaDoorRows
import Derived.WalkKit
import Derived.ProofKit
import Derived.OpenShut
import Derived.ChangeOld
import Derived.Below
import Derived.Test.YtfndgielkmppbaaDoorCards
import Derived.Test.YtfndgielkmppbaaDoorTie
import Derived.LaidMore
import Derived.Lay
import Derived.SevenTiedAt
import Derived.Stop.Joined
import Derived.Test.YtfndgielkmppbaaDoorLib14
import Derived.Test.YtfndgielkmppbaaDoorPO
import Derived.Test.YtfndgielkmppbaaDoorLV

namespace Go.Proofs.YtfndgielkmppbaaDoor.wordsBack
open Go.ChangeShapes Go.WideShapes Go.ChangeAt Go.RowKit

set_option linter.unusedVariables false

theorem own : ownKnob Tryd.prog.godebug = none := by kernel_rfl
theorem laidOut : laidOutB Tryd.prog = true := by kernel_rfl

set_option maxRecDepth 100000 in
theorem lifted (os : Os) (started : os.Started) (H : Type) (enc : TypeId × Value → H) :
  ReturnsInHanded {} Tryd.checked os 3 .any (fun w args => (Rows.wordsBackSpec.pre enc Tryd.prog Tryd.f3 Rows.wordsBackRow.domain false w args ∧ laidMetH Tryd.prog Rows.wordsBackRow.laid w) ∧ sizedMet enc Tryd.prog Tryd.f3 (OpenSpec.ofChange Rows.wordsBackSpec) false w args)
   (Rows.wordsBackSpec.post enc Tryd.prog Tryd.f3 false true false false) := by
 refine returnsInHanded_of_change_and (C := Tryd.checked) (X := fun w _ => laidMetH Tryd.prog Rows.wordsBackRow.laid w) (fun _ _ _ hh h => h.of_heap hh) own started (by kernel_rfl) Tryd.func3
  (ChangeSpec.witness_shaped (enc := enc) (C := Tryd.checked) (os := os) (X := fun w _ => laidMetH Tryd.prog Rows.wordsBackRow.laid w) false (World.laidAll Tryd.prog os Rows.wordsBackRow.laid) #[.agg #[.int .i64 0, .int .i64 0, .slice none 0 0, .int .i64 0, .int .i64 0, .int .i64 0, .int .i64 0, .int .i64 0, .int .i64 0, .int .i64 0, .int .i64 0, .int .i64 0, .int .i64 0, .int .i64 0, .int .i64 0, .int .i64 0, .int .i64 0, .int .i64 0, .int .i64 0, .int .i64 0, .int .i64 0, .int .i64 0, .int .i64 0, .int .i64 0, .int .i64 0, .int .u64 0, .int .i64 0, .int .i64 0, .int .i64 0, .int .i64 0, .int .i64 0, .int .i64 0, .int .i64 0, .int .i64 0, .int .i64 0, .int .i64 0, .int .i64 0, .int .i64 0, .int .i64 0, .int .i64 0, .bool false, .int .i64 0, .int .i64 0, .int .u32 0, .int .i64 0, .int .i64 0], .string (ByteArray.mk #[])] 8 (World.laidAll_os _ _ _)
   (World.shaped_of_ZipB (by kernel_rfl) (by kernel_rfl)) (by kernel_rfl) (by kernel_rfl) (by kernel_rfl)
   (by rw [MakeChecks.laidMetH_plain _ _ _ (by kernel_rfl)]; exact laidMet_laidAll _ (by kernel_rfl) (by kernel_rfl))) ?_
 intro W base args ds gs before hval0 hW hcnd _ hL _
 have hval : ∀ (j : Nat) t v, Tryd.f3.params[j]? = some t → args[j]? = some v → Value.okWide Tryd.prog W .any base t v := hval0
 have hW' := hW
 obtain ⟨p, q, hA0, hV, rfl, hfz, hnd⟩ := hW
 have hA : DataW.TrodAll enc Tryd.prog W 0 (fun _ => true) true Tryd.f3.params.toList args.toList ds p := hA0
 rw [Tryd.params3] at hA hval
 obtain ⟨v0, vs0, d0, ds0, p0, q0, hargs, rfl, rfl, h0, r0⟩ := trodAll_cons hA
 obtain ⟨v1, vs1, d1, ds1, p1, q1, rfl, rfl, rfl, h1, r1⟩ := trodAll_cons r0
 obtain ⟨rfl, rfl, rfl⟩ := trodAll_nil r1
 obtain rfl : args = #[v0, v1] := by cases args; simp_all
 obtain ⟨rfl, rfl⟩ := trodVars_none hV
 have k0 := h0
 have lt0 : ∀ x ∈ p0, x.block < W.heap.size := by obtain ⟨m, hm⟩ := k0; exact DataW.trod_lt m _ _ _ hm
 obtain ⟨a0, o0, rv0⟩ := Go.UK.vT (g := true) Go.UK.aDk (Go.UK.yH Tryd.underlying40 (hval 0 40 v0 rfl rfl)) (fun _ => rfl) h0
 have k1 := h1
 have lt1 : ∀ x ∈ p1, x.block < W.heap.size := by obtain ⟨m, hm⟩ := k1; exact DataW.trod_lt m _ _ _ hm
 obtain ⟨a1, o1, rv1⟩ := Go.UK.vT (g := false) Go.UK.aFF (Go.UK.aCs Tryd.underlying9 (hval 1 9 v1 rfl rfl)) (fun _ => rfl) h1
 clear hA0 hval0
 refine (Go.UK.aCD (vs := [v0, v1]) (Go.UK.zS a0 o0 a1 o1) W (Go.UK.aAP (Eq.mp (congrArg (fun l => laidMetH Tryd.prog l W) (show Rows.wordsBackRow.laid.filter (fun x => x.1 == "internal/strconv.uint64pow10" || x.1 == "strconv.ErrRange" || x.1 == "strconv.ErrSyntax") = Go.UK.aFj by kernel_rfl)) (hL.filter fun x => x.1 == "internal/strconv.uint64pow10" || x.1 == "strconv.ErrRange" || x.1 == "strconv.ErrSyntax"))) ⟨v0, _, rfl, rv0, ⟨v1, _, rfl, rv1, rfl⟩⟩).mono fun e W' ⟨he, bel⟩ => ?_
 subst he
 exact ⟨_, rfl, _, _, _, [], _, [], hW', trodAll_mk1 (shut_bool Tryd.underlying4 _), (trodAll_cons_mk (Below.trod laidOut (by kernel_rfl) (of_decide_eq_true (by kernel_rfl)) k0 bel lt0) (trodAll_cons_mk (Below.trod laidOut (by kernel_rfl) (of_decide_eq_true (by kernel_rfl)) k1 bel lt1) trodAll_mk0)), rfl, bel.frame _, fun h => by cases h⟩

theorem closed_a : Go.UK.uD Tryd.prog 3 Tryd.f3 Rows.wordsBackSpec Rows.wordsBackRow = true := by kernel_rfl
theorem closed_b : Go.UK.tJ Tryd.prog 3 Tryd.f3 Rows.wordsBackSpec Rows.wordsBackRow = true := by kernel_rfl
theorem closed_c : Go.UK.sP Tryd.prog 3 Tryd.f3 Rows.wordsBackSpec Rows.wordsBackRow = true := by kernel_rfl
theorem closed_d : Go.UK.tT Tryd.prog 3 Tryd.f3 Rows.wordsBackSpec Rows.wordsBackRow = true := by kernel_rfl
theorem closed_e : Go.UK.sI Tryd.prog 3 Tryd.f3 Rows.wordsBackSpec Rows.wordsBackRow = true := by kernel_rfl
theorem closed_f : Go.UK.tF Tryd.prog 3 Tryd.f3 Rows.wordsBackSpec Rows.wordsBackRow = true := by kernel_rfl
theorem closed_g : Go.UK.uA Tryd.prog 3 Tryd.f3 Rows.wordsBackSpec Rows.wordsBackRow = true := by kernel_rfl
theorem closed_h : Go.UK.tU Tryd.prog 3 Tryd.f3 Rows.wordsBackSpec Rows.wordsBackRow = true := by kernel_rfl
theorem closed : joinedFacts Tryd.prog 3 Tryd.f3 Rows.wordsBackSpec Rows.wordsBackRow = true := Go.UK.aCM closed_a closed_b closed_c closed_d closed_e closed_f closed_g closed_h

theorem over : Rows.wordsBackRow.holds Tryd.pinned (OpenSpec.ofChange Rows.wordsBackSpec) :=
 OpenClaim.holds_of_wide 3 Tryd.f3 rfl rfl rfl rfl rfl rfl rfl ⟨rfl, rfl, rfl, rfl, rfl⟩ rfl rfl rfl rfl rfl (by kernel_rfl) Tryd.func3 closed
  (of_decide_eq_true (by kernel_rfl)) (by unfold Func.isWrapper; first | (rw [if_pos (by decide +kernel)]; kernel_rfl) | (rw [if_neg (by decide +kernel)]; exact ⟨rfl, rfl⟩))
  (fun os started H enc _ => lifted os started H enc)

theorem proved : Rows.WordsBackCardSaid :=
 Claim7.holds_tied_plain_at .later [] [.data, .data, .data, .data, .sentinel, .sentinel, .pinned] true (true, "cd0922fb36acffa2f59f882fe7f08287c59af6df286b6ada681a2c95fbd1f3ac") true over (fun _ h => by cases h) (by kernel_rfl) (fun _ h => by cases h) wordsBack_row_tie rfl ⟨rfl, rfl⟩ (by kernel_rfl) rfl
  (fun f fn hf hfn => by
   obtain rfl : f = 3 := Option.some.inj ((show Tryd.prog.funcNamed "umbra/umbralaw43.WordsBack" = some 3 by kernel_rfl).symm.trans hf) |>.symm
   obtain rfl : fn = Tryd.f3 := (Option.some.inj (Tryd.func3.symm.trans hfn)).symm
   exact ⟨by kernel_rfl, fun j t ht => by
    rw [Tryd.params3] at ht
    have hm : t ∈ [40, 9] := by simpa using Array.mem_of_getElem? ht
    have hall : ([40, 9].all fun u => !Tryd.prog.wantsStandIn u) = true := by kernel_rfl
    exact (show Tryd.prog.wantsStandIn t = false by simpa using List.all_eq_true.1 hall t hm)⟩)
  (by kernel_rfl)
#print axioms proved
end Go.Proofs.YtfndgielkmppbaaDoor.wordsBack

