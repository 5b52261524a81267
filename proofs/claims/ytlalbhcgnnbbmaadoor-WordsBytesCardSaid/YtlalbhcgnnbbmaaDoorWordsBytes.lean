/- WordsBytes: whatever the arguments, the law's function returns true and leaves its arguments as they were. No condition. -/
import Derived.Test.YtlalbhcgnnbbmaaDoorRows
import Derived.WalkKit
import Derived.ProofKit
import Derived.OpenShut
import Derived.ChangeOld
import Derived.Below
import Derived.Test.YtlalbhcgnnbbmaaDoorCards
import Derived.Test.YtlalbhcgnnbbmaaDoorTie
import Derived.LaidMore
import Derived.Lay
import Derived.SevenTiedAt
import Derived.Stop.Joined
import Derived.Test.YtlalbhcgnnbbmaaDoorLib11
import Derived.Test.YtlalbhcgnnbbmaaDoorWO
import Derived.Test.YtlalbhcgnnbbmaaDoorXB

namespace Go.Proofs.YtlalbhcgnnbbmaaDoor.wordsBytes
open Go.ChangeShapes Go.WideShapes Go.ChangeAt Go.RowKit

set_option linter.unusedVariables false

theorem own : ownKnob Tryd.prog.godebug = none := by kernel_rfl
theorem laidOut : laidOutB Tryd.prog = true := by kernel_rfl

set_option maxRecDepth 100000 in
theorem lifted (os : Os) (started : os.Started) (H : Type) (enc : TypeId × Value → H) :
    ReturnsInHanded {} Tryd.checked os 5 .any (fun w args => (Rows.wordsBytesSpec.pre enc Tryd.prog Tryd.f5 Rows.wordsBytesRow.domain false w args ∧ laidMetH Tryd.prog Rows.wordsBytesRow.laid w) ∧ sizedMet enc Tryd.prog Tryd.f5 (OpenSpec.ofChange Rows.wordsBytesSpec) false w args)
      (Rows.wordsBytesSpec.post enc Tryd.prog Tryd.f5 false true false false) := by
  refine returnsInHanded_of_change_and (C := Tryd.checked) (X := fun w _ => laidMetH Tryd.prog Rows.wordsBytesRow.laid w) (fun _ _ _ hh h => h.of_heap hh) own started (by kernel_rfl) Tryd.func5
    (ChangeSpec.witness_shaped (enc := enc) (C := Tryd.checked) (os := os) (X := fun w _ => laidMetH Tryd.prog Rows.wordsBytesRow.laid w) false (World.laidAll Tryd.prog os Rows.wordsBytesRow.laid) #[.slice none 0 0, .string (ByteArray.mk #[]), .string (ByteArray.mk #[])] 8 (World.laidAll_os _ _ _)
      (World.shaped_of_ZipB (by kernel_rfl) (by kernel_rfl)) (by kernel_rfl) (by kernel_rfl) (by kernel_rfl)
      (by rw [MakeChecks.laidMetH_plain _ _ _ (by kernel_rfl)]; exact laidMet_laidAll _ (by kernel_rfl) (by kernel_rfl))) ?_
  intro W base args ds gs before hval0 hW hcnd _ hL _
  have hval : ∀ (j : Nat) t v, Tryd.f5.params[j]? = some t → args[j]? = some v → Value.okWide Tryd.prog W .any base t v := hval0
  have hW' := hW
  obtain ⟨p, q, hA0, hV, rfl, hfz, hnd⟩ := hW
  have hA : DataW.TrodAll enc Tryd.prog W 0 (fun _ => true) true Tryd.f5.params.toList args.toList ds p := hA0
  rw [Tryd.params5] at hA hval
  obtain ⟨v0, vs0, d0, ds0, p0, q0, hargs, rfl, rfl, h0, r0⟩ := trodAll_cons hA
  obtain ⟨v1, vs1, d1, ds1, p1, q1, rfl, rfl, rfl, h1, r1⟩ := trodAll_cons r0
  obtain ⟨v2, vs2, d2, ds2, p2, q2, rfl, rfl, rfl, h2, r2⟩ := trodAll_cons r1
  obtain ⟨rfl, rfl, rfl⟩ := trodAll_nil r2
  obtain rfl : args = #[v0, v1, v2] := by cases args; simp_all
  obtain ⟨rfl, rfl⟩ := trodVars_none hV
  have k0 := h0
  have lt0 : ∀ x ∈ p0, x.block < W.heap.size := by obtain ⟨m, hm⟩ := k0; exact DataW.trod_lt m _ _ _ hm
  obtain ⟨a0, o0, rv0⟩ := Go.UK.opens_val (g := false) Go.UK.opens_24 (Go.UK.form_slice Tryd.underlying24 (hval 0 24 v0 rfl rfl)) (fun _ => rfl) h0
  have k1 := h1
  have lt1 : ∀ x ∈ p1, x.block < W.heap.size := by obtain ⟨m, hm⟩ := k1; exact DataW.trod_lt m _ _ _ hm
  obtain ⟨a1, o1, rv1⟩ := Go.UK.opens_val (g := false) Go.UK.opens_9 (Go.UK.form_str Tryd.underlying9 (hval 1 9 v1 rfl rfl)) (fun _ => rfl) h1
  have k2 := h2
  have lt2 : ∀ x ∈ p2, x.block < W.heap.size := by obtain ⟨m, hm⟩ := k2; exact DataW.trod_lt m _ _ _ hm
  obtain ⟨a2, o2, rv2⟩ := Go.UK.opens_val (g := false) Go.UK.opens_9 (Go.UK.form_str Tryd.underlying9 (hval 2 9 v2 rfl rfl)) (fun _ => rfl) h2
  clear hA0 hval0
  refine (Go.UK.law_below (vs := [v0, v1, v2]) (Go.UK.wordsBytesFn a0 o0 a1 o1 a2 o2) W ⟨v0, _, rfl, rv0, ⟨v1, _, rfl, rv1, ⟨v2, _, rfl, rv2, rfl⟩⟩⟩).mono fun e W' ⟨he, bel⟩ => ?_
  subst he
  exact ⟨_, rfl, _, _, _, [], _, [], hW', trodAll_mk1 (shut_bool Tryd.underlying4 _), (trodAll_cons_mk (Below.trod laidOut (by kernel_rfl) (of_decide_eq_true (by kernel_rfl)) k0 bel lt0) (trodAll_cons_mk (Below.trod laidOut (by kernel_rfl) (of_decide_eq_true (by kernel_rfl)) k1 bel lt1) (trodAll_cons_mk (Below.trod laidOut (by kernel_rfl) (of_decide_eq_true (by kernel_rfl)) k2 bel lt2) trodAll_mk0))), rfl, bel.frame _, fun h => by cases h⟩

theorem closed_a : Go.UK.joined_a Tryd.prog 5 Tryd.f5 Rows.wordsBytesSpec Rows.wordsBytesRow = true := by kernel_rfl
theorem closed_b : Go.UK.joined_b Tryd.prog 5 Tryd.f5 Rows.wordsBytesSpec Rows.wordsBytesRow = true := by kernel_rfl
theorem closed_c : Go.UK.joined_c Tryd.prog 5 Tryd.f5 Rows.wordsBytesSpec Rows.wordsBytesRow = true := by kernel_rfl
theorem closed_d : Go.UK.joined_d Tryd.prog 5 Tryd.f5 Rows.wordsBytesSpec Rows.wordsBytesRow = true := by kernel_rfl
theorem closed_e : Go.UK.joined_e Tryd.prog 5 Tryd.f5 Rows.wordsBytesSpec Rows.wordsBytesRow = true := by kernel_rfl
theorem closed_f : Go.UK.joined_f Tryd.prog 5 Tryd.f5 Rows.wordsBytesSpec Rows.wordsBytesRow = true := by kernel_rfl
theorem closed_g : Go.UK.joined_g Tryd.prog 5 Tryd.f5 Rows.wordsBytesSpec Rows.wordsBytesRow = true := by kernel_rfl
theorem closed_h : Go.UK.joined_h Tryd.prog 5 Tryd.f5 Rows.wordsBytesSpec Rows.wordsBytesRow = true := by kernel_rfl
theorem closed : joinedFacts Tryd.prog 5 Tryd.f5 Rows.wordsBytesSpec Rows.wordsBytesRow = true := Go.UK.joined_of closed_a closed_b closed_c closed_d closed_e closed_f closed_g closed_h

theorem over : Rows.wordsBytesRow.holds Tryd.pinned (OpenSpec.ofChange Rows.wordsBytesSpec) :=
  OpenClaim.holds_of_wide 5 Tryd.f5 rfl rfl rfl rfl rfl rfl rfl ⟨rfl, rfl, rfl, rfl, rfl⟩ rfl rfl rfl rfl rfl (by kernel_rfl) Tryd.func5 closed
    (of_decide_eq_true (by kernel_rfl)) (by unfold Func.isWrapper; first | (rw [if_pos (by decide +kernel)]; kernel_rfl) | (rw [if_neg (by decide +kernel)]; exact ⟨rfl, rfl⟩))
    (fun os started H enc _ => lifted os started H enc)

theorem proved : Rows.WordsBytesCardSaid :=
  Claim7.holds_tied_plain_at .later [] [.data, .data, .data, .data, .sentinel, .sentinel, .pinned] true (true, "f155d470a9d8266053d286469a7f62fb011a8600da59da78e46f439e497acc3d") true over (fun _ h => by cases h) (by kernel_rfl) (fun _ h => by cases h) wordsBytes_row_tie rfl ⟨rfl, rfl⟩ (by kernel_rfl) rfl
    (fun f fn hf hfn => by
      obtain rfl : f = 5 := Option.some.inj ((show Tryd.prog.funcNamed "umbra/umbralaw43.WordsBytes" = some 5 by kernel_rfl).symm.trans hf) |>.symm
      obtain rfl : fn = Tryd.f5 := (Option.some.inj (Tryd.func5.symm.trans hfn)).symm
      exact ⟨by kernel_rfl, fun j t ht => by
        rw [Tryd.params5] at ht
        have hm : t ∈ [24, 9, 9] := by simpa using Array.mem_of_getElem? ht
        have hall : ([24, 9, 9].all fun u => !Tryd.prog.wantsStandIn u) = true := by kernel_rfl
        exact (show Tryd.prog.wantsStandIn t = false by simpa using List.all_eq_true.1 hall t hm)⟩)
    (by kernel_rfl)
#print axioms proved
end Go.Proofs.YtlalbhcgnnbbmaaDoor.wordsBytes
