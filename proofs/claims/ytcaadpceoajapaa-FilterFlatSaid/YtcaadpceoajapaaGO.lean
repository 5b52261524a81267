/- A part of the proof: what the functions of the program compute. -/
import Derived.Test.YtcaadpceoajapaaGT
namespace Go.UK
open Go Go.Proofs
set_option maxRecDepth 20000
set_option maxHeartbeats 4000000
set_option linter.all false

def S_api_Plane.ok (s : S_api_Plane) : Prop := (fun x => (Lit.int .i64 x).wf = true) s.gW ∧ (fun x => (Lit.int .i64 x).wf = true) s.gH ∧ (fun x => (Lit.int .i64 x).wf = true) s.gDeep ∧ (fun s => s.size ≤ maxLen) s.gName ∧ (fun (l : (List Int)) => l.length ≤ maxLen ∧ ∀ a ∈ l, (fun x => (Lit.int .i64 x).wf = true) a) s.gData

theorem S_api_Plane.opens : Opens Try.prog 34 S_api_Plane.enc S_api_Plane.ok := by
    intro H enc w spare fuel cs x h
    obtain ⟨xs, n, _, _, hl, hx, hf⟩ := DataW.trod_struct Try.underlying34 h
    have hl : cs.length = 5 := hl.trans (by kernel_rfl)
    obtain ⟨b0, o0, r0⟩ := opens_fld hx hf 0 0 1 _ rfl rfl (by kernel_rfl) (opens_int Try.underlying3)
    obtain ⟨b1, o1, r1⟩ := opens_fld hx hf 1 1 1 _ rfl rfl (by kernel_rfl) (opens_int Try.underlying3)
    obtain ⟨b2, o2, r2⟩ := opens_fld hx hf 2 2 1 _ rfl rfl (by kernel_rfl) (opens_int Try.underlying3)
    obtain ⟨b3, o3, r3⟩ := opens_fld hx hf 3 3 1 _ rfl rfl (by kernel_rfl) (opens_str Try.underlying9)
    obtain ⟨b4, o4, r4⟩ := opens_fld hx hf 4 4 1 _ rfl rfl (by kernel_rfl) (opens_slice (k := 1) Try.underlying31 (by kernel_rfl) (by decide) (fun _ => rfl) (opens_int Try.underlying3))
    exact ⟨⟨b0, b1, b2, b3, b4⟩, ⟨o0, o1, o2, o3, o4⟩, rc_st hl (rcl_step r0 (rcl_step r1 (rcl_step r2 (rcl_step r3 (rcl_step r4 (rcl_end hl))))))⟩

theorem opens_34 : Opens Try.prog 34 S_api_Plane.enc S_api_Plane.ok := S_api_Plane.opens
theorem opens_96 : Opens Try.prog 96 k16 (fun x => (Lit.int .u16 x).wf = true) := (opens_int Try.underlying96)
theorem opens_97 : Opens Try.prog 97 (eA 9 1 k8) (fun (v : (Vector Int 9)) => ∀ a ∈ v.toList, (fun x => (Lit.int .u8 x).wf = true) a) := (opens_array (n := 9) (k := 1) (m := 9) Try.underlying97 (by kernel_rfl) (by kernel_rfl) rfl (fun _ => rfl) (opens_int Try.underlying5))

end Go.UK
