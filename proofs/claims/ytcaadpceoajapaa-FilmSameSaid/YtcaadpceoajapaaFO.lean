/- A part of the proof: what the functions of the program compute. -/
import Derived.Test.YtcaadpceoajapaaFT
import Derived.Test.YtcaadpceoajapaaLib5
namespace Go.UK
open Go Go.Proofs
set_option maxRecDepth 20000
set_option linter.all false

def S_api_Image.ok (s : S_api_Image) : Prop := (fun x => (Lit.int .i64 x).wf = true) s.gW ∧ (fun x => (Lit.int .i64 x).wf = true) s.gH ∧ (fun l => l.length ≤ maxLen ∧ ∀ a ∈ l, (fun v => ∀ a ∈ v.toList, (fun x => (Lit.int .i64 x).wf = true) a) a) s.gBeauty ∧ (fun l => l.length ≤ maxLen ∧ ∀ a ∈ l, (fun x => (Lit.int .i64 x).wf = true) a) s.gAlpha ∧ (fun l => l.length ≤ maxLen ∧ ∀ a ∈ l, (fun x => (Lit.int .i64 x).wf = true) a) s.gDepth ∧ (fun l => l.length ≤ maxLen ∧ ∀ a ∈ l, (fun v => ∀ a ∈ v.toList, (fun x => (Lit.int .i64 x).wf = true) a) a) s.gNormal ∧ (fun l => l.length ≤ maxLen ∧ ∀ a ∈ l, (fun x => (Lit.int .i64 x).wf = true) a) s.gAsset ∧ (fun l => l.length ≤ maxLen ∧ ∀ a ∈ l, (fun x => (Lit.int .i64 x).wf = true) a) s.gLabel

theorem S_api_Image.opens : Opens Try.prog 73 S_api_Image.enc S_api_Image.ok := by
  intro H enc w spare fuel cs x h
  obtain ⟨xs, n, _, _, hl, hx, hf⟩ := DataW.trod_struct Try.underlying73 h
  have hl : cs.length = 8 := hl.trans (by kernel_rfl)
  obtain ⟨b0, o0, r0⟩ := opens_fld hx hf 0 0 1 _ rfl rfl (by kernel_rfl) (opens_int Try.underlying3)
  obtain ⟨b1, o1, r1⟩ := opens_fld hx hf 1 1 1 _ rfl rfl (by kernel_rfl) (opens_int Try.underlying3)
  obtain ⟨b2, o2, r2⟩ := opens_fld hx hf 2 2 1 _ rfl rfl (by kernel_rfl) (opens_slice (k := 3) Try.underlying71 (by kernel_rfl) (by decide) (fun _ => rfl) (opens_array (n := 3) (k := 1) (m := 3) Try.underlying140 (by kernel_rfl) (by kernel_rfl) rfl (fun _ => rfl) (opens_int Try.underlying3)))
  obtain ⟨b3, o3, r3⟩ := opens_fld hx hf 3 3 1 _ rfl rfl (by kernel_rfl) (opens_slice (k := 1) Try.underlying31 (by kernel_rfl) (by decide) (fun _ => rfl) (opens_int Try.underlying3))
  obtain ⟨b4, o4, r4⟩ := opens_fld hx hf 4 4 1 _ rfl rfl (by kernel_rfl) (opens_slice (k := 1) Try.underlying31 (by kernel_rfl) (by decide) (fun _ => rfl) (opens_int Try.underlying3))
  obtain ⟨b5, o5, r5⟩ := opens_fld hx hf 5 5 1 _ rfl rfl (by kernel_rfl) (opens_slice (k := 3) Try.underlying71 (by kernel_rfl) (by decide) (fun _ => rfl) (opens_array (n := 3) (k := 1) (m := 3) Try.underlying140 (by kernel_rfl) (by kernel_rfl) rfl (fun _ => rfl) (opens_int Try.underlying3)))
  obtain ⟨b6, o6, r6⟩ := opens_fld hx hf 6 6 1 _ rfl rfl (by kernel_rfl) (opens_slice (k := 1) Try.underlying31 (by kernel_rfl) (by decide) (fun _ => rfl) (opens_int Try.underlying3))
  obtain ⟨b7, o7, r7⟩ := opens_fld hx hf 7 7 1 _ rfl rfl (by kernel_rfl) (opens_slice (k := 1) Try.underlying31 (by kernel_rfl) (by decide) (fun _ => rfl) (opens_int Try.underlying3))
  exact ⟨⟨b0, b1, b2, b3, b4, b5, b6, b7⟩, ⟨o0, o1, o2, o3, o4, o5, o6, o7⟩, rc_st hl (rcl_step r0 (rcl_step r1 (rcl_step r2 (rcl_step r3 (rcl_step r4 (rcl_step r5 (rcl_step r6 (rcl_step r7 (rcl_end hl)))))))))⟩

theorem opens_73 : Opens Try.prog 73 S_api_Image.enc S_api_Image.ok := S_api_Image.opens

end Go.UK
