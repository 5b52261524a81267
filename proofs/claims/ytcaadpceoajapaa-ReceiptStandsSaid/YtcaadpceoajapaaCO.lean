/- A part of the proof: what the functions of the program compute. -/
import Derived.Test.YtcaadpceoajapaaCT
namespace Go.UK
open Go Go.Proofs
set_option maxRecDepth 20000
set_option maxHeartbeats 4000000
set_option linter.all false

def S_api_Entry.ok (s : S_api_Entry) : Prop := (fun x => (Lit.int .i64 x).wf = true) s.gSeq ∧ (fun x => (Lit.int .u32 x).wf = true) s.gClock ∧ (fun x => (Lit.int .i64 x).wf = true) s.gWho ∧ (fun x => (Lit.int .i64 x).wf = true) s.gErr ∧ (fun (v : (Vector Int 32)) => ∀ a ∈ v.toList, (fun x => (Lit.int .u8 x).wf = true) a) s.gSum

theorem S_api_Entry.opens : Opens Try.prog 115 S_api_Entry.enc S_api_Entry.ok := by
    intro H enc w spare fuel cs x h
    obtain ⟨xs, n, _, _, hl, hx, hf⟩ := DataW.trod_struct Try.underlying115 h
    have hl : cs.length = 36 := hl.trans (by kernel_rfl)
    obtain ⟨b0, o0, r0⟩ := opens_fld hx hf 0 0 1 _ rfl rfl (by kernel_rfl) (opens_int Try.underlying3)
    obtain ⟨b1, o1, r1⟩ := opens_fld hx hf 1 1 1 _ rfl rfl (by kernel_rfl) (opens_int Try.underlying57)
    obtain ⟨b2, o2, r2⟩ := opens_fld hx hf 2 2 1 _ rfl rfl (by kernel_rfl) (opens_int Try.underlying3)
    obtain ⟨b3, o3, r3⟩ := opens_fld hx hf 3 3 1 _ rfl rfl (by kernel_rfl) (opens_int Try.underlying23)
    obtain ⟨b4, o4, r4⟩ := opens_fld hx hf 4 4 32 _ rfl rfl (by kernel_rfl) (opens_array (n := 32) (k := 1) (m := 32) Try.underlying53 (by kernel_rfl) (by kernel_rfl) rfl (fun _ => rfl) (opens_int Try.underlying5))
    exact ⟨⟨b0, b1, b2, b3, b4⟩, ⟨o0, o1, o2, o3, o4⟩, rc_st hl (rcl_step r0 (rcl_step r1 (rcl_step r2 (rcl_step r3 (rcl_step r4 (rcl_end hl))))))⟩

def S_umbralaw37_Chain.ok (s : S_umbralaw37_Chain) : Prop := (fun (v : (Vector Int 32)) => ∀ a ∈ v.toList, (fun x => (Lit.int .u8 x).wf = true) a) s.gKey ∧ (fun x => (Lit.int .i64 x).wf = true) s.gLayer ∧ (fun (l : (List S_api_Entry)) => l.length ≤ maxLen ∧ ∀ a ∈ l, S_api_Entry.ok a) s.gL

theorem S_umbralaw37_Chain.opens : Opens Try.prog 56 S_umbralaw37_Chain.enc S_umbralaw37_Chain.ok := by
    intro H enc w spare fuel cs x h
    obtain ⟨xs, n, _, _, hl, hx, hf⟩ := DataW.trod_struct Try.underlying56 h
    have hl : cs.length = 34 := hl.trans (by kernel_rfl)
    obtain ⟨b0, o0, r0⟩ := opens_fld hx hf 0 0 32 _ rfl rfl (by kernel_rfl) (opens_array (n := 32) (k := 1) (m := 32) Try.underlying53 (by kernel_rfl) (by kernel_rfl) rfl (fun _ => rfl) (opens_int Try.underlying5))
    obtain ⟨b1, o1, r1⟩ := opens_fld hx hf 1 32 1 _ rfl rfl (by kernel_rfl) (opens_int Try.underlying3)
    obtain ⟨b2, o2, r2⟩ := opens_fld hx hf 2 33 1 _ rfl rfl (by kernel_rfl) (opens_slice (k := 36) Try.underlying54 (by kernel_rfl) (by decide) (fun _ => rfl) S_api_Entry.opens)
    exact ⟨⟨b0, b1, b2⟩, ⟨o0, o1, o2⟩, rc_st hl (rcl_step r0 (rcl_step r1 (rcl_step r2 (rcl_end hl))))⟩

theorem opens_54 : Opens Try.prog 54 (eL 36 S_api_Entry.enc) (fun (l : (List S_api_Entry)) => l.length ≤ maxLen ∧ ∀ a ∈ l, S_api_Entry.ok a) := (opens_slice (k := 36) Try.underlying54 (by kernel_rfl) (by decide) (fun _ => rfl) S_api_Entry.opens)
theorem opens_56 : Opens Try.prog 56 S_umbralaw37_Chain.enc S_umbralaw37_Chain.ok := S_umbralaw37_Chain.opens

end Go.UK
