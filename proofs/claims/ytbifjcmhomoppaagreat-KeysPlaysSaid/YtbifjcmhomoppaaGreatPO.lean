/- A part of the proof: what the functions of the program compute. -/
import Derived.Test.YtbifjcmhomoppaaGreatPT
namespace Go.UK
open Go Go.Proofs
set_option maxRecDepth 20000
set_option maxHeartbeats 40000000
set_option linter.all false

def S_umbralaw36_Act.ok (s : S_umbralaw36_Act) : Prop := (fun x => (Lit.int .i64 x).wf = true) s.gKind ∧ (fun x => (Lit.int .i64 x).wf = true) s.gId ∧ (fun x => (Lit.int .i64 x).wf = true) s.gEpoch

theorem S_umbralaw36_Act.opens : Opens Tryz.prog 75 S_umbralaw36_Act.enc S_umbralaw36_Act.ok := by
  intro H enc w spare fuel cs x h
  obtain ⟨xs, n, _, _, hl, hx, hf⟩ := DataW.trod_struct Tryz.underlying75 h
  have hl : cs.length = 3 := hl.trans (by kernel_rfl)
  obtain ⟨b0, o0, r0⟩ := opens_fld hx hf 0 0 1 _ rfl rfl (by kernel_rfl) (opens_int Tryz.underlying3)
  obtain ⟨b1, o1, r1⟩ := opens_fld hx hf 1 1 1 _ rfl rfl (by kernel_rfl) (opens_int Tryz.underlying3)
  obtain ⟨b2, o2, r2⟩ := opens_fld hx hf 2 2 1 _ rfl rfl (by kernel_rfl) (opens_int Tryz.underlying3)
  exact ⟨⟨b0, b1, b2⟩, ⟨o0, o1, o2⟩, rc_st hl (rcl_step r0 (rcl_step r1 (rcl_step r2 (rcl_end hl))))⟩

theorem opens_67 : Opens Tryz.prog 67 (eL 3 S_umbralaw36_Act.enc) (fun (l : (List S_umbralaw36_Act)) => l.length ≤ maxLen ∧ ∀ a ∈ l, S_umbralaw36_Act.ok a) := (opens_slice (k := 3) Tryz.underlying67 (by kernel_rfl) (by decide) (fun _ => rfl) S_umbralaw36_Act.opens)

end Go.UK

