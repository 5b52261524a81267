/- A part of the proof: what the functions of the program compute. -/
import Derived.Test.YtbfieohdmihfpaaGreatDoorLib16
import Derived.Test.YtbfieohdmihfpaaGreatDoorRows
import Derived.Lay
import GoSem.ClaimSeven
import Derived.JoinedOf
namespace Go.UK
open Go Go.Proofs
set_option linter.all false
theorem laid_of {P : Program} {a b : Nat} (hs : P.types.size = a + b) (h1 : (List.range' 0 a).all (rowFine P) = true) (h2 : (List.range' a b).all (rowFine P) = true) (h3 : (P.globals.all (fun g => decide (g.type < P.types.size)) && P.funcs.all (fun f => f.params.all fun t => decide (t < P.types.size))) = true) : laidOutB P = true := by
  unfold laidOutB
  rw [Bool.and_assoc, h3, Bool.and_true, List.all_eq_true]
  intro t ht
  rw [List.mem_range, hs] at ht
  by_cases c : t < a
  · exact List.all_eq_true.1 h1 t (List.mem_range'_1.2 ⟨Nat.zero_le _, by omega⟩)
  · exact List.all_eq_true.1 h2 t (List.mem_range'_1.2 ⟨by omega, by omega⟩)
theorem closedA_of {P : Program} {f : FuncId} {fn : Func} {s : ChangeSpec} {c : OpenClaim} (h1 : laidOutB P = true) (h2 : mapsRowed P = true) (h3 : (c.wf (OpenSpec.ofChange s) && (fn.params.all (P.readableRec ·) && (namedTie P c.named s.vars && ((c.stops == []) && ((P.stops == []) && ((c.knobs == []) && (P.stopKnobs == []))))))) = true) : aGz P f fn s c = true := by
  unfold aGz
  simp only [Bool.and_eq_true] at h3 ⊢
  exact ⟨⟨⟨⟨⟨⟨⟨⟨h3.1, h1⟩, h2⟩, h3.2.1⟩, h3.2.2.1⟩, h3.2.2.2.1⟩, h3.2.2.2.2.1⟩, h3.2.2.2.2.2.1⟩, h3.2.2.2.2.2.2⟩
theorem sz_d : Tryz.prog.types.size = 380 + 385 := by kernel_rfl
end Go.UK
