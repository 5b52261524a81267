/- A part of the proof: what the functions of the program compute. -/
import Derived.Test.YtljnaeghnleipaaR18
namespace Go.UK
open Go Go.Proofs
set_option maxRecDepth 20000
set_option maxHeartbeats 1000000
set_option linter.all false
theorem man_refl (m : S_api_Manifest) : S_api_Manifest.eq m m = true := (man_eq m m).2 rfl
theorem bundleBackT (N : Nat) (hN : 70000 ≤ N) (hw : p_umbralaw16_works N = some true) (s : S_umbralaw16_Sealed) (a0 : S_api_Asset) (hb : vbytes s.gBase) (t : ManT s.gM) : p_umbralaw16_BundleBack N s a0 = some true := by
 unfold p_umbralaw16_BundleBack
 obtain ⟨a, e1, hA⟩ := fewP N a0
 rw [e1, Option.bind_some]
 obtain ⟨r2, e2, h2⟩ := sealA N hN s.gKey s.gBase hb s.gM a t hA
 rw [e2, Option.bind_some, hw]
 rcases h2 with ⟨h1, g, h⟩ | ⟨h1, h, _⟩
 rotate_left
 ·rw [show (r2.2 != 0) = true by simpa using h1, cond_true, h]
  rfl
 have hl := g.len
 rw [show (r2.2 != 0) = false by rw [h1]; rfl, cond_false, openB hN h, Option.bind_some, peekB hN h, Option.bind_some, encodeG N (by omega) a hA g, Option.bind_some]
 dsimp only
 rw [chunksP N ⟨by omega, by omega⟩, Option.bind_some, nCh_e, show ((0 : Int) == 0) = true from rfl, cond_true, letO_e]
 rw [show S_api_Manifest.mk s.gM.gId s.gM.gKind s.gM.gLabel s.gM.gMasks s.gM.gFrom s.gM.gTo ((assB a).length : Int) (nCh (assB a).length : Int) = fullM s.gM (assB a).length from rfl, man_refl, cond_true]
 obtain ⟨x, e3, h3⟩ := sameT N (by omega) a a hA
 rw [e3, Option.bind_some, h3.2 rfl, cond_true]
 rfl
end Go.UK

