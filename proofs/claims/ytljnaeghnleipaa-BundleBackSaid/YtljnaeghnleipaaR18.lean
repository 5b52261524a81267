/- A part of the proof: what the functions of the program compute. -/
import Derived.Test.YtljnaeghnleipaaR17
namespace Go.UK
open Go Go.Proofs
set_option maxRecDepth 20000
set_option maxHeartbeats 1000000
set_option linter.all false
theorem fewP (N : Nat) (a : S_api_Asset) : T (p_umbralaw16_few N a) AssL := by
 unfold p_umbralaw16_few p_umbralaw13_Few
 simp only [letO_e]
 rw [show (70 : Int) = ((70 : Nat) : Int) from rfl, show (260 : Int) = ((260 : Nat) : Int) from rfl, slcO_min, Option.bind_some, slcO_min, Option.bind_some, slcO_min, Option.bind_some, Option.bind_some, slcO_min, Option.bind_some]
 exact T.ret ⟨by dsimp only; rw [List.length_take]; omega, by dsimp only; rw [List.length_take]; omega, by dsimp only; rw [List.length_take]; omega, by dsimp only; rw [List.length_take]; omega⟩
theorem OwnG.m {a : S_api_Asset} (h : OwnG a) (k : a.gKind = 1) : MeshG a.gMesh := by
 rcases h with ⟨_, o⟩ | ⟨o, _⟩ | ⟨o, _⟩ | ⟨o, _⟩
 ·exact o
 all_goals (rw [k] at o; cases o)
theorem OwnG.t {a : S_api_Asset} (h : OwnG a) (k : a.gKind = 2) : TexG a.gTexture := by
 rcases h with ⟨o, _⟩ | ⟨_, o⟩ | ⟨o, _⟩ | ⟨o, _⟩
 ·rw [k] at o; cases o
 ·exact o
 all_goals (rw [k] at o; cases o)
theorem OwnG.a {a : S_api_Asset} (h : OwnG a) (k : a.gKind = 3) : MatG a.gMaterial := by
 rcases h with ⟨o, _⟩ | ⟨o, _⟩ | ⟨_, o⟩ | ⟨o, _⟩
 ·rw [k] at o; cases o
 ·rw [k] at o; cases o
 ·exact o
 ·rw [k] at o; cases o
theorem OwnG.l {a : S_api_Asset} (h : OwnG a) (k : a.gKind = 4) : LigG a.gLight := by
 rcases h with ⟨o, _⟩ | ⟨o, _⟩ | ⟨o, _⟩ | ⟨_, o⟩
 ·rw [k] at o; cases o
 ·rw [k] at o; cases o
 ·rw [k] at o; cases o
 ·exact o
theorem assB_inj {N : Nat} {a b : S_api_Asset} (g : GoodA N a) (h : GoodA N b) (hk : a.gKind = b.gKind) (e : assB a = assB b) : a = b := by
 have nil : ∀ {x y : List Int}, x = y → x ++ [] = y ++ [] := by rintro x y rfl; rfl
 unfold assB at e
 rcases g.own with ⟨k, o⟩ | ⟨k, o⟩ | ⟨k, o⟩ | ⟨k, o⟩
 ·have k' := hk.symm.trans k
  rw [if_pos k, if_pos k'] at e
  rw [g.clean.1 k, h.clean.1 k', (meshB_inj o.r (h.own.m k').r (nil e)).1]
 ·have k' := hk.symm.trans k
  rw [if_neg (by omega), if_pos k, if_neg (by omega), if_pos k'] at e
  rw [g.clean.2.1 k, h.clean.2.1 k', (texB_inj o.r (h.own.t k').r (nil e)).1]
 ·have k' := hk.symm.trans k
  rw [if_neg (by omega), if_neg (by omega), if_pos k, if_neg (by omega), if_neg (by omega), if_pos k'] at e
  rw [g.clean.2.2.1 k, h.clean.2.2.1 k', (matB_inj o (h.own.a k') (nil e)).1]
 ·have k' := hk.symm.trans k
  rw [if_neg (by omega), if_neg (by omega), if_neg (by omega), if_neg (by omega), if_neg (by omega), if_neg (by omega)] at e
  rw [g.clean.2.2.2 k, h.clean.2.2.2 k', (ligB_inj o.r (h.own.l k').r (nil e)).1]
theorem bodyC_bytes (N : Nat) (hN : 70000 ≤ N) (key : Vector Int 32) (base : Vector Int 8) (mark : List Int) (hm : mark.length = 16) : ∀ (c i : Nat) (l : List Int), bytesL (bodyC N key base mark c i l)
 | 0, _, _ => bytes_nil
 | c + 1, i, l => by
  rw [bodyC]
  refine bytesL.app ?_ (bodyC_bytes N hN key base mark hm c (i + 1) _)
  unfold chunkF sealC
  exact (preB_bytes _ _).app (sealV_bytes N hN key _ _ (by rw [List.length_append, preB_len]; omega) (by simp; omega))
theorem bundleB_bytes {N : Nat} (hN : 70000 ≤ N) (key : Vector Int 32) {base : Vector Int 8} (hb : vbytes base) {m : S_api_Manifest} (r : ManR m) (p : List Int) : bytesL (bundleB N key base m p) := by
 unfold bundleB
 exact (headB_bytes hb r).app ((markV_bytes N hN key base m).app (bodyC_bytes N hN key base _ (markV_len N hN key base m) _ _ _))
theorem BunAt.len {N : Nat} (hN : 70000 ≤ N) {key : Vector Int 32} {base : Vector Int 8} {m : S_api_Manifest} {a : S_api_Asset} {b : List Int} (h : BunAt N key base m a b) : (b.length : Int) = 63 + m.gSize + 20 * (nCh m.gSize.toNat : Int) := by
 rw [h.eq, bundleB_len N hN, ← h.size, Int.toNat_natCast]
 omega
theorem BunAt.short {N : Nat} (hN : 70000 ≤ N) {key : Vector Int 32} {base : Vector Int 8} {m : S_api_Manifest} {a : S_api_Asset} {b : List Int} (h : BunAt N key base m a b) : b.length ≤ 2300 := by
 have := h.good.len
 rw [h.eq, bundleB_len N hN]
 unfold nCh
 omega
theorem BunAt.bytes {N : Nat} (hN : 70000 ≤ N) {key : Vector Int 32} {base : Vector Int 8} {m : S_api_Manifest} {a : S_api_Asset} {b : List Int} (h : BunAt N key base m a b) : bytesL b := by
 rw [h.eq]; exact bundleB_bytes hN key h.hbase h.hm _
theorem BunAt.body {N : Nat} (hN : 70000 ≤ N) {key : Vector Int 32} {base : Vector Int 8} {m : S_api_Manifest} {a : S_api_Asset} {b : List Int} (h : BunAt N key base m a b) : b.drop 63 = bodyC N key base (markV N key base m) (nCh (assB a).length) 0 (assB a) := by
 conv => lhs; rw [h.eq]
 exact (HeadAt.of hN key h.hbase h.hm h.chk _).2
theorem BunAt.uniq {N : Nat} (hN : 70000 ≤ N) {key : Vector Int 32} {base base' : Vector Int 8} {m m' : S_api_Manifest} {a a' : S_api_Asset} {b : List Int} (h : BunAt N key base m a b) (h' : BunAt N key base' m' a' b) : base = base' ∧ m = m' ∧ a = a' := by
 obtain ⟨rfl, rfl⟩ := (h.head hN).uniq hN (h'.head hN)
 refine ⟨rfl, rfl, ?_⟩
 have hl : (assB a).length = (assB a').length := by have := h.size; have := h'.size; omega
 have e := (h.body hN).symm.trans (h'.body hN)
 rw [← hl] at e
 have := bodyC_inj hN key base _ (markV_len N hN key base m) _ 0 _ _ (assB_bytes h.good.own) (assB_bytes h'.good.own) hl (by unfold nCh; omega) e
 exact assB_inj h.good h'.good (h.kind.trans h'.kind.symm) this
theorem BunAt.same {N : Nat} (hN : 70000 ≤ N) {key : Vector Int 32} {base base' : Vector Int 8} {m m' : S_api_Manifest} {a a' : S_api_Asset} {b b' : List Int} (h : BunAt N key base m a b) (h' : BunAt N key base' m' a' b') (e : b.take 47 = b'.take 47) : m = m' ∧ b.length = b'.length := by
 obtain ⟨_, rfl⟩ := headB_inj h.hm h'.hm (by rw [← ((h.head hN).parts hN).2.2.2.1, e, ((h'.head hN).parts hN).2.2.2.1])
 refine ⟨rfl, ?_⟩
 have := h.len hN
 have := h'.len hN
 omega
theorem ManR.t {m : S_api_Manifest} (r : ManR m) : ManT m :=
 ⟨r.id, by have := r.kind; exact ⟨by omega, by omega⟩, r.label, r.masks, r.fr, r.to, by have := r.size; exact ⟨by omega, by omega⟩, by have := r.chunks; exact ⟨by omega, by omega⟩⟩
theorem sealA (N : Nat) (hN : 70000 ≤ N) (key : Vector Int 32) (base : Vector Int 8) (hb : vbytes base) (m : S_api_Manifest) (a : S_api_Asset) (t : ManT m) (hA : AssL a) :
  T (p_bundle_Seal N key base m a) (fun r => (r.2 = 0 ∧ GoodA N a ∧ BunAt N key base (fullM m (assB a).length) a r.1) ∨ (r.2 ≠ 0 ∧ r.1 = [] ∧ ¬ (GoodA N a ∧ m.gKind = a.gKind ∧ mchkV (fullM m (assB a).length) = 0))) := by
 refine (sealT N hN key base m a t hA).mono fun r h => ?_
 rcases h with ⟨h1, h2, h3, h4, h5⟩ | h
 ·exact .inl ⟨h1, h2, hb, (fullM_T t h2.len).r h4, h4, h2, h3.symm, rfl, h5⟩
 ·exact .inr h
theorem openB {N : Nat} (hN : 70000 ≤ N) {key : Vector Int 32} {base : Vector Int 8} {m : S_api_Manifest} {a : S_api_Asset} {b : List Int} (h : BunAt N key base m a b) : p_bundle_Open N key b = some (m, a, 0) := by
 have hs := h.short hN
 obtain ⟨r, e, hr⟩ := openA N hN key b (h.bytes hN) (by omega)
 rw [e]
 rcases hr with ⟨h1, _, base', h2⟩ | ⟨_, _, _, h2, _⟩
 ·obtain ⟨m', a', c⟩ := r
  obtain ⟨_, q1, q2⟩ := h.uniq hN h2
  dsimp only at q1 q2 h1
  rw [q1, q2, h1]
 ·exact absurd h (h2 _ _ _)
theorem peekB {N : Nat} (hN : 70000 ≤ N) {key : Vector Int 32} {base : Vector Int 8} {m : S_api_Manifest} {a : S_api_Asset} {b : List Int} (h : BunAt N key base m a b) : p_bundle_Peek N key b = some (m, 0) := by
 have hs := h.short hN
 obtain ⟨r, e, hr⟩ := peekT N hN key b (h.bytes hN) (by omega)
 rw [e]
 rcases hr with ⟨h1, base', h2⟩ | ⟨_, _, h2⟩
 ·obtain ⟨m', c⟩ := r
  obtain ⟨_, q1⟩ := (h.head hN).uniq hN h2
  dsimp only at q1 h1
  rw [← q1, h1]
 ·exact absurd (h.head hN) (h2 _ _)
end Go.UK

