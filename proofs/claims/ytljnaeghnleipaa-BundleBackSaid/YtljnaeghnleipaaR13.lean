/- A part of the proof: what the functions of the program compute. -/
import Derived.Test.YtljnaeghnleipaaR12
namespace Go.UK
open Go Go.Proofs
set_option maxRecDepth 20000
set_option maxHeartbeats 2000000
set_option linter.all false
theorem threeT (N : Nat) (hN : 20 < N) (w : Nat) (hw0 : 1 ≤ w) (hw : w ≤ 4) (b : List Int) (e : Int) (hb : bytesL b) : T (p_asset_decoder_three_srzd N (w : Int) (S_codec_Reader.mk b e true)) (fun r => RdQ (trB w) (trG (p256 w)) (3 * w) b e r.1 r.2.1 r.2.2.2 ∧ r.2.2.1 = true) := by
 unfold p_asset_decoder_three_srzd
 have h := tripT N hN w hw0 hw b e hb (Q := fun r => RdQ (trB w) (trG (p256 w)) (3 * w) b e r.2.2.1 r.2.2.2.1 #v[r.1.2.2, r.2.1.2.2, r.2.2.2.2]) (fun _ _ _ h => h)
 obtain ⟨⟨r1, r2, r3⟩, g1, g2⟩ := h
 obtain ⟨q1, k1, g1⟩ := obind g1
 obtain ⟨q2, k2, g1⟩ := obind g1
 obtain ⟨q3, k3, g1⟩ := obind g1
 cases g1
 rw [show p_asset_decoder_uint_srzd N (w : Int) (S_codec_Reader.mk b e true) = some r1 from k1, Option.bind_some]
 dsimp only
 rw [show p_asset_decoder_uint_srzd N (w : Int) (S_codec_Reader.mk r1.1 r1.2.1 true) = some r2 from k2, Option.bind_some, show p_asset_decoder_uint_srzd N (w : Int) (S_codec_Reader.mk r2.1 r2.2.1 true) = some r3 from k3, Option.bind_some]
 exact T.ret ⟨g2, rfl⟩
theorem uintA (N : Nat) (hN : 20 < N) (w : Nat) (hw0 : 1 ≤ w) (hw : w ≤ 4) (b : List Int) (e : Int) (hb : bytesL b) : T (p_asset_decoder_uint_srzd N (w : Int) (S_codec_Reader.mk b e true)) (fun r => RdQ (leB w) (fun x => 0 ≤ x ∧ x < p256 w) w b e r.1 r.2.1 r.2.2 ∧ 0 ≤ r.2.2 ∧ r.2.2 < p256 w) := uintT N hN w hw0 hw b e hb
theorem pointA (N : Nat) (hN : 20 < N) (b : List Int) (e : Int) (hb : bytesL b) : T (p_asset_decoder_point_srz N (S_codec_Reader.mk b e true)) (fun r => RdQ ptB ptR 6 b e r.1 r.2.1 r.2.2.2 ∧ r.2.2.1 = true) := pointT N hN b e hb
theorem RdQ.seq {α β : Type} {f : α → List Int} {P : α → Prop} {c : Nat} {g : β → List Int} {Q : β → Prop} {d : Nat} {b b1 b2 : List Int} {e e1 e2 : Int} {x : α} {y : β} (hf : ∀ x, (f x).length = c) (h : RdQ f P c b e b1 e1 x) (k : RdQ g Q d b1 e1 b2 e2 y) : RdQ (fun p : α × β => f p.1 ++ g p.2) (fun p => P p.1 ∧ Q p.2) (c + d) b e b2 e2 (x, y) := by
 obtain ⟨h1, h2, h3⟩ := h
 obtain ⟨k1, k2, k3⟩ := k
 refine ⟨k1, by omega, ?_⟩
 rcases k3 with ⟨q1, q2, q3, q4⟩ | ⟨q1, q2⟩
 ·subst q2
  rcases h3 with ⟨_, i2, i3, i4⟩ | ⟨i1, _⟩
  ·exact .inl ⟨q1, i2, by rw [i3, q3, List.append_assoc], i4, q4⟩
  ·exact absurd rfl i1
 ·refine .inr ⟨q1, fun he => ?_⟩
  rcases h3 with ⟨i1, _, i3, _⟩ | ⟨_, i1⟩
  ·have hl := congrArg List.length i3
   rw [List.length_append, hf] at hl
   have := q2 i1
   omega
  ·have := i1 he
   omega
theorem endQ (N : Nat) {α : Type} {f : α → List Int} {P : α → Prop} {c : Nat} {b b' : List Int} {e' : Int} {x : α} (h : RdQ f P c b 0 b' e' x) : T (p_codec_Reader_End_r N (S_codec_Reader.mk b' e' true)) (fun r => (r = 0 ∧ b = f x ∧ P x) ∨ (r ≠ 0 ∧ ((b.length < c) ∨ (∃ t, t ≠ [] ∧ b = f x ++ t ∧ P x)))) := by
 rw [endE]
 obtain ⟨h1, h2, ⟨rfl, _, h4, h5⟩ | ⟨h3, h4⟩⟩ := h
 ·rw [show ((0 : Int) != 0) = false from rfl, cond_false]
  by_cases hr : 0 < b'.length
  ·rw [dt hr]
   exact T.ret (.inr ⟨(show (5 : Int) ≠ 0 by decide), .inr ⟨b', by intro e; rw [e] at hr; simp at hr, h4, h5⟩⟩)
  ·rw [df hr]
   have : b' = [] := List.eq_nil_of_length_eq_zero (by omega)
   subst this
   exact T.ret (.inl ⟨rfl, by rw [h4, List.append_nil], h5⟩)
 ·rw [show (e' != 0) = true by simpa using h3, cond_true]
  exact T.ret (.inr ⟨h3, .inl (h4 rfl)⟩)
theorem assDecT (N : Nat) (hN : 10000 < N) (k : Int) (b : List Int) (hb : bytesL b) (hl : b.length ≤ 5000) : T (p_asset_Decode N k b) (fun r => (r.2 = 0 ∧ b = assB r.1 ∧ GoodA N r.1 ∧ r.1.gKind = k ∧ AssL r.1) ∨ (r.2 ≠ 0 ∧ r.1 = zA 0 ∧ ∀ a, GoodA N a → a.gKind = k → b ≠ assB a)) := by
 -- what stands behind: the check of what was read
 have fin : ∀ a : S_api_Asset, AssL a → a.gKind = k → (OwnG a → b = assB a) → (∀ a', GoodA N a' → a'.gKind = k → b = assB a' → a' = a) → T (Option.bind (p_asset_Check N a) fun r17 => cond (r17 != 0) (some (zA 0, r17)) (some (a, 0))) (fun r => (r.2 = 0 ∧ b = assB r.1 ∧ GoodA N r.1 ∧ r.1.gKind = k ∧ AssL r.1) ∨ (r.2 ≠ 0 ∧ r.1 = zA 0 ∧ ∀ a, GoodA N a → a.gKind = k → b ≠ assB a)) := by
  intro a hL hk h1 h2
  refine T.bind (checkT N (by omega) a hL) fun c hc => T.cond (fun q => T.ret ?_) fun q => T.ret ?_
  ·have q : c ≠ 0 := by simpa using q
   refine .inr ⟨q, rfl, fun a' g hk' e => ?_⟩
   have := h2 a' g hk' e
   subst this
   exact q (hc.2 g)
  ·have q : c = 0 := by simpa using q
   have g := hc.1 q
   exact .inl ⟨rfl, h1 g.own, g, hk, hL⟩
 unfold p_asset_Decode
 rw [newP N b (by omega), Option.bind_some]
 have hk : k = 1 ∨ k = 2 ∨ k = 3 ∨ k = 4 ∨ (k ≠ 1 ∧ k ≠ 2 ∧ k ≠ 3 ∧ k ≠ 4) := by omega
 rcases hk with rfl | rfl | rfl | rfl | ⟨n1, n2, n3, n4⟩
 ·rw [show ((1 : Int) == 1) = true from rfl, cond_true]
  obtain ⟨⟨m, e⟩, h0, h⟩ := meshDecT N (by omega) b hb (by omega)
  rw [h0, Option.bind_some, Option.bind_some]
  dsimp only at h ⊢
  rw [letO_e]
  rcases h with ⟨rfl, h1, h2⟩ | ⟨h1, rfl, h3⟩
  ·rw [show ((0 : Int) != 0) = false from rfl, cond_false]
   refine fin (S_api_Asset.mk 1 (S_api_Mesh.mk m.gVerts m.gUvs m.gTris) zTex zMat zLig) ⟨by dsimp only; have := h2.nv; omega, by dsimp only; have := h2.nv; have := h2.nu; omega, by dsimp only; have := h2.nt; omega, by simp [zTex]⟩ rfl (fun _ => ?_) fun a' g hk' e => ?_
   ·rw [h1]; rfl
   ·have hc := g.clean.1 hk'
    have ho : MeshG a'.gMesh := by
     rcases g.own with ⟨_, o⟩ | ⟨o, _⟩ | ⟨o, _⟩ | ⟨o, _⟩
     ·exact o
     ·rw [hk'] at o; cases o
     ·rw [hk'] at o; cases o
     ·rw [hk'] at o; cases o
    have he : assB a' = meshB a'.gMesh := by unfold assB; rw [if_pos hk']
    have := (meshB_inj (x := []) (x' := []) h2.r ho.r (by rw [List.append_nil, List.append_nil, ← h1, e, he])).1
    rw [hc, ← this]
  ·rw [show (e != 0) = true by simpa using h1, cond_true, letO_e]
   refine T.ret (.inr ⟨h1, rfl, fun a' g hk' he => ?_⟩)
   have ho : MeshG a'.gMesh := by
    rcases g.own with ⟨_, o⟩ | ⟨o, _⟩ | ⟨o, _⟩ | ⟨o, _⟩
    ·exact o
    ·rw [hk'] at o; cases o
    ·rw [hk'] at o; cases o
    ·rw [hk'] at o; cases o
   have he' : assB a' = meshB a'.gMesh := by unfold assB; rw [if_pos hk']
   refine h3 a'.gMesh ho.r (by rw [he, he']) ?_
   have h9 := g.own0
   unfold p_asset_own at h9
   rw [hk', show ((1 : Int) == 1) = true from rfl, cond_true] at h9
   cases hc : p_mesh_Check N a'.gMesh with
   | none => rw [hc] at h9; cases h9
   | some r => rw [hc] at h9; exact h9
 ·rw [show ((2 : Int) == 1) = false from rfl, show ((2 : Int) == 2) = true from rfl, cond_false, cond_true]
  obtain ⟨⟨m, e⟩, h0, h⟩ := texDecT N hN b hb hl
  rw [h0, Option.bind_some, Option.bind_some]
  dsimp only at h ⊢
  rw [letO_e]
  rcases h with ⟨rfl, h1, h2⟩ | ⟨h1, rfl, h3⟩
  ·rw [show ((0 : Int) != 0) = false from rfl, cond_false]
   have hn : m.gTexels.length ≤ 500 := by
    have a1 := h2.side
    have a2 := h2.n
    have : m.gSide * m.gSide ≤ 16 * 16 := Int.mul_le_mul a1.2 a1.2 (by omega) (by decide)
    omega
   refine fin (S_api_Asset.mk 2 zMesh (S_api_Texture.mk m.gSide m.gTexels) zMat zLig) ⟨by simp [zMesh], by simp [zMesh], by simp [zMesh], hn⟩ rfl (fun _ => ?_) fun a' g hk' e => ?_
   ·rw [h1]; rfl
   ·have hc := g.clean.2.1 hk'
    have ho : TexG a'.gTexture := by
     rcases g.own with ⟨o, _⟩ | ⟨_, o⟩ | ⟨o, _⟩ | ⟨o, _⟩
     ·rw [hk'] at o; cases o
     ·exact o
     ·rw [hk'] at o; cases o
     ·rw [hk'] at o; cases o
    have he : assB a' = texB a'.gTexture := by unfold assB; rw [if_neg (by omega), if_pos hk']
    have := (texB_inj (x := []) (x' := []) h2.r ho.r (by rw [List.append_nil, List.append_nil, ← h1, e, he])).1
    rw [hc, ← this]
  ·rw [show (e != 0) = true by simpa using h1, cond_true, letO_e]
   refine T.ret (.inr ⟨h1, rfl, fun a' g hk' he => ?_⟩)
   have ho : TexG a'.gTexture := by
    rcases g.own with ⟨o, _⟩ | ⟨_, o⟩ | ⟨o, _⟩ | ⟨o, _⟩
    ·rw [hk'] at o; cases o
    ·exact o
    ·rw [hk'] at o; cases o
    ·rw [hk'] at o; cases o
   have hn : a'.gTexture.gTexels.length ≤ 500 := by
    have a1 := ho.side
    have a2 := ho.n
    have : a'.gTexture.gSide * a'.gTexture.gSide ≤ 16 * 16 := Int.mul_le_mul a1.2 a1.2 (by omega) (by decide)
    omega
   have he' : assB a' = texB a'.gTexture := by unfold assB; rw [if_neg (by omega), if_pos hk']
   refine h3 a'.gTexture ho.r hn (by rw [he, he']) ?_
   have h9 := g.own0
   unfold p_asset_own at h9
   rw [hk', show ((2 : Int) == 1) = false from rfl, show ((2 : Int) == 2) = true from rfl, cond_false, cond_true] at h9
   cases hc : p_texture_Check N a'.gTexture with
   | none => rw [hc] at h9; cases h9
   | some r => rw [hc] at h9; exact h9
 ·rw [show ((3 : Int) == 1) = false from rfl, show ((3 : Int) == 2) = false from rfl, show ((3 : Int) == 3) = true from rfl, cond_false, cond_false, cond_true]
  obtain ⟨⟨b5, e5, v5⟩, k5, h5, _, _⟩ := uintA N (by omega) 1 (by decide) (by decide) b 0 hb
  rw [show p_asset_decoder_uint_srzd N 1 (S_codec_Reader.mk b 0 true) = _ from k5, Option.bind_some]
  dsimp only at h5 ⊢
  obtain ⟨⟨b6, e6, m6, v6⟩, k6, h6, hm6⟩ := threeT N (by omega) 2 (by decide) (by decide) b5 e5 h5.1
  rw [show p_asset_decoder_three_srzd N 2 (S_codec_Reader.mk b5 e5 true) = _ from k6, Option.bind_some]
  dsimp only at h6 hm6 ⊢
  subst hm6
  obtain ⟨⟨b7, e7, v7⟩, k7, h7, _, _⟩ := uintA N (by omega) 2 (by decide) (by decide) b6 e6 h6.1
  rw [show p_asset_decoder_uint_srzd N 2 (S_codec_Reader.mk b6 e6 true) = _ from k7, Option.bind_some]
  dsimp only at h7 ⊢
  have hq := (h5.seq (fun x => leB_len 1 x) h6).seq (c := 7) (fun x => by simp [leB_len, trB_len]) h7
  obtain ⟨c, k8, h8⟩ := endQ N hq
  rw [k8, Option.bind_some, Option.bind_some]
  dsimp only
  rw [letO_e]
  have eB : ∀ m : S_api_Material, m = S_api_Material.mk v5 v6 v7 → (leB 1 v5 ++ trB 2 v6) ++ leB 2 v7 = matB m := by rintro m rfl; unfold matB; rw [List.append_assoc]
  rcases h8 with ⟨rfl, h1, ⟨g1, g2⟩, g3⟩ | ⟨h1, h2⟩
  ·rw [show ((0 : Int) != 0) = false from rfl, cond_false]
   have G : MatG (S_api_Material.mk v5 v6 v7) := ⟨g1, g2, g3⟩
   refine fin (S_api_Asset.mk 3 zMesh zTex (S_api_Material.mk v5 v6 v7) zLig) ⟨by simp [zMesh], by simp [zMesh], by simp [zMesh], by simp [zTex]⟩ rfl (fun _ => ?_) fun a' g hk' e => ?_
   ·rw [h1]; exact eB _ rfl
   ·have hc := g.clean.2.2.1 hk'
    have ho : MatG a'.gMaterial := by
     rcases g.own with ⟨o, _⟩ | ⟨o, _⟩ | ⟨_, o⟩ | ⟨o, _⟩
     ·rw [hk'] at o; cases o
     ·rw [hk'] at o; cases o
     ·exact o
     ·rw [hk'] at o; cases o
    have he : assB a' = matB a'.gMaterial := by unfold assB; rw [if_neg (by omega), if_neg (by omega), if_pos hk']
    have := (matB_inj (x := []) (x' := []) G ho (by rw [List.append_nil, List.append_nil, ← he, ← e, h1]; exact (eB _ rfl).symm)).1
    rw [hc, ← this]
  ·rw [show (c != 0) = true by simpa using h1, cond_true, letO_e]
   refine T.ret (.inr ⟨h1, rfl, fun a' g hk' he => ?_⟩)
   have ho : MatG a'.gMaterial := by
    rcases g.own with ⟨o, _⟩ | ⟨o, _⟩ | ⟨_, o⟩ | ⟨o, _⟩
    ·rw [hk'] at o; cases o
    ·rw [hk'] at o; cases o
    ·exact o
    ·rw [hk'] at o; cases o
   have he' : assB a' = matB a'.gMaterial := by unfold assB; rw [if_neg (by omega), if_neg (by omega), if_pos hk']
   rw [he'] at he
   rcases h2 with h2 | ⟨t, ht, h2, ⟨g1, g2⟩, g3⟩
   ·rw [he, matB_len] at h2; omega
   ·rw [he] at h2
    have h2' : matB a'.gMaterial = (leB 1 v5 ++ trB 2 v6) ++ leB 2 v7 ++ t := h2
    rw [eB _ rfl] at h2'
    have := (matB_inj (x := []) (x' := t) ho (show MatG (S_api_Material.mk v5 v6 v7) from ⟨g1, g2, g3⟩) (by rw [List.append_nil]; exact h2')).2
    exact ht this.symm
 ·rw [show ((4 : Int) == 1) = false from rfl, show ((4 : Int) == 2) = false from rfl, show ((4 : Int) == 3) = false from rfl, show ((4 : Int) == 4) = true from rfl, cond_false, cond_false, cond_false, cond_true]
  obtain ⟨⟨b5, e5, v5⟩, k5, h5, _, _⟩ := uintA N (by omega) 1 (by decide) (by decide) b 0 hb
  rw [show p_asset_decoder_uint_srzd N 1 (S_codec_Reader.mk b 0 true) = _ from k5, Option.bind_some]
  dsimp only at h5 ⊢
  obtain ⟨⟨b6, e6, m6, v6⟩, k6, h6, hm6⟩ := threeT N (by omega) 4 (by decide) (by decide) b5 e5 h5.1
  rw [show p_asset_decoder_three_srzd N 4 (S_codec_Reader.mk b5 e5 true) = _ from k6, Option.bind_some]
  dsimp only at h6 hm6 ⊢
  subst hm6
  obtain ⟨⟨b7, e7, m7, v7⟩, k7, h7, hm7⟩ := pointA N (by omega) b6 e6 h6.1
  rw [k7, Option.bind_some]
  dsimp only at h7 hm7 ⊢
  subst hm7
  obtain ⟨⟨b8, e8, m8, v8⟩, k8, h8, hm8⟩ := pointA N (by omega) b7 e7 h7.1
  rw [k8, Option.bind_some]
  dsimp only at h8 hm8 ⊢
  subst hm8
  obtain ⟨⟨b9, e9, m9, v9⟩, k9, h9, hm9⟩ := pointA N (by omega) b8 e8 h8.1
  rw [k9, Option.bind_some]
  dsimp only at h9 hm9 ⊢
  subst hm9
  have hq := (((h5.seq (fun x => leB_len 1 x) h6).seq (c := 13) (fun x => by simp [leB_len, trB_len]) h7).seq (c := 19) (fun x => by simp [leB_len, trB_len, ptB_len]) h8).seq (c := 25) (fun x => by simp [leB_len, trB_len, ptB_len]) h9
  obtain ⟨c, k10, h10⟩ := endQ N hq
  rw [k10, Option.bind_some, Option.bind_some]
  dsimp only
  rw [letO_e]
  have eB : ∀ m : S_api_Light, m = S_api_Light.mk v5 v6 v7 v8 v9 → (((leB 1 v5 ++ trB 4 v6) ++ ptB v7) ++ ptB v8) ++ ptB v9 = ligB m := by rintro m rfl; unfold ligB; simp [List.append_assoc]
  rcases h10 with ⟨rfl, h1, ⟨⟨⟨⟨g1, g2⟩, g3⟩, g4⟩, g5⟩⟩ | ⟨h1, h2⟩
  ·rw [show ((0 : Int) != 0) = false from rfl, cond_false]
   have G : LigR (S_api_Light.mk v5 v6 v7 v8 v9) := ⟨g1, g2, g3, g4, g5⟩
   refine fin (S_api_Asset.mk 4 zMesh zTex zMat (S_api_Light.mk v5 v6 v7 v8 v9)) ⟨by simp [zMesh], by simp [zMesh], by simp [zMesh], by simp [zTex]⟩ rfl (fun _ => ?_) fun a' g hk' e => ?_
   ·rw [h1]; exact eB _ rfl
   ·have hc := g.clean.2.2.2 hk'
    have ho : LigG a'.gLight := by
     rcases g.own with ⟨o, _⟩ | ⟨o, _⟩ | ⟨o, _⟩ | ⟨_, o⟩
     ·rw [hk'] at o; cases o
     ·rw [hk'] at o; cases o
     ·rw [hk'] at o; cases o
     ·exact o
    have he : assB a' = ligB a'.gLight := by unfold assB; rw [if_neg (by omega), if_neg (by omega), if_neg (by omega)]
    have := (ligB_inj (x := []) (x' := []) G ho.r (by rw [List.append_nil, List.append_nil, ← he, ← e, h1]; exact (eB _ rfl).symm)).1
    rw [hc, ← this]
  ·rw [show (c != 0) = true by simpa using h1, cond_true, letO_e]
   refine T.ret (.inr ⟨h1, rfl, fun a' g hk' he => ?_⟩)
   have ho : LigG a'.gLight := by
    rcases g.own with ⟨o, _⟩ | ⟨o, _⟩ | ⟨o, _⟩ | ⟨_, o⟩
    ·rw [hk'] at o; cases o
    ·rw [hk'] at o; cases o
    ·rw [hk'] at o; cases o
    ·exact o
   have he' : assB a' = ligB a'.gLight := by unfold assB; rw [if_neg (by omega), if_neg (by omega), if_neg (by omega)]
   rw [he'] at he
   rcases h2 with h2 | ⟨t, ht, h2, ⟨⟨⟨⟨g1, g2⟩, g3⟩, g4⟩, g5⟩⟩
   ·rw [he, ligB_len] at h2; omega
   ·rw [he] at h2
    have h2' : ligB a'.gLight = (((leB 1 v5 ++ trB 4 v6) ++ ptB v7) ++ ptB v8) ++ ptB v9 ++ t := h2
    rw [eB _ rfl] at h2'
    have := (ligB_inj (x := []) (x' := t) ho.r (show LigR (S_api_Light.mk v5 v6 v7 v8 v9) from ⟨g1, g2, g3, g4, g5⟩) (by rw [List.append_nil]; exact h2')).2
    exact ht this.symm
 ·rw [show (k == 1) = false by simpa using n1, show (k == 2) = false by simpa using n2, show (k == 3) = false by simpa using n3, show (k == 4) = false by simpa using n4, cond_false, cond_false, cond_false, cond_false, Option.bind_some]
  dsimp only
  rw [letO_e, show ((0 : Int) != 0) = false from rfl, cond_false]
  have no : ∀ a : S_api_Asset, a.gKind = k → ¬ OwnG a := by
   intro a hk g
   rcases g with ⟨g, _⟩ | ⟨g, _⟩ | ⟨g, _⟩ | ⟨g, _⟩ <;> omega
  exact fin (S_api_Asset.mk k zMesh zTex zMat zLig) ⟨by simp [zMesh], by simp [zMesh], by simp [zMesh], by simp [zTex]⟩ rfl (fun g => absurd g (no _ rfl)) fun a' g hk' e => absurd g.own (no _ hk')
end Go.UK

