/- A part of the proof: what the functions of the program compute. -/
import Derived.Test.YtljnaeghnleipaaRB
namespace Go.UK
open Go Go.Proofs
set_option maxRecDepth 20000
set_option maxHeartbeats 1000000
set_option linter.all false
def OwnG (a : S_api_Asset) : Prop := (a.gKind = 1 ∧ MeshG a.gMesh) ∨ (a.gKind = 2 ∧ TexG a.gTexture) ∨ (a.gKind = 3 ∧ MatG a.gMaterial) ∨ (a.gKind = 4 ∧ LigG a.gLight)
def assB (a : S_api_Asset) : List Int := if a.gKind = 1 then meshB a.gMesh else if a.gKind = 2 then texB a.gTexture else if a.gKind = 3 then matB a.gMaterial else ligB a.gLight
theorem ownT (N : Nat) (hN : 1000 < N) (a : S_api_Asset) (h : AssL a) : T (p_asset_own N a) (fun c => c = 0 → OwnG a) := by
 unfold p_asset_own
 refine T.cond (fun c => ?_) fun _ => T.cond (fun c => ?_) fun _ => T.cond (fun c => ?_) fun _ => T.cond (fun c => ?_) fun _ => T.ret fun e => by cases e
 ·exact T.bind (meshT N hN _ h.v h.u h.t) fun r hr => T.ret fun e => .inl ⟨by simpa using c, hr e⟩
 ·exact T.bind (texT N hN _ h.x) fun r hr => T.ret fun e => .inr (.inl ⟨by simpa using c, hr e⟩)
 ·exact T.bind (matT N hN _) fun r hr => T.ret fun e => .inr (.inr (.inl ⟨by simpa using c, hr e⟩))
 ·exact T.bind (ligT N hN _) fun r hr => T.ret fun e => .inr (.inr (.inr ⟨by simpa using c, hr e⟩))
theorem assE (N : Nat) (hN : 1000 < N) (a : S_api_Asset) (g : OwnG a) (h0 : p_asset_own N a = some 0) : p_asset_encode N a = some (assB a) := by
 unfold p_asset_encode assB
 unfold p_asset_own at h0
 rcases g with ⟨k, g⟩ | ⟨k, g⟩ | ⟨k, g⟩ | ⟨k, g⟩
 ·rw [k] at h0 ⊢
  rw [show ((1 : Int) == 1) = true from rfl, cond_true] at h0 ⊢
  have h1 : p_mesh_Check N a.gMesh = some 0 := by
   cases hc : p_mesh_Check N a.gMesh with
   | none => rw [hc] at h0; cases h0
   | some r => rw [hc] at h0; exact h0
  rw [meshE N hN _ g h1, if_pos rfl]
  rfl
 ·rw [k] at h0 ⊢
  rw [show ((2 : Int) == 1) = false from rfl, show ((2 : Int) == 2) = true from rfl, cond_false, cond_true] at h0 ⊢
  have h1 : p_texture_Check N a.gTexture = some 0 := by
   cases hc : p_texture_Check N a.gTexture with
   | none => rw [hc] at h0; cases h0
   | some r => rw [hc] at h0; exact h0
  rw [texE N hN _ g h1, if_neg (by decide), if_pos rfl]
  rfl
 ·rw [k, show ((3 : Int) == 1) = false from rfl, show ((3 : Int) == 2) = false from rfl, show ((3 : Int) == 3) = true from rfl, cond_false, cond_false, cond_true, if_neg (by decide), if_neg (by decide), if_pos rfl]
  obtain ⟨g1, ⟨g2, g3, g4⟩, g5⟩ := g
  rw [show inRO 0 3 = some () from rfl, Option.bind_some, show a.gMaterial.gColor.toList[((0 : Int).toNat)]? = some a.gMaterial.gColor[0] from vget _ 0 (by decide), Option.bind_some, show inRO 1 3 = some () from rfl, Option.bind_some, show a.gMaterial.gColor.toList[((1 : Int).toNat)]? = some a.gMaterial.gColor[1] from vget _ 1 (by decide), Option.bind_some, show inRO 2 3 = some () from rfl, Option.bind_some, show a.gMaterial.gColor.toList[((2 : Int).toNat)]? = some a.gMaterial.gColor[2] from vget _ 2 (by decide), Option.bind_some, U8_id g1.1 g1.2]
  have l := loopFlat0 4 (by decide) (fun i => leB 2 ([a.gMaterial.gColor[0], a.gMaterial.gColor[1], a.gMaterial.gColor[2], a.gMaterial.gRough].getD i 0)) (fun s i => s.length ≤ 100 + 2 * i) (p_asset_encode_L1 N a.gMaterial.gColor[0] a.gMaterial.gColor[1] a.gMaterial.gColor[2] a) (by intro s i hi hs; simp [leB_len]; omega) (fun k s i hi hs => by
   rw [p_asset_encode_L1, dt (by omega), cond_true, idx_D (by simp; omega), Option.bind_some]
   have hx : 0 ≤ [a.gMaterial.gColor[0], a.gMaterial.gColor[1], a.gMaterial.gColor[2], a.gMaterial.gRough].getD i 0 ∧ [a.gMaterial.gColor[0], a.gMaterial.gColor[1], a.gMaterial.gColor[2], a.gMaterial.gRough].getD i 0 < 65536 := by
    have : i = 0 ∨ i = 1 ∨ i = 2 ∨ i = 3 := by omega
    rcases this with rfl | rfl | rfl | rfl
    ·exact g2
    ·exact g3
    ·exact g4
    ·exact g5
   rw [U64_id hx.1 (by omega)]
   have e := put1 N (by omega) s 2 (by decide) (by decide) _ hx.1 hx.2 (by omega)
   rw [show p_codec_Put N s 2 _ = _ from e, Option.bind_some]) (fun k s => by rw [p_asset_encode_L1, df (by omega), cond_false]) (N := N) (by omega) (s := [a.gMaterial.gKind]) (by simp)
  rw [l, Option.bind_some]
  unfold matB trB
  rw [leB1 g1]
  rfl
 ·rw [k, show ((4 : Int) == 1) = false from rfl, show ((4 : Int) == 2) = false from rfl, show ((4 : Int) == 3) = false from rfl, cond_false, cond_false, cond_false, if_neg (by decide), if_neg (by decide), if_neg (by decide)]
  obtain ⟨g1, ⟨g2, g3, g4⟩, g5, g6, g7⟩ := g
  rw [show inRO 0 3 = some () from rfl, Option.bind_some, show a.gLight.gColor.toList[((0 : Int).toNat)]? = some a.gLight.gColor[0] from vget _ 0 (by decide), Option.bind_some, show inRO 1 3 = some () from rfl, Option.bind_some, show a.gLight.gColor.toList[((1 : Int).toNat)]? = some a.gLight.gColor[1] from vget _ 1 (by decide), Option.bind_some, show inRO 2 3 = some () from rfl, Option.bind_some, show a.gLight.gColor.toList[((2 : Int).toNat)]? = some a.gLight.gColor[2] from vget _ 2 (by decide), Option.bind_some, U8_id g1.1 g1.2]
  rw [U64_id g2.1 (by omega), U64_id g3.1 (by omega), U64_id g4.1 (by omega)]
  have e := put3 N (by omega) [a.gLight.gKind] 4 (by decide) (by decide) a.gLight.gColor[0] a.gLight.gColor[1] a.gLight.gColor[2] g2 g3 g4 (by simp)
  rw [show p_codec_Put N [a.gLight.gKind] 4 [a.gLight.gColor[0], a.gLight.gColor[1], a.gLight.gColor[2]] = _ from e, Option.bind_some]
  have l := loopFlat0 3 (by decide) (fun i => ptB ([a.gLight.gAt, a.gLight.gU, a.gLight.gV].getD i ⟨0, 0, 0⟩)) (fun s i => s.length ≤ 100 + 6 * i) (p_asset_encode_L2 N a) (by intro s i hi hs; simp [ptB_len]; omega) (fun k s i hi hs => by
   rw [p_asset_encode_L2, dt (by omega), cond_true, idx_at (by simp; omega), Option.bind_some]
   have hx : ptG ([a.gLight.gAt, a.gLight.gU, a.gLight.gV][i]'(by simp; omega)) := by
    have : i = 0 ∨ i = 1 ∨ i = 2 := by omega
    rcases this with rfl | rfl | rfl
    ·exact g5
    ·exact g6
    ·exact g7
   rw [sgn3 N (by omega) s _ hx (by omega), Option.bind_some]
   rw [List.getD_eq_getElem?_getD, List.getElem?_eq_getElem (by simp; omega)]
   rfl) (fun k s => by rw [p_asset_encode_L2, df (by omega), cond_false]) (N := N) (by omega) (s := [a.gLight.gKind] ++ (leB 4 a.gLight.gColor[0] ++ (leB 4 a.gLight.gColor[1] ++ leB 4 a.gLight.gColor[2]))) (by simp [leB_len])
  rw [l, Option.bind_some]
  unfold ligB trB
  rw [leB1 g1]
  show some (_ ++ (List.range 3).flatMap _) = _
  rw [show (List.range 3).flatMap (fun i => ptB ([a.gLight.gAt, a.gLight.gU, a.gLight.gV].getD i ⟨0, 0, 0⟩)) = ptB a.gLight.gAt ++ (ptB a.gLight.gU ++ ptB a.gLight.gV) by
   simp [List.range_succ, List.flatMap_cons]]
  simp [List.append_assoc]
def zMesh : S_api_Mesh := S_api_Mesh.mk [] [] []
def zTex : S_api_Texture := S_api_Texture.mk 0 []
def zMat : S_api_Material := S_api_Material.mk 0 (#v[0, 0, 0]) 0
def zPt : S_api_Point := S_api_Point.mk 0 0 0
def zLig : S_api_Light := S_api_Light.mk 0 (#v[0, 0, 0]) zPt zPt zPt
def zA (k : Int) : S_api_Asset := S_api_Asset.mk k zMesh zTex zMat zLig
def CleanA (a : S_api_Asset) : Prop := (a.gKind = 1 → a = S_api_Asset.mk 1 a.gMesh zTex zMat zLig) ∧ (a.gKind = 2 → a = S_api_Asset.mk 2 zMesh a.gTexture zMat zLig) ∧ (a.gKind = 3 → a = S_api_Asset.mk 3 zMesh zTex a.gMaterial zLig) ∧ (a.gKind = 4 → a = S_api_Asset.mk 4 zMesh zTex zMat a.gLight)
theorem bareT (N : Nat) (a : S_api_Asset) (h : AssL a) : T (p_asset_bare N a) (fun b => AssL b ∧ (b = zA a.gKind → CleanA a) ∧ (CleanA a → OwnG a → b = zA a.gKind)) := by
 obtain ⟨k, ⟨v, u, t⟩, ⟨s, x⟩, ⟨mk, mc, mr⟩, ⟨lk, lc, ⟨ax, ay, az⟩, ⟨ux, uy, uz⟩, ⟨vx, vy, vz⟩⟩⟩ := a
 obtain ⟨h1, h2, h3, h4⟩ := h
 unfold p_asset_bare
 dsimp only at h1 h2 h3 h4 ⊢
 have hk : k = 1 ∨ k = 2 ∨ k = 3 ∨ k = 4 ∨ (k ≠ 1 ∧ k ≠ 2 ∧ k ≠ 3 ∧ k ≠ 4) := by omega
 rcases hk with rfl | rfl | rfl | rfl | ⟨n1, n2, n3, n4⟩
 ·rw [show ((1 : Int) == 1) = true from rfl, cond_true, Option.bind_some]
  refine T.ret ⟨⟨by simp, by simp, by simp, h4⟩, fun e => ?_, fun e _ => ?_⟩
  ·simp only [zA, zMesh, zTex, zMat, zLig, zPt, S_api_Asset.mk.injEq, S_api_Texture.mk.injEq, S_api_Material.mk.injEq, S_api_Light.mk.injEq, S_api_Point.mk.injEq] at e
   refine ⟨fun _ => ?_, fun h => (by cases h), fun h => (by cases h), fun h => by cases h⟩
   simp only [zA, zMesh, zTex, zMat, zLig, zPt, S_api_Asset.mk.injEq, S_api_Texture.mk.injEq, S_api_Material.mk.injEq, S_api_Light.mk.injEq, S_api_Point.mk.injEq]
   simp [e]
  ·have e := e.1 rfl
   simp only [zA, zMesh, zTex, zMat, zLig, zPt, S_api_Asset.mk.injEq, S_api_Texture.mk.injEq, S_api_Material.mk.injEq, S_api_Light.mk.injEq, S_api_Point.mk.injEq] at e ⊢
   simp [e]
 ·rw [show ((2 : Int) == 1) = false from rfl, show ((2 : Int) == 2) = true from rfl, cond_false, cond_true, Option.bind_some]
  refine T.ret ⟨⟨h1, h2, h3, by simp⟩, fun e => ?_, fun e _ => ?_⟩
  ·simp only [zA, zMesh, zTex, zMat, zLig, zPt, S_api_Asset.mk.injEq, S_api_Mesh.mk.injEq, S_api_Texture.mk.injEq, S_api_Material.mk.injEq, S_api_Light.mk.injEq, S_api_Point.mk.injEq] at e
   refine ⟨fun h => (by cases h), fun _ => ?_, fun h => (by cases h), fun h => by cases h⟩
   simp only [zA, zMesh, zTex, zMat, zLig, zPt, S_api_Asset.mk.injEq, S_api_Mesh.mk.injEq, S_api_Texture.mk.injEq, S_api_Material.mk.injEq, S_api_Light.mk.injEq, S_api_Point.mk.injEq]
   simp [e]
  ·have e := e.2.1 rfl
   simp only [zA, zMesh, zTex, zMat, zLig, zPt, S_api_Asset.mk.injEq, S_api_Mesh.mk.injEq, S_api_Texture.mk.injEq, S_api_Material.mk.injEq, S_api_Light.mk.injEq, S_api_Point.mk.injEq] at e ⊢
   simp [e]
 ·rw [show ((3 : Int) == 1) = false from rfl, show ((3 : Int) == 2) = false from rfl, show ((3 : Int) == 3) = true from rfl, cond_false, cond_false, cond_true, Option.bind_some]
  refine T.ret ⟨⟨h1, h2, h3, h4⟩, fun e => ?_, fun e _ => ?_⟩
  ·simp only [zA, zMesh, zTex, zMat, zLig, zPt, S_api_Asset.mk.injEq, S_api_Mesh.mk.injEq, S_api_Texture.mk.injEq, S_api_Material.mk.injEq, S_api_Light.mk.injEq, S_api_Point.mk.injEq] at e
   refine ⟨fun h => (by cases h), fun h => (by cases h), fun _ => ?_, fun h => by cases h⟩
   simp only [zA, zMesh, zTex, zMat, zLig, zPt, S_api_Asset.mk.injEq, S_api_Mesh.mk.injEq, S_api_Texture.mk.injEq, S_api_Material.mk.injEq, S_api_Light.mk.injEq, S_api_Point.mk.injEq]
   simp [e]
  ·have e := e.2.2.1 rfl
   simp only [zA, zMesh, zTex, zMat, zLig, zPt, S_api_Asset.mk.injEq, S_api_Mesh.mk.injEq, S_api_Texture.mk.injEq, S_api_Material.mk.injEq, S_api_Light.mk.injEq, S_api_Point.mk.injEq] at e ⊢
   simp [e]
 ·rw [show ((4 : Int) == 1) = false from rfl, show ((4 : Int) == 2) = false from rfl, show ((4 : Int) == 3) = false from rfl, show ((4 : Int) == 4) = true from rfl, cond_false, cond_false, cond_false, cond_true, Option.bind_some]
  refine T.ret ⟨⟨h1, h2, h3, h4⟩, fun e => ?_, fun e _ => ?_⟩
  ·simp only [zA, zMesh, zTex, zMat, zLig, zPt, S_api_Asset.mk.injEq, S_api_Mesh.mk.injEq, S_api_Texture.mk.injEq, S_api_Material.mk.injEq, S_api_Light.mk.injEq, S_api_Point.mk.injEq] at e
   refine ⟨fun h => (by cases h), fun h => (by cases h), fun h => (by cases h), fun _ => ?_⟩
   simp only [zA, zMesh, zTex, zMat, zLig, zPt, S_api_Asset.mk.injEq, S_api_Mesh.mk.injEq, S_api_Texture.mk.injEq, S_api_Material.mk.injEq, S_api_Light.mk.injEq, S_api_Point.mk.injEq]
   simp [e]
  ·have e := e.2.2.2 rfl
   simp only [zA, zMesh, zTex, zMat, zLig, zPt, S_api_Asset.mk.injEq, S_api_Mesh.mk.injEq, S_api_Texture.mk.injEq, S_api_Material.mk.injEq, S_api_Light.mk.injEq, S_api_Point.mk.injEq] at e ⊢
   simp [e]
 ·rw [show (k == 1) = false by simpa using n1, show (k == 2) = false by simpa using n2, show (k == 3) = false by simpa using n3, show (k == 4) = false by simpa using n4, cond_false, cond_false, cond_false, cond_false, Option.bind_some]
  refine T.ret ⟨⟨h1, h2, h3, h4⟩, fun _ => ⟨fun h => absurd h n1, fun h => absurd h n2, fun h => absurd h n3, fun h => absurd h n4⟩, fun _ g => ?_⟩
  rcases g with ⟨g, _⟩ | ⟨g, _⟩ | ⟨g, _⟩ | ⟨g, _⟩
  ·exact absurd g n1
  ·exact absurd g n2
  ·exact absurd g n3
  ·exact absurd g n4
structure GoodA (N : Nat) (a : S_api_Asset) : Prop where
 own0 : p_asset_own N a = some 0
 own : OwnG a
 clean : CleanA a
 cap : ((assB a).length : Int) ≤ capV a.gKind
theorem checkT (N : Nat) (hN : 1000 < N) (a : S_api_Asset) (h : AssL a) : T (p_asset_Check N a) (fun c => (c = 0 → GoodA N a) ∧ (GoodA N a → c = 0)) := by
 unfold p_asset_Check
 obtain ⟨r1, e1, h1⟩ := ownT N hN a h
 rw [e1, Option.bind_some]
 refine T.cond (fun c => T.ret ⟨fun e => ?_, fun g => ?_⟩) fun c => ?_
 ·subst e; cases c
 ·have := g.own0
  rw [e1] at this
  cases this
  cases c
 ·have hr : r1 = 0 := by simpa using c
  subst hr
  have hown := h1 rfl
  obtain ⟨b, eb, hb1, hb2, hb3⟩ := bareT N a h
  rw [eb, Option.bind_some]
  obtain ⟨r3, e3, h3⟩ := sameT N hN b (zA a.gKind) hb1
  rw [show p_asset_Same N b (S_api_Asset.mk a.gKind (S_api_Mesh.mk [] [] []) (S_api_Texture.mk 0 []) (S_api_Material.mk 0 (#v[0, 0, 0]) 0) (S_api_Light.mk 0 (#v[0, 0, 0]) (S_api_Point.mk 0 0 0) (S_api_Point.mk 0 0 0) (S_api_Point.mk 0 0 0))) = some r3 from e3, Option.bind_some]
  refine T.cond (fun c3 => T.ret ⟨fun e => (by cases e), fun g => ?_⟩) fun c3 => ?_
  ·have := h3.2 (hb3 g.clean g.own)
   rw [this] at c3
   cases c3
  ·have hr3 : r3 = true := by simpa using c3
   have hclean := hb2 (h3.1 hr3)
   rw [assE N hN a hown e1, Option.bind_some, capP, Option.bind_some]
   refine T.letO fun x hx => ?_
   subst hx
   refine T.cond (fun c4 => T.ret ⟨fun e => (by cases e), fun g => ?_⟩) fun c4 => T.ret ⟨fun _ => ⟨e1, hown, hclean, ?_⟩, fun _ => rfl⟩
   ·have := g.cap
    have := of_decide_eq_true c4
    omega
   ·have := of_decide_eq_false c4
    omega
theorem encodeT (N : Nat) (hN : 1000 < N) (a : S_api_Asset) (h : AssL a) : T (p_asset_Encode N a) (fun r => (r.2 = 0 ∧ GoodA N a ∧ r.1 = assB a) ∨ (r.2 ≠ 0 ∧ r.1 = [] ∧ ¬ GoodA N a)) := by
 unfold p_asset_Encode
 refine T.bind (checkT N hN a h) fun c hc => T.cond (fun e => T.ret ?_) fun e => ?_
 ·have e : c ≠ 0 := by simpa using e
  exact .inr ⟨e, rfl, fun g => e (hc.2 g)⟩
 ·have e : c = 0 := by simpa using e
  have g := hc.1 e
  rw [assE N hN a g.own g.own0, Option.bind_some]
  exact T.ret (.inl ⟨rfl, g, rfl⟩)
end Go.UK
namespace Go.UK
open Go Go.Proofs
set_option maxRecDepth 20000
set_option maxHeartbeats 1000000
set_option linter.all false
def RdQ {α : Type} (f : α → List Int) (P : α → Prop) (c : Nat) (b : List Int) (e : Int) (b' : List Int) (e' : Int) (x : α) : Prop :=
 bytesL b' ∧ b'.length ≤ b.length ∧ ((e' = 0 ∧ e = 0 ∧ b = f x ++ b' ∧ P x) ∨ (e' ≠ 0 ∧ (e = 0 → b.length < c)))
def ptR (p : S_api_Point) : Prop := (-32768 ≤ p.gX ∧ p.gX < 32768) ∧ (-32768 ≤ p.gY ∧ p.gY < 32768) ∧ (-32768 ≤ p.gZ ∧ p.gZ < 32768)
theorem ptG.r {p : S_api_Point} (h : ptG p) : ptR p := by obtain ⟨h1, h2, h3⟩ := h; exact ⟨⟨by omega, by omega⟩, ⟨by omega, by omega⟩, by omega, by omega⟩
structure MeshR (m : S_api_Mesh) : Prop where
 nv : m.gVerts.length < 256
 nt : m.gTris.length < 256
 nu : m.gUvs.length = m.gVerts.length
 v : ∀ p ∈ m.gVerts, ptR p
 u : ∀ p ∈ m.gUvs, uvG p
 t : ∀ p ∈ m.gTris, trG 256 p
theorem MeshG.r {m : S_api_Mesh} (g : MeshG m) : MeshR m := ⟨by have := g.nv; omega, by have := g.nt; omega, g.nu, fun p h => (g.v p h).r, g.u, g.t⟩
end Go.UK
namespace Go.UK
open Go Go.Proofs
set_option maxRecDepth 20000
set_option maxHeartbeats 1000000
set_option linter.all false
structure TexR (t : S_api_Texture) : Prop where
 side : 0 ≤ t.gSide ∧ t.gSide < 256
 n : (t.gTexels.length : Int) = t.gSide * t.gSide
 t : ∀ p ∈ t.gTexels, trG 256 p
theorem TexG.r {t : S_api_Texture} (g : TexG t) : TexR t := ⟨⟨by have := g.side; omega, by have := g.side; omega⟩, g.n, g.t⟩
def LigR (l : S_api_Light) : Prop := (0 ≤ l.gKind ∧ l.gKind < 256) ∧ trG 4294967296 l.gColor ∧ ptR l.gAt ∧ ptR l.gU ∧ ptR l.gV
theorem LigG.r {l : S_api_Light} (g : LigG l) : LigR l := ⟨g.kind, g.color, g.at_.r, g.u.r, g.v.r⟩
end Go.UK
namespace Go.UK
open Go Go.Proofs
set_option maxRecDepth 20000
set_option maxHeartbeats 2000000
set_option linter.all false
theorem RdQ.seq {α β : Type} {f : α → List Int} {P : α → Prop} {c : Nat} {g : β → List Int} {Q : β → Prop} {d : Nat} {b b1 b2 : List Int} {e e1 e2 : Int} {x : α} {y : β} (hf : ∀ x, (f x).length = c) (h : RdQ f P c b e b1 e1 x) (k : RdQ g Q d b1 e1 b2 e2 y) : RdQ (fun p : α × β => f p.1 ++ g p.2) (fun p => P p.1 ∧ Q p.2) (c + d) b e b2 e2 (x, y) := by
 obtain ⟨h1, h2, h3⟩ := h
 obtain ⟨k1, k2, k3⟩ := k
 refine ⟨k1, by omega, ?_⟩
 rcases k3 with ⟨q1, q2, q3, q4⟩ | ⟨q1, q2⟩
 ·subst q2
  rcases h3 with ⟨_, i2, i3, i4⟩ | ⟨i1, _⟩
  ·exact .inl ⟨q1, i2, by rw [i3, q3, List.append_assoc], i4, q4⟩
  ·exact absurd rfl i1
 ·refine .inr ⟨q1, fun he => ?_⟩
  rcases h3 with ⟨i1, _, i3, _⟩ | ⟨_, i1⟩
  ·have hl := congrArg List.length i3
   rw [List.length_append, hf] at hl
   have := q2 i1
   omega
  ·have := i1 he
   omega
end Go.UK
