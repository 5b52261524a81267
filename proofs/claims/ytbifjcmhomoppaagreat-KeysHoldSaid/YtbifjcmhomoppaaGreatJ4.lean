/- A part of the proof: what the functions of the program compute. -/
import Derived.Test.YtbifjcmhomoppaaGreatJ3
namespace Go.UK
open Go Go.Proofs
set_option maxRecDepth 20000
set_option maxHeartbeats 1000000
set_option linter.all false
def OwnG (a : S_api_Asset) : Prop := (a.gKind = 1 ∧ MeshG a.gMesh) ∨ (a.gKind = 2 ∧ TexG a.gTexture) ∨ (a.gKind = 3 ∧ MatG a.gMaterial) ∨ (a.gKind = 4 ∧ LigG a.gLight)
def assB (a : S_api_Asset) : List Int := if a.gKind = 1 then meshB a.gMesh else if a.gKind = 2 then texB a.gTexture else if a.gKind = 3 then matB a.gMaterial else ligB a.gLight
theorem ownT (N : Nat) (hN : 1000 < N) (a : S_api_Asset) (h : AssL a) : T (p_asset_own N a) (fun c => c = 0 → OwnG a) := by
 unfold p_asset_own
 refine T.cond (fun c => ?_) fun _ => T.cond (fun c => ?_) fun _ => T.cond (fun c => ?_) fun _ => T.cond (fun c => ?_) fun _ => T.ret fun e => by cases e
 ·exact T.bind (meshT N hN _ h.v h.u h.t) fun r hr => T.ret fun e => .inl ⟨by simpa using c, hr e⟩
 ·exact T.bind (texT N hN _ h.x) fun r hr => T.ret fun e => .inr (.inl ⟨by simpa using c, hr e⟩)
 ·exact T.bind (matT N hN _) fun r hr => T.ret fun e => .inr (.inr (.inl ⟨by simpa using c, hr e⟩))
 ·exact T.bind (ligT N hN _) fun r hr => T.ret fun e => .inr (.inr (.inr ⟨by simpa using c, hr e⟩))
theorem assE (N : Nat) (hN : 1000 < N) (a : S_api_Asset) (g : OwnG a) (h0 : p_asset_own N a = some 0) : p_asset_encode N a = some (assB a) := by
 unfold p_asset_encode assB
 unfold p_asset_own at h0
 rcases g with ⟨k, g⟩ | ⟨k, g⟩ | ⟨k, g⟩ | ⟨k, g⟩
 ·rw [k] at h0 ⊢
  rw [show ((1 : Int) == 1) = true from rfl, cond_true] at h0 ⊢
  have h1 : p_mesh_Check N a.gMesh = some 0 := by
   cases hc : p_mesh_Check N a.gMesh with
   | none => rw [hc] at h0; cases h0
   | some r => rw [hc] at h0; exact h0
  rw [meshE N hN _ g h1, if_pos rfl]
  rfl
 ·rw [k] at h0 ⊢
  rw [show ((2 : Int) == 1) = false from rfl, show ((2 : Int) == 2) = true from rfl, cond_false, cond_true] at h0 ⊢
  have h1 : p_texture_Check N a.gTexture = some 0 := by
   cases hc : p_texture_Check N a.gTexture with
   | none => rw [hc] at h0; cases h0
   | some r => rw [hc] at h0; exact h0
  rw [texE N hN _ g h1, if_neg (by decide), if_pos rfl]
  rfl
 ·rw [k, show ((3 : Int) == 1) = false from rfl, show ((3 : Int) == 2) = false from rfl, show ((3 : Int) == 3) = true from rfl, cond_false, cond_false, cond_true, if_neg (by decide), if_neg (by decide), if_pos rfl]
  obtain ⟨g1, ⟨g2, g3, g4⟩, g5⟩ := g
  rw [show inRO 0 3 = some () from rfl, Option.bind_some, show a.gMaterial.gColor.toList[((0 : Int).toNat)]? = some a.gMaterial.gColor[0] from vget _ 0 (by decide), Option.bind_some, show inRO 1 3 = some () from rfl, Option.bind_some, show a.gMaterial.gColor.toList[((1 : Int).toNat)]? = some a.gMaterial.gColor[1] from vget _ 1 (by decide), Option.bind_some, show inRO 2 3 = some () from rfl, Option.bind_some, show a.gMaterial.gColor.toList[((2 : Int).toNat)]? = some a.gMaterial.gColor[2] from vget _ 2 (by decide), Option.bind_some, U8_id g1.1 g1.2]
  have l := loopFlat0 4 (by decide) (fun i => leB 2 ([a.gMaterial.gColor[0], a.gMaterial.gColor[1], a.gMaterial.gColor[2], a.gMaterial.gRough].getD i 0)) (fun s i => s.length ≤ 100 + 2 * i) (p_asset_encode_L1 N a.gMaterial.gColor[0] a.gMaterial.gColor[1] a.gMaterial.gColor[2] a) (by intro s i hi hs; simp [leB_len]; omega) (fun k s i hi hs => by
   rw [p_asset_encode_L1, dt (by omega), cond_true, idx_D (by simp; omega), Option.bind_some]
   have hx : 0 ≤ [a.gMaterial.gColor[0], a.gMaterial.gColor[1], a.gMaterial.gColor[2], a.gMaterial.gRough].getD i 0 ∧ [a.gMaterial.gColor[0], a.gMaterial.gColor[1], a.gMaterial.gColor[2], a.gMaterial.gRough].getD i 0 < 65536 := by
    have : i = 0 ∨ i = 1 ∨ i = 2 ∨ i = 3 := by omega
    rcases this with rfl | rfl | rfl | rfl
    ·exact g2
    ·exact g3
    ·exact g4
    ·exact g5
   rw [U64_id hx.1 (by omega)]
   have e := put1 N (by omega) s 2 (by decide) (by decide) _ hx.1 hx.2 (by omega)
   rw [show p_codec_Put N s 2 _ = _ from e, Option.bind_some]) (fun k s => by rw [p_asset_encode_L1, df (by omega), cond_false]) (N := N) (by omega) (s := [a.gMaterial.gKind]) (by simp)
  rw [l, Option.bind_some]
  unfold matB trB
  rw [leB1 g1]
  rfl
 ·rw [k, show ((4 : Int) == 1) = false from rfl, show ((4 : Int) == 2) = false from rfl, show ((4 : Int) == 3) = false from rfl, cond_false, cond_false, cond_false, if_neg (by decide), if_neg (by decide), if_neg (by decide)]
  obtain ⟨g1, ⟨g2, g3, g4⟩, g5, g6, g7⟩ := g
  rw [show inRO 0 3 = some () from rfl, Option.bind_some, show a.gLight.gColor.toList[((0 : Int).toNat)]? = some a.gLight.gColor[0] from vget _ 0 (by decide), Option.bind_some, show inRO 1 3 = some () from rfl, Option.bind_some, show a.gLight.gColor.toList[((1 : Int).toNat)]? = some a.gLight.gColor[1] from vget _ 1 (by decide), Option.bind_some, show inRO 2 3 = some () from rfl, Option.bind_some, show a.gLight.gColor.toList[((2 : Int).toNat)]? = some a.gLight.gColor[2] from vget _ 2 (by decide), Option.bind_some, U8_id g1.1 g1.2]
  rw [U64_id g2.1 (by omega), U64_id g3.1 (by omega), U64_id g4.1 (by omega)]
  have e := put3 N (by omega) [a.gLight.gKind] 4 (by decide) (by decide) a.gLight.gColor[0] a.gLight.gColor[1] a.gLight.gColor[2] g2 g3 g4 (by simp)
  rw [show p_codec_Put N [a.gLight.gKind] 4 [a.gLight.gColor[0], a.gLight.gColor[1], a.gLight.gColor[2]] = _ from e, Option.bind_some]
  have l := loopFlat0 3 (by decide) (fun i => ptB ([a.gLight.gAt, a.gLight.gU, a.gLight.gV].getD i ⟨0, 0, 0⟩)) (fun s i => s.length ≤ 100 + 6 * i) (p_asset_encode_L2 N a) (by intro s i hi hs; simp [ptB_len]; omega) (fun k s i hi hs => by
   rw [p_asset_encode_L2, dt (by omega), cond_true, idx_at (by simp; omega), Option.bind_some]
   have hx : ptG ([a.gLight.gAt, a.gLight.gU, a.gLight.gV][i]'(by simp; omega)) := by
    have : i = 0 ∨ i = 1 ∨ i = 2 := by omega
    rcases this with rfl | rfl | rfl
    ·exact g5
    ·exact g6
    ·exact g7
   rw [sgn3 N (by omega) s _ hx (by omega), Option.bind_some]
   rw [List.getD_eq_getElem?_getD, List.getElem?_eq_getElem (by simp; omega)]
   rfl) (fun k s => by rw [p_asset_encode_L2, df (by omega), cond_false]) (N := N) (by omega) (s := [a.gLight.gKind] ++ (leB 4 a.gLight.gColor[0] ++ (leB 4 a.gLight.gColor[1] ++ leB 4 a.gLight.gColor[2]))) (by simp [leB_len])
  rw [l, Option.bind_some]
  unfold ligB trB
  rw [leB1 g1]
  show some (_ ++ (List.range 3).flatMap _) = _
  rw [show (List.range 3).flatMap (fun i => ptB ([a.gLight.gAt, a.gLight.gU, a.gLight.gV].getD i ⟨0, 0, 0⟩)) = ptB a.gLight.gAt ++ (ptB a.gLight.gU ++ ptB a.gLight.gV) by
   simp [List.range_succ, List.flatMap_cons]]
  simp [List.append_assoc]
def zMesh : S_api_Mesh := S_api_Mesh.mk [] [] []
def zTex : S_api_Texture := S_api_Texture.mk 0 []
def zMat : S_api_Material := S_api_Material.mk 0 (#v[0, 0, 0]) 0
def zPt : S_api_Point := S_api_Point.mk 0 0 0
def zLig : S_api_Light := S_api_Light.mk 0 (#v[0, 0, 0]) zPt zPt zPt
def zA (k : Int) : S_api_Asset := S_api_Asset.mk k zMesh zTex zMat zLig
def CleanA (a : S_api_Asset) : Prop := (a.gKind = 1 → a = S_api_Asset.mk 1 a.gMesh zTex zMat zLig) ∧ (a.gKind = 2 → a = S_api_Asset.mk 2 zMesh a.gTexture zMat zLig) ∧ (a.gKind = 3 → a = S_api_Asset.mk 3 zMesh zTex a.gMaterial zLig) ∧ (a.gKind = 4 → a = S_api_Asset.mk 4 zMesh zTex zMat a.gLight)
theorem bareT (N : Nat) (a : S_api_Asset) (h : AssL a) : T (p_asset_bare N a) (fun b => AssL b ∧ (b = zA a.gKind → CleanA a) ∧ (CleanA a → OwnG a → b = zA a.gKind)) := by
 obtain ⟨k, ⟨v, u, t⟩, ⟨s, x⟩, ⟨mk, mc, mr⟩, ⟨lk, lc, ⟨ax, ay, az⟩, ⟨ux, uy, uz⟩, ⟨vx, vy, vz⟩⟩⟩ := a
 obtain ⟨h1, h2, h3, h4⟩ := h
 unfold p_asset_bare
 dsimp only at h1 h2 h3 h4 ⊢
 have hk : k = 1 ∨ k = 2 ∨ k = 3 ∨ k = 4 ∨ (k ≠ 1 ∧ k ≠ 2 ∧ k ≠ 3 ∧ k ≠ 4) := by omega
 rcases hk with rfl | rfl | rfl | rfl | ⟨n1, n2, n3, n4⟩
 ·rw [show ((1 : Int) == 1) = true from rfl, cond_true, Option.bind_some]
  refine T.ret ⟨⟨by simp, by simp, by simp, h4⟩, fun e => ?_, fun e _ => ?_⟩
  ·simp only [zA, zMesh, zTex, zMat, zLig, zPt, S_api_Asset.mk.injEq, S_api_Texture.mk.injEq, S_api_Material.mk.injEq, S_api_Light.mk.injEq, S_api_Point.mk.injEq] at e
   refine ⟨fun _ => ?_, fun h => (by cases h), fun h => (by cases h), fun h => by cases h⟩
   simp only [zA, zMesh, zTex, zMat, zLig, zPt, S_api_Asset.mk.injEq, S_api_Texture.mk.injEq, S_api_Material.mk.injEq, S_api_Light.mk.injEq, S_api_Point.mk.injEq]
   simp [e]
  ·have e := e.1 rfl
   simp only [zA, zMesh, zTex, zMat, zLig, zPt, S_api_Asset.mk.injEq, S_api_Texture.mk.injEq, S_api_Material.mk.injEq, S_api_Light.mk.injEq, S_api_Point.mk.injEq] at e ⊢
   simp [e]
 ·rw [show ((2 : Int) == 1) = false from rfl, show ((2 : Int) == 2) = true from rfl, cond_false, cond_true, Option.bind_some]
  refine T.ret ⟨⟨h1, h2, h3, by simp⟩, fun e => ?_, fun e _ => ?_⟩
  ·simp only [zA, zMesh, zTex, zMat, zLig, zPt, S_api_Asset.mk.injEq, S_api_Mesh.mk.injEq, S_api_Texture.mk.injEq, S_api_Material.mk.injEq, S_api_Light.mk.injEq, S_api_Point.mk.injEq] at e
   refine ⟨fun h => (by cases h), fun _ => ?_, fun h => (by cases h), fun h => by cases h⟩
   simp only [zA, zMesh, zTex, zMat, zLig, zPt, S_api_Asset.mk.injEq, S_api_Mesh.mk.injEq, S_api_Texture.mk.injEq, S_api_Material.mk.injEq, S_api_Light.mk.injEq, S_api_Point.mk.injEq]
   simp [e]
  ·have e := e.2.1 rfl
   simp only [zA, zMesh, zTex, zMat, zLig, zPt, S_api_Asset.mk.injEq, S_api_Mesh.mk.injEq, S_api_Texture.mk.injEq, S_api_Material.mk.injEq, S_api_Light.mk.injEq, S_api_Point.mk.injEq] at e ⊢
   simp [e]
 ·rw [show ((3 : Int) == 1) = false from rfl, show ((3 : Int) == 2) = false from rfl, show ((3 : Int) == 3) = true from rfl, cond_false, cond_false, cond_true, Option.bind_some]
  refine T.ret ⟨⟨h1, h2, h3, h4⟩, fun e => ?_, fun e _ => ?_⟩
  ·simp only [zA, zMesh, zTex, zMat, zLig, zPt, S_api_Asset.mk.injEq, S_api_Mesh.mk.injEq, S_api_Texture.mk.injEq, S_api_Material.mk.injEq, S_api_Light.mk.injEq, S_api_Point.mk.injEq] at e
   refine ⟨fun h => (by cases h), fun h => (by cases h), fun _ => ?_, fun h => by cases h⟩
   simp only [zA, zMesh, zTex, zMat, zLig, zPt, S_api_Asset.mk.injEq, S_api_Mesh.mk.injEq, S_api_Texture.mk.injEq, S_api_Material.mk.injEq, S_api_Light.mk.injEq, S_api_Point.mk.injEq]
   simp [e]
  ·have e := e.2.2.1 rfl
   simp only [zA, zMesh, zTex, zMat, zLig, zPt, S_api_Asset.mk.injEq, S_api_Mesh.mk.injEq, S_api_Texture.mk.injEq, S_api_Material.mk.injEq, S_api_Light.mk.injEq, S_api_Point.mk.injEq] at e ⊢
   simp [e]
 ·rw [show ((4 : Int) == 1) = false from rfl, show ((4 : Int) == 2) = false from rfl, show ((4 : Int) == 3) = false from rfl, show ((4 : Int) == 4) = true from rfl, cond_false, cond_false, cond_false, cond_true, Option.bind_some]
  refine T.ret ⟨⟨h1, h2, h3, h4⟩, fun e => ?_, fun e _ => ?_⟩
  ·simp only [zA, zMesh, zTex, zMat, zLig, zPt, S_api_Asset.mk.injEq, S_api_Mesh.mk.injEq, S_api_Texture.mk.injEq, S_api_Material.mk.injEq, S_api_Light.mk.injEq, S_api_Point.mk.injEq] at e
   refine ⟨fun h => (by cases h), fun h => (by cases h), fun h => (by cases h), fun _ => ?_⟩
   simp only [zA, zMesh, zTex, zMat, zLig, zPt, S_api_Asset.mk.injEq, S_api_Mesh.mk.injEq, S_api_Texture.mk.injEq, S_api_Material.mk.injEq, S_api_Light.mk.injEq, S_api_Point.mk.injEq]
   simp [e]
  ·have e := e.2.2.2 rfl
   simp only [zA, zMesh, zTex, zMat, zLig, zPt, S_api_Asset.mk.injEq, S_api_Mesh.mk.injEq, S_api_Texture.mk.injEq, S_api_Material.mk.injEq, S_api_Light.mk.injEq, S_api_Point.mk.injEq] at e ⊢
   simp [e]
 ·rw [show (k == 1) = false by simpa using n1, show (k == 2) = false by simpa using n2, show (k == 3) = false by simpa using n3, show (k == 4) = false by simpa using n4, cond_false, cond_false, cond_false, cond_false, Option.bind_some]
  refine T.ret ⟨⟨h1, h2, h3, h4⟩, fun _ => ⟨fun h => absurd h n1, fun h => absurd h n2, fun h => absurd h n3, fun h => absurd h n4⟩, fun _ g => ?_⟩
  rcases g with ⟨g, _⟩ | ⟨g, _⟩ | ⟨g, _⟩ | ⟨g, _⟩
  ·exact absurd g n1
  ·exact absurd g n2
  ·exact absurd g n3
  ·exact absurd g n4
structure GoodA (N : Nat) (a : S_api_Asset) : Prop where
 own0 : p_asset_own N a = some 0
 own : OwnG a
 clean : CleanA a
 cap : ((assB a).length : Int) ≤ capV a.gKind
theorem checkT (N : Nat) (hN : 1000 < N) (a : S_api_Asset) (h : AssL a) : T (p_asset_Check N a) (fun c => (c = 0 → GoodA N a) ∧ (GoodA N a → c = 0)) := by
 unfold p_asset_Check
 obtain ⟨r1, e1, h1⟩ := ownT N hN a h
 rw [e1, Option.bind_some]
 refine T.cond (fun c => T.ret ⟨fun e => ?_, fun g => ?_⟩) fun c => ?_
 ·subst e; cases c
 ·have := g.own0
  rw [e1] at this
  cases this
  cases c
 ·have hr : r1 = 0 := by simpa using c
  subst hr
  have hown := h1 rfl
  obtain ⟨b, eb, hb1, hb2, hb3⟩ := bareT N a h
  rw [eb, Option.bind_some]
  obtain ⟨r3, e3, h3⟩ := sameT N hN b (zA a.gKind) hb1
  rw [show p_asset_Same N b (S_api_Asset.mk a.gKind (S_api_Mesh.mk [] [] []) (S_api_Texture.mk 0 []) (S_api_Material.mk 0 (#v[0, 0, 0]) 0) (S_api_Light.mk 0 (#v[0, 0, 0]) (S_api_Point.mk 0 0 0) (S_api_Point.mk 0 0 0) (S_api_Point.mk 0 0 0))) = some r3 from e3, Option.bind_some]
  refine T.cond (fun c3 => T.ret ⟨fun e => (by cases e), fun g => ?_⟩) fun c3 => ?_
  ·have := h3.2 (hb3 g.clean g.own)
   rw [this] at c3
   cases c3
  ·have hr3 : r3 = true := by simpa using c3
   have hclean := hb2 (h3.1 hr3)
   rw [assE N hN a hown e1, Option.bind_some, capP, Option.bind_some]
   refine T.letO fun x hx => ?_
   subst hx
   refine T.cond (fun c4 => T.ret ⟨fun e => (by cases e), fun g => ?_⟩) fun c4 => T.ret ⟨fun _ => ⟨e1, hown, hclean, ?_⟩, fun _ => rfl⟩
   ·have := g.cap
    have := of_decide_eq_true c4
    omega
   ·have := of_decide_eq_false c4
    omega
theorem encodeT (N : Nat) (hN : 1000 < N) (a : S_api_Asset) (h : AssL a) : T (p_asset_Encode N a) (fun r => (r.2 = 0 ∧ GoodA N a ∧ r.1 = assB a) ∨ (r.2 ≠ 0 ∧ r.1 = [] ∧ ¬ GoodA N a)) := by
 unfold p_asset_Encode
 refine T.bind (checkT N hN a h) fun c hc => T.cond (fun e => T.ret ?_) fun e => ?_
 ·have e : c ≠ 0 := by simpa using e
  exact .inr ⟨e, rfl, fun g => e (hc.2 g)⟩
 ·have e : c = 0 := by simpa using e
  have g := hc.1 e
  rw [assE N hN a g.own g.own0, Option.bind_some]
  exact T.ret (.inl ⟨rfl, g, rfl⟩)
end Go.UK
namespace Go.UK
open Go Go.Proofs
set_option maxRecDepth 20000
set_option maxHeartbeats 1000000
set_option linter.all false
def RdQ {α : Type} (f : α → List Int) (P : α → Prop) (c : Nat) (b : List Int) (e : Int) (b' : List Int) (e' : Int) (x : α) : Prop :=
 bytesL b' ∧ b'.length ≤ b.length ∧ ((e' = 0 ∧ e = 0 ∧ b = f x ++ b' ∧ P x) ∨ (e' ≠ 0 ∧ (e = 0 → b.length < c)))
theorem uintT (N : Nat) (hN : 20 < N) (w : Nat) (hw0 : 1 ≤ w) (hw : w ≤ 4) (b : List Int) (e : Int) (hb : bytesL b) : T (p_mesh_decoder_uint_srzd N (w : Int) (S_codec_Reader.mk b e true)) (fun r => RdQ (leB w) (fun x => 0 ≤ x ∧ x < p256 w) w b e r.1 r.2.1 r.2.2 ∧ 0 ≤ r.2.2 ∧ r.2.2 < p256 w) := by
 unfold p_mesh_decoder_uint_srzd
 refine T.bind (numT N hN b e w hw0 (by omega) hb) fun r h => T.ret ?_
 obtain ⟨h1, h2, h3, h4, h5⟩ := h
 have hp : p256 w ≤ 4294967296 := by
  have : ∀ i : Fin 5, p256 i.val ≤ 4294967296 := by decide
  exact this ⟨w, by omega⟩
 have e0 : I64 r.2.2 = r.2.2 := I64_id (by omega) (by omega)
 dsimp only
 rw [e0]
 refine ⟨⟨h1, h2, ?_⟩, h3, h4⟩
 rcases h5 with ⟨g1, g2, g3⟩ | ⟨g1, g2, g3, g4, g5⟩
 ·exact .inl ⟨g1, g2, g3, h3, h4⟩
 ·exact .inr ⟨g1, fun h => (g4 h).2⟩
def ptR (p : S_api_Point) : Prop := (-32768 ≤ p.gX ∧ p.gX < 32768) ∧ (-32768 ≤ p.gY ∧ p.gY < 32768) ∧ (-32768 ≤ p.gZ ∧ p.gZ < 32768)
theorem ptG.r {p : S_api_Point} (h : ptG p) : ptR p := by obtain ⟨h1, h2, h3⟩ := h; exact ⟨⟨by omega, by omega⟩, ⟨by omega, by omega⟩, by omega, by omega⟩
theorem pointT (N : Nat) (hN : 20 < N) (b : List Int) (e : Int) (hb : bytesL b) : T (p_mesh_decoder_point_srz N (S_codec_Reader.mk b e true)) (fun r => RdQ ptB ptR 6 b e r.1 r.2.1 r.2.2.2 ∧ r.2.2.1 = true) := by
 unfold p_mesh_decoder_point_srz
 refine T.bind (int2T N hN b e hb) fun r1 h1 => ?_
 obtain ⟨b1, e1, v1⟩ := r1
 obtain ⟨p1, l1, x0, x1, h1⟩ := h1
 dsimp only at p1 l1 x0 x1 h1 ⊢
 refine T.bind (int2T N hN b1 e1 p1) fun r2 h2 => ?_
 obtain ⟨b2, e2, v2⟩ := r2
 obtain ⟨p2, l2, y0, y1, h2⟩ := h2
 dsimp only at p2 l2 y0 y1 h2 ⊢
 refine T.bind (int2T N hN b2 e2 p2) fun r3 h3 => ?_
 obtain ⟨b3, e3, v3⟩ := r3
 obtain ⟨p3, l3, z0, z1, h3⟩ := h3
 dsimp only at p3 l3 z0 z1 h3 ⊢
 refine T.ret ⟨⟨p3, by dsimp only; omega, ?_⟩, rfl⟩
 dsimp only
 rcases h3 with ⟨q1, q2, q3⟩ | ⟨q1, _, q2, q3⟩
 ·subst q1 q2
  rcases h2 with ⟨_, q4, q5⟩ | ⟨q4, _⟩
  ·subst q4
   rcases h1 with ⟨_, q6, q7⟩ | ⟨q6, _⟩
   ·refine .inl ⟨rfl, q6, ?_, ⟨x0, x1⟩, ⟨y0, y1⟩, z0, z1⟩
    unfold ptB
    rw [q7, q5, q3]
    simp [List.append_assoc]
   ·exact absurd rfl q6
  ·exact absurd rfl q4
 ·refine .inr ⟨q1, fun he => ?_⟩
  rcases h1 with ⟨k1, _, k2⟩ | ⟨k1, _, k2, _⟩
  ·have hl := congrArg List.length k2
   rw [List.length_append, leB_len] at hl
   rcases h2 with ⟨k3, _, k4⟩ | ⟨k3, _, k4, _⟩
   ·have hl2 := congrArg List.length k4
    rw [List.length_append, leB_len] at hl2
    have := (q2 k3).2
    omega
   ·have := (k4 k1).2
    omega
  ·have := (k2 he).2
   omega
theorem pairRT (N : Nat) (hN : 20 < N) (b : List Int) (e : Int) (hb : bytesL b) {Q : (List Int × Int × Int) × (List Int × Int × Int) → Prop} (hQ : ∀ r1 r2, RdQ uvB uvG 4 b e r2.1 r2.2.1 #v[r1.2.2, r2.2.2] → Q (r1, r2)) : T (Option.bind (p_mesh_decoder_uint_srzd N 2 (S_codec_Reader.mk b e true)) fun r18 => Option.bind (p_mesh_decoder_uint_srzd N 2 (S_codec_Reader.mk r18.1 r18.2.1 true)) fun r19 => some (r18, r19)) Q := by
 refine T.bind (uintT N hN 2 (by decide) (by decide) b e hb) fun r1 h1 => ?_
 obtain ⟨b1, e1, v1⟩ := r1
 obtain ⟨⟨p1, l1, h1⟩, x0, x1⟩ := h1
 dsimp only at p1 l1 x0 x1 h1 ⊢
 refine T.bind (uintT N hN 2 (by decide) (by decide) b1 e1 p1) fun r2 h2 => T.ret (hQ _ _ ?_)
 obtain ⟨b2, e2, v2⟩ := r2
 obtain ⟨⟨p2, l2, h2⟩, y0, y1⟩ := h2
 dsimp only at p2 l2 y0 y1 h2 ⊢
 refine ⟨p2, by omega, ?_⟩
 rcases h2 with ⟨q1, q2, q3, _⟩ | ⟨q1, q2⟩
 ·subst q1 q2
  rcases h1 with ⟨_, q4, q5, _⟩ | ⟨q4, _⟩
  ·refine .inl ⟨rfl, q4, ?_, ⟨x0, x1⟩, y0, y1⟩
   unfold uvB
   rw [q5, q3]
   simp [List.append_assoc]
  ·exact absurd rfl q4
 ·refine .inr ⟨q1, fun he => ?_⟩
  rcases h1 with ⟨k1, _, k2, _⟩ | ⟨_, k1⟩
  ·have hl := congrArg List.length k2
   rw [List.length_append, leB_len] at hl
   have := q2 k1
   omega
  ·have := k1 he
   omega
theorem tripT (N : Nat) (hN : 20 < N) (w : Nat) (hw0 : 1 ≤ w) (hw : w ≤ 4) (b : List Int) (e : Int) (hb : bytesL b) {Q : (List Int × Int × Int) × (List Int × Int × Int) × (List Int × Int × Int) → Prop} (hQ : ∀ r1 r2 r3, RdQ (trB w) (trG (p256 w)) (3 * w) b e r3.1 r3.2.1 #v[r1.2.2, r2.2.2, r3.2.2] → Q (r1, r2, r3)) : T (Option.bind (p_mesh_decoder_uint_srzd N (w : Int) (S_codec_Reader.mk b e true)) fun r1 => Option.bind (p_mesh_decoder_uint_srzd N (w : Int) (S_codec_Reader.mk r1.1 r1.2.1 true)) fun r2 => Option.bind (p_mesh_decoder_uint_srzd N (w : Int) (S_codec_Reader.mk r2.1 r2.2.1 true)) fun r3 => some (r1, r2, r3)) Q := by
 refine T.bind (uintT N hN w hw0 hw b e hb) fun r1 h1 => ?_
 obtain ⟨b1, e1, v1⟩ := r1
 obtain ⟨⟨p1, l1, h1⟩, x0, x1⟩ := h1
 dsimp only at p1 l1 x0 x1 h1 ⊢
 refine T.bind (uintT N hN w hw0 hw b1 e1 p1) fun r2 h2 => ?_
 obtain ⟨b2, e2, v2⟩ := r2
 obtain ⟨⟨p2, l2, h2⟩, y0, y1⟩ := h2
 dsimp only at p2 l2 y0 y1 h2 ⊢
 refine T.bind (uintT N hN w hw0 hw b2 e2 p2) fun r3 h3 => T.ret (hQ _ _ _ ?_)
 obtain ⟨b3, e3, v3⟩ := r3
 obtain ⟨⟨p3, l3, h3⟩, z0, z1⟩ := h3
 dsimp only at p3 l3 z0 z1 h3 ⊢
 refine ⟨p3, by omega, ?_⟩
 rcases h3 with ⟨q1, q2, q3, _⟩ | ⟨q1, q2⟩
 ·subst q1 q2
  rcases h2 with ⟨_, q4, q5, _⟩ | ⟨q4, _⟩
  ·subst q4
   rcases h1 with ⟨_, q6, q7, _⟩ | ⟨q6, _⟩
   ·refine .inl ⟨rfl, q6, ?_, ⟨x0, x1⟩, ⟨y0, y1⟩, z0, z1⟩
    unfold trB
    rw [q7, q5, q3]
    simp [List.append_assoc]
   ·exact absurd rfl q6
  ·exact absurd rfl q4
 ·refine .inr ⟨q1, fun he => ?_⟩
  rcases h1 with ⟨k1, _, k2, _⟩ | ⟨_, k1⟩
  ·have hl := congrArg List.length k2
   rw [List.length_append, leB_len] at hl
   rcases h2 with ⟨k3, _, k4, _⟩ | ⟨_, k3⟩
   ·have hl2 := congrArg List.length k4
    rw [List.length_append, leB_len] at hl2
    have := q2 k3
    omega
   ·have := k3 k1
    omega
  ·have := k1 he
   omega
theorem rdLoop {α : Type} (f : α → List Int) (P : α → Prop) (c : Nat) (hc : ∀ x, (f x).length = c) (n : Nat) (hn : n < 1000000) {F : Nat → List α → List Int → Int → Bool → Int → Option (List α × List Int × Int × Bool)}
  (hstep : ∀ k s b e i, i < n → s.length ≤ i → bytesL b → ∀ Q, (∀ b' e' x, RdQ f P c b e b' e' x → T (F k (s ++ [x]) b' e' true ((i + 1 : Nat) : Int)) Q) → T (F (k + 1) s b e true (i : Int)) Q) (hend : ∀ k s b e, F (k + 1) s b e true (n : Int) = some (s, b, e, true)) :
  ∀ (k i : Nat) (s : List α) (b : List Int) (e : Int), i ≤ n → s.length ≤ i → n - i < k → bytesL b → T (F k s b e true (i : Int)) (fun r => bytesL r.2.1 ∧ r.2.1.length ≤ b.length ∧ r.2.2.2 = true ∧ ∃ l, r.1 = s ++ l ∧ l.length = n - i ∧ ((r.2.2.1 = 0 ∧ e = 0 ∧ b = l.flatMap f ++ r.2.1 ∧ ∀ x ∈ l, P x) ∨ (r.2.2.1 ≠ 0 ∧ (e = 0 → b.length < (n - i) * c))))
 | 0, i, _, _, _, _, _, h, _ => by omega
 | k + 1, i, s, b, e, hi, hs, hk, hb => by
  by_cases h : i < n
  ·refine hstep k s b e i h hs hb _ fun b' e' x hx => ?_
   obtain ⟨x1, x2, x3⟩ := hx
   refine T.mono (rdLoop f P c hc n hn hstep hend k (i + 1) (s ++ [x]) b' e' (by omega) (by simp; omega) (by omega) x1) fun r hr => ?_
   obtain ⟨r1, r2, r3, l, r4, r5, r6⟩ := hr
   refine ⟨r1, by omega, r3, x :: l, by rw [r4]; simp, by rw [List.length_cons]; omega, ?_⟩
   have hmul : (n - i) * c = (n - (i + 1)) * c + c := by rw [show n - i = (n - (i + 1)) + 1 by omega, Nat.add_mul]; omega
   rcases r6 with ⟨g1, g2, g3, g4⟩ | ⟨g1, g2⟩
   ·subst g2
    rcases x3 with ⟨_, q2, q3, q4⟩ | ⟨q1, _⟩
    ·refine .inl ⟨g1, q2, by rw [q3, g3, List.flatMap_cons, List.append_assoc], fun y hy => ?_⟩
     rcases List.mem_cons.1 hy with rfl | hy
     ·exact q4
     ·exact g4 y hy
    ·exact absurd rfl q1
   ·refine .inr ⟨g1, fun he => ?_⟩
    rcases x3 with ⟨q1, _, q3, _⟩ | ⟨_, q1⟩
    ·have hl := congrArg List.length q3
     rw [List.length_append, hc] at hl
     have := g2 q1
     omega
    ·have := q1 he
     omega
  ·obtain rfl : i = n := by omega
   rw [hend]
   refine T.ret ⟨hb, Nat.le_refl _, rfl, [], by simp, by simp, ?_⟩
   by_cases he : e = 0
   ·exact .inl ⟨he, he, by simp, fun x hx => by cases hx⟩
   ·exact .inr ⟨he, fun h => absurd h he⟩
structure MeshR (m : S_api_Mesh) : Prop where
 nv : m.gVerts.length < 256
 nt : m.gTris.length < 256
 nu : m.gUvs.length = m.gVerts.length
 v : ∀ p ∈ m.gVerts, ptR p
 u : ∀ p ∈ m.gUvs, uvG p
 t : ∀ p ∈ m.gTris, trG 256 p
theorem MeshG.r {m : S_api_Mesh} (g : MeshG m) : MeshR m := ⟨by have := g.nv; omega, by have := g.nt; omega, g.nu, fun p h => (g.v p h).r, g.u, g.t⟩
theorem flat_inj {α : Type} {f : α → List Int} {c : Nat} {P : α → Prop} (hc : ∀ x, (f x).length = c) (hf : ∀ x y, P x → P y → f x = f y → x = y) : ∀ (l l' : List α) (r r' : List Int), l.length = l'.length → (∀ x ∈ l, P x) → (∀ x ∈ l', P x) → l.flatMap f ++ r = l'.flatMap f ++ r' → l = l' ∧ r = r'
 | [], [], r, r', _, _, _, h => ⟨rfl, by simpa using h⟩
 | [], _ :: _, _, _, h, _, _, _ => by simp at h
 | _ :: _, [], _, _, h, _, _, _ => by simp at h
 | a :: l, b :: l', r, r', hl, h1, h2, h => by
  rw [List.flatMap_cons, List.flatMap_cons, List.append_assoc, List.append_assoc] at h
  obtain ⟨e1, e2⟩ := List.append_inj h (by rw [hc, hc])
  obtain ⟨e3, e4⟩ := flat_inj hc hf l l' r r' (by simpa using hl) (fun x hx => h1 x (by simp [hx])) (fun x hx => h2 x (by simp [hx])) e2
  rw [hf a b (h1 a (by simp)) (h2 b (by simp)) e1, e3]
  exact ⟨rfl, e4⟩
theorem ptB_inj {p q : S_api_Point} (hp : ptR p) (hq : ptR q) (h : ptB p = ptB q) : p = q := by
 unfold ptB at h
 obtain ⟨h1, h⟩ := List.append_inj h (by simp [leB_len])
 obtain ⟨h2, h3⟩ := List.append_inj h (by simp [leB_len])
 have e1 := leB_inj (w := 2) (by decide) ⟨by omega, by rw [show p256 2 = 65536 from rfl]; omega⟩ ⟨by omega, by rw [show p256 2 = 65536 from rfl]; omega⟩ h1
 have e2 := leB_inj (w := 2) (by decide) ⟨by omega, by rw [show p256 2 = 65536 from rfl]; omega⟩ ⟨by omega, by rw [show p256 2 = 65536 from rfl]; omega⟩ h2
 have e3 := leB_inj (w := 2) (by decide) ⟨by omega, by rw [show p256 2 = 65536 from rfl]; omega⟩ ⟨by omega, by rw [show p256 2 = 65536 from rfl]; omega⟩ h3
 obtain ⟨a1, a2, a3⟩ := hp
 obtain ⟨b1, b2, b3⟩ := hq
 cases p; cases q
 dsimp only at *
 rw [S_api_Point.mk.injEq]
 omega
theorem vext2 {a b : Vector Int 2} (h0 : a[0] = b[0]) (h1 : a[1] = b[1]) : a = b := by
 apply Vector.ext
 intro i hi
 have : i = 0 ∨ i = 1 := by omega
 rcases this with rfl | rfl <;> assumption
theorem vext3 {a b : Vector Int 3} (h0 : a[0] = b[0]) (h1 : a[1] = b[1]) (h2 : a[2] = b[2]) : a = b := by
 apply Vector.ext
 intro i hi
 have : i = 0 ∨ i = 1 ∨ i = 2 := by omega
 rcases this with rfl | rfl | rfl <;> assumption
theorem uvB_inj {p q : Vector Int 2} (hp : uvG p) (hq : uvG q) (h : uvB p = uvB q) : p = q := by
 unfold uvB at h
 obtain ⟨h1, h2⟩ := List.append_inj h (by simp [leB_len])
 exact vext2 (leB_inj (w := 2) (by decide) hp.1 hq.1 h1) (leB_inj (w := 2) (by decide) hp.2 hq.2 h2)
theorem trB_inj {w : Nat} (hw : w ≤ 8) {p q : Vector Int 3} (hp : trG (p256 w) p) (hq : trG (p256 w) q) (h : trB w p = trB w q) : p = q := by
 unfold trB at h
 obtain ⟨h1, h⟩ := List.append_inj h (by simp [leB_len])
 obtain ⟨h2, h3⟩ := List.append_inj h (by simp [leB_len])
 exact vext3 (leB_inj hw hp.1 hq.1 h1) (leB_inj hw hp.2.1 hq.2.1 h2) (leB_inj hw hp.2.2 hq.2.2 h3)
theorem meshB_inj {m m' : S_api_Mesh} (r : MeshR m) (r' : MeshR m') {x x' : List Int} (h : meshB m ++ x = meshB m' ++ x') : m = m' ∧ x = x' := by
 unfold meshB at h
 simp only [List.append_assoc] at h
 have := r.nv; have := r'.nv; have := r.nt; have := r'.nt
 obtain ⟨h1, h⟩ := List.append_inj h (by simp [leB_len])
 obtain ⟨h2, h⟩ := List.append_inj h (by simp [leB_len])
 have n1 := leB_inj (w := 1) (by decide) (x := (m.gVerts.length : Int)) (y := (m'.gVerts.length : Int)) ⟨by omega, by rw [show p256 1 = 256 from rfl]; omega⟩ ⟨by omega, by rw [show p256 1 = 256 from rfl]; omega⟩ h1
 have n2 := leB_inj (w := 1) (by decide) (x := (m.gTris.length : Int)) (y := (m'.gTris.length : Int)) ⟨by omega, by rw [show p256 1 = 256 from rfl]; omega⟩ ⟨by omega, by rw [show p256 1 = 256 from rfl]; omega⟩ h2
 obtain ⟨e1, h⟩ := flat_inj ptB_len (fun _ _ => ptB_inj) _ _ _ _ (by omega) r.v r'.v h
 obtain ⟨e2, h⟩ := flat_inj uvB_len (fun _ _ => uvB_inj) _ _ _ _ (by rw [r.nu, r'.nu]; omega) r.u r'.u h
 obtain ⟨e3, h⟩ := flat_inj (trB_len 1) (fun _ _ => trB_inj (w := 1) (by decide)) _ _ _ _ (by omega) r.t r'.t h
 refine ⟨?_, h⟩
 cases m; cases m'
 dsimp only at *
 rw [e1, e2, e3]
theorem meshB_len {m : S_api_Mesh} (r : MeshR m) : (meshB m).length = 2 + 10 * m.gVerts.length + 3 * m.gTris.length := by
 unfold meshB
 simp only [List.length_append, leB_len, flat_len ptB_len, flat_len uvB_len, flat_len (trB_len 1), r.nu]
 omega
theorem meshDecT (N : Nat) (hN : 1000 < N) (b : List Int) (hb : bytesL b) (hl : b.length ≤ 100000) : T (p_mesh_Decode N b) (fun r => (r.2 = 0 ∧ b = meshB r.1 ∧ MeshG r.1) ∨ (r.2 ≠ 0 ∧ r.1 = zMesh ∧ ∀ m, MeshR m → b = meshB m → p_mesh_Check N m ≠ some 0)) := by
 unfold p_mesh_Decode
 rw [newP N b (by omega), Option.bind_some]
 refine T.bind (uintT N (by omega) 1 (by decide) (by decide) b 0 hb) fun r2 h2 => ?_
 obtain ⟨b2, e2, v2⟩ := r2
 obtain ⟨⟨p2, l2, h2⟩, x0, x1⟩ := h2
 dsimp only at p2 l2 x0 x1 h2 ⊢
 refine T.bind (uintT N (by omega) 1 (by decide) (by decide) b2 e2 p2) fun r3 h3 => ?_
 obtain ⟨b3, e3, v3⟩ := r3
 obtain ⟨⟨p3, l3, h3⟩, y0, y1⟩ := h3
 dsimp only at p3 l3 y0 y1 h3 ⊢
 rw [show p256 1 = 256 from rfl] at x1 y1
 obtain ⟨nv, rfl⟩ := Int.eq_ofNat_of_zero_le x0
 obtain ⟨nt, rfl⟩ := Int.eq_ofNat_of_zero_le y0
 refine T.bind (rdLoop ptB ptR 6 ptB_len nv (by omega) (F := p_mesh_Decode_L1 N (b2, e2, (nv : Int))) (fun k s b e i hi hs hb Q hk => ?_) (fun k s b e => by rw [p_mesh_Decode_L1, df (by dsimp only; omega), cond_false]) N 0 [] b3 e3 (by omega) (by simp) (by omega) p3) fun r4 h4 => ?_
 ·rw [p_mesh_Decode_L1, dt (by dsimp only; omega), cond_true]
  refine T.bind (pointT N (by omega) b e hb) fun r10 h10 => ?_
  obtain ⟨h11, h12⟩ := h10
  refine T.bind (T.app (by simp; omega)) fun z hz => ?_
  subst hz
  rw [h12, I64_s (by omega)]
  exact hk _ _ _ h11
 obtain ⟨vs, b4, e4, m4⟩ := r4
 obtain ⟨p4, l4, rfl, vl, rfl, hvl, h4⟩ := h4
 dsimp only at p4 l4 h4 hvl ⊢
 refine T.bind (rdLoop uvB uvG 4 uvB_len nv (by omega) (F := p_mesh_Decode_L2 N (b2, e2, (nv : Int))) (fun k s b e i hi hs hb Q hk => ?_) (fun k s b e => by rw [p_mesh_Decode_L2, df (by dsimp only; omega), cond_false]) N 0 [] b4 e4 (by omega) (by simp) (by omega) p4) fun r12 h12 => ?_
 ·rw [p_mesh_Decode_L2, dt (by dsimp only; omega), cond_true]
  have h := pairRT N (by omega) b e hb (Q := fun r => RdQ uvB uvG 4 b e r.2.1 r.2.2.1 #v[r.1.2.2, r.2.2.2]) (fun _ _ h => h)
  obtain ⟨⟨r18, r19⟩, g1, g2⟩ := h
  obtain ⟨q18, k1, g1⟩ := obind g1
  obtain ⟨q19, k2, g1⟩ := obind g1
  cases g1
  rw [k1, Option.bind_some]
  dsimp only
  rw [k2, Option.bind_some]
  refine T.bind (T.app (by simp; omega)) fun z hz => ?_
  subst hz
  rw [I64_s (by omega)]
  exact hk _ _ _ g2
 obtain ⟨us, b5, e5, m5⟩ := r12
 obtain ⟨p5, l5, rfl, ul, rfl, hul, h5⟩ := h12
 dsimp only at p5 l5 h5 hul ⊢
 refine T.bind (rdLoop (trB 1) (trG 256) 3 (trB_len 1) nt (by omega) (F := p_mesh_Decode_L3 N (b3, e3, (nt : Int))) (fun k s b e i hi hs hb Q hk => ?_) (fun k s b e => by rw [p_mesh_Decode_L3, df (by dsimp only; omega), cond_false]) N 0 [] b5 e5 (by omega) (by simp) (by omega) p5) fun r21 h21 => ?_
 ·rw [p_mesh_Decode_L3, dt (by dsimp only; omega), cond_true]
  have h := tripT N (by omega) 1 (by decide) (by decide) b e hb (Q := fun r => RdQ (trB 1) (trG 256) 3 b e r.2.2.1 r.2.2.2.1 #v[r.1.2.2, r.2.1.2.2, r.2.2.2.2]) (fun _ _ _ h => h)
  obtain ⟨⟨r27, r28, r29⟩, g1, g2⟩ := h
  obtain ⟨q27, k1, g1⟩ := obind g1
  obtain ⟨q28, k2, g1⟩ := obind g1
  obtain ⟨q29, k3, g1⟩ := obind g1
  cases g1
  rw [show p_mesh_decoder_uint_srzd N 1 (S_codec_Reader.mk b e true) = some r27 from k1, Option.bind_some]
  dsimp only
  rw [show p_mesh_decoder_uint_srzd N 1 (S_codec_Reader.mk r27.1 r27.2.1 true) = some r28 from k2, Option.bind_some, show p_mesh_decoder_uint_srzd N 1 (S_codec_Reader.mk r28.1 r28.2.1 true) = some r29 from k3, Option.bind_some]
  refine T.bind (T.app (by simp; omega)) fun z hz => ?_
  subst hz
  rw [I64_s (by omega)]
  exact hk _ _ _ g2
 obtain ⟨ts, b6, e6, m6⟩ := r21
 obtain ⟨p6, l6, rfl, tl, rfl, htl, h6⟩ := h21
 dsimp only at p6 l6 h6 htl ⊢
 rw [endE, Option.bind_some]
 rw [Nat.sub_zero] at hvl hul htl h4 h5 h6
 -- all that was read
 have all : e6 = 0 → b = meshB (S_api_Mesh.mk vs us ts) ++ b6 ∧ MeshR (S_api_Mesh.mk vs us ts) := by
  intro he
  rcases h6 with ⟨_, q1, q2, q3⟩ | ⟨q, _⟩
  ·subst q1
   rcases h5 with ⟨_, k1, k2, k3⟩ | ⟨q, _⟩
   ·subst k1
    rcases h4 with ⟨_, i1, i2, i3⟩ | ⟨q, _⟩
    ·subst i1
     rcases h3 with ⟨_, j1, j2, _⟩ | ⟨q, _⟩
     ·subst j1
      rcases h2 with ⟨_, _, o2, _⟩ | ⟨q, _⟩
      ·refine ⟨?_, by dsimp only; omega, by dsimp only; omega, by dsimp only; omega, i3, k3, q3⟩
       unfold meshB
       dsimp only
       rw [o2, j2, i2, k2, q2, hvl, htl]
       simp [List.append_assoc]
      ·exact absurd rfl q
     ·exact absurd rfl q
    ·exact absurd rfl q
   ·exact absurd rfl q
  ·exact absurd he q
 have short : e6 ≠ 0 → ∀ m, MeshR m → b ≠ meshB m := by
  intro he m r hm
  have hlen := meshB_len r
  rw [← hm] at hlen
  rcases h2 with ⟨a1, _, a2, _⟩ | ⟨_, a1⟩
  ·rcases h3 with ⟨c1, _, c2, _⟩ | ⟨_, c1⟩
   ·-- the numbers are the mesh's
    have hh : leB 1 (nv : Int) ++ (leB 1 (nt : Int) ++ b3) = meshB m := by rw [← hm, a2, c2]
    unfold meshB at hh
    obtain ⟨g1, g2⟩ := List.append_inj hh (by simp [leB_len])
    obtain ⟨g3, g4⟩ := List.append_inj g2 (by simp [leB_len])
    have := r.nv
    have := r.nt
    have n1 := leB_inj (w := 1) (by decide) (x := (nv : Int)) (y := (m.gVerts.length : Int)) ⟨by omega, by rw [show p256 1 = 256 from rfl]; omega⟩ ⟨by omega, by rw [show p256 1 = 256 from rfl]; omega⟩ g1
    have n2 := leB_inj (w := 1) (by decide) (x := (nt : Int)) (y := (m.gTris.length : Int)) ⟨by omega, by rw [show p256 1 = 256 from rfl]; omega⟩ ⟨by omega, by rw [show p256 1 = 256 from rfl]; omega⟩ g3
    have hl3 : b.length = 2 + b3.length := by rw [a2, c2]; simp [leB_len]; omega
    rcases h4 with ⟨i1, _, i2, _⟩ | ⟨_, i1⟩
    ·have hl4 := congrArg List.length i2
     rw [List.length_append, flat_len ptB_len, hvl] at hl4
     rcases h5 with ⟨k1, _, k2, _⟩ | ⟨_, k1⟩
     ·have hl5 := congrArg List.length k2
      rw [List.length_append, flat_len uvB_len, hul] at hl5
      rcases h6 with ⟨q1, _⟩ | ⟨_, q1⟩
      ·exact he q1
      ·have := q1 k1; omega
     ·have := k1 i1; omega
    ·have := i1 c1; omega
   ·have hl2 : b.length = 1 + b2.length := by rw [a2]; simp [leB_len]
    have := c1 a1; omega
  ·have := a1 rfl; omega
 by_cases he : e6 = 0
 ·obtain ⟨g1, g2⟩ := all he
  subst he
  rw [show ((0 : Int) != 0) = false from rfl, cond_false]
  by_cases hr : 0 < b6.length
  ·rw [dt hr, cond_true, show ((5 : Int) != 0) = true from rfl, cond_true]
   refine T.ret (.inr ⟨(show (5 : Int) ≠ 0 by decide), rfl, fun m r hm => ?_⟩)
   exfalso
   rw [g1] at hm
   have := (meshB_inj (x := b6) (x' := []) g2 r (by rw [List.append_nil]; exact hm)).2
   rw [this] at hr
   simp at hr
  ·have : b6 = [] := List.eq_nil_of_length_eq_zero (by omega)
   subst this
   rw [df hr, cond_false, show ((0 : Int) != 0) = false from rfl, cond_false]
   rw [List.append_nil] at g1
   refine T.bind (P := fun c => (c = 0 → MeshG (S_api_Mesh.mk vs us ts)) ∧ p_mesh_Check N (S_api_Mesh.mk vs us ts) = some c) ?_ fun c hc => T.cond (fun q => T.ret ?_) fun q => T.ret ?_
   ·obtain ⟨c, q1, q2⟩ := meshT N hN (S_api_Mesh.mk vs us ts) (by have := g2.nv; omega) (by have := g2.nv; have := g2.nu; omega) (by have := g2.nt; omega)
    exact ⟨c, q1, q2, q1⟩
   ·have q : c ≠ 0 := by simpa using q
    refine .inr ⟨q, rfl, fun m r hm => ?_⟩
    have := (meshB_inj (x := []) (x' := []) g2 r (by rw [List.append_nil, List.append_nil, ← g1]; exact hm)).1
    rw [← this, hc.2]
    intro h
    cases h
    exact q rfl
   ·have q : c = 0 := by simpa using q
    exact .inl ⟨rfl, g1, hc.1 q⟩
 ·rw [show (e6 != 0) = true by simpa using he, cond_true, show (e6 != 0) = true by simpa using he, cond_true]
  exact T.ret (.inr ⟨he, rfl, fun m r hm => absurd hm (short he m r)⟩)
end Go.UK
namespace Go.UK
open Go Go.Proofs
set_option maxRecDepth 20000
set_option maxHeartbeats 1000000
set_option linter.all false
structure TexR (t : S_api_Texture) : Prop where
 side : 0 ≤ t.gSide ∧ t.gSide < 256
 n : (t.gTexels.length : Int) = t.gSide * t.gSide
 t : ∀ p ∈ t.gTexels, trG 256 p
theorem TexG.r {t : S_api_Texture} (g : TexG t) : TexR t := ⟨⟨by have := g.side; omega, by have := g.side; omega⟩, g.n, g.t⟩
theorem texB_inj {t t' : S_api_Texture} (r : TexR t) (r' : TexR t') {x x' : List Int} (h : texB t ++ x = texB t' ++ x') : t = t' ∧ x = x' := by
 unfold texB at h
 simp only [List.append_assoc] at h
 obtain ⟨h1, h⟩ := List.append_inj h (by simp [leB_len])
 have n1 := leB_inj (w := 1) (by decide) r.side r'.side h1
 have n2 : t.gTexels.length = t'.gTexels.length := by
  have := r.n
  have := r'.n
  rw [n1] at *
  omega
 obtain ⟨e1, h⟩ := flat_inj (trB_len 1) (fun _ _ => trB_inj (w := 1) (by decide)) _ _ _ _ n2 r.t r'.t h
 refine ⟨?_, h⟩
 cases t; cases t'
 dsimp only at *
 rw [e1, n1]
theorem texL (N : Nat) (n : Nat) (hn : n < 100000) : ∀ (k i : Nat) (s : List (Vector Int 3)) (b : List Int) (e : Int), i ≤ n → s.length ≤ i → b.length < k → bytesL b → T (p_texture_Decode_L1 N (n : Int) k s b e true (i : Int)) (fun r => r.2.2.2 = true ∧ ∃ l, r.1 = s ++ l ∧ l.length ≤ n - i ∧ l.length ≤ b.length ∧ ((r.2.2.1 = 0 ∧ e = 0 ∧ l.length = n - i ∧ b = l.flatMap (trB 1) ++ r.2.1 ∧ ∀ x ∈ l, trG 256 x) ∨ (r.2.2.1 ≠ 0 ∧ (e = 0 → b.length < (n - i) * 3))))
 | 0, i, _, _, _, _, _, h, _ => by omega
 | k + 1, i, s, b, e, hi, hs, hk, hb => by
  rw [p_texture_Decode_L1]
  by_cases h : i < n
  ·rw [dt (by omega), cond_true]
   refine T.bind (takeT N b e 3 hb) fun r10 h10 => ?_
   obtain ⟨b', e', out⟩ := r10
   obtain ⟨p1, p2, _, l1, h10⟩ := h10
   dsimp only at p1 p2 l1 h10 ⊢
   refine T.letO fun x hx => ?_
   subst hx
   rcases h10 with ⟨rfl, rfl, q3, q4⟩ | ⟨q1, rfl, rfl, q4, q5⟩
   ·match out, q4 with
    | [x, y, z], _ =>
     have bx := p2 x (by simp)
     have by_ := p2 y (by simp)
     have bz := p2 z (by simp)
     rw [show decide ((([x, y, z] : List Int).length : Int) < 3) = false from rfl, cond_false, show idx [x, y, z] 0 = some x from rfl, show idx [x, y, z] 1 = some y from rfl, show idx [x, y, z] 2 = some z from rfl, Option.bind_some, Option.bind_some, Option.bind_some, I64_id (x := x) (by have := bx.1; omega) (by have := bx.2; omega), I64_id (x := y) (by have := by_.1; omega) (by have := by_.2; omega), I64_id (x := z) (by have := bz.1; omega) (by have := bz.2; omega)]
     refine T.bind (T.app (by simp; omega)) fun w hw => ?_
     subst hw
     rw [I64_s (by omega)]
     have hlen := congrArg List.length q3
     simp only [List.length_append, List.length_cons, List.length_nil] at hlen
     refine T.mono (texL N n hn k (i + 1) _ b' 0 (by omega) (by simp; omega) (by omega) p1) fun r hr => ?_
     obtain ⟨r1, l, r2, r3, r3b, r4⟩ := hr
     refine ⟨r1, #v[x, y, z] :: l, by rw [r2]; simp, by rw [List.length_cons]; omega, by rw [List.length_cons]; omega, ?_⟩
     have ht : trB 1 #v[x, y, z] = [x, y, z] := by
      show leB 1 x ++ (leB 1 y ++ leB 1 z) = _
      rw [leB1 bx, leB1 by_, leB1 bz]
      rfl
     rcases r4 with ⟨g1, _, g2, g3, g4⟩ | ⟨g1, g2⟩
     ·refine .inl ⟨g1, rfl, by rw [List.length_cons]; omega, by rw [q3, g3, List.flatMap_cons, ht, List.append_assoc], fun v hv => ?_⟩
      rcases List.mem_cons.1 hv with rfl | hv
      ·exact ⟨bx, by_, bz⟩
      ·exact g4 v hv
     ·refine .inr ⟨g1, fun _ => ?_⟩
      have := g2 rfl
      omega
   ·rw [show decide ((([] : List Int).length : Int) < 3) = true from rfl, cond_true]
    refine T.ret ⟨rfl, [], by simp, by simp, by simp, .inr ⟨q1, fun he => ?_⟩⟩
    have := (q4 he).2
    omega
  ·obtain rfl : i = n := by omega
   rw [df (by omega), cond_false]
   refine T.ret ⟨rfl, [], by simp, by simp, by simp, ?_⟩
   by_cases he : e = 0
   ·exact .inl ⟨he, he, by simp, by simp, fun x hx => (by cases hx)⟩
   ·exact .inr ⟨he, fun h => absurd h he⟩
theorem texDecT (N : Nat) (hN : 10000 < N) (b : List Int) (hb : bytesL b) (hl : b.length ≤ 5000) : T (p_texture_Decode N b) (fun r => (r.2 = 0 ∧ b = texB r.1 ∧ TexG r.1) ∨ (r.2 ≠ 0 ∧ r.1 = zTex ∧ ∀ t, TexR t → t.gTexels.length ≤ 500 → b = texB t → p_texture_Check N t ≠ some 0)) := by
 unfold p_texture_Decode
 rw [newP N b (by omega), Option.bind_some]
 refine T.bind (numT N (by omega) b 0 1 (by decide) (by decide) hb) fun r2 h2 => ?_
 obtain ⟨b2, e2, v2⟩ := r2
 obtain ⟨p2, l2, x0, x1, h2⟩ := h2
 dsimp only at p2 l2 x0 x1 h2 ⊢
 rw [show p256 1 = 256 from rfl] at x1
 obtain ⟨sd, rfl⟩ := Int.eq_ofNat_of_zero_le x0
 have hsd : sd * sd ≤ 255 * 255 := Nat.mul_le_mul (by omega) (by omega)
 have f : I64 (I64 (sd : Int) * I64 (sd : Int)) = ((sd * sd : Nat) : Int) := by
  have e0 : I64 (sd : Int) = (sd : Int) := I64_id (by omega) (by omega)
  rw [e0, ← Int.natCast_mul, I64_id (by omega) (by omega)]
 have f0 : I64 (sd : Int) = (sd : Int) := I64_id (by omega) (by omega)
 rw [f, letO_e, f0]
 refine T.bind (texL N (sd * sd) (by omega) N 0 [] b2 e2 (by omega) (by simp) (by omega) p2) fun r4 h4 => ?_
 obtain ⟨ts, b3, e3, m3⟩ := r4
 obtain ⟨rfl, tl, htl, hn1, hn2, h4⟩ := h4
 dsimp only at htl hn1 hn2 h4 ⊢
 rw [List.nil_append] at htl
 subst htl
 rw [endE, Option.bind_some]
 have all : e3 = 0 → b = texB (S_api_Texture.mk (sd : Int) ts) ++ b3 ∧ TexR (S_api_Texture.mk (sd : Int) ts) := by
  intro he
  rcases h4 with ⟨_, q1, q2, q3, q4⟩ | ⟨q, _⟩
  ·subst q1
   rcases h2 with ⟨_, _, o2⟩ | ⟨q, _⟩
   ·refine ⟨?_, ⟨by dsimp only; omega, by dsimp only; omega⟩, by dsimp only; rw [q2, Nat.sub_zero]; push_cast; rfl, q4⟩
    unfold texB
    dsimp only
    rw [o2, q3, List.append_assoc]
   ·exact absurd rfl q
  ·exact absurd he q
 have short : e3 ≠ 0 → ∀ t, TexR t → b ≠ texB t := by
  intro he t r ht
  have hlen : (texB t).length = 1 + 3 * t.gTexels.length := by unfold texB; rw [List.length_append, leB_len, flat_len (trB_len 1)]; omega
  rw [← ht] at hlen
  rcases h2 with ⟨a1, _, a2⟩ | ⟨_, _, _, a1, _⟩
  ·have hh : leB 1 (sd : Int) ++ b2 = texB t := by rw [← ht, a2]
   unfold texB at hh
   obtain ⟨g1, g2⟩ := List.append_inj hh (by simp [leB_len])
   have n1 := leB_inj (w := 1) (by decide) (x := (sd : Int)) (y := t.gSide) ⟨by omega, by rw [show p256 1 = 256 from rfl]; omega⟩ r.side g1
   have n2 := r.n
   rw [← n1, ← Int.natCast_mul] at n2
   have hl3 : b.length = 1 + b2.length := by rw [a2, List.length_append, leB_len]
   rcases h4 with ⟨i1, _⟩ | ⟨_, i1⟩
   ·exact he i1
   ·have := i1 a1; omega
  ·have := (a1 rfl).2; omega
 by_cases he : e3 = 0
 ·obtain ⟨g1, g2⟩ := all he
  subst he
  rw [show ((0 : Int) != 0) = false from rfl, cond_false]
  by_cases hr : 0 < b3.length
  ·rw [dt hr, cond_true, show ((5 : Int) != 0) = true from rfl, cond_true]
   refine T.ret (.inr ⟨(show (5 : Int) ≠ 0 by decide), rfl, fun t r _ ht => ?_⟩)
   exfalso
   rw [g1] at ht
   have := (texB_inj (x := b3) (x' := []) g2 r (by rw [List.append_nil]; exact ht)).2
   rw [this] at hr
   simp at hr
  ·have : b3 = [] := List.eq_nil_of_length_eq_zero (by omega)
   subst this
   rw [df hr, cond_false, show ((0 : Int) != 0) = false from rfl, cond_false]
   rw [List.append_nil] at g1
   by_cases h500 : ts.length ≤ 500
   ·refine T.bind (P := fun c => (c = 0 → TexG (S_api_Texture.mk (sd : Int) ts)) ∧ p_texture_Check N (S_api_Texture.mk (sd : Int) ts) = some c) ?_ fun c hc => T.cond (fun q => T.ret ?_) fun q => T.ret ?_
    ·obtain ⟨c, q1, q2⟩ := texT N (by omega) (S_api_Texture.mk (sd : Int) ts) h500
     exact ⟨c, q1, q2, q1⟩
    ·have q : c ≠ 0 := by simpa using q
     refine .inr ⟨q, rfl, fun t r _ ht => ?_⟩
     have := (texB_inj (x := []) (x' := []) g2 r (by rw [List.append_nil, List.append_nil, ← g1]; exact ht)).1
     rw [← this, hc.2]
     intro h
     cases h
     exact q rfl
    ·have q : c = 0 := by simpa using q
     exact .inl ⟨rfl, g1, hc.1 q⟩
   ·-- too many: the side is none
    have hbig : T (p_texture_Check N (S_api_Texture.mk (sd : Int) ts)) (fun c => c ≠ 0) := by
     unfold p_texture_Check
     obtain ⟨r1, e1, h1⟩ := containsT N (by omega) [1, 2, 4, 8, 16] (by decide) (sd : Int)
     dsimp only
     rw [e1, Option.bind_some]
     have hr1 : r1 = false := by
      cases r1 with
      | false => rfl
      | true =>
       have hm := h1 rfl
       simp only [List.mem_cons, List.not_mem_nil, or_false] at hm
       have n2 := g2.n
       dsimp only at n2
       have : (sd : Int) ≤ 16 := by omega
       have h3 : (sd : Int) * (sd : Int) ≤ 16 * 16 := Int.mul_le_mul this this (by omega) (by decide)
       omega
     rw [hr1, letO_e, letO_e, letO_e]
     exact ⟨5, rfl, by decide⟩
    refine T.bind hbig fun c hc => ?_
    rw [show (c != 0) = true by simpa using hc, cond_true]
    refine T.ret (.inr ⟨hc, rfl, fun t r h5 ht => ?_⟩)
    have := (texB_inj (x := []) (x' := []) g2 r (by rw [List.append_nil, List.append_nil, ← g1]; exact ht)).1
    rw [← this] at h5
    exact absurd h5 h500
 ·rw [show (e3 != 0) = true by simpa using he, cond_true, show (e3 != 0) = true by simpa using he, cond_true]
  exact T.ret (.inr ⟨he, rfl, fun t r _ ht => absurd ht (short he t r)⟩)
def LigR (l : S_api_Light) : Prop := (0 ≤ l.gKind ∧ l.gKind < 256) ∧ trG 4294967296 l.gColor ∧ ptR l.gAt ∧ ptR l.gU ∧ ptR l.gV
theorem LigG.r {l : S_api_Light} (g : LigG l) : LigR l := ⟨g.kind, g.color, g.at_.r, g.u.r, g.v.r⟩
theorem matB_inj {m m' : S_api_Material} (r : MatG m) (r' : MatG m') {x x' : List Int} (h : matB m ++ x = matB m' ++ x') : m = m' ∧ x = x' := by
 unfold matB at h
 simp only [List.append_assoc] at h
 obtain ⟨h1, h⟩ := List.append_inj h (by simp [leB_len])
 obtain ⟨h2, h⟩ := List.append_inj h (by simp [trB_len])
 obtain ⟨h3, h⟩ := List.append_inj h (by simp [leB_len])
 have n1 := leB_inj (w := 1) (by decide) r.kind r'.kind h1
 have n2 := trB_inj (w := 2) (by decide) r.color r'.color h2
 have n3 := leB_inj (w := 2) (by decide) r.rough r'.rough h3
 refine ⟨?_, h⟩
 cases m; cases m'
 dsimp only at *
 rw [n1, n2, n3]
theorem ligB_inj {m m' : S_api_Light} (r : LigR m) (r' : LigR m') {x x' : List Int} (h : ligB m ++ x = ligB m' ++ x') : m = m' ∧ x = x' := by
 unfold ligB at h
 simp only [List.append_assoc] at h
 obtain ⟨h1, h⟩ := List.append_inj h (by simp [leB_len])
 obtain ⟨h2, h⟩ := List.append_inj h (by simp [trB_len])
 obtain ⟨h3, h⟩ := List.append_inj h (by simp [ptB_len])
 obtain ⟨h4, h⟩ := List.append_inj h (by simp [ptB_len])
 obtain ⟨h5, h⟩ := List.append_inj h (by simp [ptB_len])
 obtain ⟨a1, a2, a3, a4, a5⟩ := r
 obtain ⟨b1, b2, b3, b4, b5⟩ := r'
 have n1 := leB_inj (w := 1) (by decide) a1 b1 h1
 have n2 := trB_inj (w := 4) (by decide) a2 b2 h2
 have n3 := ptB_inj a3 b3 h3
 have n4 := ptB_inj a4 b4 h4
 have n5 := ptB_inj a5 b5 h5
 refine ⟨?_, h⟩
 cases m; cases m'
 dsimp only at *
 rw [n1, n2, n3, n4, n5]
theorem matB_len (m : S_api_Material) : (matB m).length = 9 := by unfold matB; simp [leB_len, trB_len]
theorem ligB_len (m : S_api_Light) : (ligB m).length = 31 := by unfold ligB; simp [leB_len, trB_len, ptB_len]
end Go.UK
namespace Go.UK
open Go Go.Proofs
set_option maxRecDepth 20000
set_option maxHeartbeats 2000000
set_option linter.all false
theorem threeT (N : Nat) (hN : 20 < N) (w : Nat) (hw0 : 1 ≤ w) (hw : w ≤ 4) (b : List Int) (e : Int) (hb : bytesL b) : T (p_asset_decoder_three_srzd N (w : Int) (S_codec_Reader.mk b e true)) (fun r => RdQ (trB w) (trG (p256 w)) (3 * w) b e r.1 r.2.1 r.2.2.2 ∧ r.2.2.1 = true) := by
 unfold p_asset_decoder_three_srzd
 have h := tripT N hN w hw0 hw b e hb (Q := fun r => RdQ (trB w) (trG (p256 w)) (3 * w) b e r.2.2.1 r.2.2.2.1 #v[r.1.2.2, r.2.1.2.2, r.2.2.2.2]) (fun _ _ _ h => h)
 obtain ⟨⟨r1, r2, r3⟩, g1, g2⟩ := h
 obtain ⟨q1, k1, g1⟩ := obind g1
 obtain ⟨q2, k2, g1⟩ := obind g1
 obtain ⟨q3, k3, g1⟩ := obind g1
 cases g1
 rw [show p_asset_decoder_uint_srzd N (w : Int) (S_codec_Reader.mk b e true) = some r1 from k1, Option.bind_some]
 dsimp only
 rw [show p_asset_decoder_uint_srzd N (w : Int) (S_codec_Reader.mk r1.1 r1.2.1 true) = some r2 from k2, Option.bind_some, show p_asset_decoder_uint_srzd N (w : Int) (S_codec_Reader.mk r2.1 r2.2.1 true) = some r3 from k3, Option.bind_some]
 exact T.ret ⟨g2, rfl⟩
theorem uintA (N : Nat) (hN : 20 < N) (w : Nat) (hw0 : 1 ≤ w) (hw : w ≤ 4) (b : List Int) (e : Int) (hb : bytesL b) : T (p_asset_decoder_uint_srzd N (w : Int) (S_codec_Reader.mk b e true)) (fun r => RdQ (leB w) (fun x => 0 ≤ x ∧ x < p256 w) w b e r.1 r.2.1 r.2.2 ∧ 0 ≤ r.2.2 ∧ r.2.2 < p256 w) := uintT N hN w hw0 hw b e hb
theorem pointA (N : Nat) (hN : 20 < N) (b : List Int) (e : Int) (hb : bytesL b) : T (p_asset_decoder_point_srz N (S_codec_Reader.mk b e true)) (fun r => RdQ ptB ptR 6 b e r.1 r.2.1 r.2.2.2 ∧ r.2.2.1 = true) := pointT N hN b e hb
theorem RdQ.seq {α β : Type} {f : α → List Int} {P : α → Prop} {c : Nat} {g : β → List Int} {Q : β → Prop} {d : Nat} {b b1 b2 : List Int} {e e1 e2 : Int} {x : α} {y : β} (hf : ∀ x, (f x).length = c) (h : RdQ f P c b e b1 e1 x) (k : RdQ g Q d b1 e1 b2 e2 y) : RdQ (fun p : α × β => f p.1 ++ g p.2) (fun p => P p.1 ∧ Q p.2) (c + d) b e b2 e2 (x, y) := by
 obtain ⟨h1, h2, h3⟩ := h
 obtain ⟨k1, k2, k3⟩ := k
 refine ⟨k1, by omega, ?_⟩
 rcases k3 with ⟨q1, q2, q3, q4⟩ | ⟨q1, q2⟩
 ·subst q2
  rcases h3 with ⟨_, i2, i3, i4⟩ | ⟨i1, _⟩
  ·exact .inl ⟨q1, i2, by rw [i3, q3, List.append_assoc], i4, q4⟩
  ·exact absurd rfl i1
 ·refine .inr ⟨q1, fun he => ?_⟩
  rcases h3 with ⟨i1, _, i3, _⟩ | ⟨_, i1⟩
  ·have hl := congrArg List.length i3
   rw [List.length_append, hf] at hl
   have := q2 i1
   omega
  ·have := i1 he
   omega
theorem endQ (N : Nat) {α : Type} {f : α → List Int} {P : α → Prop} {c : Nat} {b b' : List Int} {e' : Int} {x : α} (h : RdQ f P c b 0 b' e' x) : T (p_codec_Reader_End_r N (S_codec_Reader.mk b' e' true)) (fun r => (r = 0 ∧ b = f x ∧ P x) ∨ (r ≠ 0 ∧ ((b.length < c) ∨ (∃ t, t ≠ [] ∧ b = f x ++ t ∧ P x)))) := by
 rw [endE]
 obtain ⟨h1, h2, ⟨rfl, _, h4, h5⟩ | ⟨h3, h4⟩⟩ := h
 ·rw [show ((0 : Int) != 0) = false from rfl, cond_false]
  by_cases hr : 0 < b'.length
  ·rw [dt hr]
   exact T.ret (.inr ⟨(show (5 : Int) ≠ 0 by decide), .inr ⟨b', by intro e; rw [e] at hr; simp at hr, h4, h5⟩⟩)
  ·rw [df hr]
   have : b' = [] := List.eq_nil_of_length_eq_zero (by omega)
   subst this
   exact T.ret (.inl ⟨rfl, by rw [h4, List.append_nil], h5⟩)
 ·rw [show (e' != 0) = true by simpa using h3, cond_true]
  exact T.ret (.inr ⟨h3, .inl (h4 rfl)⟩)
theorem assDecT (N : Nat) (hN : 10000 < N) (k : Int) (b : List Int) (hb : bytesL b) (hl : b.length ≤ 5000) : T (p_asset_Decode N k b) (fun r => (r.2 = 0 ∧ b = assB r.1 ∧ GoodA N r.1 ∧ r.1.gKind = k ∧ AssL r.1) ∨ (r.2 ≠ 0 ∧ r.1 = zA 0 ∧ ∀ a, GoodA N a → a.gKind = k → b ≠ assB a)) := by
 -- what stands behind: the check of what was read
 have fin : ∀ a : S_api_Asset, AssL a → a.gKind = k → (OwnG a → b = assB a) → (∀ a', GoodA N a' → a'.gKind = k → b = assB a' → a' = a) → T (Option.bind (p_asset_Check N a) fun r17 => cond (r17 != 0) (some (zA 0, r17)) (some (a, 0))) (fun r => (r.2 = 0 ∧ b = assB r.1 ∧ GoodA N r.1 ∧ r.1.gKind = k ∧ AssL r.1) ∨ (r.2 ≠ 0 ∧ r.1 = zA 0 ∧ ∀ a, GoodA N a → a.gKind = k → b ≠ assB a)) := by
  intro a hL hk h1 h2
  refine T.bind (checkT N (by omega) a hL) fun c hc => T.cond (fun q => T.ret ?_) fun q => T.ret ?_
  ·have q : c ≠ 0 := by simpa using q
   refine .inr ⟨q, rfl, fun a' g hk' e => ?_⟩
   have := h2 a' g hk' e
   subst this
   exact q (hc.2 g)
  ·have q : c = 0 := by simpa using q
   have g := hc.1 q
   exact .inl ⟨rfl, h1 g.own, g, hk, hL⟩
 unfold p_asset_Decode
 rw [newP N b (by omega), Option.bind_some]
 have hk : k = 1 ∨ k = 2 ∨ k = 3 ∨ k = 4 ∨ (k ≠ 1 ∧ k ≠ 2 ∧ k ≠ 3 ∧ k ≠ 4) := by omega
 rcases hk with rfl | rfl | rfl | rfl | ⟨n1, n2, n3, n4⟩
 ·rw [show ((1 : Int) == 1) = true from rfl, cond_true]
  obtain ⟨⟨m, e⟩, h0, h⟩ := meshDecT N (by omega) b hb (by omega)
  rw [h0, Option.bind_some, Option.bind_some]
  dsimp only at h ⊢
  rw [letO_e]
  rcases h with ⟨rfl, h1, h2⟩ | ⟨h1, rfl, h3⟩
  ·rw [show ((0 : Int) != 0) = false from rfl, cond_false]
   refine fin (S_api_Asset.mk 1 (S_api_Mesh.mk m.gVerts m.gUvs m.gTris) zTex zMat zLig) ⟨by dsimp only; have := h2.nv; omega, by dsimp only; have := h2.nv; have := h2.nu; omega, by dsimp only; have := h2.nt; omega, by simp [zTex]⟩ rfl (fun _ => ?_) fun a' g hk' e => ?_
   ·rw [h1]; rfl
   ·have hc := g.clean.1 hk'
    have ho : MeshG a'.gMesh := by
     rcases g.own with ⟨_, o⟩ | ⟨o, _⟩ | ⟨o, _⟩ | ⟨o, _⟩
     ·exact o
     ·rw [hk'] at o; cases o
     ·rw [hk'] at o; cases o
     ·rw [hk'] at o; cases o
    have he : assB a' = meshB a'.gMesh := by unfold assB; rw [if_pos hk']
    have := (meshB_inj (x := []) (x' := []) h2.r ho.r (by rw [List.append_nil, List.append_nil, ← h1, e, he])).1
    rw [hc, ← this]
  ·rw [show (e != 0) = true by simpa using h1, cond_true, letO_e]
   refine T.ret (.inr ⟨h1, rfl, fun a' g hk' he => ?_⟩)
   have ho : MeshG a'.gMesh := by
    rcases g.own with ⟨_, o⟩ | ⟨o, _⟩ | ⟨o, _⟩ | ⟨o, _⟩
    ·exact o
    ·rw [hk'] at o; cases o
    ·rw [hk'] at o; cases o
    ·rw [hk'] at o; cases o
   have he' : assB a' = meshB a'.gMesh := by unfold assB; rw [if_pos hk']
   refine h3 a'.gMesh ho.r (by rw [he, he']) ?_
   have h9 := g.own0
   unfold p_asset_own at h9
   rw [hk', show ((1 : Int) == 1) = true from rfl, cond_true] at h9
   cases hc : p_mesh_Check N a'.gMesh with
   | none => rw [hc] at h9; cases h9
   | some r => rw [hc] at h9; exact h9
 ·rw [show ((2 : Int) == 1) = false from rfl, show ((2 : Int) == 2) = true from rfl, cond_false, cond_true]
  obtain ⟨⟨m, e⟩, h0, h⟩ := texDecT N hN b hb hl
  rw [h0, Option.bind_some, Option.bind_some]
  dsimp only at h ⊢
  rw [letO_e]
  rcases h with ⟨rfl, h1, h2⟩ | ⟨h1, rfl, h3⟩
  ·rw [show ((0 : Int) != 0) = false from rfl, cond_false]
   have hn : m.gTexels.length ≤ 500 := by
    have a1 := h2.side
    have a2 := h2.n
    have : m.gSide * m.gSide ≤ 16 * 16 := Int.mul_le_mul a1.2 a1.2 (by omega) (by decide)
    omega
   refine fin (S_api_Asset.mk 2 zMesh (S_api_Texture.mk m.gSide m.gTexels) zMat zLig) ⟨by simp [zMesh], by simp [zMesh], by simp [zMesh], hn⟩ rfl (fun _ => ?_) fun a' g hk' e => ?_
   ·rw [h1]; rfl
   ·have hc := g.clean.2.1 hk'
    have ho : TexG a'.gTexture := by
     rcases g.own with ⟨o, _⟩ | ⟨_, o⟩ | ⟨o, _⟩ | ⟨o, _⟩
     ·rw [hk'] at o; cases o
     ·exact o
     ·rw [hk'] at o; cases o
     ·rw [hk'] at o; cases o
    have he : assB a' = texB a'.gTexture := by unfold assB; rw [if_neg (by omega), if_pos hk']
    have := (texB_inj (x := []) (x' := []) h2.r ho.r (by rw [List.append_nil, List.append_nil, ← h1, e, he])).1
    rw [hc, ← this]
  ·rw [show (e != 0) = true by simpa using h1, cond_true, letO_e]
   refine T.ret (.inr ⟨h1, rfl, fun a' g hk' he => ?_⟩)
   have ho : TexG a'.gTexture := by
    rcases g.own with ⟨o, _⟩ | ⟨_, o⟩ | ⟨o, _⟩ | ⟨o, _⟩
    ·rw [hk'] at o; cases o
    ·exact o
    ·rw [hk'] at o; cases o
    ·rw [hk'] at o; cases o
   have hn : a'.gTexture.gTexels.length ≤ 500 := by
    have a1 := ho.side
    have a2 := ho.n
    have : a'.gTexture.gSide * a'.gTexture.gSide ≤ 16 * 16 := Int.mul_le_mul a1.2 a1.2 (by omega) (by decide)
    omega
   have he' : assB a' = texB a'.gTexture := by unfold assB; rw [if_neg (by omega), if_pos hk']
   refine h3 a'.gTexture ho.r hn (by rw [he, he']) ?_
   have h9 := g.own0
   unfold p_asset_own at h9
   rw [hk', show ((2 : Int) == 1) = false from rfl, show ((2 : Int) == 2) = true from rfl, cond_false, cond_true] at h9
   cases hc : p_texture_Check N a'.gTexture with
   | none => rw [hc] at h9; cases h9
   | some r => rw [hc] at h9; exact h9
 ·rw [show ((3 : Int) == 1) = false from rfl, show ((3 : Int) == 2) = false from rfl, show ((3 : Int) == 3) = true from rfl, cond_false, cond_false, cond_true]
  obtain ⟨⟨b5, e5, v5⟩, k5, h5, _, _⟩ := uintA N (by omega) 1 (by decide) (by decide) b 0 hb
  rw [show p_asset_decoder_uint_srzd N 1 (S_codec_Reader.mk b 0 true) = _ from k5, Option.bind_some]
  dsimp only at h5 ⊢
  obtain ⟨⟨b6, e6, m6, v6⟩, k6, h6, hm6⟩ := threeT N (by omega) 2 (by decide) (by decide) b5 e5 h5.1
  rw [show p_asset_decoder_three_srzd N 2 (S_codec_Reader.mk b5 e5 true) = _ from k6, Option.bind_some]
  dsimp only at h6 hm6 ⊢
  subst hm6
  obtain ⟨⟨b7, e7, v7⟩, k7, h7, _, _⟩ := uintA N (by omega) 2 (by decide) (by decide) b6 e6 h6.1
  rw [show p_asset_decoder_uint_srzd N 2 (S_codec_Reader.mk b6 e6 true) = _ from k7, Option.bind_some]
  dsimp only at h7 ⊢
  have hq := (h5.seq (fun x => leB_len 1 x) h6).seq (c := 7) (fun x => by simp [leB_len, trB_len]) h7
  obtain ⟨c, k8, h8⟩ := endQ N hq
  rw [k8, Option.bind_some, Option.bind_some]
  dsimp only
  rw [letO_e]
  have eB : ∀ m : S_api_Material, m = S_api_Material.mk v5 v6 v7 → (leB 1 v5 ++ trB 2 v6) ++ leB 2 v7 = matB m := by rintro m rfl; unfold matB; rw [List.append_assoc]
  rcases h8 with ⟨rfl, h1, ⟨g1, g2⟩, g3⟩ | ⟨h1, h2⟩
  ·rw [show ((0 : Int) != 0) = false from rfl, cond_false]
   have G : MatG (S_api_Material.mk v5 v6 v7) := ⟨g1, g2, g3⟩
   refine fin (S_api_Asset.mk 3 zMesh zTex (S_api_Material.mk v5 v6 v7) zLig) ⟨by simp [zMesh], by simp [zMesh], by simp [zMesh], by simp [zTex]⟩ rfl (fun _ => ?_) fun a' g hk' e => ?_
   ·rw [h1]; exact eB _ rfl
   ·have hc := g.clean.2.2.1 hk'
    have ho : MatG a'.gMaterial := by
     rcases g.own with ⟨o, _⟩ | ⟨o, _⟩ | ⟨_, o⟩ | ⟨o, _⟩
     ·rw [hk'] at o; cases o
     ·rw [hk'] at o; cases o
     ·exact o
     ·rw [hk'] at o; cases o
    have he : assB a' = matB a'.gMaterial := by unfold assB; rw [if_neg (by omega), if_neg (by omega), if_pos hk']
    have := (matB_inj (x := []) (x' := []) G ho (by rw [List.append_nil, List.append_nil, ← he, ← e, h1]; exact (eB _ rfl).symm)).1
    rw [hc, ← this]
  ·rw [show (c != 0) = true by simpa using h1, cond_true, letO_e]
   refine T.ret (.inr ⟨h1, rfl, fun a' g hk' he => ?_⟩)
   have ho : MatG a'.gMaterial := by
    rcases g.own with ⟨o, _⟩ | ⟨o, _⟩ | ⟨_, o⟩ | ⟨o, _⟩
    ·rw [hk'] at o; cases o
    ·rw [hk'] at o; cases o
    ·exact o
    ·rw [hk'] at o; cases o
   have he' : assB a' = matB a'.gMaterial := by unfold assB; rw [if_neg (by omega), if_neg (by omega), if_pos hk']
   rw [he'] at he
   rcases h2 with h2 | ⟨t, ht, h2, ⟨g1, g2⟩, g3⟩
   ·rw [he, matB_len] at h2; omega
   ·rw [he] at h2
    have h2' : matB a'.gMaterial = (leB 1 v5 ++ trB 2 v6) ++ leB 2 v7 ++ t := h2
    rw [eB _ rfl] at h2'
    have := (matB_inj (x := []) (x' := t) ho (show MatG (S_api_Material.mk v5 v6 v7) from ⟨g1, g2, g3⟩) (by rw [List.append_nil]; exact h2')).2
    exact ht this.symm
 ·rw [show ((4 : Int) == 1) = false from rfl, show ((4 : Int) == 2) = false from rfl, show ((4 : Int) == 3) = false from rfl, show ((4 : Int) == 4) = true from rfl, cond_false, cond_false, cond_false, cond_true]
  obtain ⟨⟨b5, e5, v5⟩, k5, h5, _, _⟩ := uintA N (by omega) 1 (by decide) (by decide) b 0 hb
  rw [show p_asset_decoder_uint_srzd N 1 (S_codec_Reader.mk b 0 true) = _ from k5, Option.bind_some]
  dsimp only at h5 ⊢
  obtain ⟨⟨b6, e6, m6, v6⟩, k6, h6, hm6⟩ := threeT N (by omega) 4 (by decide) (by decide) b5 e5 h5.1
  rw [show p_asset_decoder_three_srzd N 4 (S_codec_Reader.mk b5 e5 true) = _ from k6, Option.bind_some]
  dsimp only at h6 hm6 ⊢
  subst hm6
  obtain ⟨⟨b7, e7, m7, v7⟩, k7, h7, hm7⟩ := pointA N (by omega) b6 e6 h6.1
  rw [k7, Option.bind_some]
  dsimp only at h7 hm7 ⊢
  subst hm7
  obtain ⟨⟨b8, e8, m8, v8⟩, k8, h8, hm8⟩ := pointA N (by omega) b7 e7 h7.1
  rw [k8, Option.bind_some]
  dsimp only at h8 hm8 ⊢
  subst hm8
  obtain ⟨⟨b9, e9, m9, v9⟩, k9, h9, hm9⟩ := pointA N (by omega) b8 e8 h8.1
  rw [k9, Option.bind_some]
  dsimp only at h9 hm9 ⊢
  subst hm9
  have hq := (((h5.seq (fun x => leB_len 1 x) h6).seq (c := 13) (fun x => by simp [leB_len, trB_len]) h7).seq (c := 19) (fun x => by simp [leB_len, trB_len, ptB_len]) h8).seq (c := 25) (fun x => by simp [leB_len, trB_len, ptB_len]) h9
  obtain ⟨c, k10, h10⟩ := endQ N hq
  rw [k10, Option.bind_some, Option.bind_some]
  dsimp only
  rw [letO_e]
  have eB : ∀ m : S_api_Light, m = S_api_Light.mk v5 v6 v7 v8 v9 → (((leB 1 v5 ++ trB 4 v6) ++ ptB v7) ++ ptB v8) ++ ptB v9 = ligB m := by rintro m rfl; unfold ligB; simp [List.append_assoc]
  rcases h10 with ⟨rfl, h1, ⟨⟨⟨⟨g1, g2⟩, g3⟩, g4⟩, g5⟩⟩ | ⟨h1, h2⟩
  ·rw [show ((0 : Int) != 0) = false from rfl, cond_false]
   have G : LigR (S_api_Light.mk v5 v6 v7 v8 v9) := ⟨g1, g2, g3, g4, g5⟩
   refine fin (S_api_Asset.mk 4 zMesh zTex zMat (S_api_Light.mk v5 v6 v7 v8 v9)) ⟨by simp [zMesh], by simp [zMesh], by simp [zMesh], by simp [zTex]⟩ rfl (fun _ => ?_) fun a' g hk' e => ?_
   ·rw [h1]; exact eB _ rfl
   ·have hc := g.clean.2.2.2 hk'
    have ho : LigG a'.gLight := by
     rcases g.own with ⟨o, _⟩ | ⟨o, _⟩ | ⟨o, _⟩ | ⟨_, o⟩
     ·rw [hk'] at o; cases o
     ·rw [hk'] at o; cases o
     ·rw [hk'] at o; cases o
     ·exact o
    have he : assB a' = ligB a'.gLight := by unfold assB; rw [if_neg (by omega), if_neg (by omega), if_neg (by omega)]
    have := (ligB_inj (x := []) (x' := []) G ho.r (by rw [List.append_nil, List.append_nil, ← he, ← e, h1]; exact (eB _ rfl).symm)).1
    rw [hc, ← this]
  ·rw [show (c != 0) = true by simpa using h1, cond_true, letO_e]
   refine T.ret (.inr ⟨h1, rfl, fun a' g hk' he => ?_⟩)
   have ho : LigG a'.gLight := by
    rcases g.own with ⟨o, _⟩ | ⟨o, _⟩ | ⟨o, _⟩ | ⟨_, o⟩
    ·rw [hk'] at o; cases o
    ·rw [hk'] at o; cases o
    ·rw [hk'] at o; cases o
    ·exact o
   have he' : assB a' = ligB a'.gLight := by unfold assB; rw [if_neg (by omega), if_neg (by omega), if_neg (by omega)]
   rw [he'] at he
   rcases h2 with h2 | ⟨t, ht, h2, ⟨⟨⟨⟨g1, g2⟩, g3⟩, g4⟩, g5⟩⟩
   ·rw [he, ligB_len] at h2; omega
   ·rw [he] at h2
    have h2' : ligB a'.gLight = (((leB 1 v5 ++ trB 4 v6) ++ ptB v7) ++ ptB v8) ++ ptB v9 ++ t := h2
    rw [eB _ rfl] at h2'
    have := (ligB_inj (x := []) (x' := t) ho.r (show LigR (S_api_Light.mk v5 v6 v7 v8 v9) from ⟨g1, g2, g3, g4, g5⟩) (by rw [List.append_nil]; exact h2')).2
    exact ht this.symm
 ·rw [show (k == 1) = false by simpa using n1, show (k == 2) = false by simpa using n2, show (k == 3) = false by simpa using n3, show (k == 4) = false by simpa using n4, cond_false, cond_false, cond_false, cond_false, Option.bind_some]
  dsimp only
  rw [letO_e, show ((0 : Int) != 0) = false from rfl, cond_false]
  have no : ∀ a : S_api_Asset, a.gKind = k → ¬ OwnG a := by
   intro a hk g
   rcases g with ⟨g, _⟩ | ⟨g, _⟩ | ⟨g, _⟩ | ⟨g, _⟩ <;> omega
  exact fin (S_api_Asset.mk k zMesh zTex zMat zLig) ⟨by simp [zMesh], by simp [zMesh], by simp [zMesh], by simp [zTex]⟩ rfl (fun g => absurd g (no _ rfl)) fun a' g hk' e => absurd g.own (no _ hk')
end Go.UK
namespace Go.UK
open Go Go.Proofs
set_option maxRecDepth 20000
set_option maxHeartbeats 1000000
set_option linter.all false
def headB (base : Vector Int 8) (m : S_api_Manifest) : List Int := [85, 77, 66, 49] ++ (base.toList ++ manB m)
theorem headB_len (base : Vector Int 8) (m : S_api_Manifest) : (headB base m).length = 47 := by unfold headB; simp [manB_len]
def markV (N : Nat) (key : Vector Int 32) (base : Vector Int 8) (m : S_api_Manifest) : List Int := sealV N key (nonV N base 0) (headB base m) []
theorem markV_len (N : Nat) (hN : 70000 ≤ N) (key : Vector Int 32) (base : Vector Int 8) (m : S_api_Manifest) : (markV N key base m).length = 16 := by
 unfold markV; rw [sealV_len N hN key _ _ (by simp)]; rfl
theorem markV_bytes (N : Nat) (hN : 70000 ≤ N) (key : Vector Int 32) (base : Vector Int 8) (m : S_api_Manifest) : bytesL (markV N key base m) := by
 unfold markV; exact sealV_bytes N hN key _ _ (by rw [headB_len]; omega) (by simp)
def preB (i n : Nat) : List Int := leB 2 (i : Int) ++ leB 2 (n : Int)
theorem preB_len (i n : Nat) : (preB i n).length = 4 := by unfold preB; simp [leB_len]
theorem preB_bytes (i n : Nat) : bytesL (preB i n) := (leB_bytes _ _).app (leB_bytes _ _)
def sealC (N : Nat) (key : Vector Int 32) (base : Vector Int 8) (mark : List Int) (i : Nat) (p : List Int) : List Int := sealV N key (nonV N base ((i + 1 : Nat) : Int)) (preB i p.length ++ mark) p
def chunkF (N : Nat) (key : Vector Int 32) (base : Vector Int 8) (mark : List Int) (i : Nat) (p : List Int) : List Int := preB i p.length ++ sealC N key base mark i p
theorem chunkF_len (N : Nat) (hN : 70000 ≤ N) (key : Vector Int 32) (base : Vector Int 8) (mark : List Int) (i : Nat) {p : List Int} (hp : p.length ≤ 65536) : (chunkF N key base mark i p).length = p.length + 20 := by
 unfold chunkF sealC; rw [List.length_append, preB_len, sealV_len N hN key _ _ hp]; omega
def bodyC (N : Nat) (key : Vector Int 32) (base : Vector Int 8) (mark : List Int) : Nat → Nat → List Int → List Int
 | 0, _, _ => []
 | c + 1, i, l => chunkF N key base mark i (l.take 256) ++ bodyC N key base mark c (i + 1) (l.drop 256)
def nCh (n : Nat) : Nat := (n + 255) / 256
theorem nCh_e (n : Nat) : chunksV (n : Int) = (nCh n : Int) := by unfold chunksV nCh; split <;> omega
theorem bodyC_len (N : Nat) (hN : 70000 ≤ N) (key : Vector Int 32) (base : Vector Int 8) (mark : List Int) : ∀ (c i : Nat) (l : List Int), (bodyC N key base mark c i l).length = (min l.length (256 * c)) + 20 * c
 | 0, _, _ => by simp [bodyC]
 | c + 1, i, l => by
  rw [bodyC, List.length_append, chunkF_len N hN key base mark i (by simp; omega), bodyC_len N hN key base mark c (i + 1), List.length_take, List.length_drop]
  omega
theorem sealR1 (N : Nat) (hN : 70000 ≤ N) (key : Vector Int 32) (base : Vector Int 8) (s mark q : List Int) (i : Nat) (p : List Int) (hm : mark.length = 16) (hi : i < 1000) (hp : p.length ≤ 256) (hs : s.length ≤ 100000) :
  p_bundle_Seal_R1 N s key base mark q (i : Int) p = some (s ++ chunkF N key base mark i p) := by
 unfold p_bundle_Seal_R1
 have e := put2 N (by omega) [] 2 (by decide) (by decide) (i : Int) (p.length : Int) ⟨by omega, by rw [show p256 2 = 65536 from rfl]; omega⟩ ⟨by omega, by rw [show p256 2 = 65536 from rfl]; omega⟩ (by simp)
 rw [U64_id (x := (p.length : Int)) (by omega) (by omega), letO_e, U64_id (x := (i : Int)) (by omega) (by omega), show p_codec_Put N [] 2 [(i : Int), (p.length : Int)] = _ from e, Option.bind_some, I64_s (by omega), nonP N (by omega), Option.bind_some]
 dsimp only
 rw [List.nil_append, show leB 2 (i : Int) ++ leB 2 (p.length : Int) = preB i p.length from rfl, concP N [preB i p.length, mark] (by simp) (by show 2 < N; omega) (by intro l hl; simp only [List.mem_cons, List.not_mem_nil, or_false] at hl; rcases hl with rfl | rfl; rw [preB_len]; omega; omega), Option.bind_some]
 have e2 : [preB i p.length, mark].flatten = preB i p.length ++ mark := by simp
 rw [e2, sealP N hN key _ _ p (by rw [List.length_append, preB_len]; omega) (by omega), Option.bind_some, appO1 (by omega) (by rw [preB_len]; omega), Option.bind_some]
 dsimp only
 rw [appO1 (by rw [List.length_append, preB_len]; omega) (by rw [sealV_len N hN key _ _ (by omega)]; omega), Option.bind_some, List.append_assoc]
 rfl
theorem take_min {α : Type} (l : List α) : l.take (min l.length 256) = l.take 256 := by
 by_cases h : l.length ≤ 256
 ·rw [Nat.min_eq_left h, List.take_length, List.take_of_length_le h]
 ·rw [Nat.min_eq_right (by omega)]
theorem drop_min {α : Type} (l : List α) : l.drop (min l.length 256) = l.drop 256 := by
 by_cases h : l.length ≤ 256
 ·rw [Nat.min_eq_left h, List.drop_length, List.drop_eq_nil_of_le h]
 ·rw [Nat.min_eq_right (by omega)]
theorem sealL (N : Nat) (hN : 70000 ≤ N) (key : Vector Int 32) (base : Vector Int 8) (mark : List Int) (hm : mark.length = 16) : ∀ (k : Nat) (s l : List Int) (i : Nat), nCh l.length < k → i + nCh l.length ≤ 100 → s.length + 300 * nCh l.length ≤ 100000 →
  p_bundle_chunks_1_for_bundle_Seal_R1_L1 N key base mark k s l (i : Int) = some (s ++ bodyC N key base mark (nCh l.length) i l, [])
 | 0, _, _, _, h, _, _ => by omega
 | k + 1, s, l, i, hk, hi, hs => by
  rw [p_bundle_chunks_1_for_bundle_Seal_R1_L1, letO_e]
  by_cases h : l.length = 0
  ·obtain rfl := List.eq_nil_of_length_eq_zero h
   rw [df (by simp), cond_false, show nCh ([] : List Int).length = 0 from rfl, bodyC, List.append_nil]
  ·have hn : nCh l.length = nCh (l.drop 256).length + 1 := by unfold nCh; rw [List.length_drop]; omega
   rw [dt (by omega), cond_true, show (256 : Int) = ((256 : Nat) : Int) from rfl, imin_nat, letO_e, slc3O_ok (by omega), Option.bind_some, take_min, sealR1 N hN key base s mark l i _ hm (by omega) (by simp; omega) (by omega), Option.bind_some, slcO_drop (by omega), Option.bind_some, drop_min, I64_s (by omega)]
   rw [sealL N hN key base mark hm k _ (l.drop 256) (i + 1) (by omega) (by omega) (by rw [List.length_append, chunkF_len N hN key base mark i (by simp; omega), List.length_take]; omega)]
   rw [hn, bodyC, List.append_assoc]
def bundleB (N : Nat) (key : Vector Int 32) (base : Vector Int 8) (m : S_api_Manifest) (p : List Int) : List Int :=
 headB base m ++ (markV N key base m ++ bodyC N key base (markV N key base m) (nCh p.length) 0 p)
theorem bundleB_len (N : Nat) (hN : 70000 ≤ N) (key : Vector Int 32) (base : Vector Int 8) (m : S_api_Manifest) (p : List Int) : (bundleB N key base m p).length = 63 + p.length + 20 * nCh p.length := by
 unfold bundleB
 rw [List.length_append, List.length_append, headB_len, markV_len N hN, bodyC_len N hN]
 unfold nCh
 omega
def fullM (m : S_api_Manifest) (n : Nat) : S_api_Manifest := S_api_Manifest.mk m.gId m.gKind m.gLabel m.gMasks m.gFrom m.gTo (n : Int) (nCh n : Int)
theorem capV_le (k : Int) : capV k ≤ 2048 := by unfold capV; split; decide; split; decide; split; decide; split <;> decide
theorem fullM_T {m : S_api_Manifest} (t : ManT m) {n : Nat} (h : n ≤ 2048) : ManT (fullM m n) :=
 ⟨t.id, t.kind, t.label, t.masks, t.fr, t.to, ⟨by show _ ≤ (n : Int); omega, by show (n : Int) ≤ _; omega⟩, ⟨by show _ ≤ (nCh n : Int); omega, by show (nCh n : Int) ≤ _; unfold nCh; omega⟩⟩
theorem GoodA.len {N : Nat} {a : S_api_Asset} (g : GoodA N a) : (assB a).length ≤ 2048 := by have := g.cap; have := capV_le a.gKind; omega
theorem sealT (N : Nat) (hN : 70000 ≤ N) (key : Vector Int 32) (base : Vector Int 8) (m : S_api_Manifest) (a : S_api_Asset) (t : ManT m) (hA : AssL a) :
  T (p_bundle_Seal N key base m a) (fun r => (r.2 = 0 ∧ GoodA N a ∧ m.gKind = a.gKind ∧ mchkV (fullM m (assB a).length) = 0 ∧ r.1 = bundleB N key base (fullM m (assB a).length) (assB a)) ∨ (r.2 ≠ 0 ∧ r.1 = [] ∧ ¬ (GoodA N a ∧ m.gKind = a.gKind ∧ mchkV (fullM m (assB a).length) = 0))) := by
 unfold p_bundle_Seal
 obtain ⟨r1, e1, h1⟩ := encodeT N (by omega) a hA
 rw [e1, Option.bind_some]
 rcases h1 with ⟨c, g, h⟩ | ⟨c, _, h⟩
 rotate_left
 ·rw [show (r1.2 != 0) = true by simpa using c, cond_true]
  exact T.ret (.inr ⟨c, rfl, fun q => h q.1⟩)
 ·rw [c, show ((0 : Int) != 0) = false from rfl, cond_false, h]
  have hl := g.len
  by_cases hk : m.gKind = a.gKind
  rotate_left
  ·rw [show (m.gKind != a.gKind) = true by simpa using hk, cond_true]
   exact T.ret (.inr ⟨by decide, rfl, fun q => hk q.2.1⟩)
  rw [show (m.gKind != a.gKind) = false by simpa using hk, cond_false, chunksP N ⟨by omega, by omega⟩, Option.bind_some, nCh_e]
  have e3 := mencP N (by omega) (fullM m (assB a).length) (fullM_T t hl)
  rw [show p_manifest_Encode N (S_api_Manifest.mk m.gId m.gKind m.gLabel m.gMasks m.gFrom m.gTo ((assB a).length : Int) (nCh (assB a).length : Int)) = _ from e3, Option.bind_some]
  by_cases hc : mchkV (fullM m (assB a).length) = 0
  rotate_left
  ·rw [if_neg hc]
   dsimp only
   rw [show (mchkV (fullM m (assB a).length) != 0) = true by simpa using hc, cond_true]
   exact T.ret (.inr ⟨hc, rfl, fun q => hc q.2.2⟩)
  rw [if_pos hc]
  dsimp only
  rw [show ((0 : Int) != 0) = false from rfl, cond_false, show slcO base.toList 0 8 = some base.toList from slcV (m := 8) _, Option.bind_some]
  rw [concP N [[85, 77, 66, 49], base.toList, manB (fullM m (assB a).length)] (by simp) (by show 3 < N; omega) (by intro l hl; simp only [List.mem_cons, List.not_mem_nil, or_false] at hl; rcases hl with rfl | rfl | rfl; simp; simp; rw [manB_len]; omega), Option.bind_some]
  rw [show ([[85, 77, 66, 49], base.toList, manB (fullM m (assB a).length)] : List (List Int)).flatten = headB base (fullM m (assB a).length) by unfold headB; simp, nonP N (by omega), Option.bind_some]
  rw [sealP N hN key _ _ [] (by rw [headB_len]; omega) (by simp), Option.bind_some]
  dsimp only
  rw [show sealV N key (nonV N base 0) (headB base (fullM m (assB a).length)) [] = markV N key base (fullM m (assB a).length) from rfl]
  have hm := markV_len N hN key base (fullM m (assB a).length)
  rw [appO1 (by rw [headB_len]; omega) (by omega), Option.bind_some]
  rw [show p_bundle_chunks N (assB a) = some () from rfl, Option.bind_some]
  unfold p_bundle_chunks_1_for_bundle_Seal_R1
  have hn : nCh (assB a).length ≤ 8 := by unfold nCh; omega
  have e := sealL N hN key base (markV N key base (fullM m (assB a).length)) hm N (headB base (fullM m (assB a).length) ++ markV N key base (fullM m (assB a).length)) (assB a) 0 (by omega) (by omega) (by rw [List.length_append, headB_len, hm]; omega)
  rw [show ((0 : Nat) : Int) = 0 from rfl] at e
  rw [e, Option.bind_some, Option.bind_some]
  refine T.ret (.inl ⟨rfl, g, hk, hc, ?_⟩)
  unfold bundleB
  rw [List.append_assoc]
end Go.UK
