/- A part of the proof: what the functions of the program compute. -/
import Derived.Test.YtljnaeghnleipaaR8
namespace Go.UK
open Go Go.Proofs
set_option maxRecDepth 20000
set_option maxHeartbeats 1000000
set_option linter.all false
theorem pt_eq (a b : S_api_Point) : S_api_Point.eq a b = true ↔ a = b := by
 unfold S_api_Point.eq
 simp only [Bool.and_eq_true, beq_iff_eq, and_true]
 constructor
 ·rintro ⟨h1, h2, h3⟩
  cases a; cases b
  dsimp only at *
  subst h1 h2 h3
  rfl
 ·rintro rfl
  exact ⟨rfl, rfl, rfl⟩
theorem mat_eq (a b : S_api_Material) : S_api_Material.eq a b = true ↔ a = b := by
 unfold S_api_Material.eq
 simp only [Bool.and_eq_true, eqV_iff, beq_iff_eq, and_true]
 constructor
 ·rintro ⟨h1, h2, h3⟩
  cases a; cases b
  dsimp only at *
  subst h1 h2 h3
  rfl
 ·rintro rfl
  exact ⟨rfl, rfl, rfl⟩
theorem lig_eq (a b : S_api_Light) : S_api_Light.eq a b = true ↔ a = b := by
 unfold S_api_Light.eq
 simp only [Bool.and_eq_true, eqV_iff, beq_iff_eq, and_true, pt_eq]
 constructor
 ·rintro ⟨h1, h2, h3, h4, h5⟩
  cases a; cases b
  dsimp only at *
  subst h1 h2 h3 h4 h5
  rfl
 ·rintro rfl
  exact ⟨rfl, rfl, rfl, rfl, rfl⟩
theorem man_eq (a b : S_api_Manifest) : S_api_Manifest.eq a b = true ↔ a = b := by
 unfold S_api_Manifest.eq
 simp only [Bool.and_eq_true, eqV_iff, beq_iff_eq, and_true]
 constructor
 ·rintro ⟨h1, h2, h3, h4, h5, h6, h7, h8⟩
  cases a; cases b
  dsimp only at *
  subst h1 h2 h3 h4 h5 h6 h7 h8
  rfl
 ·rintro rfl
  exact ⟨rfl, rfl, rfl, rfl, rfl, rfl, rfl, rfl⟩
theorem alikeT {α : Type} (eq : α → α → Bool) (heq : ∀ x y, eq x y = true ↔ x = y) (a b : List α) (hl : a.length ≤ 100000) {F : Nat → Int → Option (Sum Unit Bool)}
  (hstep : ∀ k i (h : i < a.length) (h' : i < b.length), F (k + 1) (i : Int) = cond (!eq a[i] b[i]) (some (Sum.inr false)) (F k (I64 ((i : Int) + 1)))) (hend : ∀ k, F (k + 1) (a.length : Int) = some (Sum.inl ())) {N : Nat} (hN : a.length < N) :
  T (letO ((a.length : Int) != (b.length : Int)) fun x1 => cond x1 (some false) (Option.bind (F N 0) fun o => sumC o (fun p2 => some true) (fun r => some r))) (fun r => r = true ↔ a = b) := by
 refine T.letO fun x hx => ?_
 subst hx
 refine T.cond (fun h => T.ret ?_) fun h => ?_
 ·have h : ¬ (a.length : Int) = (b.length : Int) := by simpa using h
  constructor
  ·intro e; cases e
  ·rintro rfl; exact absurd rfl h
 ·have h : (a.length : Int) = (b.length : Int) := by simpa using h
  have key : ∀ (k i : Nat), i ≤ a.length → a.length - i < k → T (Option.bind (F k (i : Int)) fun o => sumC o (fun p2 => some true) (fun r => some r)) (fun r => r = true ↔ a.drop i = b.drop i) := by
   intro k
   induction k with
   | zero => intro i _ h; omega
   | succ k ih =>
    intro i hi hk
    by_cases h1 : i < a.length
    ·rw [hstep k i h1 (by omega), List.drop_eq_getElem_cons h1, List.drop_eq_getElem_cons (show i < b.length by omega)]
     cases he : eq a[i] b[i] with
     | false =>
      refine ⟨false, rfl, ?_⟩
      constructor
      ·intro e; cases e
      ·intro e
       have := (List.cons.inj e).1
       rw [(heq _ _).2 this] at he
       cases he
     | true =>
      rw [Bool.not_true, cond_false, I64_s (by omega)]
      refine T.mono (ih (i + 1) (by omega) (by omega)) fun r hr => ?_
      rw [hr, (heq _ _).1 he]
      constructor
      ·intro e; rw [e]
      ·intro e; exact (List.cons.inj e).2
    ·obtain rfl : i = a.length := by omega
     rw [hend, List.drop_length, List.drop_of_length_le (by omega)]
     exact ⟨true, rfl, by simp⟩
  exact T.mono (key N 0 (by omega) (by omega)) fun r hr => by simpa using hr
theorem alike1 (N : Nat) (a b : List S_api_Point) (hl : a.length ≤ 100000) (hN : a.length < N) : T (p_asset_alike_api_Point N a b) (fun r => r = true ↔ a = b) := by
 unfold p_asset_alike_api_Point
 exact alikeT S_api_Point.eq pt_eq a b hl (F := p_asset_alike_api_Point_L1 N a b) (fun k i h h' => by rw [p_asset_alike_api_Point_L1, letO_e, dt (by omega), cond_true, idx_at h, Option.bind_some, idx_at h', Option.bind_some]) (fun k => by rw [p_asset_alike_api_Point_L1, letO_e, df (by omega), cond_false]) hN
theorem alike2 (N : Nat) (a b : List (Vector Int 2)) (hl : a.length ≤ 100000) (hN : a.length < N) : T (p_asset_alike_2_int N a b) (fun r => r = true ↔ a = b) := by
 unfold p_asset_alike_2_int
 exact alikeT (eqV (fun a b => a == b)) eqV_iff a b hl (F := p_asset_alike_2_int_L1 N a b) (fun k i h h' => by rw [p_asset_alike_2_int_L1, letO_e, dt (by omega), cond_true, idx_at h, Option.bind_some, idx_at h', Option.bind_some]) (fun k => by rw [p_asset_alike_2_int_L1, letO_e, df (by omega), cond_false]) hN
theorem alike3 (N : Nat) (a b : List (Vector Int 3)) (hl : a.length ≤ 100000) (hN : a.length < N) : T (p_asset_alike_3_int N a b) (fun r => r = true ↔ a = b) := by
 unfold p_asset_alike_3_int
 exact alikeT (eqV (fun a b => a == b)) eqV_iff a b hl (F := p_asset_alike_3_int_L1 N a b) (fun k i h h' => by rw [p_asset_alike_3_int_L1, letO_e, dt (by omega), cond_true, idx_at h, Option.bind_some, idx_at h', Option.bind_some]) (fun k => by rw [p_asset_alike_3_int_L1, letO_e, df (by omega), cond_false]) hN
structure AssL (a : S_api_Asset) : Prop where
 v : a.gMesh.gVerts.length ≤ 500
 u : a.gMesh.gUvs.length ≤ 500
 t : a.gMesh.gTris.length ≤ 500
 x : a.gTexture.gTexels.length ≤ 500
theorem sameT (N : Nat) (hN : 1000 < N) (a b : S_api_Asset) (h : AssL a) : T (p_asset_Same N a b) (fun r => r = true ↔ a = b) := by
 unfold p_asset_Same
 refine T.bind (P := fun r => r = false ↔ (a.gKind = b.gKind ∧ a.gMaterial = b.gMaterial ∧ a.gLight = b.gLight ∧ a.gTexture.gSide = b.gTexture.gSide)) ?_ fun p1 h1 => T.cond (fun c => T.ret ?_) fun c => ?_
 ·refine T.cond (fun c => T.ret ?_) fun c => ?_
  ·have c : ¬ a.gKind = b.gKind := by simpa using c
   constructor
   ·intro e; cases e
   ·intro e; exact absurd e.1 c
  ·have c : a.gKind = b.gKind := by simpa using c
   refine T.letO fun x2 e2 => T.cond (fun c2 => T.ret ?_) fun c2 => T.letO fun x3 e3 => T.letO fun x4 e4 => T.ret ?_
   ·subst e2
    constructor
    ·intro e; cases e
    ·intro e
     rw [(mat_eq _ _).2 e.2.1] at c2
     cases c2
   ·subst e2 e3 e4
    have hm : S_api_Material.eq a.gMaterial b.gMaterial = true := by simpa using c2
    have hm := (mat_eq _ _).1 hm
    constructor
    ·intro e
     cases hl : S_api_Light.eq a.gLight b.gLight with
     | false => rw [hl] at e; cases e
     | true =>
      rw [hl, Bool.not_true, cond_false] at e
      exact ⟨c, hm, (lig_eq _ _).1 hl, by simpa using e⟩
    ·rintro ⟨_, _, e1, e2⟩
     rw [(lig_eq _ _).2 e1, e2]
     simp
 ·constructor
  ·intro e; cases e
  ·rintro rfl
   have := h1.2 ⟨rfl, rfl, rfl, rfl⟩
   rw [this] at c
   cases c
 ·obtain ⟨g1, g2, g3, g4⟩ := h1.1 c
  refine T.bind (P := fun r => r = true ↔ (a.gMesh.gVerts = b.gMesh.gVerts ∧ a.gMesh.gUvs = b.gMesh.gUvs ∧ a.gMesh.gTris = b.gMesh.gTris ∧ a.gTexture.gTexels = b.gTexture.gTexels)) ?_ fun r hr => T.ret ?_
  ·refine T.bind (alike1 N _ _ (by have := h.v; omega) (by have := h.v; omega)) fun r6 h6 => T.cond (fun c6 => ?_) fun c6 => T.ret ?_
   ·refine T.bind (alike2 N _ _ (by have := h.u; omega) (by have := h.u; omega)) fun r7 h7 => T.cond (fun c7 => ?_) fun c7 => T.ret ?_
    ·refine T.bind (alike3 N _ _ (by have := h.t; omega) (by have := h.t; omega)) fun r8 h8 => T.cond (fun c8 => ?_) fun c8 => T.ret ?_
     ·refine T.bind (alike3 N _ _ (by have := h.x; omega) (by have := h.x; omega)) fun r9 h9 => T.ret ?_
      exact ⟨fun e => ⟨h6.1 c6, h7.1 c7, h8.1 c8, h9.1 e⟩, fun e => h9.2 e.2.2.2⟩
     ·exact ⟨fun e => (by cases e), fun e => by rw [h8.2 e.2.2.1] at c8; cases c8⟩
    ·exact ⟨fun e => (by cases e), fun e => by rw [h7.2 e.2.1] at c7; cases c7⟩
   ·exact ⟨fun e => (by cases e), fun e => by rw [h6.2 e.1] at c6; cases c6⟩
  ·rw [hr]
   constructor
   ·rintro ⟨q1, q2, q3, q4⟩
    obtain ⟨k, ⟨v, u, t⟩, ⟨s, x⟩, m, l⟩ := a
    obtain ⟨k', ⟨v', u', t'⟩, ⟨s', x'⟩, m', l'⟩ := b
    dsimp only at *
    subst g1 g2 g3 g4 q1 q2 q3 q4
    rfl
   ·rintro rfl
    exact ⟨rfl, rfl, rfl, rfl⟩
def ptB (p : S_api_Point) : List Int := leB 2 (p.gX % 65536) ++ (leB 2 (p.gY % 65536) ++ leB 2 (p.gZ % 65536))
def uvB (v : Vector Int 2) : List Int := leB 2 v[0] ++ leB 2 v[1]
def trB (w : Nat) (t : Vector Int 3) : List Int := leB w t[0] ++ (leB w t[1] ++ leB w t[2])
theorem ptB_len (p : S_api_Point) : (ptB p).length = 6 := by unfold ptB; simp [leB_len]
theorem uvB_len (p : Vector Int 2) : (uvB p).length = 4 := by unfold uvB; simp [leB_len]
theorem trB_len (w : Nat) (p : Vector Int 3) : (trB w p).length = 3 * w := by unfold trB; simp [leB_len]; omega
theorem ptB_bytes (p : S_api_Point) : bytesL (ptB p) := (leB_bytes _ _).app ((leB_bytes _ _).app (leB_bytes _ _))
theorem uvB_bytes (p : Vector Int 2) : bytesL (uvB p) := (leB_bytes _ _).app (leB_bytes _ _)
theorem trB_bytes (w : Nat) (p : Vector Int 3) : bytesL (trB w p) := (leB_bytes _ _).app ((leB_bytes _ _).app (leB_bytes _ _))
theorem flat_bytes {α : Type} {f : α → List Int} (h : ∀ x, bytesL (f x)) (l : List α) : bytesL (l.flatMap f) := by
 intro y hy
 obtain ⟨x, _, hx⟩ := List.mem_flatMap.1 hy
 exact h x y hx
theorem flat_len {α : Type} {f : α → List Int} {c : Nat} (h : ∀ x, (f x).length = c) : ∀ (l : List α), (l.flatMap f).length = l.length * c
 | [] => by simp
 | a :: l => by rw [List.flatMap_cons, List.length_append, h, flat_len h l, List.length_cons, Nat.add_mul]; omega
theorem leB1 {x : Int} (h : 0 ≤ x ∧ x < 256) : leB 1 x = [x] := by
 unfold leB
 show [U8 (shr .u64 x ((8 * 0 : Nat) : Int))] = _
 rw [shr8 x 0 (by decide), show p256 0 = 1 from rfl, Int.ediv_one, U8_id h.1 h.2]
def meshB (m : S_api_Mesh) : List Int := leB 1 (m.gVerts.length : Int) ++ (leB 1 (m.gTris.length : Int) ++ (m.gVerts.flatMap ptB ++ (m.gUvs.flatMap uvB ++ m.gTris.flatMap (trB 1))))
def texB (t : S_api_Texture) : List Int := leB 1 t.gSide ++ t.gTexels.flatMap (trB 1)
def matB (m : S_api_Material) : List Int := leB 1 m.gKind ++ (trB 2 m.gColor ++ leB 2 m.gRough)
def ligB (l : S_api_Light) : List Int := leB 1 l.gKind ++ (trB 4 l.gColor ++ (ptB l.gAt ++ (ptB l.gU ++ ptB l.gV)))
theorem sgn3 (N : Nat) (hN : 20 < N) (b : List Int) (p : S_api_Point) (h : ptG p) (hb : b.length ≤ 1000000) : p_codec_Signed N b 2 [p.gX, p.gY, p.gZ] = some (b ++ ptB p, 0) := by
 obtain ⟨hx, hy, hz⟩ := h
 have := sgnP N b 2 (by decide) (by decide) [p.gX, p.gY, p.gZ] (by intro q hq; simp at hq; unfold in64; rcases hq with rfl | rfl | rfl <;> omega) (by omega) (by simp) (by omega) (by simp; omega)
 rw [show p_codec_Signed N b 2 [p.gX, p.gY, p.gZ] = _ from this]
 unfold sgnV
 have e : ([p.gX, p.gY, p.gZ].any (badS 2)) = false := by
  simp [badS, show p256 2 / 2 = 32768 from rfl]
  omega
 rw [e, cond_false]
 unfold putV
 have e2 : (([p.gX, p.gY, p.gZ].map (fun x => x % p256 2)).any (big 2)) = false := by
  simp [big, show p256 2 = 65536 from rfl]
  omega
 rw [e2, cond_false]
 unfold ptB
 simp [show p256 2 = 65536 from rfl]
theorem meshE (N : Nat) (hN : 1000 < N) (m : S_api_Mesh) (g : MeshG m) (h0 : p_mesh_Check N m = some 0) : p_mesh_Encode N m = some (meshB m, 0) := by
 unfold p_mesh_Encode
 have nv := g.nv
 have nt := g.nt
 have nu := g.nu
 rw [h0, Option.bind_some, show ((0 : Int) != 0) = false from rfl, cond_false, letO_e, letO_e, letO_e, U8_id (x := (m.gVerts.length : Int)) (by omega) (by omega), U8_id (x := (m.gTris.length : Int)) (by omega) (by omega)]
 have l1 := loopFlat0 m.gVerts.length (by omega) (fun i => ptB (m.gVerts.getD i ⟨0, 0, 0⟩)) (fun s i => s.length ≤ 100 + 6 * i) (p_mesh_Encode_L1 N (m.gVerts.length : Int) m) (by intro s i hi hs; simp [ptB_len]; omega) (fun k s i hi hs => by
  have hp := g.v _ (List.getElem_mem hi)
  rw [p_mesh_Encode_L1, dt (by omega), cond_true, idx_at hi, Option.bind_some, sgn3 N (by omega) s _ hp (by omega), Option.bind_some]
  rw [List.getD_eq_getElem?_getD, List.getElem?_eq_getElem hi]
  rfl) (fun k s => by rw [p_mesh_Encode_L1, df (by omega), cond_false]) (N := N) (by omega) (s := [(m.gVerts.length : Int), (m.gTris.length : Int)]) (by simp)
 rw [l1, Option.bind_some]
 have hflat : ∀ {α : Type} (l : List α) (d : α) (f : α → List Int), (List.range l.length).flatMap (fun i => f (l.getD i d)) = l.flatMap f := by
  intro α l d f
  induction l with
  | nil => rfl
  | cons a l ih =>
   rw [List.length_cons, List.range_succ_eq_map, List.flatMap_cons, List.flatMap_map]
   simp only [List.getD_cons_zero, List.getD_cons_succ, List.flatMap_cons]
   rw [ih]
 rw [hflat m.gVerts ⟨0, 0, 0⟩ ptB]
 have hlen1 := flat_len ptB_len m.gVerts
 have l2 := loopFlat0 m.gUvs.length (by omega) (fun i => uvB (m.gUvs.getD i #v[0, 0])) (fun s i => s.length ≤ 1000 + 4 * i) (p_mesh_Encode_L2 N m) (by intro s i hi hs; simp [uvB_len]; omega) (fun k s i hi hs => by
  have hp := g.u _ (List.getElem_mem hi)
  rw [p_mesh_Encode_L2, letO_e, dt (by omega), cond_true, idx_at hi, Option.bind_some, show inRO 0 2 = some () from rfl, Option.bind_some, show m.gUvs[i].toList[((0 : Int).toNat)]? = some m.gUvs[i][0] from vget _ 0 (by decide), Option.bind_some, show inRO 1 2 = some () from rfl, Option.bind_some, show m.gUvs[i].toList[((1 : Int).toNat)]? = some m.gUvs[i][1] from vget _ 1 (by decide), Option.bind_some, U64_id hp.1.1 (by have := hp.1.2; omega), U64_id hp.2.1 (by have := hp.2.2; omega)]
  have e := put2 N (by omega) s 2 (by decide) (by decide) m.gUvs[i][0] m.gUvs[i][1] ⟨hp.1.1, hp.1.2⟩ ⟨hp.2.1, hp.2.2⟩ (by omega)
  rw [show p_codec_Put N s 2 [m.gUvs[i][0], m.gUvs[i][1]] = _ from e, Option.bind_some, List.getD_eq_getElem?_getD, List.getElem?_eq_getElem hi]
  rfl) (fun k s => by rw [p_mesh_Encode_L2, letO_e, df (by omega), cond_false]) (N := N) (by omega) (s := [(m.gVerts.length : Int), (m.gTris.length : Int)] ++ m.gVerts.flatMap ptB) (by simp at hlen1 ⊢; omega)
 rw [l2, Option.bind_some, hflat m.gUvs #v[0, 0] uvB, letO_e]
 have hlen2 := flat_len uvB_len m.gUvs
 have l3 := loopFlat0 m.gTris.length (by omega) (fun i => trB 1 (m.gTris.getD i #v[0, 0, 0])) (fun s i => s.length ≤ 2000 + 3 * i) (p_mesh_Encode_L3 N (m.gTris.length : Int) m) (by intro s i hi hs; simp [trB_len]; omega) (fun k s i hi hs => by
  have hp := g.t _ (List.getElem_mem hi)
  obtain ⟨q0, q1, q2⟩ := hp
  rw [p_mesh_Encode_L3, dt (by omega), cond_true, idx_at hi, Option.bind_some, show inRO 0 3 = some () from rfl, Option.bind_some, show m.gTris[i].toList[((0 : Int).toNat)]? = some m.gTris[i][0] from vget _ 0 (by decide), Option.bind_some, show inRO 1 3 = some () from rfl, Option.bind_some, show m.gTris[i].toList[((1 : Int).toNat)]? = some m.gTris[i][1] from vget _ 1 (by decide), Option.bind_some, show inRO 2 3 = some () from rfl, Option.bind_some, show m.gTris[i].toList[((2 : Int).toNat)]? = some m.gTris[i][2] from vget _ 2 (by decide), Option.bind_some, U8_id q0.1 q0.2, U8_id q1.1 q1.2, U8_id q2.1 q2.2, appO1 (by omega) (by simp), Option.bind_some, List.getD_eq_getElem?_getD, List.getElem?_eq_getElem hi]
  show p_mesh_Encode_L3 N _ m k (s ++ [m.gTris[i][0], m.gTris[i][1], m.gTris[i][2]]) _ = p_mesh_Encode_L3 N _ m k (s ++ trB 1 m.gTris[i]) _
  unfold trB
  rw [leB1 q0, leB1 q1, leB1 q2]
  rfl) (fun k s => by rw [p_mesh_Encode_L3, df (by omega), cond_false]) (N := N) (by omega) (s := [(m.gVerts.length : Int), (m.gTris.length : Int)] ++ m.gVerts.flatMap ptB ++ m.gUvs.flatMap uvB) (by simp at hlen1 hlen2 ⊢; omega)
 rw [l3, Option.bind_some, hflat m.gTris #v[0, 0, 0] (trB 1)]
 unfold meshB
 rw [leB1 (x := (m.gVerts.length : Int)) ⟨by omega, by omega⟩, leB1 (x := (m.gTris.length : Int)) ⟨by omega, by omega⟩]
 simp [List.append_assoc]
theorem hflat {α : Type} (l : List α) (d : α) (f : α → List Int) : (List.range l.length).flatMap (fun i => f (l.getD i d)) = l.flatMap f := by
 induction l with
 | nil => rfl
 | cons a l ih =>
  rw [List.length_cons, List.range_succ_eq_map, List.flatMap_cons, List.flatMap_map]
  simp only [List.getD_cons_zero, List.getD_cons_succ, List.flatMap_cons]
  rw [ih]
theorem texE (N : Nat) (hN : 1000 < N) (t : S_api_Texture) (g : TexG t) (h0 : p_texture_Check N t = some 0) : p_texture_Encode N t = some (texB t, 0) := by
 unfold p_texture_Encode
 have n1 := g.side
 have n2 := g.n
 have n3 : t.gSide * t.gSide ≤ 16 * 16 := Int.mul_le_mul n1.2 n1.2 (by omega) (by decide)
 rw [h0, Option.bind_some, show ((0 : Int) != 0) = false from rfl, cond_false, letO_e, U8_id (x := t.gSide) (by omega) (by omega)]
 have l3 := loopFlat0 t.gTexels.length (by omega) (fun i => trB 1 (t.gTexels.getD i #v[0, 0, 0])) (fun s i => s.length ≤ 2000 + 3 * i) (p_texture_Encode_L1 N (t.gTexels.length : Int) t) (by intro s i hi hs; simp [trB_len]; omega) (fun k s i hi hs => by
  have hp := g.t _ (List.getElem_mem hi)
  obtain ⟨q0, q1, q2⟩ := hp
  rw [p_texture_Encode_L1, dt (by omega), cond_true, idx_at hi, Option.bind_some, show inRO 0 3 = some () from rfl, Option.bind_some, show t.gTexels[i].toList[((0 : Int).toNat)]? = some t.gTexels[i][0] from vget _ 0 (by decide), Option.bind_some, show inRO 1 3 = some () from rfl, Option.bind_some, show t.gTexels[i].toList[((1 : Int).toNat)]? = some t.gTexels[i][1] from vget _ 1 (by decide), Option.bind_some, show inRO 2 3 = some () from rfl, Option.bind_some, show t.gTexels[i].toList[((2 : Int).toNat)]? = some t.gTexels[i][2] from vget _ 2 (by decide), Option.bind_some, U8_id q0.1 q0.2, U8_id q1.1 q1.2, U8_id q2.1 q2.2, appO1 (by omega) (by simp), Option.bind_some, List.getD_eq_getElem?_getD, List.getElem?_eq_getElem hi]
  show p_texture_Encode_L1 N _ t k (s ++ [t.gTexels[i][0], t.gTexels[i][1], t.gTexels[i][2]]) _ = p_texture_Encode_L1 N _ t k (s ++ trB 1 t.gTexels[i]) _
  unfold trB
  rw [leB1 q0, leB1 q1, leB1 q2]
  rfl) (fun k s => by rw [p_texture_Encode_L1, df (by omega), cond_false]) (N := N) (by omega) (s := [t.gSide]) (by simp)
 rw [l3, Option.bind_some, hflat t.gTexels #v[0, 0, 0] (trB 1)]
 unfold texB
 rw [leB1 (x := t.gSide) ⟨by omega, by omega⟩]
end Go.UK

