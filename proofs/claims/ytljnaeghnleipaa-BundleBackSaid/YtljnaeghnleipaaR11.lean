/- A part of the proof: what the functions of the program compute. -/
import Derived.Test.YtljnaeghnleipaaR10
namespace Go.UK
open Go Go.Proofs
set_option maxRecDepth 20000
set_option maxHeartbeats 1000000
set_option linter.all false
def RdQ {α : Type} (f : α → List Int) (P : α → Prop) (c : Nat) (b : List Int) (e : Int) (b' : List Int) (e' : Int) (x : α) : Prop :=
 bytesL b' ∧ b'.length ≤ b.length ∧ ((e' = 0 ∧ e = 0 ∧ b = f x ++ b' ∧ P x) ∨ (e' ≠ 0 ∧ (e = 0 → b.length < c)))
theorem uintT (N : Nat) (hN : 20 < N) (w : Nat) (hw0 : 1 ≤ w) (hw : w ≤ 4) (b : List Int) (e : Int) (hb : bytesL b) : T (p_mesh_decoder_uint_srzd N (w : Int) (S_codec_Reader.mk b e true)) (fun r => RdQ (leB w) (fun x => 0 ≤ x ∧ x < p256 w) w b e r.1 r.2.1 r.2.2 ∧ 0 ≤ r.2.2 ∧ r.2.2 < p256 w) := by
 unfold p_mesh_decoder_uint_srzd
 refine T.bind (numT N hN b e w hw0 (by omega) hb) fun r h => T.ret ?_
 obtain ⟨h1, h2, h3, h4, h5⟩ := h
 have hp : p256 w ≤ 4294967296 := by
  have : ∀ i : Fin 5, p256 i.val ≤ 4294967296 := by decide
  exact this ⟨w, by omega⟩
 have e0 : I64 r.2.2 = r.2.2 := I64_id (by omega) (by omega)
 dsimp only
 rw [e0]
 refine ⟨⟨h1, h2, ?_⟩, h3, h4⟩
 rcases h5 with ⟨g1, g2, g3⟩ | ⟨g1, g2, g3, g4, g5⟩
 ·exact .inl ⟨g1, g2, g3, h3, h4⟩
 ·exact .inr ⟨g1, fun h => (g4 h).2⟩
def ptR (p : S_api_Point) : Prop := (-32768 ≤ p.gX ∧ p.gX < 32768) ∧ (-32768 ≤ p.gY ∧ p.gY < 32768) ∧ (-32768 ≤ p.gZ ∧ p.gZ < 32768)
theorem ptG.r {p : S_api_Point} (h : ptG p) : ptR p := by obtain ⟨h1, h2, h3⟩ := h; exact ⟨⟨by omega, by omega⟩, ⟨by omega, by omega⟩, by omega, by omega⟩
theorem pointT (N : Nat) (hN : 20 < N) (b : List Int) (e : Int) (hb : bytesL b) : T (p_mesh_decoder_point_srz N (S_codec_Reader.mk b e true)) (fun r => RdQ ptB ptR 6 b e r.1 r.2.1 r.2.2.2 ∧ r.2.2.1 = true) := by
 unfold p_mesh_decoder_point_srz
 refine T.bind (int2T N hN b e hb) fun r1 h1 => ?_
 obtain ⟨b1, e1, v1⟩ := r1
 obtain ⟨p1, l1, x0, x1, h1⟩ := h1
 dsimp only at p1 l1 x0 x1 h1 ⊢
 refine T.bind (int2T N hN b1 e1 p1) fun r2 h2 => ?_
 obtain ⟨b2, e2, v2⟩ := r2
 obtain ⟨p2, l2, y0, y1, h2⟩ := h2
 dsimp only at p2 l2 y0 y1 h2 ⊢
 refine T.bind (int2T N hN b2 e2 p2) fun r3 h3 => ?_
 obtain ⟨b3, e3, v3⟩ := r3
 obtain ⟨p3, l3, z0, z1, h3⟩ := h3
 dsimp only at p3 l3 z0 z1 h3 ⊢
 refine T.ret ⟨⟨p3, by dsimp only; omega, ?_⟩, rfl⟩
 dsimp only
 rcases h3 with ⟨q1, q2, q3⟩ | ⟨q1, _, q2, q3⟩
 ·subst q1 q2
  rcases h2 with ⟨_, q4, q5⟩ | ⟨q4, _⟩
  ·subst q4
   rcases h1 with ⟨_, q6, q7⟩ | ⟨q6, _⟩
   ·refine .inl ⟨rfl, q6, ?_, ⟨x0, x1⟩, ⟨y0, y1⟩, z0, z1⟩
    unfold ptB
    rw [q7, q5, q3]
    simp [List.append_assoc]
   ·exact absurd rfl q6
  ·exact absurd rfl q4
 ·refine .inr ⟨q1, fun he => ?_⟩
  rcases h1 with ⟨k1, _, k2⟩ | ⟨k1, _, k2, _⟩
  ·have hl := congrArg List.length k2
   rw [List.length_append, leB_len] at hl
   rcases h2 with ⟨k3, _, k4⟩ | ⟨k3, _, k4, _⟩
   ·have hl2 := congrArg List.length k4
    rw [List.length_append, leB_len] at hl2
    have := (q2 k3).2
    omega
   ·have := (k4 k1).2
    omega
  ·have := (k2 he).2
   omega
theorem pairRT (N : Nat) (hN : 20 < N) (b : List Int) (e : Int) (hb : bytesL b) {Q : (List Int × Int × Int) × (List Int × Int × Int) → Prop} (hQ : ∀ r1 r2, RdQ uvB uvG 4 b e r2.1 r2.2.1 #v[r1.2.2, r2.2.2] → Q (r1, r2)) : T (Option.bind (p_mesh_decoder_uint_srzd N 2 (S_codec_Reader.mk b e true)) fun r18 => Option.bind (p_mesh_decoder_uint_srzd N 2 (S_codec_Reader.mk r18.1 r18.2.1 true)) fun r19 => some (r18, r19)) Q := by
 refine T.bind (uintT N hN 2 (by decide) (by decide) b e hb) fun r1 h1 => ?_
 obtain ⟨b1, e1, v1⟩ := r1
 obtain ⟨⟨p1, l1, h1⟩, x0, x1⟩ := h1
 dsimp only at p1 l1 x0 x1 h1 ⊢
 refine T.bind (uintT N hN 2 (by decide) (by decide) b1 e1 p1) fun r2 h2 => T.ret (hQ _ _ ?_)
 obtain ⟨b2, e2, v2⟩ := r2
 obtain ⟨⟨p2, l2, h2⟩, y0, y1⟩ := h2
 dsimp only at p2 l2 y0 y1 h2 ⊢
 refine ⟨p2, by omega, ?_⟩
 rcases h2 with ⟨q1, q2, q3, _⟩ | ⟨q1, q2⟩
 ·subst q1 q2
  rcases h1 with ⟨_, q4, q5, _⟩ | ⟨q4, _⟩
  ·refine .inl ⟨rfl, q4, ?_, ⟨x0, x1⟩, y0, y1⟩
   unfold uvB
   rw [q5, q3]
   simp [List.append_assoc]
  ·exact absurd rfl q4
 ·refine .inr ⟨q1, fun he => ?_⟩
  rcases h1 with ⟨k1, _, k2, _⟩ | ⟨_, k1⟩
  ·have hl := congrArg List.length k2
   rw [List.length_append, leB_len] at hl
   have := q2 k1
   omega
  ·have := k1 he
   omega
theorem tripT (N : Nat) (hN : 20 < N) (w : Nat) (hw0 : 1 ≤ w) (hw : w ≤ 4) (b : List Int) (e : Int) (hb : bytesL b) {Q : (List Int × Int × Int) × (List Int × Int × Int) × (List Int × Int × Int) → Prop} (hQ : ∀ r1 r2 r3, RdQ (trB w) (trG (p256 w)) (3 * w) b e r3.1 r3.2.1 #v[r1.2.2, r2.2.2, r3.2.2] → Q (r1, r2, r3)) : T (Option.bind (p_mesh_decoder_uint_srzd N (w : Int) (S_codec_Reader.mk b e true)) fun r1 => Option.bind (p_mesh_decoder_uint_srzd N (w : Int) (S_codec_Reader.mk r1.1 r1.2.1 true)) fun r2 => Option.bind (p_mesh_decoder_uint_srzd N (w : Int) (S_codec_Reader.mk r2.1 r2.2.1 true)) fun r3 => some (r1, r2, r3)) Q := by
 refine T.bind (uintT N hN w hw0 hw b e hb) fun r1 h1 => ?_
 obtain ⟨b1, e1, v1⟩ := r1
 obtain ⟨⟨p1, l1, h1⟩, x0, x1⟩ := h1
 dsimp only at p1 l1 x0 x1 h1 ⊢
 refine T.bind (uintT N hN w hw0 hw b1 e1 p1) fun r2 h2 => ?_
 obtain ⟨b2, e2, v2⟩ := r2
 obtain ⟨⟨p2, l2, h2⟩, y0, y1⟩ := h2
 dsimp only at p2 l2 y0 y1 h2 ⊢
 refine T.bind (uintT N hN w hw0 hw b2 e2 p2) fun r3 h3 => T.ret (hQ _ _ _ ?_)
 obtain ⟨b3, e3, v3⟩ := r3
 obtain ⟨⟨p3, l3, h3⟩, z0, z1⟩ := h3
 dsimp only at p3 l3 z0 z1 h3 ⊢
 refine ⟨p3, by omega, ?_⟩
 rcases h3 with ⟨q1, q2, q3, _⟩ | ⟨q1, q2⟩
 ·subst q1 q2
  rcases h2 with ⟨_, q4, q5, _⟩ | ⟨q4, _⟩
  ·subst q4
   rcases h1 with ⟨_, q6, q7, _⟩ | ⟨q6, _⟩
   ·refine .inl ⟨rfl, q6, ?_, ⟨x0, x1⟩, ⟨y0, y1⟩, z0, z1⟩
    unfold trB
    rw [q7, q5, q3]
    simp [List.append_assoc]
   ·exact absurd rfl q6
  ·exact absurd rfl q4
 ·refine .inr ⟨q1, fun he => ?_⟩
  rcases h1 with ⟨k1, _, k2, _⟩ | ⟨_, k1⟩
  ·have hl := congrArg List.length k2
   rw [List.length_append, leB_len] at hl
   rcases h2 with ⟨k3, _, k4, _⟩ | ⟨_, k3⟩
   ·have hl2 := congrArg List.length k4
    rw [List.length_append, leB_len] at hl2
    have := q2 k3
    omega
   ·have := k3 k1
    omega
  ·have := k1 he
   omega
theorem rdLoop {α : Type} (f : α → List Int) (P : α → Prop) (c : Nat) (hc : ∀ x, (f x).length = c) (n : Nat) (hn : n < 1000000) {F : Nat → List α → List Int → Int → Bool → Int → Option (List α × List Int × Int × Bool)}
  (hstep : ∀ k s b e i, i < n → s.length ≤ i → bytesL b → ∀ Q, (∀ b' e' x, RdQ f P c b e b' e' x → T (F k (s ++ [x]) b' e' true ((i + 1 : Nat) : Int)) Q) → T (F (k + 1) s b e true (i : Int)) Q) (hend : ∀ k s b e, F (k + 1) s b e true (n : Int) = some (s, b, e, true)) :
  ∀ (k i : Nat) (s : List α) (b : List Int) (e : Int), i ≤ n → s.length ≤ i → n - i < k → bytesL b → T (F k s b e true (i : Int)) (fun r => bytesL r.2.1 ∧ r.2.1.length ≤ b.length ∧ r.2.2.2 = true ∧ ∃ l, r.1 = s ++ l ∧ l.length = n - i ∧ ((r.2.2.1 = 0 ∧ e = 0 ∧ b = l.flatMap f ++ r.2.1 ∧ ∀ x ∈ l, P x) ∨ (r.2.2.1 ≠ 0 ∧ (e = 0 → b.length < (n - i) * c))))
 | 0, i, _, _, _, _, _, h, _ => by omega
 | k + 1, i, s, b, e, hi, hs, hk, hb => by
  by_cases h : i < n
  ·refine hstep k s b e i h hs hb _ fun b' e' x hx => ?_
   obtain ⟨x1, x2, x3⟩ := hx
   refine T.mono (rdLoop f P c hc n hn hstep hend k (i + 1) (s ++ [x]) b' e' (by omega) (by simp; omega) (by omega) x1) fun r hr => ?_
   obtain ⟨r1, r2, r3, l, r4, r5, r6⟩ := hr
   refine ⟨r1, by omega, r3, x :: l, by rw [r4]; simp, by rw [List.length_cons]; omega, ?_⟩
   have hmul : (n - i) * c = (n - (i + 1)) * c + c := by rw [show n - i = (n - (i + 1)) + 1 by omega, Nat.add_mul]; omega
   rcases r6 with ⟨g1, g2, g3, g4⟩ | ⟨g1, g2⟩
   ·subst g2
    rcases x3 with ⟨_, q2, q3, q4⟩ | ⟨q1, _⟩
    ·refine .inl ⟨g1, q2, by rw [q3, g3, List.flatMap_cons, List.append_assoc], fun y hy => ?_⟩
     rcases List.mem_cons.1 hy with rfl | hy
     ·exact q4
     ·exact g4 y hy
    ·exact absurd rfl q1
   ·refine .inr ⟨g1, fun he => ?_⟩
    rcases x3 with ⟨q1, _, q3, _⟩ | ⟨_, q1⟩
    ·have hl := congrArg List.length q3
     rw [List.length_append, hc] at hl
     have := g2 q1
     omega
    ·have := q1 he
     omega
  ·obtain rfl : i = n := by omega
   rw [hend]
   refine T.ret ⟨hb, Nat.le_refl _, rfl, [], by simp, by simp, ?_⟩
   by_cases he : e = 0
   ·exact .inl ⟨he, he, by simp, fun x hx => by cases hx⟩
   ·exact .inr ⟨he, fun h => absurd h he⟩
structure MeshR (m : S_api_Mesh) : Prop where
 nv : m.gVerts.length < 256
 nt : m.gTris.length < 256
 nu : m.gUvs.length = m.gVerts.length
 v : ∀ p ∈ m.gVerts, ptR p
 u : ∀ p ∈ m.gUvs, uvG p
 t : ∀ p ∈ m.gTris, trG 256 p
theorem MeshG.r {m : S_api_Mesh} (g : MeshG m) : MeshR m := ⟨by have := g.nv; omega, by have := g.nt; omega, g.nu, fun p h => (g.v p h).r, g.u, g.t⟩
theorem flat_inj {α : Type} {f : α → List Int} {c : Nat} {P : α → Prop} (hc : ∀ x, (f x).length = c) (hf : ∀ x y, P x → P y → f x = f y → x = y) : ∀ (l l' : List α) (r r' : List Int), l.length = l'.length → (∀ x ∈ l, P x) → (∀ x ∈ l', P x) → l.flatMap f ++ r = l'.flatMap f ++ r' → l = l' ∧ r = r'
 | [], [], r, r', _, _, _, h => ⟨rfl, by simpa using h⟩
 | [], _ :: _, _, _, h, _, _, _ => by simp at h
 | _ :: _, [], _, _, h, _, _, _ => by simp at h
 | a :: l, b :: l', r, r', hl, h1, h2, h => by
  rw [List.flatMap_cons, List.flatMap_cons, List.append_assoc, List.append_assoc] at h
  obtain ⟨e1, e2⟩ := List.append_inj h (by rw [hc, hc])
  obtain ⟨e3, e4⟩ := flat_inj hc hf l l' r r' (by simpa using hl) (fun x hx => h1 x (by simp [hx])) (fun x hx => h2 x (by simp [hx])) e2
  rw [hf a b (h1 a (by simp)) (h2 b (by simp)) e1, e3]
  exact ⟨rfl, e4⟩
theorem ptB_inj {p q : S_api_Point} (hp : ptR p) (hq : ptR q) (h : ptB p = ptB q) : p = q := by
 unfold ptB at h
 obtain ⟨h1, h⟩ := List.append_inj h (by simp [leB_len])
 obtain ⟨h2, h3⟩ := List.append_inj h (by simp [leB_len])
 have e1 := leB_inj (w := 2) (by decide) ⟨by omega, by rw [show p256 2 = 65536 from rfl]; omega⟩ ⟨by omega, by rw [show p256 2 = 65536 from rfl]; omega⟩ h1
 have e2 := leB_inj (w := 2) (by decide) ⟨by omega, by rw [show p256 2 = 65536 from rfl]; omega⟩ ⟨by omega, by rw [show p256 2 = 65536 from rfl]; omega⟩ h2
 have e3 := leB_inj (w := 2) (by decide) ⟨by omega, by rw [show p256 2 = 65536 from rfl]; omega⟩ ⟨by omega, by rw [show p256 2 = 65536 from rfl]; omega⟩ h3
 obtain ⟨a1, a2, a3⟩ := hp
 obtain ⟨b1, b2, b3⟩ := hq
 cases p; cases q
 dsimp only at *
 rw [S_api_Point.mk.injEq]
 omega
theorem vext2 {a b : Vector Int 2} (h0 : a[0] = b[0]) (h1 : a[1] = b[1]) : a = b := by
 apply Vector.ext
 intro i hi
 have : i = 0 ∨ i = 1 := by omega
 rcases this with rfl | rfl <;> assumption
theorem vext3 {a b : Vector Int 3} (h0 : a[0] = b[0]) (h1 : a[1] = b[1]) (h2 : a[2] = b[2]) : a = b := by
 apply Vector.ext
 intro i hi
 have : i = 0 ∨ i = 1 ∨ i = 2 := by omega
 rcases this with rfl | rfl | rfl <;> assumption
theorem uvB_inj {p q : Vector Int 2} (hp : uvG p) (hq : uvG q) (h : uvB p = uvB q) : p = q := by
 unfold uvB at h
 obtain ⟨h1, h2⟩ := List.append_inj h (by simp [leB_len])
 exact vext2 (leB_inj (w := 2) (by decide) hp.1 hq.1 h1) (leB_inj (w := 2) (by decide) hp.2 hq.2 h2)
theorem trB_inj {w : Nat} (hw : w ≤ 8) {p q : Vector Int 3} (hp : trG (p256 w) p) (hq : trG (p256 w) q) (h : trB w p = trB w q) : p = q := by
 unfold trB at h
 obtain ⟨h1, h⟩ := List.append_inj h (by simp [leB_len])
 obtain ⟨h2, h3⟩ := List.append_inj h (by simp [leB_len])
 exact vext3 (leB_inj hw hp.1 hq.1 h1) (leB_inj hw hp.2.1 hq.2.1 h2) (leB_inj hw hp.2.2 hq.2.2 h3)
theorem meshB_inj {m m' : S_api_Mesh} (r : MeshR m) (r' : MeshR m') {x x' : List Int} (h : meshB m ++ x = meshB m' ++ x') : m = m' ∧ x = x' := by
 unfold meshB at h
 simp only [List.append_assoc] at h
 have := r.nv; have := r'.nv; have := r.nt; have := r'.nt
 obtain ⟨h1, h⟩ := List.append_inj h (by simp [leB_len])
 obtain ⟨h2, h⟩ := List.append_inj h (by simp [leB_len])
 have n1 := leB_inj (w := 1) (by decide) (x := (m.gVerts.length : Int)) (y := (m'.gVerts.length : Int)) ⟨by omega, by rw [show p256 1 = 256 from rfl]; omega⟩ ⟨by omega, by rw [show p256 1 = 256 from rfl]; omega⟩ h1
 have n2 := leB_inj (w := 1) (by decide) (x := (m.gTris.length : Int)) (y := (m'.gTris.length : Int)) ⟨by omega, by rw [show p256 1 = 256 from rfl]; omega⟩ ⟨by omega, by rw [show p256 1 = 256 from rfl]; omega⟩ h2
 obtain ⟨e1, h⟩ := flat_inj ptB_len (fun _ _ => ptB_inj) _ _ _ _ (by omega) r.v r'.v h
 obtain ⟨e2, h⟩ := flat_inj uvB_len (fun _ _ => uvB_inj) _ _ _ _ (by rw [r.nu, r'.nu]; omega) r.u r'.u h
 obtain ⟨e3, h⟩ := flat_inj (trB_len 1) (fun _ _ => trB_inj (w := 1) (by decide)) _ _ _ _ (by omega) r.t r'.t h
 refine ⟨?_, h⟩
 cases m; cases m'
 dsimp only at *
 rw [e1, e2, e3]
theorem meshB_len {m : S_api_Mesh} (r : MeshR m) : (meshB m).length = 2 + 10 * m.gVerts.length + 3 * m.gTris.length := by
 unfold meshB
 simp only [List.length_append, leB_len, flat_len ptB_len, flat_len uvB_len, flat_len (trB_len 1), r.nu]
 omega
theorem meshDecT (N : Nat) (hN : 1000 < N) (b : List Int) (hb : bytesL b) (hl : b.length ≤ 100000) : T (p_mesh_Decode N b) (fun r => (r.2 = 0 ∧ b = meshB r.1 ∧ MeshG r.1) ∨ (r.2 ≠ 0 ∧ r.1 = zMesh ∧ ∀ m, MeshR m → b = meshB m → p_mesh_Check N m ≠ some 0)) := by
 unfold p_mesh_Decode
 rw [newP N b (by omega), Option.bind_some]
 refine T.bind (uintT N (by omega) 1 (by decide) (by decide) b 0 hb) fun r2 h2 => ?_
 obtain ⟨b2, e2, v2⟩ := r2
 obtain ⟨⟨p2, l2, h2⟩, x0, x1⟩ := h2
 dsimp only at p2 l2 x0 x1 h2 ⊢
 refine T.bind (uintT N (by omega) 1 (by decide) (by decide) b2 e2 p2) fun r3 h3 => ?_
 obtain ⟨b3, e3, v3⟩ := r3
 obtain ⟨⟨p3, l3, h3⟩, y0, y1⟩ := h3
 dsimp only at p3 l3 y0 y1 h3 ⊢
 rw [show p256 1 = 256 from rfl] at x1 y1
 obtain ⟨nv, rfl⟩ := Int.eq_ofNat_of_zero_le x0
 obtain ⟨nt, rfl⟩ := Int.eq_ofNat_of_zero_le y0
 refine T.bind (rdLoop ptB ptR 6 ptB_len nv (by omega) (F := p_mesh_Decode_L1 N (b2, e2, (nv : Int))) (fun k s b e i hi hs hb Q hk => ?_) (fun k s b e => by rw [p_mesh_Decode_L1, df (by dsimp only; omega), cond_false]) N 0 [] b3 e3 (by omega) (by simp) (by omega) p3) fun r4 h4 => ?_
 ·rw [p_mesh_Decode_L1, dt (by dsimp only; omega), cond_true]
  refine T.bind (pointT N (by omega) b e hb) fun r10 h10 => ?_
  obtain ⟨h11, h12⟩ := h10
  refine T.bind (T.app (by simp; omega)) fun z hz => ?_
  subst hz
  rw [h12, I64_s (by omega)]
  exact hk _ _ _ h11
 obtain ⟨vs, b4, e4, m4⟩ := r4
 obtain ⟨p4, l4, rfl, vl, rfl, hvl, h4⟩ := h4
 dsimp only at p4 l4 h4 hvl ⊢
 refine T.bind (rdLoop uvB uvG 4 uvB_len nv (by omega) (F := p_mesh_Decode_L2 N (b2, e2, (nv : Int))) (fun k s b e i hi hs hb Q hk => ?_) (fun k s b e => by rw [p_mesh_Decode_L2, df (by dsimp only; omega), cond_false]) N 0 [] b4 e4 (by omega) (by simp) (by omega) p4) fun r12 h12 => ?_
 ·rw [p_mesh_Decode_L2, dt (by dsimp only; omega), cond_true]
  have h := pairRT N (by omega) b e hb (Q := fun r => RdQ uvB uvG 4 b e r.2.1 r.2.2.1 #v[r.1.2.2, r.2.2.2]) (fun _ _ h => h)
  obtain ⟨⟨r18, r19⟩, g1, g2⟩ := h
  obtain ⟨q18, k1, g1⟩ := obind g1
  obtain ⟨q19, k2, g1⟩ := obind g1
  cases g1
  rw [k1, Option.bind_some]
  dsimp only
  rw [k2, Option.bind_some]
  refine T.bind (T.app (by simp; omega)) fun z hz => ?_
  subst hz
  rw [I64_s (by omega)]
  exact hk _ _ _ g2
 obtain ⟨us, b5, e5, m5⟩ := r12
 obtain ⟨p5, l5, rfl, ul, rfl, hul, h5⟩ := h12
 dsimp only at p5 l5 h5 hul ⊢
 refine T.bind (rdLoop (trB 1) (trG 256) 3 (trB_len 1) nt (by omega) (F := p_mesh_Decode_L3 N (b3, e3, (nt : Int))) (fun k s b e i hi hs hb Q hk => ?_) (fun k s b e => by rw [p_mesh_Decode_L3, df (by dsimp only; omega), cond_false]) N 0 [] b5 e5 (by omega) (by simp) (by omega) p5) fun r21 h21 => ?_
 ·rw [p_mesh_Decode_L3, dt (by dsimp only; omega), cond_true]
  have h := tripT N (by omega) 1 (by decide) (by decide) b e hb (Q := fun r => RdQ (trB 1) (trG 256) 3 b e r.2.2.1 r.2.2.2.1 #v[r.1.2.2, r.2.1.2.2, r.2.2.2.2]) (fun _ _ _ h => h)
  obtain ⟨⟨r27, r28, r29⟩, g1, g2⟩ := h
  obtain ⟨q27, k1, g1⟩ := obind g1
  obtain ⟨q28, k2, g1⟩ := obind g1
  obtain ⟨q29, k3, g1⟩ := obind g1
  cases g1
  rw [show p_mesh_decoder_uint_srzd N 1 (S_codec_Reader.mk b e true) = some r27 from k1, Option.bind_some]
  dsimp only
  rw [show p_mesh_decoder_uint_srzd N 1 (S_codec_Reader.mk r27.1 r27.2.1 true) = some r28 from k2, Option.bind_some, show p_mesh_decoder_uint_srzd N 1 (S_codec_Reader.mk r28.1 r28.2.1 true) = some r29 from k3, Option.bind_some]
  refine T.bind (T.app (by simp; omega)) fun z hz => ?_
  subst hz
  rw [I64_s (by omega)]
  exact hk _ _ _ g2
 obtain ⟨ts, b6, e6, m6⟩ := r21
 obtain ⟨p6, l6, rfl, tl, rfl, htl, h6⟩ := h21
 dsimp only at p6 l6 h6 htl ⊢
 rw [endE, Option.bind_some]
 rw [Nat.sub_zero] at hvl hul htl h4 h5 h6
 -- all that was read
 have all : e6 = 0 → b = meshB (S_api_Mesh.mk vs us ts) ++ b6 ∧ MeshR (S_api_Mesh.mk vs us ts) := by
  intro he
  rcases h6 with ⟨_, q1, q2, q3⟩ | ⟨q, _⟩
  ·subst q1
   rcases h5 with ⟨_, k1, k2, k3⟩ | ⟨q, _⟩
   ·subst k1
    rcases h4 with ⟨_, i1, i2, i3⟩ | ⟨q, _⟩
    ·subst i1
     rcases h3 with ⟨_, j1, j2, _⟩ | ⟨q, _⟩
     ·subst j1
      rcases h2 with ⟨_, _, o2, _⟩ | ⟨q, _⟩
      ·refine ⟨?_, by dsimp only; omega, by dsimp only; omega, by dsimp only; omega, i3, k3, q3⟩
       unfold meshB
       dsimp only
       rw [o2, j2, i2, k2, q2, hvl, htl]
       simp [List.append_assoc]
      ·exact absurd rfl q
     ·exact absurd rfl q
    ·exact absurd rfl q
   ·exact absurd rfl q
  ·exact absurd he q
 have short : e6 ≠ 0 → ∀ m, MeshR m → b ≠ meshB m := by
  intro he m r hm
  have hlen := meshB_len r
  rw [← hm] at hlen
  rcases h2 with ⟨a1, _, a2, _⟩ | ⟨_, a1⟩
  ·rcases h3 with ⟨c1, _, c2, _⟩ | ⟨_, c1⟩
   ·-- the numbers are the mesh's
    have hh : leB 1 (nv : Int) ++ (leB 1 (nt : Int) ++ b3) = meshB m := by rw [← hm, a2, c2]
    unfold meshB at hh
    obtain ⟨g1, g2⟩ := List.append_inj hh (by simp [leB_len])
    obtain ⟨g3, g4⟩ := List.append_inj g2 (by simp [leB_len])
    have := r.nv
    have := r.nt
    have n1 := leB_inj (w := 1) (by decide) (x := (nv : Int)) (y := (m.gVerts.length : Int)) ⟨by omega, by rw [show p256 1 = 256 from rfl]; omega⟩ ⟨by omega, by rw [show p256 1 = 256 from rfl]; omega⟩ g1
    have n2 := leB_inj (w := 1) (by decide) (x := (nt : Int)) (y := (m.gTris.length : Int)) ⟨by omega, by rw [show p256 1 = 256 from rfl]; omega⟩ ⟨by omega, by rw [show p256 1 = 256 from rfl]; omega⟩ g3
    have hl3 : b.length = 2 + b3.length := by rw [a2, c2]; simp [leB_len]; omega
    rcases h4 with ⟨i1, _, i2, _⟩ | ⟨_, i1⟩
    ·have hl4 := congrArg List.length i2
     rw [List.length_append, flat_len ptB_len, hvl] at hl4
     rcases h5 with ⟨k1, _, k2, _⟩ | ⟨_, k1⟩
     ·have hl5 := congrArg List.length k2
      rw [List.length_append, flat_len uvB_len, hul] at hl5
      rcases h6 with ⟨q1, _⟩ | ⟨_, q1⟩
      ·exact he q1
      ·have := q1 k1; omega
     ·have := k1 i1; omega
    ·have := i1 c1; omega
   ·have hl2 : b.length = 1 + b2.length := by rw [a2]; simp [leB_len]
    have := c1 a1; omega
  ·have := a1 rfl; omega
 by_cases he : e6 = 0
 ·obtain ⟨g1, g2⟩ := all he
  subst he
  rw [show ((0 : Int) != 0) = false from rfl, cond_false]
  by_cases hr : 0 < b6.length
  ·rw [dt hr, cond_true, show ((5 : Int) != 0) = true from rfl, cond_true]
   refine T.ret (.inr ⟨(show (5 : Int) ≠ 0 by decide), rfl, fun m r hm => ?_⟩)
   exfalso
   rw [g1] at hm
   have := (meshB_inj (x := b6) (x' := []) g2 r (by rw [List.append_nil]; exact hm)).2
   rw [this] at hr
   simp at hr
  ·have : b6 = [] := List.eq_nil_of_length_eq_zero (by omega)
   subst this
   rw [df hr, cond_false, show ((0 : Int) != 0) = false from rfl, cond_false]
   rw [List.append_nil] at g1
   refine T.bind (P := fun c => (c = 0 → MeshG (S_api_Mesh.mk vs us ts)) ∧ p_mesh_Check N (S_api_Mesh.mk vs us ts) = some c) ?_ fun c hc => T.cond (fun q => T.ret ?_) fun q => T.ret ?_
   ·obtain ⟨c, q1, q2⟩ := meshT N hN (S_api_Mesh.mk vs us ts) (by have := g2.nv; omega) (by have := g2.nv; have := g2.nu; omega) (by have := g2.nt; omega)
    exact ⟨c, q1, q2, q1⟩
   ·have q : c ≠ 0 := by simpa using q
    refine .inr ⟨q, rfl, fun m r hm => ?_⟩
    have := (meshB_inj (x := []) (x' := []) g2 r (by rw [List.append_nil, List.append_nil, ← g1]; exact hm)).1
    rw [← this, hc.2]
    intro h
    cases h
    exact q rfl
   ·have q : c = 0 := by simpa using q
    exact .inl ⟨rfl, g1, hc.1 q⟩
 ·rw [show (e6 != 0) = true by simpa using he, cond_true, show (e6 != 0) = true by simpa using he, cond_true]
  exact T.ret (.inr ⟨he, rfl, fun m r hm => absurd hm (short he m r)⟩)
end Go.UK

