/- A part of the proof: what the functions of the program compute. -/
import Derived.Test.YtljnaeghnleipaaR11
namespace Go.UK
open Go Go.Proofs
set_option maxRecDepth 20000
set_option maxHeartbeats 1000000
set_option linter.all false
structure TexR (t : S_api_Texture) : Prop where
 side : 0 ≤ t.gSide ∧ t.gSide < 256
 n : (t.gTexels.length : Int) = t.gSide * t.gSide
 t : ∀ p ∈ t.gTexels, trG 256 p
theorem TexG.r {t : S_api_Texture} (g : TexG t) : TexR t := ⟨⟨by have := g.side; omega, by have := g.side; omega⟩, g.n, g.t⟩
theorem texB_inj {t t' : S_api_Texture} (r : TexR t) (r' : TexR t') {x x' : List Int} (h : texB t ++ x = texB t' ++ x') : t = t' ∧ x = x' := by
 unfold texB at h
 simp only [List.append_assoc] at h
 obtain ⟨h1, h⟩ := List.append_inj h (by simp [leB_len])
 have n1 := leB_inj (w := 1) (by decide) r.side r'.side h1
 have n2 : t.gTexels.length = t'.gTexels.length := by
  have := r.n
  have := r'.n
  rw [n1] at *
  omega
 obtain ⟨e1, h⟩ := flat_inj (trB_len 1) (fun _ _ => trB_inj (w := 1) (by decide)) _ _ _ _ n2 r.t r'.t h
 refine ⟨?_, h⟩
 cases t; cases t'
 dsimp only at *
 rw [e1, n1]
theorem texL (N : Nat) (n : Nat) (hn : n < 100000) : ∀ (k i : Nat) (s : List (Vector Int 3)) (b : List Int) (e : Int), i ≤ n → s.length ≤ i → b.length < k → bytesL b → T (p_texture_Decode_L1 N (n : Int) k s b e true (i : Int)) (fun r => r.2.2.2 = true ∧ ∃ l, r.1 = s ++ l ∧ l.length ≤ n - i ∧ l.length ≤ b.length ∧ ((r.2.2.1 = 0 ∧ e = 0 ∧ l.length = n - i ∧ b = l.flatMap (trB 1) ++ r.2.1 ∧ ∀ x ∈ l, trG 256 x) ∨ (r.2.2.1 ≠ 0 ∧ (e = 0 → b.length < (n - i) * 3))))
 | 0, i, _, _, _, _, _, h, _ => by omega
 | k + 1, i, s, b, e, hi, hs, hk, hb => by
  rw [p_texture_Decode_L1]
  by_cases h : i < n
  ·rw [dt (by omega), cond_true]
   refine T.bind (takeT N b e 3 hb) fun r10 h10 => ?_
   obtain ⟨b', e', out⟩ := r10
   obtain ⟨p1, p2, _, l1, h10⟩ := h10
   dsimp only at p1 p2 l1 h10 ⊢
   refine T.letO fun x hx => ?_
   subst hx
   rcases h10 with ⟨rfl, rfl, q3, q4⟩ | ⟨q1, rfl, rfl, q4, q5⟩
   ·match out, q4 with
    | [x, y, z], _ =>
     have bx := p2 x (by simp)
     have by_ := p2 y (by simp)
     have bz := p2 z (by simp)
     rw [show decide ((([x, y, z] : List Int).length : Int) < 3) = false from rfl, cond_false, show idx [x, y, z] 0 = some x from rfl, show idx [x, y, z] 1 = some y from rfl, show idx [x, y, z] 2 = some z from rfl, Option.bind_some, Option.bind_some, Option.bind_some, I64_id (x := x) (by have := bx.1; omega) (by have := bx.2; omega), I64_id (x := y) (by have := by_.1; omega) (by have := by_.2; omega), I64_id (x := z) (by have := bz.1; omega) (by have := bz.2; omega)]
     refine T.bind (T.app (by simp; omega)) fun w hw => ?_
     subst hw
     rw [I64_s (by omega)]
     have hlen := congrArg List.length q3
     simp only [List.length_append, List.length_cons, List.length_nil] at hlen
     refine T.mono (texL N n hn k (i + 1) _ b' 0 (by omega) (by simp; omega) (by omega) p1) fun r hr => ?_
     obtain ⟨r1, l, r2, r3, r3b, r4⟩ := hr
     refine ⟨r1, #v[x, y, z] :: l, by rw [r2]; simp, by rw [List.length_cons]; omega, by rw [List.length_cons]; omega, ?_⟩
     have ht : trB 1 #v[x, y, z] = [x, y, z] := by
      show leB 1 x ++ (leB 1 y ++ leB 1 z) = _
      rw [leB1 bx, leB1 by_, leB1 bz]
      rfl
     rcases r4 with ⟨g1, _, g2, g3, g4⟩ | ⟨g1, g2⟩
     ·refine .inl ⟨g1, rfl, by rw [List.length_cons]; omega, by rw [q3, g3, List.flatMap_cons, ht, List.append_assoc], fun v hv => ?_⟩
      rcases List.mem_cons.1 hv with rfl | hv
      ·exact ⟨bx, by_, bz⟩
      ·exact g4 v hv
     ·refine .inr ⟨g1, fun _ => ?_⟩
      have := g2 rfl
      omega
   ·rw [show decide ((([] : List Int).length : Int) < 3) = true from rfl, cond_true]
    refine T.ret ⟨rfl, [], by simp, by simp, by simp, .inr ⟨q1, fun he => ?_⟩⟩
    have := (q4 he).2
    omega
  ·obtain rfl : i = n := by omega
   rw [df (by omega), cond_false]
   refine T.ret ⟨rfl, [], by simp, by simp, by simp, ?_⟩
   by_cases he : e = 0
   ·exact .inl ⟨he, he, by simp, by simp, fun x hx => (by cases hx)⟩
   ·exact .inr ⟨he, fun h => absurd h he⟩
theorem texDecT (N : Nat) (hN : 10000 < N) (b : List Int) (hb : bytesL b) (hl : b.length ≤ 5000) : T (p_texture_Decode N b) (fun r => (r.2 = 0 ∧ b = texB r.1 ∧ TexG r.1) ∨ (r.2 ≠ 0 ∧ r.1 = zTex ∧ ∀ t, TexR t → t.gTexels.length ≤ 500 → b = texB t → p_texture_Check N t ≠ some 0)) := by
 unfold p_texture_Decode
 rw [newP N b (by omega), Option.bind_some]
 refine T.bind (numT N (by omega) b 0 1 (by decide) (by decide) hb) fun r2 h2 => ?_
 obtain ⟨b2, e2, v2⟩ := r2
 obtain ⟨p2, l2, x0, x1, h2⟩ := h2
 dsimp only at p2 l2 x0 x1 h2 ⊢
 rw [show p256 1 = 256 from rfl] at x1
 obtain ⟨sd, rfl⟩ := Int.eq_ofNat_of_zero_le x0
 have hsd : sd * sd ≤ 255 * 255 := Nat.mul_le_mul (by omega) (by omega)
 have f : I64 (I64 (sd : Int) * I64 (sd : Int)) = ((sd * sd : Nat) : Int) := by
  have e0 : I64 (sd : Int) = (sd : Int) := I64_id (by omega) (by omega)
  rw [e0, ← Int.natCast_mul, I64_id (by omega) (by omega)]
 have f0 : I64 (sd : Int) = (sd : Int) := I64_id (by omega) (by omega)
 rw [f, letO_e, f0]
 refine T.bind (texL N (sd * sd) (by omega) N 0 [] b2 e2 (by omega) (by simp) (by omega) p2) fun r4 h4 => ?_
 obtain ⟨ts, b3, e3, m3⟩ := r4
 obtain ⟨rfl, tl, htl, hn1, hn2, h4⟩ := h4
 dsimp only at htl hn1 hn2 h4 ⊢
 rw [List.nil_append] at htl
 subst htl
 rw [endE, Option.bind_some]
 have all : e3 = 0 → b = texB (S_api_Texture.mk (sd : Int) ts) ++ b3 ∧ TexR (S_api_Texture.mk (sd : Int) ts) := by
  intro he
  rcases h4 with ⟨_, q1, q2, q3, q4⟩ | ⟨q, _⟩
  ·subst q1
   rcases h2 with ⟨_, _, o2⟩ | ⟨q, _⟩
   ·refine ⟨?_, ⟨by dsimp only; omega, by dsimp only; omega⟩, by dsimp only; rw [q2, Nat.sub_zero]; push_cast; rfl, q4⟩
    unfold texB
    dsimp only
    rw [o2, q3, List.append_assoc]
   ·exact absurd rfl q
  ·exact absurd he q
 have short : e3 ≠ 0 → ∀ t, TexR t → b ≠ texB t := by
  intro he t r ht
  have hlen : (texB t).length = 1 + 3 * t.gTexels.length := by unfold texB; rw [List.length_append, leB_len, flat_len (trB_len 1)]; omega
  rw [← ht] at hlen
  rcases h2 with ⟨a1, _, a2⟩ | ⟨_, _, _, a1, _⟩
  ·have hh : leB 1 (sd : Int) ++ b2 = texB t := by rw [← ht, a2]
   unfold texB at hh
   obtain ⟨g1, g2⟩ := List.append_inj hh (by simp [leB_len])
   have n1 := leB_inj (w := 1) (by decide) (x := (sd : Int)) (y := t.gSide) ⟨by omega, by rw [show p256 1 = 256 from rfl]; omega⟩ r.side g1
   have n2 := r.n
   rw [← n1, ← Int.natCast_mul] at n2
   have hl3 : b.length = 1 + b2.length := by rw [a2, List.length_append, leB_len]
   rcases h4 with ⟨i1, _⟩ | ⟨_, i1⟩
   ·exact he i1
   ·have := i1 a1; omega
  ·have := (a1 rfl).2; omega
 by_cases he : e3 = 0
 ·obtain ⟨g1, g2⟩ := all he
  subst he
  rw [show ((0 : Int) != 0) = false from rfl, cond_false]
  by_cases hr : 0 < b3.length
  ·rw [dt hr, cond_true, show ((5 : Int) != 0) = true from rfl, cond_true]
   refine T.ret (.inr ⟨(show (5 : Int) ≠ 0 by decide), rfl, fun t r _ ht => ?_⟩)
   exfalso
   rw [g1] at ht
   have := (texB_inj (x := b3) (x' := []) g2 r (by rw [List.append_nil]; exact ht)).2
   rw [this] at hr
   simp at hr
  ·have : b3 = [] := List.eq_nil_of_length_eq_zero (by omega)
   subst this
   rw [df hr, cond_false, show ((0 : Int) != 0) = false from rfl, cond_false]
   rw [List.append_nil] at g1
   by_cases h500 : ts.length ≤ 500
   ·refine T.bind (P := fun c => (c = 0 → TexG (S_api_Texture.mk (sd : Int) ts)) ∧ p_texture_Check N (S_api_Texture.mk (sd : Int) ts) = some c) ?_ fun c hc => T.cond (fun q => T.ret ?_) fun q => T.ret ?_
    ·obtain ⟨c, q1, q2⟩ := texT N (by omega) (S_api_Texture.mk (sd : Int) ts) h500
     exact ⟨c, q1, q2, q1⟩
    ·have q : c ≠ 0 := by simpa using q
     refine .inr ⟨q, rfl, fun t r _ ht => ?_⟩
     have := (texB_inj (x := []) (x' := []) g2 r (by rw [List.append_nil, List.append_nil, ← g1]; exact ht)).1
     rw [← this, hc.2]
     intro h
     cases h
     exact q rfl
    ·have q : c = 0 := by simpa using q
     exact .inl ⟨rfl, g1, hc.1 q⟩
   ·-- too many: the side is none
    have hbig : T (p_texture_Check N (S_api_Texture.mk (sd : Int) ts)) (fun c => c ≠ 0) := by
     unfold p_texture_Check
     obtain ⟨r1, e1, h1⟩ := containsT N (by omega) [1, 2, 4, 8, 16] (by decide) (sd : Int)
     dsimp only
     rw [e1, Option.bind_some]
     have hr1 : r1 = false := by
      cases r1 with
      | false => rfl
      | true =>
       have hm := h1 rfl
       simp only [List.mem_cons, List.not_mem_nil, or_false] at hm
       have n2 := g2.n
       dsimp only at n2
       have : (sd : Int) ≤ 16 := by omega
       have h3 : (sd : Int) * (sd : Int) ≤ 16 * 16 := Int.mul_le_mul this this (by omega) (by decide)
       omega
     rw [hr1, letO_e, letO_e, letO_e]
     exact ⟨5, rfl, by decide⟩
    refine T.bind hbig fun c hc => ?_
    rw [show (c != 0) = true by simpa using hc, cond_true]
    refine T.ret (.inr ⟨hc, rfl, fun t r h5 ht => ?_⟩)
    have := (texB_inj (x := []) (x' := []) g2 r (by rw [List.append_nil, List.append_nil, ← g1]; exact ht)).1
    rw [← this] at h5
    exact absurd h5 h500
 ·rw [show (e3 != 0) = true by simpa using he, cond_true, show (e3 != 0) = true by simpa using he, cond_true]
  exact T.ret (.inr ⟨he, rfl, fun t r _ ht => absurd ht (short he t r)⟩)
def LigR (l : S_api_Light) : Prop := (0 ≤ l.gKind ∧ l.gKind < 256) ∧ trG 4294967296 l.gColor ∧ ptR l.gAt ∧ ptR l.gU ∧ ptR l.gV
theorem LigG.r {l : S_api_Light} (g : LigG l) : LigR l := ⟨g.kind, g.color, g.at_.r, g.u.r, g.v.r⟩
theorem matB_inj {m m' : S_api_Material} (r : MatG m) (r' : MatG m') {x x' : List Int} (h : matB m ++ x = matB m' ++ x') : m = m' ∧ x = x' := by
 unfold matB at h
 simp only [List.append_assoc] at h
 obtain ⟨h1, h⟩ := List.append_inj h (by simp [leB_len])
 obtain ⟨h2, h⟩ := List.append_inj h (by simp [trB_len])
 obtain ⟨h3, h⟩ := List.append_inj h (by simp [leB_len])
 have n1 := leB_inj (w := 1) (by decide) r.kind r'.kind h1
 have n2 := trB_inj (w := 2) (by decide) r.color r'.color h2
 have n3 := leB_inj (w := 2) (by decide) r.rough r'.rough h3
 refine ⟨?_, h⟩
 cases m; cases m'
 dsimp only at *
 rw [n1, n2, n3]
theorem ligB_inj {m m' : S_api_Light} (r : LigR m) (r' : LigR m') {x x' : List Int} (h : ligB m ++ x = ligB m' ++ x') : m = m' ∧ x = x' := by
 unfold ligB at h
 simp only [List.append_assoc] at h
 obtain ⟨h1, h⟩ := List.append_inj h (by simp [leB_len])
 obtain ⟨h2, h⟩ := List.append_inj h (by simp [trB_len])
 obtain ⟨h3, h⟩ := List.append_inj h (by simp [ptB_len])
 obtain ⟨h4, h⟩ := List.append_inj h (by simp [ptB_len])
 obtain ⟨h5, h⟩ := List.append_inj h (by simp [ptB_len])
 obtain ⟨a1, a2, a3, a4, a5⟩ := r
 obtain ⟨b1, b2, b3, b4, b5⟩ := r'
 have n1 := leB_inj (w := 1) (by decide) a1 b1 h1
 have n2 := trB_inj (w := 4) (by decide) a2 b2 h2
 have n3 := ptB_inj a3 b3 h3
 have n4 := ptB_inj a4 b4 h4
 have n5 := ptB_inj a5 b5 h5
 refine ⟨?_, h⟩
 cases m; cases m'
 dsimp only at *
 rw [n1, n2, n3, n4, n5]
theorem matB_len (m : S_api_Material) : (matB m).length = 9 := by unfold matB; simp [leB_len, trB_len]
theorem ligB_len (m : S_api_Light) : (ligB m).length = 31 := by unfold ligB; simp [leB_len, trB_len, ptB_len]
end Go.UK

