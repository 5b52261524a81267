/- A part of the proof: what the functions of the program compute. -/
import Derived.Test.YtljnaeghnleipaaR5
namespace Go.UK
open Go Go.Proofs
set_option maxRecDepth 20000
set_option maxHeartbeats 1000000
set_option linter.all false
theorem nonceT (N : Nat) (hN : 20 < N) (base : Vector Int 8) (i : Int) : T (p_bundle_Nonce N base i) (fun _ => True) := by
 unfold p_bundle_Nonce
 refine T.bind (o := slcB 12 0 12) (P := fun _ => True) ⟨(), rfl, trivial⟩ fun _ _ => T.bind (T.slc (by decide) (by decide) (by simp)) fun s2 _ => ?_
 refine T.bind (P := fun _ => True) ?_ fun v3 _ => ?_
 ·unfold cpV
  rw [dif_pos (by decide)]
  exact ⟨_, rfl, trivial⟩
 refine T.bind (T.loop0 (n := 4) (by decide) (fun _ _ => True) (F := p_bundle_Nonce_L1 N i) (fun k s j hj _ Q hk => ?_) (fun k s => by rw [p_bundle_Nonce_L1, df (by omega), cond_false]) (by omega) trivial) fun p1 _ => T.ret trivial
 rw [p_bundle_Nonce_L1, dt (by omega), cond_true, show (8 : Int) = ((8 : Nat) : Int) from rfl, i4 (by omega), ia (by omega), I64_s (by omega), shrO_ok .i64 (by omega), Option.bind_some]
 exact T.bind (T.inRO (by omega) (by omega)) fun _ _ => T.bind (T.vget (by omega)) fun _ _ => hk _ trivial
def nonV (N : Nat) (base : Vector Int 8) (i : Int) : Vector Int 12 := (p_bundle_Nonce N base i).getD (Vector.replicate 12 0)
theorem nonP (N : Nat) (hN : 20 < N) (base : Vector Int 8) (i : Int) : p_bundle_Nonce N base i = some (nonV N base i) := by
 obtain ⟨r, h, _⟩ := nonceT N hN base i
 unfold nonV
 rw [h]
 rfl
theorem noneP (N : Nat) (b : List Int) (e : Int) : p_codec_Reader_none_r N (S_codec_Reader.mk b e true) = some false := rfl
theorem takeOK (N : Nat) (b : List Int) (n : Nat) (h : n ≤ b.length) : p_codec_Reader_Take_rd N (n : Int) (S_codec_Reader.mk b 0 true) = some (b.drop n, 0, b.take n) := by
 unfold p_codec_Reader_Take_rd
 rw [noneP, Option.bind_some, cond_false, letO_e]
 dsimp only
 rw [show ((0 : Int) != 0) = false from rfl, cond_false, df (by omega), cond_false, letO_e, df (by omega), cond_false, slc3O_ok h, Option.bind_some, slcO_drop h, Option.bind_some]
theorem takeShort (N : Nat) (b : List Int) (n : Nat) (h : ¬ n ≤ b.length) : p_codec_Reader_Take_rd N (n : Int) (S_codec_Reader.mk b 0 true) = some (b, 4, []) := by
 unfold p_codec_Reader_Take_rd
 rw [noneP, Option.bind_some, cond_false, letO_e]
 dsimp only
 rw [show ((0 : Int) != 0) = false from rfl, cond_false, df (by omega), cond_false, letO_e, dt (by omega), cond_true]
theorem takeErr (N : Nat) (b : List Int) (n : Nat) {e : Int} (h : e ≠ 0) : p_codec_Reader_Take_rd N (n : Int) (S_codec_Reader.mk b e true) = some (b, e, []) := by
 unfold p_codec_Reader_Take_rd
 rw [noneP, Option.bind_some, cond_false, letO_e]
 dsimp only
 rw [show (e != 0) = true by simpa using h, cond_true]
theorem bytes_nil : bytesL [] := by intro x hx; cases hx
theorem takeT (N : Nat) (b : List Int) (e : Int) (n : Nat) (hb : bytesL b) : T (p_codec_Reader_Take_rd N (n : Int) (S_codec_Reader.mk b e true)) (fun r => bytesL r.1 ∧ bytesL r.2.2 ∧ r.2.2.length ≤ n ∧ r.1.length ≤ b.length ∧ ((r.2.1 = 0 ∧ e = 0 ∧ b = r.2.2 ++ r.1 ∧ r.2.2.length = n) ∨ (r.2.1 ≠ 0 ∧ r.2.2 = [] ∧ r.1 = b ∧ (e = 0 → r.2.1 = 4 ∧ b.length < n) ∧ (e ≠ 0 → r.2.1 = e)))) := by
 by_cases he : e = 0
 ·subst he
  by_cases h : n ≤ b.length
  ·refine T.of (takeOK N b n h) ⟨hb.drop _, hb.take _, by simp; omega, by simp, .inl ⟨rfl, rfl, (List.take_append_drop _ _).symm, by simp; omega⟩⟩
  ·exact T.of (takeShort N b n h) ⟨hb, bytes_nil, by simp, Nat.le_refl _, .inr ⟨(show (4 : Int) ≠ 0 by decide), rfl, rfl, fun _ => ⟨rfl, by omega⟩, fun h => absurd rfl h⟩⟩
 ·exact T.of (takeErr N b n he) ⟨hb, bytes_nil, by simp, Nat.le_refl _, .inr ⟨he, rfl, rfl, fun h => absurd h he, fun _ => rfl⟩⟩
theorem leB_num : ∀ (x : List Int), bytesL x → x.length ≤ 8 → leB x.length (numV x) = x := by
 intro x hx hl
 have hlen : ∀ i, i < x.length → (leB x.length (numV x))[i]? = x[i]? := by
  intro i hi
  unfold leB
  rw [List.getElem?_map, List.getElem?_range hi, Option.map_some, List.getElem?_eq_getElem hi, shr8 _ _ (by omega), U8_e]
  congr 1
  -- the i-th byte
  have key : ∀ (l : List Int), bytesL l → ∀ i (h : i < l.length), numV l / p256 i % 256 = l[i] := by
   intro l
   induction l with
   | nil => intro _ i h; simp at h
   | cons a l ih =>
    intro hl i h
    have ha := hl a (by simp)
    have e : numV (a :: l) = a + 256 * numV l := rfl
    cases i with
    | zero =>
     rw [e, show p256 0 = 1 from rfl]
     have := ha.1; have := ha.2
     simp only [List.getElem_cons_zero]
     omega
    | succ i =>
     rw [show p256 (i + 1) = 256 * p256 i by rw [p256_s, Int.mul_comm], ← Int.ediv_ediv_of_nonneg (by decide), e]
     have h1 : (a + 256 * numV l) / 256 = numV l := by have := ha.1; have := ha.2; omega
     rw [h1]
     simpa using ih (fun x hx => hl x (by simp [hx])) i (by simpa using h)
  exact key x hx i hi
 apply List.ext_getElem?
 intro i
 by_cases hi : i < x.length
 ·exact hlen i hi
 ·rw [List.getElem?_eq_none (by rw [leB_len]; omega), List.getElem?_eq_none (by omega)]
theorem numT (N : Nat) (hN : 20 < N) (b : List Int) (e : Int) (w : Nat) (hw0 : 1 ≤ w) (hw : w ≤ 8) (hb : bytesL b) : T (p_codec_Reader_Num_rd N (w : Int) (S_codec_Reader.mk b e true)) (fun r => bytesL r.1 ∧ r.1.length ≤ b.length ∧ 0 ≤ r.2.2 ∧ r.2.2 < p256 w ∧ ((r.2.1 = 0 ∧ e = 0 ∧ b = leB w r.2.2 ++ r.1) ∨ (r.2.1 ≠ 0 ∧ r.2.2 = 0 ∧ r.1 = b ∧ (e = 0 → r.2.1 = 4 ∧ b.length < w) ∧ (e ≠ 0 → r.2.1 = e)))) := by
 unfold p_codec_Reader_Num_rd
 rw [df (show ¬ (w : Int) < 1 by omega), df (show ¬ (w : Int) > 8 by omega), cond_false, letO_e, cond_false, Option.bind_some]
 refine T.bind (takeT N b e w hb) fun r3 h3 => ?_
 obtain ⟨h1, h2, h4, h4b, h5⟩ := h3
 have n1 := numL N r3.2.2 r3 rfl h2 (by omega) N 0 (by omega) (by omega)
 rw [List.take_zero] at n1
 rw [show p_codec_Reader_Num_rd_L1 N r3 N 0 0 = some (numV r3.2.2) from n1, Option.bind_some]
 have hlt := numV_lt _ h2
 refine T.ret ⟨h1, h4b, hlt.1, ?_, ?_⟩
 ·rcases h5 with ⟨_, _, _, h5⟩ | ⟨_, h5, _⟩
  ·dsimp only; rw [← h5]; exact hlt.2
  ·dsimp only; rw [h5]; exact p256_pos w
 ·rcases h5 with ⟨g1, g2, g3, g4⟩ | ⟨g1, g2, g3, g4, g5⟩
  ·refine .inl ⟨g1, g2, ?_⟩
   dsimp only
   rw [← g4, leB_num _ h2 (by omega)]
   exact g3
  ·exact .inr ⟨g1, by dsimp only; rw [g2]; rfl, g3, g4, g5⟩
theorem int2T (N : Nat) (hN : 20 < N) (b : List Int) (e : Int) (hb : bytesL b) : T (p_codec_Reader_Int_rd N 2 (S_codec_Reader.mk b e true)) (fun r => bytesL r.1 ∧ r.1.length ≤ b.length ∧ -32768 ≤ r.2.2 ∧ r.2.2 < 32768 ∧ ((r.2.1 = 0 ∧ e = 0 ∧ b = leB 2 (r.2.2 % 65536) ++ r.1) ∨ (r.2.1 ≠ 0 ∧ r.1 = b ∧ (e = 0 → r.2.1 = 4 ∧ b.length < 2) ∧ (e ≠ 0 → r.2.1 = e)))) := by
 unfold p_codec_Reader_Int_rd
 refine T.bind (numT N hN b e 2 (by decide) (by decide) hb) fun r h => ?_
 obtain ⟨h1, h1b, h2, h3, h4⟩ := h
 rw [show p256 2 = 65536 from rfl] at h3
 rw [show decide ((2 : Int) < 1) = false from rfl, show decide ((2 : Int) > 8) = false from rfl, cond_false, letO_e, cond_false, show I64 (64 - I64 (8 * 2)) = ((48 : Nat) : Int) by decide, letO_e, shlO_ok .i64 (by omega), Option.bind_some, letO_e, shrO_ok .i64 (by omega), Option.bind_some]
 have hI : I64 r.2.2 = r.2.2 := I64_id (by omega) (by omega)
 have hv : shr .i64 (shl .i64 (I64 r.2.2) ((48 : Nat) : Int)) ((48 : Nat) : Int) = if r.2.2 < 32768 then r.2.2 else r.2.2 - 65536 := by
  rw [hI, shr_e .i64 _ _ 48 rfl (by decide), shlI _ _ (by decide), I64_e, show (2 : Int) ^ 48 = 281474976710656 from rfl]
  split <;> omega
 rw [hv]
 refine T.ret ⟨h1, h1b, by dsimp only; split <;> omega, by dsimp only; split <;> omega, ?_⟩
 rcases h4 with ⟨g1, g2, g3⟩ | ⟨g1, g2, g3, g4, g5⟩
 ·refine .inl ⟨g1, g2, ?_⟩
  dsimp only
  have : (if r.2.2 < 32768 then r.2.2 else r.2.2 - 65536) % 65536 = r.2.2 := by split <;> omega
  rw [this]
  exact g3
 ·exact .inr ⟨g1, g3, g4, g5⟩
theorem endE (N : Nat) (b : List Int) (e : Int) : p_codec_Reader_End_r N (S_codec_Reader.mk b e true) = some (cond (e != 0) e (cond (decide (0 < b.length)) 5 0)) := by
 unfold p_codec_Reader_End_r p_codec_Reader_Err_r
 rw [noneP, Option.bind_some, cond_false, Option.bind_some]
 dsimp only
 cases e != 0 with
 | true => rfl
 | false =>
  rw [cond_false, cond_false, letO_e]
  by_cases h : 0 < b.length
  ·rw [dt (by omega), dt h]; rfl
  ·rw [df (by omega), df h]; rfl
theorem errE (N : Nat) (b : List Int) (e : Int) : p_codec_Reader_Err_r N (S_codec_Reader.mk b e true) = some e := rfl
theorem newP (N : Nat) (b : List Int) (h : b.length ≤ 100000000000000) : p_codec_New N b = some b := by
 unfold p_codec_New
 rw [clone1 N b h, Option.bind_some]
end Go.UK

