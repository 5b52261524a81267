/- A part of the proof: what the functions of the program compute. -/
import Derived.Test.YtljnaeghnleipaaR15
namespace Go.UK
open Go Go.Proofs
set_option maxRecDepth 20000
set_option maxHeartbeats 1000000
set_option linter.all false
theorem chunkT (N : Nat) (hN : 70000 ≤ N) (key : Vector Int 32) (base : Vector Int 8) (mark : List Int) (hm : mark.length = 16) (hmb : bytesL mark) (i n : Nat) (hi : i < 1000) (hn : n ≤ 256) (b : List Int) (hb : bytesL b) (hl : b.length ≤ 10000) :
  T (p_bundle_chunk_ddrddd N key (nonV N base ((i + 1 : Nat) : Int)) mark (i : Int) (n : Int) (S_codec_Reader.mk b 0 true)) (fun r =>
   (r.2.2 = 0 ∧ ∃ p b', r.2.1 = p ∧ r.1 = S_codec_Reader.mk b' 0 true ∧ p.length = n ∧ bytesL p ∧ bytesL b' ∧ b = chunkF N key base mark i p ++ b')
   ∨ (r.2.2 ≠ 0 ∧ (∀ p b', bytesL p → p.length = n → b ≠ chunkF N key base mark i p ++ b') ∧ (4 ≤ b.length → b.take 4 ≠ preB i n → r.2.2 = 7))) := by
 unfold p_bundle_chunk_ddrddd
 by_cases h4 : 4 ≤ b.length
 rotate_left
 ·have e := takeShort N b 4 h4
  rw [show p_codec_Reader_Take_rd N 4 (S_codec_Reader.mk b 0 true) = _ from e, Option.bind_some, letO_e]
  refine T.ret (.inr ⟨(show (4 : Int) ≠ 0 by decide), fun p b' hp hpn e => ?_, fun h => absurd h h4⟩)
  rw [e, List.length_append, chunkF_len N hN _ _ _ _ (by omega)] at h4
  omega
 have e := takeOK N b 4 h4
 rw [show p_codec_Reader_Take_rd N 4 (S_codec_Reader.mk b 0 true) = _ from e, Option.bind_some, letO_e]
 dsimp only
 rw [df (by rw [List.length_take]; omega), cond_false]
 have e2 := put2 N (by omega) [] 2 (by decide) (by decide) (i : Int) (n : Int) ⟨by omega, by rw [show p256 2 = 65536 from rfl]; omega⟩ ⟨by omega, by rw [show p256 2 = 65536 from rfl]; omega⟩ (by simp)
 rw [U64_id (x := (i : Int)) (by omega) (by omega), U64_id (x := (n : Int)) (by omega) (by omega), show p_codec_Put N [] 2 [(i : Int), (n : Int)] = _ from e2, Option.bind_some]
 dsimp only
 rw [List.nil_append, show leB 2 (i : Int) ++ leB 2 (n : Int) = preB i n from rfl, equalP N (hb.take _) (preB_bytes i n), Option.bind_some]
 by_cases hp4 : b.take 4 = preB i n
 rotate_left
 ·rw [df hp4]
  refine T.ret (.inr ⟨(show (7 : Int) ≠ 0 by decide), fun p b' hp hpn e => ?_, fun _ _ => rfl⟩)
  apply hp4
  rw [e]
  unfold chunkF
  rw [List.append_assoc, List.take_left' (preB_len _ _), hpn]
 rw [dt hp4, show (!true) = false from rfl, cond_false]
 have f : I64 ((n : Int) + 16) = ((n + 16 : Nat) : Int) := by rw [I64_id (by omega) (by omega)]; omega
 rw [f]
 -- what a good chunk would say of the rest
 have good : ∀ p b', p.length = n → b = chunkF N key base mark i p ++ b' → b.drop 4 = sealC N key base mark i p ++ b' ∧ (sealC N key base mark i p).length = n + 16 := by
  intro p b' hpn e
  refine ⟨?_, ?_⟩
  ·rw [e]
   unfold chunkF
   rw [List.append_assoc, List.drop_left' (preB_len _ _)]
  ·unfold sealC
   rw [sealV_len N hN _ _ _ (by omega), hpn]
 by_cases h5 : n + 16 ≤ (b.drop 4).length
 rotate_left
 ·rw [takeShort N _ _ h5, Option.bind_some]
  dsimp only
  rw [errE, Option.bind_some, show ((4 : Int) != 0) = true from rfl, cond_true, Option.bind_some]
  refine T.ret (.inr ⟨(show (4 : Int) ≠ 0 by decide), fun p b' hp hpn e => ?_, fun _ h => absurd hp4 h⟩)
  obtain ⟨g1, g2⟩ := good p b' hpn e
  rw [g1, List.length_append] at h5
  omega
 rw [takeOK N _ _ h5, Option.bind_some]
 dsimp only
 rw [errE, Option.bind_some, show ((0 : Int) != 0) = false from rfl, cond_false, hp4]
 rw [concP N [preB i n, mark] (by simp) (by show 2 < N; omega) (by intro l hl; simp only [List.mem_cons, List.not_mem_nil, or_false] at hl; rcases hl with rfl | rfl; rw [preB_len]; omega; omega), Option.bind_some]
 rw [show [preB i n, mark].flatten = preB i n ++ mark by simp]
 have hsb : bytesL ((b.drop 4).take (n + 16)) := (hb.drop _).take _
 have hsl : ((b.drop 4).take (n + 16)).length = n + 16 := by rw [List.length_take]; omega
 obtain ⟨r9, e9, h9⟩ := openT N hN key (nonV N base ((i + 1 : Nat) : Int)) (preB i n ++ mark) _ hsb (by rw [List.length_append, preB_len]; omega) (by omega)
 rw [e9, Option.bind_some]
 obtain ⟨p, e⟩ := r9
 dsimp only at h9 e9 ⊢
 rcases h9 with ⟨g0, g1, g2, g3⟩ | ⟨g1, g2⟩
 ·have hpn : p.length = n := by omega
  refine T.ret (.inl ⟨g0, p, (b.drop 4).drop (n + 16), rfl, rfl, hpn, g1, (hb.drop _).drop _, ?_⟩)
  unfold chunkF sealC
  rw [hpn, ← g3, ← hp4, List.append_assoc, List.take_append_drop, List.take_append_drop]
 ·refine T.ret (.inr ⟨by dsimp only; rcases g2 with h | h <;> rw [h] <;> decide, fun q b' hq hqn e5 => ?_, fun _ h => absurd rfl h⟩)
  obtain ⟨k1, k2⟩ := good q b' hqn e5
  rw [k1, List.take_left' k2] at e9
  unfold sealC at e9
  rw [hqn] at e9
  rw [openSeal N hN key _ _ q hq (by rw [List.length_append, preB_len]; omega) (by omega)] at e9
  cases e9
  rcases g2 with h | h <;> cases h
theorem openL (N : Nat) (hN : 70000 ≤ N) (key : Vector Int 32) (base : Vector Int 8) (mark : List Int) (hm : mark.length = 16) (hmb : bytesL mark) (m : S_api_Manifest) : ∀ (k rem i : Nat) (s b : List Int), nCh rem < k → m.gSize = ((s.length + rem : Nat) : Int) → m.gChunks = ((i + nCh rem : Nat) : Int) → s.length + rem ≤ 10000 → i + nCh rem < 1000 → bytesL b → b.length ≤ 10000 →
  T (p_bundle_Open_L1 N (m, 0) base key mark k s b 0 true (i : Int)) (fun o =>
   (∃ p b', o = Sum.inl (s ++ p, b', 0, true) ∧ p.length = rem ∧ bytesL p ∧ bytesL b' ∧ b = bodyC N key base mark (nCh rem) i p ++ b')
   ∨ (∃ e, e ≠ 0 ∧ o = Sum.inr (zM, zA 0, e) ∧ (∀ p b', bytesL p → p.length = rem → b ≠ bodyC N key base mark (nCh rem) i p ++ b') ∧ (4 ≤ b.length → b.take 4 ≠ preB i (min 256 rem) → e = 7)))
 | 0, _, _, _, _, h, _, _, _, _, _, _ => by omega
 | k + 1, rem, i, s, b, hk, hsz, hch, hl, hi, hb, hbl => by
  rw [p_bundle_Open_L1, letO_e]
  dsimp only
  rw [hch, hsz]
  by_cases h : rem = 0
  ·subst h
   rw [show nCh 0 = 0 from rfl, df (by omega), cond_false]
   exact T.ret (.inl ⟨[], b, by rw [List.append_nil], rfl, bytes_nil, hb, by rw [bodyC, List.nil_append]⟩)
  have hn : nCh rem = nCh (rem - 256) + 1 := by unfold nCh; omega
  have hn2 : nCh (rem - min 256 rem) = nCh (rem - 256) := by unfold nCh; omega
  have f : I64 (((s.length + rem : Nat) : Int) - (s.length : Int)) = (rem : Int) := by rw [I64_id (by omega) (by omega)]; omega
  rw [dt (by omega), cond_true, I64_s (by omega), nonP N (by omega), Option.bind_some, f, letO_e, show (256 : Int) = ((256 : Nat) : Int) from rfl, imin_nat]
  obtain ⟨r, e1, h1⟩ := chunkT N hN key base mark hm hmb i (min 256 rem) (by omega) (by omega) b hb hbl
  rw [e1, Option.bind_some]
  obtain ⟨rd, p, e⟩ := r
  dsimp only at h1 ⊢
  -- a good body's first chunk
  have good : ∀ q x, q.length = rem → b = bodyC N key base mark (nCh rem) i q ++ x → b = chunkF N key base mark i (q.take 256) ++ (bodyC N key base mark (nCh (rem - 256)) (i + 1) (q.drop 256) ++ x) := by
   intro q x hq e
   rw [e, hn, bodyC, List.append_assoc]
  rcases h1 with ⟨rfl, p', b', rfl, rfl, hp, hpb, hbb, hbe⟩ | ⟨h1, h2, h3⟩
  rotate_left
  ·rw [show (e != 0) = true by simpa using h1, cond_true]
   refine T.ret (.inr ⟨e, h1, rfl, fun q x hq hqr e5 => ?_, h3⟩)
   exact h2 (q.take 256) _ (hq.take _) (by rw [List.length_take]; omega) (good q x hqr e5)
  ·rw [show ((0 : Int) != 0) = false from rfl, cond_false, appO1 (by omega) (by omega), Option.bind_some]
   dsimp only
   have hcl := chunkF_len N hN key base mark i (p := p) (by omega)
   have hbl2 := congrArg List.length hbe
   rw [List.length_append, hcl] at hbl2
   obtain ⟨o, e2, h2⟩ := openL N hN key base mark hm hmb m k (rem - min 256 rem) (i + 1) (s ++ p) b' (by omega) (by rw [hsz, List.length_append]; congr 1; omega) (by rw [hch]; congr 1; omega) (by rw [List.length_append]; omega) (by omega) hbb (by omega)
   rw [e2]
   refine T.ret ?_
   rw [hn2] at h2
   rcases h2 with ⟨p2, b2, h3, h4, h5, h6, h7⟩ | ⟨e, h3, h4, h5, h6⟩
   ·refine .inl ⟨p ++ p2, b2, by rw [h3, List.append_assoc], by rw [List.length_append]; omega, hpb.app h5, h6, ?_⟩
    rw [hn, bodyC]
    by_cases hlt : rem ≤ 256
    ·have hp2 : p2 = [] := List.eq_nil_of_length_eq_zero (by omega)
     subst hp2
     rw [List.append_nil, List.take_of_length_le (by omega), List.append_assoc, hbe, h7, List.drop_eq_nil_of_le (by omega)]
    ·rw [List.take_left' (by omega), List.drop_left' (by omega), List.append_assoc, ← h7]
     exact hbe
   ·refine .inr ⟨e, h3, h4, fun q x hq hqr e5 => ?_, fun _ hne => ?_⟩
    ·have g := good q x hqr e5
     rw [hbe] at g
     have hl1 : (chunkF N key base mark i p).length = (chunkF N key base mark i (q.take 256)).length := by rw [hcl, chunkF_len N hN _ _ _ _ (by simp; omega), List.length_take]; omega
     obtain ⟨g1, g2⟩ := List.append_inj g hl1
     by_cases hlt : rem ≤ 256
     ·refine h5 (q.drop 256) x (hq.drop _) (by rw [List.length_drop]; omega) g2
     ·exact h5 (q.drop 256) x (hq.drop _) (by rw [List.length_drop]; omega) g2
    ·exfalso
     apply hne
     rw [hbe]
     unfold chunkF
     rw [List.append_assoc, List.take_left' (preB_len _ _), hp]
end Go.UK

