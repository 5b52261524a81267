/- A part of the proof: what the functions of the program compute. -/
import Derived.Test.YtbifjcmhomoppaaGreatJ4
namespace Go.UK
open Go Go.Proofs
set_option maxRecDepth 20000
set_option maxHeartbeats 1000000
set_option linter.all false
theorem toB' {x : Int} (h : isB x) : ((UInt8.ofNat x.toNat).toNat : Int) = x := by
 obtain ⟨h0, h1⟩ := h
 have e : (UInt8.ofNat x.toNat).toNat = x.toNat % 256 := UInt8.toNat_ofNat'
 rw [e]; omega
theorem strO_inj : ∀ {a b : List Int}, bytesL a → bytesL b → (a.map fun x => UInt8.ofNat x.toNat) = (b.map fun x => UInt8.ofNat x.toNat) → a = b
 | [], [], _, _, _ => rfl
 | [], b :: l, _, _, h => by simp at h
 | a :: l, [], _, _, h => by simp at h
 | a :: l, b :: r, ha, hb, h => by
  simp only [List.map_cons, List.cons.injEq] at h
  have h1 := congrArg (fun u : UInt8 => (u.toNat : Int)) h.1
  rw [toB' (ha a (by simp)), toB' (hb b (by simp))] at h1
  rw [h1, strO_inj (fun x hx => ha x (by simp [hx])) (fun x hx => hb x (by simp [hx])) h.2]
theorem equalP (N : Nat) {a b : List Int} (ha : bytesL a) (hb : bytesL b) : p_bytes_Equal N a b = some (decide (a = b)) := by
 unfold p_bytes_Equal
 rw [letO_e]
 congr 1
 rw [ByteArray.toList_eq, ByteArray.toList_eq, Bool.eq_iff_iff, beq_iff_eq, decide_eq_true_eq]
 unfold strO
 dsimp only
 exact ⟨strO_inj ha hb, fun h => by rw [h]⟩
theorem prefP (N : Nat) {a b : List Int} (ha : bytesL a) (hb : bytesL b) : p_bytes_HasPrefix N a b = some (decide (a.take b.length = b)) := by
 unfold p_bytes_HasPrefix
 rw [letO_e]
 by_cases h : b.length ≤ a.length
 ·rw [dt (by omega), cond_true, slcO_take h, Option.bind_some, equalP N (ha.take _) hb]
  rfl
 ·rw [df (by omega), cond_false]
  have : ¬ a.take b.length = b := fun e => by have := congrArg List.length e; rw [List.length_take] at this; omega
  rw [df this]
  rfl
theorem headB_inj {base base' : Vector Int 8} {m m' : S_api_Manifest} (r : ManR m) (r' : ManR m') (h : headB base m = headB base' m') : base = base' ∧ m = m' := by
 unfold headB at h
 have h := List.append_cancel_left h
 obtain ⟨h1, h2⟩ := List.append_inj h (by simp)
 exact ⟨Vector.toList_inj.1 h1, manB_inj r r' h2⟩
theorem headB_bytes {base : Vector Int 8} {m : S_api_Manifest} (hb : vbytes base) (r : ManR m) : bytesL (headB base m) := by
 unfold headB
 refine bytesL.app ?_ (hb.app (manB_bytes r.masks))
 intro x hx
 simp only [List.mem_cons, List.not_mem_nil, or_false] at hx
 rcases hx with rfl | rfl | rfl | rfl <;> exact ⟨by decide, by decide⟩
theorem fourB : bytesL [85, 77, 66, 49] := by
 intro x hx
 simp only [List.mem_cons, List.not_mem_nil, or_false] at hx
 rcases hx with rfl | rfl | rfl | rfl <;> exact ⟨by decide, by decide⟩
theorem cut5 (a b c d e : List Int) (ha : a.length = 4) (hb : b.length = 8) (hc : c.length = 35) (hd : d.length = 16) :
  (a ++ (b ++ (c ++ (d ++ e)))).take 4 = a ∧ ((a ++ (b ++ (c ++ (d ++ e)))).take 12).drop 4 = b ∧ ((a ++ (b ++ (c ++ (d ++ e)))).take 47).drop 12 = c ∧ (a ++ (b ++ (c ++ (d ++ e)))).take 47 = a ++ (b ++ c) ∧ ((a ++ (b ++ (c ++ (d ++ e)))).take 63).drop 47 = d ∧ (a ++ (b ++ (c ++ (d ++ e)))).drop 63 = e := by
 have ta : ∀ n, 4 ≤ n → a.take n = a := fun n h => List.take_of_length_le (by omega)
 have tb : ∀ n, 8 ≤ n → b.take n = b := fun n h => List.take_of_length_le (by omega)
 have tc : ∀ n, 35 ≤ n → c.take n = c := fun n h => List.take_of_length_le (by omega)
 have td : ∀ n, 16 ≤ n → d.take n = d := fun n h => List.take_of_length_le (by omega)
 have da : ∀ n, 4 ≤ n → a.drop n = [] := fun n h => List.drop_eq_nil_of_le (by omega)
 have db : ∀ n, 8 ≤ n → b.drop n = [] := fun n h => List.drop_eq_nil_of_le (by omega)
 have dc : ∀ n, 35 ≤ n → c.drop n = [] := fun n h => List.drop_eq_nil_of_le (by omega)
 have dd : ∀ n, 16 ≤ n → d.drop n = [] := fun n h => List.drop_eq_nil_of_le (by omega)
 refine ⟨?_, ?_, ?_, ?_, ?_, ?_⟩ <;> simp [List.take_append, List.drop_append, ha, hb, hc, hd, ta, tb, tc, td, da, db, dc, dd]
def HeadAt (N : Nat) (key : Vector Int 32) (base : Vector Int 8) (m : S_api_Manifest) (b : List Int) : Prop :=
 vbytes base ∧ ManR m ∧ mchkV m = 0 ∧ b = headB base m ++ (markV N key base m ++ b.drop 63)
theorem HeadAt.len {N : Nat} (hN : 70000 ≤ N) {key : Vector Int 32} {base : Vector Int 8} {m : S_api_Manifest} {b : List Int} (h : HeadAt N key base m b) : 63 ≤ b.length := by
 have := congrArg List.length h.2.2.2
 rw [List.length_append, List.length_append, headB_len, markV_len N hN] at this
 omega
theorem HeadAt.parts {N : Nat} (hN : 70000 ≤ N) {key : Vector Int 32} {base : Vector Int 8} {m : S_api_Manifest} {b : List Int} (h : HeadAt N key base m b) :
  b.take 4 = [85, 77, 66, 49] ∧ (b.take 12).drop 4 = base.toList ∧ (b.take 47).drop 12 = manB m ∧ b.take 47 = headB base m ∧ (b.take 63).drop 47 = markV N key base m := by
 have c := cut5 [85, 77, 66, 49] base.toList (manB m) (markV N key base m) (b.drop 63) rfl (by simp) (manB_len m) (markV_len N hN key base m)
 have e : [85, 77, 66, 49] ++ (base.toList ++ (manB m ++ (markV N key base m ++ b.drop 63))) = b := by
  conv => rhs; rw [h.2.2.2]
  unfold headB
  simp only [List.append_assoc]
 rw [e] at c
 exact ⟨c.1, c.2.1, c.2.2.1, c.2.2.2.1, c.2.2.2.2.1⟩
theorem HeadAt.uniq {N : Nat} (hN : 70000 ≤ N) {key : Vector Int 32} {base base' : Vector Int 8} {m m' : S_api_Manifest} {b : List Int} (h : HeadAt N key base m b) (h' : HeadAt N key base' m' b) : base = base' ∧ m = m' :=
 headB_inj h.2.1 h'.2.1 (by rw [← (h.parts hN).2.2.2.1, (h'.parts hN).2.2.2.1])
theorem HeadAt.of {N : Nat} (hN : 70000 ≤ N) (key : Vector Int 32) {base : Vector Int 8} {m : S_api_Manifest} (hb : vbytes base) (r : ManR m) (h0 : mchkV m = 0) (x : List Int) : HeadAt N key base m (headB base m ++ (markV N key base m ++ x)) ∧ (headB base m ++ (markV N key base m ++ x)).drop 63 = x := by
 have e : (headB base m ++ (markV N key base m ++ x)).drop 63 = x := by
  rw [← List.append_assoc, List.drop_left' (by rw [List.length_append, headB_len, markV_len N hN])]
 exact ⟨⟨hb, r, h0, by rw [e]⟩, e⟩
theorem peekT (N : Nat) (hN : 70000 ≤ N) (key : Vector Int 32) (b : List Int) (hb : bytesL b) (hl : b.length ≤ 100000) :
  T (p_bundle_Peek N key b) (fun r => (r.2 = 0 ∧ ∃ base, HeadAt N key base r.1 b) ∨ (r.2 ≠ 0 ∧ r.1 = zM ∧ ∀ base m, ¬ HeadAt N key base m b)) := by
 unfold p_bundle_Peek
 rw [letO_e]
 refine T.cond (fun c => T.ret (.inr ⟨(show (4 : Int) ≠ 0 by decide), rfl, fun base m h => ?_⟩)) fun c => ?_
 ·have := h.len hN
  have := of_decide_eq_true c
  omega
 have c : 63 ≤ b.length := by have := of_decide_eq_false c; omega
 rw [prefP N hb fourB, Option.bind_some]
 refine T.cond (fun c2 => T.ret (.inr ⟨(show (5 : Int) ≠ 0 by decide), rfl, fun base m h => ?_⟩)) fun c2 => ?_
 ·rw [show decide (b.take ([85, 77, 66, 49] : List Int).length = [85, 77, 66, 49]) = true from decide_eq_true (h.parts hN).1] at c2
  cases c2
 have c2 : b.take 4 = [85, 77, 66, 49] := by
  cases hd : decide (b.take ([85, 77, 66, 49] : List Int).length = [85, 77, 66, 49]) with
  | true => exact of_decide_eq_true hd
  | false => rw [hd] at c2; cases c2
 refine T.bind (T.slc (by decide) (by decide) (by omega)) fun s3 h3 => T.bind (T.vec (by have := h3.2; omega)) fun v4 h4 => ?_
 rw [List.take_of_length_le (by have := h3.2; omega), h3.1, show (12 : Int).toNat = 12 from rfl, show (4 : Int).toNat = 4 from rfl] at h4
 have hv4 : vbytes v4 := by unfold vbytes; rw [h4]; exact (hb.take _).drop _
 rw [nonP N (by omega), Option.bind_some]
 refine T.bind (T.slc (by decide) (by decide) (by omega)) fun s6 h6 => T.bind (T.slc (by decide) (by decide) (by omega)) fun s7 h7 => ?_
 have e6 : s6 = b.take 47 := h6.1
 have e7 : s7 = (b.take 63).drop 47 := h7.1
 subst e6 e7
 obtain ⟨r8, e8, h8⟩ := openT N hN key (nonV N v4 0) (b.take 47) ((b.take 63).drop 47) ((hb.take _).drop _) (by simp; omega) (by simp; omega)
 rw [e8, Option.bind_some]
 refine T.cond (fun c8 => ?_) fun c8 => ?_
 ·refine T.ret (.inr ⟨by simpa using c8, rfl, fun base m h => ?_⟩)
  obtain ⟨q1, q2, q3, q4, q5⟩ := h.parts hN
  have hbase : v4 = base := Vector.toList_inj.1 (by rw [h4, q2])
  subst hbase
  have e9 : p_aead_Open N key (nonV N v4 0) (b.take 47) ((b.take 63).drop 47) = some ([], 0) := by
   rw [q4, q5]
   exact openSeal N hN key (nonV N v4 0) (headB v4 m) [] bytes_nil (by rw [headB_len]; omega) (by simp)
  rw [e8] at e9
  rw [Option.some.inj e9] at c8
  cases c8
 ·have c8 : r8.2 = 0 := by simpa using c8
  obtain ⟨p, e⟩ := r8
  dsimp only at c8
  subst c8
  rcases h8 with ⟨_, g1, g2, g3⟩ | ⟨_, g⟩
  rotate_left
  ·dsimp only at g; rcases g with g | g <;> cases g
  dsimp only at g1 g2 g3
  have hp : p = [] := List.eq_nil_of_length_eq_zero (by rw [List.length_drop, List.length_take] at g2; omega)
  subst hp
  refine T.bind (T.slc (by decide) (by decide) (by omega)) fun s9 h9 => ?_
  have e9 : s9 = (b.take 47).drop 12 := h9.1
  subst e9
  refine T.bind (mdecT N (by omega) _ ((hb.take _).drop _) (by simp; omega)) fun r10 h10 => T.ret ?_
  obtain ⟨m, rm, hm, hr⟩ := h10
  have hhead : b.take 47 = headB v4 m := by
   have e1 : b.take 47 = b.take 4 ++ ((b.take 12).drop 4 ++ (b.take 47).drop 12) := by
    apply List.ext_getElem?
    intro i
    by_cases h1 : i < 4
    ·rw [List.getElem?_append_left (by simp; omega), List.getElem?_take_of_lt (by omega), List.getElem?_take_of_lt h1]
    ·rw [List.getElem?_append_right (by simp; omega), show (b.take 4).length = 4 by simp; omega]
     by_cases h2 : i < 12
     ·rw [List.getElem?_append_left (by simp; omega), List.getElem?_drop, List.getElem?_take_of_lt (by omega), List.getElem?_take_of_lt (by omega)]
      congr 1; omega
     ·rw [List.getElem?_append_right (by simp; omega), show ((b.take 12).drop 4).length = 8 by simp; omega, List.getElem?_drop]
      congr 1; omega
   rw [e1, c2, ← h4, ← hm]; rfl
  have hb63 : b = headB v4 m ++ (markV N key v4 m ++ b.drop 63) := by
   unfold markV
   rw [← hhead, ← g3, ← List.append_assoc]
   have : b.take 47 ++ (b.take 63).drop 47 = b.take 63 := by
    have := List.take_append_drop 47 (b.take 63)
    rw [List.take_take] at this
    exact this
   rw [this, List.take_append_drop]
  by_cases h0 : mchkV m = 0
  ·rw [if_pos h0] at hr
   rw [hr]
   exact .inl ⟨rfl, v4, hv4, rm, h0, hb63⟩
  ·rw [if_neg h0] at hr
   rw [hr]
   refine .inr ⟨h0, rfl, fun base m' h => h0 ?_⟩
   obtain ⟨q1, q2, q3, q4, q5⟩ := h.parts hN
   obtain ⟨_, rfl⟩ := headB_inj rm h.2.1 (by rw [← hhead, q4])
   exact h.2.2.1
end Go.UK
namespace Go.UK
open Go Go.Proofs
set_option maxRecDepth 20000
set_option maxHeartbeats 1000000
set_option linter.all false
theorem chunkT (N : Nat) (hN : 70000 ≤ N) (key : Vector Int 32) (base : Vector Int 8) (mark : List Int) (hm : mark.length = 16) (hmb : bytesL mark) (i n : Nat) (hi : i < 1000) (hn : n ≤ 256) (b : List Int) (hb : bytesL b) (hl : b.length ≤ 10000) :
  T (p_bundle_chunk_ddrddd N key (nonV N base ((i + 1 : Nat) : Int)) mark (i : Int) (n : Int) (S_codec_Reader.mk b 0 true)) (fun r =>
   (r.2.2 = 0 ∧ ∃ p b', r.2.1 = p ∧ r.1 = S_codec_Reader.mk b' 0 true ∧ p.length = n ∧ bytesL p ∧ bytesL b' ∧ b = chunkF N key base mark i p ++ b')
   ∨ (r.2.2 ≠ 0 ∧ (∀ p b', bytesL p → p.length = n → b ≠ chunkF N key base mark i p ++ b') ∧ (4 ≤ b.length → b.take 4 ≠ preB i n → r.2.2 = 7))) := by
 unfold p_bundle_chunk_ddrddd
 by_cases h4 : 4 ≤ b.length
 rotate_left
 ·have e := takeShort N b 4 h4
  rw [show p_codec_Reader_Take_rd N 4 (S_codec_Reader.mk b 0 true) = _ from e, Option.bind_some, letO_e]
  refine T.ret (.inr ⟨(show (4 : Int) ≠ 0 by decide), fun p b' hp hpn e => ?_, fun h => absurd h h4⟩)
  rw [e, List.length_append, chunkF_len N hN _ _ _ _ (by omega)] at h4
  omega
 have e := takeOK N b 4 h4
 rw [show p_codec_Reader_Take_rd N 4 (S_codec_Reader.mk b 0 true) = _ from e, Option.bind_some, letO_e]
 dsimp only
 rw [df (by rw [List.length_take]; omega), cond_false]
 have e2 := put2 N (by omega) [] 2 (by decide) (by decide) (i : Int) (n : Int) ⟨by omega, by rw [show p256 2 = 65536 from rfl]; omega⟩ ⟨by omega, by rw [show p256 2 = 65536 from rfl]; omega⟩ (by simp)
 rw [U64_id (x := (i : Int)) (by omega) (by omega), U64_id (x := (n : Int)) (by omega) (by omega), show p_codec_Put N [] 2 [(i : Int), (n : Int)] = _ from e2, Option.bind_some]
 dsimp only
 rw [List.nil_append, show leB 2 (i : Int) ++ leB 2 (n : Int) = preB i n from rfl, equalP N (hb.take _) (preB_bytes i n), Option.bind_some]
 by_cases hp4 : b.take 4 = preB i n
 rotate_left
 ·rw [df hp4]
  refine T.ret (.inr ⟨(show (7 : Int) ≠ 0 by decide), fun p b' hp hpn e => ?_, fun _ _ => rfl⟩)
  apply hp4
  rw [e]
  unfold chunkF
  rw [List.append_assoc, List.take_left' (preB_len _ _), hpn]
 rw [dt hp4, show (!true) = false from rfl, cond_false]
 have f : I64 ((n : Int) + 16) = ((n + 16 : Nat) : Int) := by rw [I64_id (by omega) (by omega)]; omega
 rw [f]
 -- what a good chunk would say of the rest
 have good : ∀ p b', p.length = n → b = chunkF N key base mark i p ++ b' → b.drop 4 = sealC N key base mark i p ++ b' ∧ (sealC N key base mark i p).length = n + 16 := by
  intro p b' hpn e
  refine ⟨?_, ?_⟩
  ·rw [e]
   unfold chunkF
   rw [List.append_assoc, List.drop_left' (preB_len _ _)]
  ·unfold sealC
   rw [sealV_len N hN _ _ _ (by omega), hpn]
 by_cases h5 : n + 16 ≤ (b.drop 4).length
 rotate_left
 ·rw [takeShort N _ _ h5, Option.bind_some]
  dsimp only
  rw [errE, Option.bind_some, show ((4 : Int) != 0) = true from rfl, cond_true, Option.bind_some]
  refine T.ret (.inr ⟨(show (4 : Int) ≠ 0 by decide), fun p b' hp hpn e => ?_, fun _ h => absurd hp4 h⟩)
  obtain ⟨g1, g2⟩ := good p b' hpn e
  rw [g1, List.length_append] at h5
  omega
 rw [takeOK N _ _ h5, Option.bind_some]
 dsimp only
 rw [errE, Option.bind_some, show ((0 : Int) != 0) = false from rfl, cond_false, hp4]
 rw [concP N [preB i n, mark] (by simp) (by show 2 < N; omega) (by intro l hl; simp only [List.mem_cons, List.not_mem_nil, or_false] at hl; rcases hl with rfl | rfl; rw [preB_len]; omega; omega), Option.bind_some]
 rw [show [preB i n, mark].flatten = preB i n ++ mark by simp]
 have hsb : bytesL ((b.drop 4).take (n + 16)) := (hb.drop _).take _
 have hsl : ((b.drop 4).take (n + 16)).length = n + 16 := by rw [List.length_take]; omega
 obtain ⟨r9, e9, h9⟩ := openT N hN key (nonV N base ((i + 1 : Nat) : Int)) (preB i n ++ mark) _ hsb (by rw [List.length_append, preB_len]; omega) (by omega)
 rw [e9, Option.bind_some]
 obtain ⟨p, e⟩ := r9
 dsimp only at h9 e9 ⊢
 rcases h9 with ⟨g0, g1, g2, g3⟩ | ⟨g1, g2⟩
 ·have hpn : p.length = n := by omega
  refine T.ret (.inl ⟨g0, p, (b.drop 4).drop (n + 16), rfl, rfl, hpn, g1, (hb.drop _).drop _, ?_⟩)
  unfold chunkF sealC
  rw [hpn, ← g3, ← hp4, List.append_assoc, List.take_append_drop, List.take_append_drop]
 ·refine T.ret (.inr ⟨by dsimp only; rcases g2 with h | h <;> rw [h] <;> decide, fun q b' hq hqn e5 => ?_, fun _ h => absurd rfl h⟩)
  obtain ⟨k1, k2⟩ := good q b' hqn e5
  rw [k1, List.take_left' k2] at e9
  unfold sealC at e9
  rw [hqn] at e9
  rw [openSeal N hN key _ _ q hq (by rw [List.length_append, preB_len]; omega) (by omega)] at e9
  cases e9
  rcases g2 with h | h <;> cases h
theorem openL (N : Nat) (hN : 70000 ≤ N) (key : Vector Int 32) (base : Vector Int 8) (mark : List Int) (hm : mark.length = 16) (hmb : bytesL mark) (m : S_api_Manifest) : ∀ (k rem i : Nat) (s b : List Int), nCh rem < k → m.gSize = ((s.length + rem : Nat) : Int) → m.gChunks = ((i + nCh rem : Nat) : Int) → s.length + rem ≤ 10000 → i + nCh rem < 1000 → bytesL b → b.length ≤ 10000 →
  T (p_bundle_Open_L1 N (m, 0) base key mark k s b 0 true (i : Int)) (fun o =>
   (∃ p b', o = Sum.inl (s ++ p, b', 0, true) ∧ p.length = rem ∧ bytesL p ∧ bytesL b' ∧ b = bodyC N key base mark (nCh rem) i p ++ b')
   ∨ (∃ e, e ≠ 0 ∧ o = Sum.inr (zM, zA 0, e) ∧ (∀ p b', bytesL p → p.length = rem → b ≠ bodyC N key base mark (nCh rem) i p ++ b') ∧ (4 ≤ b.length → b.take 4 ≠ preB i (min 256 rem) → e = 7)))
 | 0, _, _, _, _, h, _, _, _, _, _, _ => by omega
 | k + 1, rem, i, s, b, hk, hsz, hch, hl, hi, hb, hbl => by
  rw [p_bundle_Open_L1, letO_e]
  dsimp only
  rw [hch, hsz]
  by_cases h : rem = 0
  ·subst h
   rw [show nCh 0 = 0 from rfl, df (by omega), cond_false]
   exact T.ret (.inl ⟨[], b, by rw [List.append_nil], rfl, bytes_nil, hb, by rw [bodyC, List.nil_append]⟩)
  have hn : nCh rem = nCh (rem - 256) + 1 := by unfold nCh; omega
  have hn2 : nCh (rem - min 256 rem) = nCh (rem - 256) := by unfold nCh; omega
  have f : I64 (((s.length + rem : Nat) : Int) - (s.length : Int)) = (rem : Int) := by rw [I64_id (by omega) (by omega)]; omega
  rw [dt (by omega), cond_true, I64_s (by omega), nonP N (by omega), Option.bind_some, f, letO_e, show (256 : Int) = ((256 : Nat) : Int) from rfl, imin_nat]
  obtain ⟨r, e1, h1⟩ := chunkT N hN key base mark hm hmb i (min 256 rem) (by omega) (by omega) b hb hbl
  rw [e1, Option.bind_some]
  obtain ⟨rd, p, e⟩ := r
  dsimp only at h1 ⊢
  -- a good body's first chunk
  have good : ∀ q x, q.length = rem → b = bodyC N key base mark (nCh rem) i q ++ x → b = chunkF N key base mark i (q.take 256) ++ (bodyC N key base mark (nCh (rem - 256)) (i + 1) (q.drop 256) ++ x) := by
   intro q x hq e
   rw [e, hn, bodyC, List.append_assoc]
  rcases h1 with ⟨rfl, p', b', rfl, rfl, hp, hpb, hbb, hbe⟩ | ⟨h1, h2, h3⟩
  rotate_left
  ·rw [show (e != 0) = true by simpa using h1, cond_true]
   refine T.ret (.inr ⟨e, h1, rfl, fun q x hq hqr e5 => ?_, h3⟩)
   exact h2 (q.take 256) _ (hq.take _) (by rw [List.length_take]; omega) (good q x hqr e5)
  ·rw [show ((0 : Int) != 0) = false from rfl, cond_false, appO1 (by omega) (by omega), Option.bind_some]
   dsimp only
   have hcl := chunkF_len N hN key base mark i (p := p) (by omega)
   have hbl2 := congrArg List.length hbe
   rw [List.length_append, hcl] at hbl2
   obtain ⟨o, e2, h2⟩ := openL N hN key base mark hm hmb m k (rem - min 256 rem) (i + 1) (s ++ p) b' (by omega) (by rw [hsz, List.length_append]; congr 1; omega) (by rw [hch]; congr 1; omega) (by rw [List.length_append]; omega) (by omega) hbb (by omega)
   rw [e2]
   refine T.ret ?_
   rw [hn2] at h2
   rcases h2 with ⟨p2, b2, h3, h4, h5, h6, h7⟩ | ⟨e, h3, h4, h5, h6⟩
   ·refine .inl ⟨p ++ p2, b2, by rw [h3, List.append_assoc], by rw [List.length_append]; omega, hpb.app h5, h6, ?_⟩
    rw [hn, bodyC]
    by_cases hlt : rem ≤ 256
    ·have hp2 : p2 = [] := List.eq_nil_of_length_eq_zero (by omega)
     subst hp2
     rw [List.append_nil, List.take_of_length_le (by omega), List.append_assoc, hbe, h7, List.drop_eq_nil_of_le (by omega)]
    ·rw [List.take_left' (by omega), List.drop_left' (by omega), List.append_assoc, ← h7]
     exact hbe
   ·refine .inr ⟨e, h3, h4, fun q x hq hqr e5 => ?_, fun _ hne => ?_⟩
    ·have g := good q x hqr e5
     rw [hbe] at g
     have hl1 : (chunkF N key base mark i p).length = (chunkF N key base mark i (q.take 256)).length := by rw [hcl, chunkF_len N hN _ _ _ _ (by simp; omega), List.length_take]; omega
     obtain ⟨g1, g2⟩ := List.append_inj g hl1
     by_cases hlt : rem ≤ 256
     ·refine h5 (q.drop 256) x (hq.drop _) (by rw [List.length_drop]; omega) g2
     ·exact h5 (q.drop 256) x (hq.drop _) (by rw [List.length_drop]; omega) g2
    ·exfalso
     apply hne
     rw [hbe]
     unfold chunkF
     rw [List.append_assoc, List.take_left' (preB_len _ _), hp]
end Go.UK
namespace Go.UK
open Go Go.Proofs
set_option maxRecDepth 20000
set_option maxHeartbeats 1000000
set_option linter.all false
theorem leftP (N : Nat) (b : List Int) : p_codec_Reader_Left_r N (S_codec_Reader.mk b 0 true) = some (b.length : Int) := rfl
theorem open1 (N : Nat) (e : Int) : p_bundle_Open_1 N e = some (zM, zA 0, e) := rfl
structure BunAt (N : Nat) (key : Vector Int 32) (base : Vector Int 8) (m : S_api_Manifest) (a : S_api_Asset) (b : List Int) : Prop where
 hbase : vbytes base
 hm : ManR m
 chk : mchkV m = 0
 good : GoodA N a
 kind : a.gKind = m.gKind
 size : ((assB a).length : Int) = m.gSize
 eq : b = bundleB N key base m (assB a)
theorem BunAt.head {N : Nat} (hN : 70000 ≤ N) {key : Vector Int 32} {base : Vector Int 8} {m : S_api_Manifest} {a : S_api_Asset} {b : List Int} (h : BunAt N key base m a b) : HeadAt N key base m b := by
 rw [h.eq]
 unfold bundleB
 exact (HeadAt.of hN key h.hbase h.hm h.chk _).1
theorem assB_bytes {a : S_api_Asset} (h : OwnG a) : bytesL (assB a) := by
 unfold assB
 rcases h with ⟨k, _⟩ | ⟨k, _⟩ | ⟨k, _⟩ | ⟨k, _⟩
 ·rw [if_pos k]; exact (leB_bytes _ _).app ((leB_bytes _ _).app ((flat_bytes ptB_bytes _).app ((flat_bytes uvB_bytes _).app (flat_bytes (trB_bytes 1) _))))
 ·rw [if_neg (by omega), if_pos k]; exact (leB_bytes _ _).app (flat_bytes (trB_bytes 1) _)
 ·rw [if_neg (by omega), if_neg (by omega), if_pos k]; exact (leB_bytes _ _).app ((trB_bytes 2 _).app (leB_bytes _ _))
 ·rw [if_neg (by omega), if_neg (by omega), if_neg (by omega)]; exact (leB_bytes _ _).app ((trB_bytes 4 _).app ((ptB_bytes _).app ((ptB_bytes _).app (ptB_bytes _))))
theorem sealV_inj {N : Nat} (hN : 70000 ≤ N) {key : Vector Int 32} {n : Vector Int 12} {a p q : List Int} (hp : bytesL p) (hq : bytesL q) (ha : a.length ≤ 16384) (hpl : p.length ≤ 16384) (hql : q.length ≤ 16384) (h : sealV N key n a p = sealV N key n a q) : p = q := by
 have h1 := openSeal N hN key n a p hp ha hpl
 have h2 := openSeal N hN key n a q hq ha hql
 rw [h, h2] at h1
 exact (Prod.mk.inj (Option.some.inj h1)).1.symm
theorem bodyC_inj {N : Nat} (hN : 70000 ≤ N) (key : Vector Int 32) (base : Vector Int 8) (mark : List Int) (hm : mark.length = 16) : ∀ (c i : Nat) (p q : List Int), bytesL p → bytesL q → p.length = q.length → p.length ≤ 256 * c → bodyC N key base mark c i p = bodyC N key base mark c i q → p = q
 | 0, _, p, q, _, _, h, hl, _ => by rw [List.eq_nil_of_length_eq_zero (show p.length = 0 by omega), List.eq_nil_of_length_eq_zero (show q.length = 0 by omega)]
 | c + 1, i, p, q, hp, hq, hl, hc, h => by
  rw [bodyC, bodyC] at h
  have l1 : (p.take 256).length ≤ 256 := by rw [List.length_take]; omega
  have l2 : (q.take 256).length ≤ 256 := by rw [List.length_take]; omega
  have l3 : (p.take 256).length = (q.take 256).length := by rw [List.length_take, List.length_take, hl]
  obtain ⟨h1, h2⟩ := List.append_inj h (by rw [chunkF_len N hN _ _ _ _ (by omega), chunkF_len N hN _ _ _ _ (by omega), l3])
  unfold chunkF sealC at h1
  rw [l3] at h1
  have h1 := sealV_inj hN (hp.take _) (hq.take _) (by rw [List.length_append, preB_len]; omega) (by omega) (by omega) (List.append_cancel_left h1)
  have h2 := bodyC_inj hN key base mark hm c (i + 1) (p.drop 256) (q.drop 256) (hp.drop _) (hq.drop _) (by simp; omega) (by simp; omega) h2
  rw [← List.take_append_drop 256 p, ← List.take_append_drop 256 q, h1, h2]
theorem openA (N : Nat) (hN : 70000 ≤ N) (key : Vector Int 32) (b : List Int) (hb : bytesL b) (hl : b.length ≤ 4000) :
  T (p_bundle_Open N key b) (fun r => (r.2.2 = 0 ∧ AssL r.2.1 ∧ ∃ base, BunAt N key base r.1 r.2.1 b)
   ∨ (r.2.2 ≠ 0 ∧ r.1 = zM ∧ r.2.1 = zA 0 ∧ (∀ base m a, ¬ BunAt N key base m a b)
    ∧ (∀ base m, HeadAt N key base m b → ∀ p x, bytesL p → (p.length : Int) = m.gSize → x ≠ [] → b.drop 63 = bodyC N key base (markV N key base m) (nCh p.length) 0 p ++ x → r.2.2 = 7)
    ∧ (∀ base m, HeadAt N key base m b → 67 ≤ b.length → (b.drop 63).take 4 ≠ preB 0 (min 256 m.gSize.toNat) → r.2.2 = 7))) := by
 unfold p_bundle_Open
 obtain ⟨r1, e1, h1⟩ := peekT N hN key b hb (by omega)
 rw [e1, Option.bind_some]
 rcases h1 with ⟨h1, base, hh⟩ | ⟨h1, _, hh⟩
 rotate_left
 ·rw [show (r1.2 != 0) = true by simpa using h1, cond_true, open1, Option.bind_some]
  exact T.ret (.inr ⟨h1, rfl, rfl, fun base m a h => hh base m (h.head hN), fun base m h => absurd h (hh base m), fun base m h => absurd h (hh base m)⟩)
 obtain ⟨m, e⟩ := r1
 dsimp only at h1 hh
 subst h1
 have hlen := hh.len hN
 obtain ⟨q1, q2, q3, q4, q5⟩ := hh.parts hN
 rw [show ((0 : Int) != 0) = false from rfl, cond_false]
 refine T.bind (T.slc (by decide) (by decide) (by omega)) fun s3 h3 => T.bind (T.vec (by have := h3.2; omega)) fun v4 h4 => ?_
 rw [List.take_of_length_le (by have := h3.2; omega), h3.1, show (12 : Int).toNat = 12 from rfl, show (4 : Int).toNat = 4 from rfl, q2] at h4
 obtain rfl := Vector.toList_inj.1 h4
 refine T.bind (T.slc (by decide) (by decide) (by omega)) fun s5 h5 => ?_
 have e5 : s5 = markV N key v4 m := by rw [h5.1]; exact q5
 subst e5
 rw [show (63 : Int) = ((63 : Nat) : Int) from rfl, slcO_drop hlen, Option.bind_some, newP N _ (by rw [List.length_drop]; omega), Option.bind_some]
 obtain ⟨c0, c1, c2, c3⟩ := mchk0 hh.2.2.1
 have c4 := capV_le m.gKind
 obtain ⟨sz, hsz⟩ := Int.eq_ofNat_of_zero_le (show 0 ≤ m.gSize by omega)
 rw [hsz, nCh_e] at c3
 have hnc : nCh sz ≤ 8 := by unfold nCh; omega
 have hmb := markV_bytes N hN key v4 m
 obtain ⟨o, e2, h2⟩ := openL N hN key v4 (markV N key v4 m) (markV_len N hN key v4 m) hmb m N sz 0 [] (b.drop 63) (by omega) (by rw [hsz]; simp) (by rw [c3]; simp) (by simp; omega) (by omega) (hb.drop _) (by rw [List.length_drop]; omega)
 rw [show ((0 : Nat) : Int) = 0 from rfl] at e2
 rw [e2, Option.bind_some]
 have uniq : ∀ base m', HeadAt N key base m' b → v4 = base ∧ m = m' := fun base m' h => hh.uniq hN h
 rcases h2 with ⟨p, b', rfl, hp, hpb, hbb, hbe⟩ | ⟨e, h3, rfl, h5, h6⟩
 rotate_left
 ·unfold sumC
  dsimp only
  refine T.ret (.inr ⟨h3, rfl, rfl, fun base m' a h => ?_, fun base m' h q x hq hqs hx hbd => ?_, fun base m' h h67 hne => ?_⟩)
  ·obtain ⟨rfl, rfl⟩ := uniq _ _ (h.head hN)
   have hs : (assB a).length = sz := by have := h.size; omega
   refine h5 (assB a) [] (assB_bytes h.good.own) hs ?_
   rw [List.append_nil, ← hs]
   conv => lhs; rw [h.eq]
   exact (HeadAt.of hN key h.hbase h.hm h.chk _).2
  ·obtain ⟨rfl, rfl⟩ := uniq _ _ h
   have hs : q.length = sz := by omega
   exact absurd (hs ▸ hbd) (h5 q x hq hs)
  ·obtain ⟨rfl, rfl⟩ := uniq _ _ h
   refine h6 (by rw [List.length_drop]; omega) ?_
   rw [hsz] at hne
   exact hne
 ·unfold sumC
  dsimp only
  rw [leftP, Option.bind_some]
  refine T.cond (fun c => ?_) fun c => ?_
  ·rw [open1, Option.bind_some]
   have c : b' ≠ [] := by rintro rfl; cases c
   refine T.ret (.inr ⟨(show (7 : Int) ≠ 0 by decide), rfl, rfl, fun base m' a h => ?_, fun _ _ _ _ _ _ _ _ _ => rfl, fun _ _ _ _ _ => rfl⟩)
   obtain ⟨rfl, rfl⟩ := uniq _ _ (h.head hN)
   have hs : (assB a).length = sz := by have := h.size; omega
   have k : b.drop 63 = bodyC N key v4 (markV N key v4 m) (nCh (assB a).length) 0 (assB a) := by
    conv => lhs; rw [h.eq]
    exact (HeadAt.of hN key h.hbase h.hm h.chk _).2
   rw [k] at hbe
   have := congrArg List.length hbe
   rw [List.length_append, bodyC_len N hN, bodyC_len N hN, hs, hp] at this
   exact c (List.eq_nil_of_length_eq_zero (by omega))
  ·have c : b' = [] := List.eq_nil_of_length_eq_zero (by have := of_decide_eq_false c; omega)
   subst c
   rw [List.append_nil] at hbe
   rw [List.nil_append]
   have hbun : b = bundleB N key v4 m p := by
    unfold bundleB
    rw [hp, ← hbe]
    exact hh.2.2.2
   refine T.bind (assDecT N (by omega) m.gKind p hpb (by omega)) fun r22 h22 => ?_
   rcases h22 with ⟨g0, g1, g2, g3, g4⟩ | ⟨g0, g1, g2⟩
   ·rw [show (r22.2 != 0) = false by rw [g0]; rfl, cond_false]
    exact T.ret (.inl ⟨rfl, g4, v4, ⟨hh.1, hh.2.1, hh.2.2.1, g2, g3, by dsimp only; rw [← g1]; omega, by dsimp only; rw [← g1]; exact hbun⟩⟩)
   ·rw [show (r22.2 != 0) = true by simpa using g0, cond_true, open1, Option.bind_some]
    refine T.ret (.inr ⟨g0, rfl, rfl, fun base m' a h => ?_, fun base m' h q x hq hqs hx hbd => ?_, fun base m' h h67 hne => ?_⟩)
    ·obtain ⟨rfl, rfl⟩ := uniq _ _ (h.head hN)
     have hs : (assB a).length = sz := by have := h.size; omega
     have k : b.drop 63 = bodyC N key v4 (markV N key v4 m) (nCh (assB a).length) 0 (assB a) := by
      conv => lhs; rw [h.eq]
      exact (HeadAt.of hN key h.hbase h.hm h.chk _).2
     rw [hs] at k
     have := bodyC_inj hN key v4 _ (markV_len N hN key v4 m) (nCh sz) 0 p (assB a) hpb (assB_bytes h.good.own) (by omega) (by unfold nCh; omega) (hbe.symm.trans k)
     exact g2 a h.good h.kind this
    ·obtain ⟨rfl, rfl⟩ := uniq _ _ h
     exfalso
     have := congrArg List.length (hbe.symm.trans hbd)
     rw [List.length_append, bodyC_len N hN, bodyC_len N hN, hp, show q.length = sz by omega] at this
     exact hx (List.eq_nil_of_length_eq_zero (by omega))
    ·obtain ⟨rfl, rfl⟩ := uniq _ _ h
     exfalso
     apply hne
     rw [hbe]
     have : nCh sz = nCh (sz - 256) + 1 := by unfold nCh; omega
     rw [this, bodyC]
     unfold chunkF
     rw [List.append_assoc, List.take_left' (preB_len _ _), List.length_take, hp, hsz]
     rfl
end Go.UK
namespace Go.UK
open Go Go.Proofs
set_option maxRecDepth 20000
set_option maxHeartbeats 1000000
set_option linter.all false
theorem OwnG.m {a : S_api_Asset} (h : OwnG a) (k : a.gKind = 1) : MeshG a.gMesh := by
 rcases h with ⟨_, o⟩ | ⟨o, _⟩ | ⟨o, _⟩ | ⟨o, _⟩
 ·exact o
 all_goals (rw [k] at o; cases o)
theorem OwnG.t {a : S_api_Asset} (h : OwnG a) (k : a.gKind = 2) : TexG a.gTexture := by
 rcases h with ⟨o, _⟩ | ⟨_, o⟩ | ⟨o, _⟩ | ⟨o, _⟩
 ·rw [k] at o; cases o
 ·exact o
 all_goals (rw [k] at o; cases o)
theorem OwnG.a {a : S_api_Asset} (h : OwnG a) (k : a.gKind = 3) : MatG a.gMaterial := by
 rcases h with ⟨o, _⟩ | ⟨o, _⟩ | ⟨_, o⟩ | ⟨o, _⟩
 ·rw [k] at o; cases o
 ·rw [k] at o; cases o
 ·exact o
 ·rw [k] at o; cases o
theorem OwnG.l {a : S_api_Asset} (h : OwnG a) (k : a.gKind = 4) : LigG a.gLight := by
 rcases h with ⟨o, _⟩ | ⟨o, _⟩ | ⟨o, _⟩ | ⟨_, o⟩
 ·rw [k] at o; cases o
 ·rw [k] at o; cases o
 ·rw [k] at o; cases o
 ·exact o
theorem assB_inj {N : Nat} {a b : S_api_Asset} (g : GoodA N a) (h : GoodA N b) (hk : a.gKind = b.gKind) (e : assB a = assB b) : a = b := by
 have nil : ∀ {x y : List Int}, x = y → x ++ [] = y ++ [] := by rintro x y rfl; rfl
 unfold assB at e
 rcases g.own with ⟨k, o⟩ | ⟨k, o⟩ | ⟨k, o⟩ | ⟨k, o⟩
 ·have k' := hk.symm.trans k
  rw [if_pos k, if_pos k'] at e
  rw [g.clean.1 k, h.clean.1 k', (meshB_inj o.r (h.own.m k').r (nil e)).1]
 ·have k' := hk.symm.trans k
  rw [if_neg (by omega), if_pos k, if_neg (by omega), if_pos k'] at e
  rw [g.clean.2.1 k, h.clean.2.1 k', (texB_inj o.r (h.own.t k').r (nil e)).1]
 ·have k' := hk.symm.trans k
  rw [if_neg (by omega), if_neg (by omega), if_pos k, if_neg (by omega), if_neg (by omega), if_pos k'] at e
  rw [g.clean.2.2.1 k, h.clean.2.2.1 k', (matB_inj o (h.own.a k') (nil e)).1]
 ·have k' := hk.symm.trans k
  rw [if_neg (by omega), if_neg (by omega), if_neg (by omega), if_neg (by omega), if_neg (by omega), if_neg (by omega)] at e
  rw [g.clean.2.2.2 k, h.clean.2.2.2 k', (ligB_inj o.r (h.own.l k').r (nil e)).1]
theorem bodyC_bytes (N : Nat) (hN : 70000 ≤ N) (key : Vector Int 32) (base : Vector Int 8) (mark : List Int) (hm : mark.length = 16) : ∀ (c i : Nat) (l : List Int), bytesL (bodyC N key base mark c i l)
 | 0, _, _ => bytes_nil
 | c + 1, i, l => by
  rw [bodyC]
  refine bytesL.app ?_ (bodyC_bytes N hN key base mark hm c (i + 1) _)
  unfold chunkF sealC
  exact (preB_bytes _ _).app (sealV_bytes N hN key _ _ (by rw [List.length_append, preB_len]; omega) (by simp; omega))
theorem bundleB_bytes {N : Nat} (hN : 70000 ≤ N) (key : Vector Int 32) {base : Vector Int 8} (hb : vbytes base) {m : S_api_Manifest} (r : ManR m) (p : List Int) : bytesL (bundleB N key base m p) := by
 unfold bundleB
 exact (headB_bytes hb r).app ((markV_bytes N hN key base m).app (bodyC_bytes N hN key base _ (markV_len N hN key base m) _ _ _))
theorem BunAt.len {N : Nat} (hN : 70000 ≤ N) {key : Vector Int 32} {base : Vector Int 8} {m : S_api_Manifest} {a : S_api_Asset} {b : List Int} (h : BunAt N key base m a b) : (b.length : Int) = 63 + m.gSize + 20 * (nCh m.gSize.toNat : Int) := by
 rw [h.eq, bundleB_len N hN, ← h.size, Int.toNat_natCast]
 omega
theorem BunAt.short {N : Nat} (hN : 70000 ≤ N) {key : Vector Int 32} {base : Vector Int 8} {m : S_api_Manifest} {a : S_api_Asset} {b : List Int} (h : BunAt N key base m a b) : b.length ≤ 2300 := by
 have := h.good.len
 rw [h.eq, bundleB_len N hN]
 unfold nCh
 omega
theorem BunAt.bytes {N : Nat} (hN : 70000 ≤ N) {key : Vector Int 32} {base : Vector Int 8} {m : S_api_Manifest} {a : S_api_Asset} {b : List Int} (h : BunAt N key base m a b) : bytesL b := by
 rw [h.eq]; exact bundleB_bytes hN key h.hbase h.hm _
theorem BunAt.body {N : Nat} (hN : 70000 ≤ N) {key : Vector Int 32} {base : Vector Int 8} {m : S_api_Manifest} {a : S_api_Asset} {b : List Int} (h : BunAt N key base m a b) : b.drop 63 = bodyC N key base (markV N key base m) (nCh (assB a).length) 0 (assB a) := by
 conv => lhs; rw [h.eq]
 exact (HeadAt.of hN key h.hbase h.hm h.chk _).2
theorem BunAt.uniq {N : Nat} (hN : 70000 ≤ N) {key : Vector Int 32} {base base' : Vector Int 8} {m m' : S_api_Manifest} {a a' : S_api_Asset} {b : List Int} (h : BunAt N key base m a b) (h' : BunAt N key base' m' a' b) : base = base' ∧ m = m' ∧ a = a' := by
 obtain ⟨rfl, rfl⟩ := (h.head hN).uniq hN (h'.head hN)
 refine ⟨rfl, rfl, ?_⟩
 have hl : (assB a).length = (assB a').length := by have := h.size; have := h'.size; omega
 have e := (h.body hN).symm.trans (h'.body hN)
 rw [← hl] at e
 have := bodyC_inj hN key base _ (markV_len N hN key base m) _ 0 _ _ (assB_bytes h.good.own) (assB_bytes h'.good.own) hl (by unfold nCh; omega) e
 exact assB_inj h.good h'.good (h.kind.trans h'.kind.symm) this
theorem BunAt.same {N : Nat} (hN : 70000 ≤ N) {key : Vector Int 32} {base base' : Vector Int 8} {m m' : S_api_Manifest} {a a' : S_api_Asset} {b b' : List Int} (h : BunAt N key base m a b) (h' : BunAt N key base' m' a' b') (e : b.take 47 = b'.take 47) : m = m' ∧ b.length = b'.length := by
 obtain ⟨_, rfl⟩ := headB_inj h.hm h'.hm (by rw [← ((h.head hN).parts hN).2.2.2.1, e, ((h'.head hN).parts hN).2.2.2.1])
 refine ⟨rfl, ?_⟩
 have := h.len hN
 have := h'.len hN
 omega
theorem ManR.t {m : S_api_Manifest} (r : ManR m) : ManT m :=
 ⟨r.id, by have := r.kind; exact ⟨by omega, by omega⟩, r.label, r.masks, r.fr, r.to, by have := r.size; exact ⟨by omega, by omega⟩, by have := r.chunks; exact ⟨by omega, by omega⟩⟩
theorem sealA (N : Nat) (hN : 70000 ≤ N) (key : Vector Int 32) (base : Vector Int 8) (hb : vbytes base) (m : S_api_Manifest) (a : S_api_Asset) (t : ManT m) (hA : AssL a) :
  T (p_bundle_Seal N key base m a) (fun r => (r.2 = 0 ∧ GoodA N a ∧ BunAt N key base (fullM m (assB a).length) a r.1) ∨ (r.2 ≠ 0 ∧ r.1 = [] ∧ ¬ (GoodA N a ∧ m.gKind = a.gKind ∧ mchkV (fullM m (assB a).length) = 0))) := by
 refine (sealT N hN key base m a t hA).mono fun r h => ?_
 rcases h with ⟨h1, h2, h3, h4, h5⟩ | h
 ·exact .inl ⟨h1, h2, hb, (fullM_T t h2.len).r h4, h4, h2, h3.symm, rfl, h5⟩
 ·exact .inr h
theorem openB {N : Nat} (hN : 70000 ≤ N) {key : Vector Int 32} {base : Vector Int 8} {m : S_api_Manifest} {a : S_api_Asset} {b : List Int} (h : BunAt N key base m a b) : p_bundle_Open N key b = some (m, a, 0) := by
 have hs := h.short hN
 obtain ⟨r, e, hr⟩ := openA N hN key b (h.bytes hN) (by omega)
 rw [e]
 rcases hr with ⟨h1, _, base', h2⟩ | ⟨_, _, _, h2, _⟩
 ·obtain ⟨m', a', c⟩ := r
  obtain ⟨_, q1, q2⟩ := h.uniq hN h2
  dsimp only at q1 q2 h1
  rw [q1, q2, h1]
 ·exact absurd h (h2 _ _ _)
end Go.UK
