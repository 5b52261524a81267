/- A part of the proof: what the functions of the program compute. -/
import Derived.Test.YtljnaeghnleipaaR14
namespace Go.UK
open Go Go.Proofs
set_option maxRecDepth 20000
set_option maxHeartbeats 1000000
set_option linter.all false
theorem toB' {x : Int} (h : isB x) : ((UInt8.ofNat x.toNat).toNat : Int) = x := by
 obtain ⟨h0, h1⟩ := h
 have e : (UInt8.ofNat x.toNat).toNat = x.toNat % 256 := UInt8.toNat_ofNat'
 rw [e]; omega
theorem strO_inj : ∀ {a b : List Int}, bytesL a → bytesL b → (a.map fun x => UInt8.ofNat x.toNat) = (b.map fun x => UInt8.ofNat x.toNat) → a = b
 | [], [], _, _, _ => rfl
 | [], b :: l, _, _, h => by simp at h
 | a :: l, [], _, _, h => by simp at h
 | a :: l, b :: r, ha, hb, h => by
  simp only [List.map_cons, List.cons.injEq] at h
  have h1 := congrArg (fun u : UInt8 => (u.toNat : Int)) h.1
  rw [toB' (ha a (by simp)), toB' (hb b (by simp))] at h1
  rw [h1, strO_inj (fun x hx => ha x (by simp [hx])) (fun x hx => hb x (by simp [hx])) h.2]
theorem equalP (N : Nat) {a b : List Int} (ha : bytesL a) (hb : bytesL b) : p_bytes_Equal N a b = some (decide (a = b)) := by
 unfold p_bytes_Equal
 rw [letO_e]
 congr 1
 rw [ByteArray.toList_eq, ByteArray.toList_eq, Bool.eq_iff_iff, beq_iff_eq, decide_eq_true_eq]
 unfold strO
 dsimp only
 exact ⟨strO_inj ha hb, fun h => by rw [h]⟩
theorem prefP (N : Nat) {a b : List Int} (ha : bytesL a) (hb : bytesL b) : p_bytes_HasPrefix N a b = some (decide (a.take b.length = b)) := by
 unfold p_bytes_HasPrefix
 rw [letO_e]
 by_cases h : b.length ≤ a.length
 ·rw [dt (by omega), cond_true, slcO_take h, Option.bind_some, equalP N (ha.take _) hb]
  rfl
 ·rw [df (by omega), cond_false]
  have : ¬ a.take b.length = b := fun e => by have := congrArg List.length e; rw [List.length_take] at this; omega
  rw [df this]
  rfl
theorem headB_inj {base base' : Vector Int 8} {m m' : S_api_Manifest} (r : ManR m) (r' : ManR m') (h : headB base m = headB base' m') : base = base' ∧ m = m' := by
 unfold headB at h
 have h := List.append_cancel_left h
 obtain ⟨h1, h2⟩ := List.append_inj h (by simp)
 exact ⟨Vector.toList_inj.1 h1, manB_inj r r' h2⟩
theorem headB_bytes {base : Vector Int 8} {m : S_api_Manifest} (hb : vbytes base) (r : ManR m) : bytesL (headB base m) := by
 unfold headB
 refine bytesL.app ?_ (hb.app (manB_bytes r.masks))
 intro x hx
 simp only [List.mem_cons, List.not_mem_nil, or_false] at hx
 rcases hx with rfl | rfl | rfl | rfl <;> exact ⟨by decide, by decide⟩
theorem fourB : bytesL [85, 77, 66, 49] := by
 intro x hx
 simp only [List.mem_cons, List.not_mem_nil, or_false] at hx
 rcases hx with rfl | rfl | rfl | rfl <;> exact ⟨by decide, by decide⟩
theorem cut5 (a b c d e : List Int) (ha : a.length = 4) (hb : b.length = 8) (hc : c.length = 35) (hd : d.length = 16) :
  (a ++ (b ++ (c ++ (d ++ e)))).take 4 = a ∧ ((a ++ (b ++ (c ++ (d ++ e)))).take 12).drop 4 = b ∧ ((a ++ (b ++ (c ++ (d ++ e)))).take 47).drop 12 = c ∧ (a ++ (b ++ (c ++ (d ++ e)))).take 47 = a ++ (b ++ c) ∧ ((a ++ (b ++ (c ++ (d ++ e)))).take 63).drop 47 = d ∧ (a ++ (b ++ (c ++ (d ++ e)))).drop 63 = e := by
 have ta : ∀ n, 4 ≤ n → a.take n = a := fun n h => List.take_of_length_le (by omega)
 have tb : ∀ n, 8 ≤ n → b.take n = b := fun n h => List.take_of_length_le (by omega)
 have tc : ∀ n, 35 ≤ n → c.take n = c := fun n h => List.take_of_length_le (by omega)
 have td : ∀ n, 16 ≤ n → d.take n = d := fun n h => List.take_of_length_le (by omega)
 have da : ∀ n, 4 ≤ n → a.drop n = [] := fun n h => List.drop_eq_nil_of_le (by omega)
 have db : ∀ n, 8 ≤ n → b.drop n = [] := fun n h => List.drop_eq_nil_of_le (by omega)
 have dc : ∀ n, 35 ≤ n → c.drop n = [] := fun n h => List.drop_eq_nil_of_le (by omega)
 have dd : ∀ n, 16 ≤ n → d.drop n = [] := fun n h => List.drop_eq_nil_of_le (by omega)
 refine ⟨?_, ?_, ?_, ?_, ?_, ?_⟩ <;> simp [List.take_append, List.drop_append, ha, hb, hc, hd, ta, tb, tc, td, da, db, dc, dd]
def HeadAt (N : Nat) (key : Vector Int 32) (base : Vector Int 8) (m : S_api_Manifest) (b : List Int) : Prop :=
 vbytes base ∧ ManR m ∧ mchkV m = 0 ∧ b = headB base m ++ (markV N key base m ++ b.drop 63)
theorem HeadAt.len {N : Nat} (hN : 70000 ≤ N) {key : Vector Int 32} {base : Vector Int 8} {m : S_api_Manifest} {b : List Int} (h : HeadAt N key base m b) : 63 ≤ b.length := by
 have := congrArg List.length h.2.2.2
 rw [List.length_append, List.length_append, headB_len, markV_len N hN] at this
 omega
theorem HeadAt.parts {N : Nat} (hN : 70000 ≤ N) {key : Vector Int 32} {base : Vector Int 8} {m : S_api_Manifest} {b : List Int} (h : HeadAt N key base m b) :
  b.take 4 = [85, 77, 66, 49] ∧ (b.take 12).drop 4 = base.toList ∧ (b.take 47).drop 12 = manB m ∧ b.take 47 = headB base m ∧ (b.take 63).drop 47 = markV N key base m := by
 have c := cut5 [85, 77, 66, 49] base.toList (manB m) (markV N key base m) (b.drop 63) rfl (by simp) (manB_len m) (markV_len N hN key base m)
 have e : [85, 77, 66, 49] ++ (base.toList ++ (manB m ++ (markV N key base m ++ b.drop 63))) = b := by
  conv => rhs; rw [h.2.2.2]
  unfold headB
  simp only [List.append_assoc]
 rw [e] at c
 exact ⟨c.1, c.2.1, c.2.2.1, c.2.2.2.1, c.2.2.2.2.1⟩
theorem HeadAt.uniq {N : Nat} (hN : 70000 ≤ N) {key : Vector Int 32} {base base' : Vector Int 8} {m m' : S_api_Manifest} {b : List Int} (h : HeadAt N key base m b) (h' : HeadAt N key base' m' b) : base = base' ∧ m = m' :=
 headB_inj h.2.1 h'.2.1 (by rw [← (h.parts hN).2.2.2.1, (h'.parts hN).2.2.2.1])
theorem HeadAt.of {N : Nat} (hN : 70000 ≤ N) (key : Vector Int 32) {base : Vector Int 8} {m : S_api_Manifest} (hb : vbytes base) (r : ManR m) (h0 : mchkV m = 0) (x : List Int) : HeadAt N key base m (headB base m ++ (markV N key base m ++ x)) ∧ (headB base m ++ (markV N key base m ++ x)).drop 63 = x := by
 have e : (headB base m ++ (markV N key base m ++ x)).drop 63 = x := by
  rw [← List.append_assoc, List.drop_left' (by rw [List.length_append, headB_len, markV_len N hN])]
 exact ⟨⟨hb, r, h0, by rw [e]⟩, e⟩
theorem peekT (N : Nat) (hN : 70000 ≤ N) (key : Vector Int 32) (b : List Int) (hb : bytesL b) (hl : b.length ≤ 100000) :
  T (p_bundle_Peek N key b) (fun r => (r.2 = 0 ∧ ∃ base, HeadAt N key base r.1 b) ∨ (r.2 ≠ 0 ∧ r.1 = zM ∧ ∀ base m, ¬ HeadAt N key base m b)) := by
 unfold p_bundle_Peek
 rw [letO_e]
 refine T.cond (fun c => T.ret (.inr ⟨(show (4 : Int) ≠ 0 by decide), rfl, fun base m h => ?_⟩)) fun c => ?_
 ·have := h.len hN
  have := of_decide_eq_true c
  omega
 have c : 63 ≤ b.length := by have := of_decide_eq_false c; omega
 rw [prefP N hb fourB, Option.bind_some]
 refine T.cond (fun c2 => T.ret (.inr ⟨(show (5 : Int) ≠ 0 by decide), rfl, fun base m h => ?_⟩)) fun c2 => ?_
 ·rw [show decide (b.take ([85, 77, 66, 49] : List Int).length = [85, 77, 66, 49]) = true from decide_eq_true (h.parts hN).1] at c2
  cases c2
 have c2 : b.take 4 = [85, 77, 66, 49] := by
  cases hd : decide (b.take ([85, 77, 66, 49] : List Int).length = [85, 77, 66, 49]) with
  | true => exact of_decide_eq_true hd
  | false => rw [hd] at c2; cases c2
 refine T.bind (T.slc (by decide) (by decide) (by omega)) fun s3 h3 => T.bind (T.vec (by have := h3.2; omega)) fun v4 h4 => ?_
 rw [List.take_of_length_le (by have := h3.2; omega), h3.1, show (12 : Int).toNat = 12 from rfl, show (4 : Int).toNat = 4 from rfl] at h4
 have hv4 : vbytes v4 := by unfold vbytes; rw [h4]; exact (hb.take _).drop _
 rw [nonP N (by omega), Option.bind_some]
 refine T.bind (T.slc (by decide) (by decide) (by omega)) fun s6 h6 => T.bind (T.slc (by decide) (by decide) (by omega)) fun s7 h7 => ?_
 have e6 : s6 = b.take 47 := h6.1
 have e7 : s7 = (b.take 63).drop 47 := h7.1
 subst e6 e7
 obtain ⟨r8, e8, h8⟩ := openT N hN key (nonV N v4 0) (b.take 47) ((b.take 63).drop 47) ((hb.take _).drop _) (by simp; omega) (by simp; omega)
 rw [e8, Option.bind_some]
 refine T.cond (fun c8 => ?_) fun c8 => ?_
 ·refine T.ret (.inr ⟨by simpa using c8, rfl, fun base m h => ?_⟩)
  obtain ⟨q1, q2, q3, q4, q5⟩ := h.parts hN
  have hbase : v4 = base := Vector.toList_inj.1 (by rw [h4, q2])
  subst hbase
  have e9 : p_aead_Open N key (nonV N v4 0) (b.take 47) ((b.take 63).drop 47) = some ([], 0) := by
   rw [q4, q5]
   exact openSeal N hN key (nonV N v4 0) (headB v4 m) [] bytes_nil (by rw [headB_len]; omega) (by simp)
  rw [e8] at e9
  rw [Option.some.inj e9] at c8
  cases c8
 ·have c8 : r8.2 = 0 := by simpa using c8
  obtain ⟨p, e⟩ := r8
  dsimp only at c8
  subst c8
  rcases h8 with ⟨_, g1, g2, g3⟩ | ⟨_, g⟩
  rotate_left
  ·dsimp only at g; rcases g with g | g <;> cases g
  dsimp only at g1 g2 g3
  have hp : p = [] := List.eq_nil_of_length_eq_zero (by rw [List.length_drop, List.length_take] at g2; omega)
  subst hp
  refine T.bind (T.slc (by decide) (by decide) (by omega)) fun s9 h9 => ?_
  have e9 : s9 = (b.take 47).drop 12 := h9.1
  subst e9
  refine T.bind (mdecT N (by omega) _ ((hb.take _).drop _) (by simp; omega)) fun r10 h10 => T.ret ?_
  obtain ⟨m, rm, hm, hr⟩ := h10
  have hhead : b.take 47 = headB v4 m := by
   have e1 : b.take 47 = b.take 4 ++ ((b.take 12).drop 4 ++ (b.take 47).drop 12) := by
    apply List.ext_getElem?
    intro i
    by_cases h1 : i < 4
    ·rw [List.getElem?_append_left (by simp; omega), List.getElem?_take_of_lt (by omega), List.getElem?_take_of_lt h1]
    ·rw [List.getElem?_append_right (by simp; omega), show (b.take 4).length = 4 by simp; omega]
     by_cases h2 : i < 12
     ·rw [List.getElem?_append_left (by simp; omega), List.getElem?_drop, List.getElem?_take_of_lt (by omega), List.getElem?_take_of_lt (by omega)]
      congr 1; omega
     ·rw [List.getElem?_append_right (by simp; omega), show ((b.take 12).drop 4).length = 8 by simp; omega, List.getElem?_drop]
      congr 1; omega
   rw [e1, c2, ← h4, ← hm]; rfl
  have hb63 : b = headB v4 m ++ (markV N key v4 m ++ b.drop 63) := by
   unfold markV
   rw [← hhead, ← g3, ← List.append_assoc]
   have : b.take 47 ++ (b.take 63).drop 47 = b.take 63 := by
    have := List.take_append_drop 47 (b.take 63)
    rw [List.take_take] at this
    exact this
   rw [this, List.take_append_drop]
  by_cases h0 : mchkV m = 0
  ·rw [if_pos h0] at hr
   rw [hr]
   exact .inl ⟨rfl, v4, hv4, rm, h0, hb63⟩
  ·rw [if_neg h0] at hr
   rw [hr]
   refine .inr ⟨h0, rfl, fun base m' h => h0 ?_⟩
   obtain ⟨q1, q2, q3, q4, q5⟩ := h.parts hN
   obtain ⟨_, rfl⟩ := headB_inj rm h.2.1 (by rw [← hhead, q4])
   exact h.2.2.1
end Go.UK

