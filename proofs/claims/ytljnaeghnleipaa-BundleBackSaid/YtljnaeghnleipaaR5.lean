/- A part of the proof: what the functions of the program compute. -/
import Derived.Test.YtljnaeghnleipaaR4
namespace Go.UK
open Go Go.Proofs
set_option maxRecDepth 20000
set_option maxHeartbeats 1000000
set_option linter.all false
theorem keyT (N : Nat) (hN : 20 < N) (key : Vector Int 32) (n : Vector Int 12) : T (p_aead_Key N key n) (fun _ => True) := by
 unfold p_aead_Key
 exact T.bind (blockT N hN key 0 n) fun r1 _ => T.bind (T.slc (by decide) (by decide) (by simp)) fun s3 h3 => T.bind (T.vec (by have := h3.2; omega)) fun _ _ => T.ret trivial
theorem fillT (N : Nat) (l : List Int) (hl : l.length ≤ 1000000) : T (p_aead_Mac_1 N l) (fun r => r.length ≤ 16) := by
 unfold p_aead_Mac_1
 refine T.letO fun x hx => T.letO fun y hy => ?_
 have hx1 : x = ((l.length % 16 : Nat) : Int) := by rw [hx]; rfl
 have hy1 : y = (((16 - l.length % 16) % 16 : Nat) : Int) := by
  have e : I64 (16 - x) = ((16 - l.length % 16 : Nat) : Int) := by rw [hx1, I64_id (by omega) (by omega)]; omega
  rw [hy, e]; rfl
 subst hy1
 rw [Int.toNat_natCast]
 refine T.bind (o := mkO 1 _) (P := fun _ => True) ⟨(), ?_, trivial⟩ fun _ _ => T.bind (o := lenO _ _) (P := fun _ => True) ⟨(), ?_, trivial⟩ fun _ _ => T.ret ?_
 ·unfold mkO
  rw [dt (by omega), dt (by omega), dt (by omega)]
  rfl
 ·unfold lenO
  rw [show ((List.replicate ((16 - l.length % 16) % 16) (0 : Int)).length.beq ((16 - l.length % 16) % 16)) = true by simp]
  rfl
 ·simp; omega
theorem macT (N : Nat) (hN : 70000 ≤ N) (key : Vector Int 32) (n : Vector Int 12) (a c : List Int) (ha : a.length ≤ 1000000) (hc : c.length ≤ 1000000) : T (p_aead_Mac N key n a c) vbytes := by
 unfold p_aead_Mac
 refine T.bind (T.loop0 (n := 8) (by decide) (fun _ _ => True) (F := p_aead_Mac_L1 N a c) (fun k s i hi _ Q hk => ?_) (fun k s => by rw [p_aead_Mac_L1, df (by omega), cond_false]) (by omega) trivial) fun p1 _ => ?_
 ·rw [p_aead_Mac_L1, dt (by omega), cond_true, show (8 : Int) = ((8 : Nat) : Int) from rfl, i4 (by omega), ia (by omega), I64_s (by omega), shrO_ok .i64 (by omega), Option.bind_some, shrO_ok .i64 (by omega), Option.bind_some]
  exact T.bind (T.inRO (by omega) (by omega)) fun _ _ => T.bind (T.vget (by omega)) fun _ _ => T.bind (T.inRO (by omega) (by omega)) fun _ _ => T.bind (T.vget (by omega)) fun _ _ => hk _ trivial
 refine T.bind (keyT N (by omega) key n) fun r10 _ => T.bind (fillT N a ha) fun r11 _ => T.bind (fillT N c hc) fun r12 _ => T.bind (T.slc (by decide) (by decide) (by simp)) fun s13 _ => ?_
 exact T.bind (tagT N (by omega) r10 _ (by simp) (by omega)) fun r14 h14 => T.ret h14
theorem streamL (N : Nat) (hN : 20 < N) (key : Vector Int 32) (n : Vector Int 12) (len : Nat) (hl : len ≤ 65536) : ∀ (k : Nat) (s : List Int) (c : Int), s.length ≤ len → len - s.length < k → T (p_chacha_Stream_L1 N (len : Int) key n k s c) (fun r => r.length = len)
 | 0, _, _, _, h => by omega
 | k + 1, s, c, hs, hk => by
  rw [p_chacha_Stream_L1, show imin (len : Int) 65536 = (len : Int) by unfold imin; split <;> omega]
  refine T.letO fun x hx => ?_
  subst hx
  refine T.cond (fun hc => ?_) (fun hc => ?_)
  ·have hc : s.length < len := by have := of_decide_eq_true hc; omega
   refine T.bind (blockT N hN key c n) fun r5 _ => ?_
   have f : I64 ((len : Int) - (s.length : Int)) = ((len - s.length : Nat) : Int) := by rw [I64_id (by omega) (by omega)]; omega
   rw [f, letO_e, show (64 : Int) = ((64 : Nat) : Int) from rfl, imin_nat]
   refine T.bind (T.slc (by omega) (by omega) (by simp; omega)) fun s9 h9 => ?_
   have h10 := h9.2
   refine T.bind (T.app (by omega)) fun z hz => ?_
   subst hz
   exact streamL N hN key n len hl k _ _ (by rw [List.length_append]; omega) (by rw [List.length_append]; omega)
  ·have hc : s.length = len := by have := of_decide_eq_false hc; omega
   exact T.ret hc
theorem streamT (N : Nat) (hN : 70000 ≤ N) (key : Vector Int 32) (c : Int) (n : Vector Int 12) (len : Nat) (hl : len ≤ 65536) : T (p_chacha_Stream N key c n (len : Int)) (fun r => r.length = len) := by
 unfold p_chacha_Stream
 exact T.bind (streamL N (by omega) key n len hl N [] c (by simp) (by simp; omega)) fun p1 h => T.ret h
def xorZ (d s : List Int) : List Int := List.zipWith (bxor .u8) d s
theorem xorZ_len {d s : List Int} (h : s.length = d.length) : (xorZ d s).length = d.length := by unfold xorZ; simp; omega
theorem xorZ_bytes (d s : List Int) : bytesL (xorZ d s) := by
 intro x hx
 unfold xorZ at hx
 rw [List.mem_iff_getElem?] at hx
 obtain ⟨i, hi⟩ := hx
 rw [List.getElem?_zipWith] at hi
 revert hi
 cases d[i]? <;> cases s[i]? <;> intro hi <;> simp at hi
 rw [← hi]; exact bxor_b
theorem bxor_twice {a : Int} (ha : isB a) (b : Int) : bxor .u8 (bxor .u8 a b) b = a := by
 have e : ∀ x y : Int, bxor .u8 x y = ((BitVec.ofInt 8 x ^^^ BitVec.ofInt 8 y).toNat : Int) := by
  intro x y
  unfold bxor
  have : (BitVec.ofInt 8 x ^^^ BitVec.ofInt 8 y).toNat < 256 := (BitVec.ofInt 8 x ^^^ BitVec.ofInt 8 y).isLt
  exact U8_id (by omega) (by show ((BitVec.ofInt 8 x ^^^ BitVec.ofInt 8 y).toNat : Int) < 256; omega)
 rw [e, e, BitVec.ofInt_natCast, BitVec.ofNat_toNat, BitVec.setWidth_eq, BitVec.xor_assoc, BitVec.xor_self, BitVec.xor_zero, ofInt8 ha]
 have := ha.1
 omega
theorem xorZ_twice : ∀ {d s : List Int}, bytesL d → s.length = d.length → xorZ (xorZ d s) s = d
 | [], s, _, _ => rfl
 | a :: d, [], _, h => by simp at h
 | a :: d, b :: s, hd, h => by
  have h1 := bxor_twice (hd a (by simp)) b
  have h2 := xorZ_twice (d := d) (s := s) (fun x hx => hd x (by simp [hx])) (by simpa using h)
  unfold xorZ at *
  simp [h1, h2]
theorem xorL2 (N : Nat) (d st : List Int) (hs : st.length = d.length) (hl : d.length ≤ 65536) : ∀ (k i : Nat), i ≤ d.length → d.length - i < k → p_chacha_Xor_L2 N st k (xorZ (d.take i) (st.take i) ++ d.drop i) (i : Int) = some (xorZ d st)
 | 0, _, _, h => by omega
 | k + 1, i, hi, hk => by
  rw [p_chacha_Xor_L2, letO_e]
  have hz : (xorZ (d.take i) (st.take i)).length = i := by rw [xorZ_len (by simp; omega)]; simp; omega
  by_cases h : i < d.length
  ·have hcat : (xorZ (d.take i) (st.take i) ++ d.drop i).length = d.length := by rw [List.length_append, hz, List.length_drop]; omega
   have hget : (xorZ (d.take i) (st.take i) ++ d.drop i)[i]? = some d[i] := by
    rw [List.getElem?_append_right (by omega), hz, Nat.sub_self, List.getElem?_drop, Nat.add_zero, List.getElem?_eq_getElem h]
   rw [dt (by omega), cond_true, idx_at (by omega), Option.bind_some, inRO_ok (by omega) (by omega), Option.bind_some, Int.toNat_natCast, hget, Option.bind_some, Option.bind_some]
   have hset : setO (xorZ (d.take i) (st.take i) ++ d.drop i) i (bxor .u8 d[i] st[i]) = some (xorZ (d.take (i + 1)) (st.take (i + 1)) ++ d.drop (i + 1)) := by
    unfold setO
    rw [show Nat.blt i (xorZ (d.take i) (st.take i) ++ d.drop i).length = true by rw [hcat]; exact Nat.ble_eq_true_of_le h, cond_true]
    congr 1
    rw [List.set_append_right _ _ (by omega), hz, Nat.sub_self, List.drop_eq_getElem_cons h, List.set_cons_zero]
    have e1 : xorZ (d.take (i + 1)) (st.take (i + 1)) = xorZ (d.take i) (st.take i) ++ [bxor .u8 d[i] st[i]] := by
     unfold xorZ
     rw [List.take_succ, List.take_succ, List.getElem?_eq_getElem h, List.getElem?_eq_getElem (show i < st.length by omega)]
     show List.zipWith _ (List.take i d ++ [d[i]]) (List.take i st ++ [st[i]]) = _
     rw [List.zipWith_append (by simp; omega)]
     rfl
    rw [e1]
    simp
   rw [hset, Option.bind_some, I64_s (by omega)]
   exact xorL2 N d st hs hl k (i + 1) (by omega) (by omega)
  ·obtain rfl : i = d.length := by omega
   rw [df (by omega), cond_false, List.take_length, List.take_of_length_le (by omega), List.drop_length, List.append_nil]
def stV (N : Nat) (key : Vector Int 32) (n : Vector Int 12) (len : Nat) : List Int := (p_chacha_Stream N key 1 n (len : Int)).getD []
theorem stV_ok (N : Nat) (hN : 70000 ≤ N) (key : Vector Int 32) (n : Vector Int 12) (len : Nat) (hl : len ≤ 65536) : p_chacha_Stream N key 1 n (len : Int) = some (stV N key n len) ∧ (stV N key n len).length = len := by
 obtain ⟨r, h1, h2⟩ := streamT N hN key 1 n len hl
 unfold stV
 rw [h1]
 exact ⟨rfl, h2⟩
def xorV (N : Nat) (key : Vector Int 32) (n : Vector Int 12) (d : List Int) : List Int := xorZ d (stV N key n d.length)
theorem xorV_len (N : Nat) (hN : 70000 ≤ N) (key : Vector Int 32) (n : Vector Int 12) {d : List Int} (hl : d.length ≤ 65536) : (xorV N key n d).length = d.length := xorZ_len (stV_ok N hN key n _ hl).2
theorem xorV_twice (N : Nat) (hN : 70000 ≤ N) (key : Vector Int 32) (n : Vector Int 12) {d : List Int} (hd : bytesL d) (hl : d.length ≤ 65536) : xorV N key n (xorV N key n d) = d := by
 have h := (stV_ok N hN key n _ hl).2
 unfold xorV
 rw [xorZ_len h]
 exact xorZ_twice hd h
theorem xorP (N : Nat) (hN : 70000 ≤ N) (key : Vector Int 32) (n : Vector Int 12) (d : List Int) (hl : d.length ≤ 65536) : p_chacha_Xor N key 1 n [d] = some (xorV N key n d) := by
 obtain ⟨h1, h2⟩ := stV_ok N hN key n _ hl
 unfold p_chacha_Xor
 have hL1 : p_chacha_Xor_L1 N [d] N [] 0 = some d := by
  obtain ⟨m, rfl⟩ : ∃ m, N = m + 2 := ⟨N - 2, by omega⟩
  rw [show p_chacha_Xor_L1 (m + 2) [d] (m + 2) [] 0 = p_chacha_Xor_L1 (m + 2) [d] (m + 1 + 1) [] 0 from rfl, p_chacha_Xor_L1, letO_e, dt (by simp), cond_true, show idx [d] 0 = some d from rfl, Option.bind_some]
  have f : I64 (65536 - (([] : List Int).length : Int)) = 65536 := by decide
  rw [f, letO_e, letO_e, show imin (d.length : Int) 65536 = (d.length : Int) by unfold imin; split <;> omega, slcO_ok (by omega) (by omega) (by omega), Option.bind_some, Int.toNat_natCast, List.take_length]
  have e : (List.drop (0 : Int).toNat d) = d := rfl
  rw [e, appO_ok (by simp; omega), Option.bind_some, List.nil_append, p_chacha_Xor_L1, letO_e]
  rfl
 rw [hL1, Option.bind_some, h1, Option.bind_some]
 have := xorL2 N d _ h2 hl N 0 (by omega) (by omega)
 rw [List.take_zero, List.take_zero, List.drop_zero] at this
 rw [show p_chacha_Xor_L2 N (stV N key n d.length) N d 0 = some (xorZ d (stV N key n d.length)) from this]
 rfl
def macV (N : Nat) (key : Vector Int 32) (n : Vector Int 12) (a c : List Int) : Vector Int 16 := (p_aead_Mac N key n a c).getD (Vector.replicate 16 0)
theorem macP (N : Nat) (hN : 70000 ≤ N) (key : Vector Int 32) (n : Vector Int 12) (a c : List Int) (ha : a.length ≤ 1000000) (hc : c.length ≤ 1000000) : p_aead_Mac N key n a c = some (macV N key n a c) ∧ vbytes (macV N key n a c) := by
 obtain ⟨r, h1, h2⟩ := macT N hN key n a c ha hc
 unfold macV
 rw [h1]
 exact ⟨rfl, h2⟩
def sealV (N : Nat) (key : Vector Int 32) (n : Vector Int 12) (a p : List Int) : List Int := xorV N key n p ++ (macV N key n a (xorV N key n p)).toList
theorem sealV_len (N : Nat) (hN : 70000 ≤ N) (key : Vector Int 32) (n : Vector Int 12) (a : List Int) {p : List Int} (hl : p.length ≤ 65536) : (sealV N key n a p).length = p.length + 16 := by
 unfold sealV
 rw [List.length_append, xorV_len N hN key n hl]
 simp
theorem sealV_bytes (N : Nat) (hN : 70000 ≤ N) (key : Vector Int 32) (n : Vector Int 12) (a : List Int) {p : List Int} (ha : a.length ≤ 1000000) (hl : p.length ≤ 65536) : bytesL (sealV N key n a p) :=
 (xorZ_bytes _ _).app (macP N hN key n a _ ha (by rw [xorV_len N hN key n hl]; omega)).2
theorem sealP (N : Nat) (hN : 70000 ≤ N) (key : Vector Int 32) (n : Vector Int 12) (a p : List Int) (ha : a.length ≤ 16384) (hp : p.length ≤ 16384) : p_aead_Seal N key n a p = some (sealV N key n a p, 0) := by
 unfold p_aead_Seal
 have hx := xorV_len N hN key n (d := p) (by omega)
 rw [letO_e, letO_e, df (by omega), df (by omega), cond_false, cond_false, xorP N hN key n p (by omega), Option.bind_some, (macP N hN key n a _ (by omega) (by omega)).1, Option.bind_some]
 have hs : slcO (macV N key n a (xorV N key n p)).toList 0 16 = some (macV N key n a (xorV N key n p)).toList := slcV (m := 16) _
 rw [hs, Option.bind_some, concP N [xorV N key n p, (macV N key n a (xorV N key n p)).toList] (by simp) (by show 2 < N; omega) (by intro l hl; simp only [List.mem_cons, List.not_mem_nil, or_false] at hl; rcases hl with rfl | rfl; omega; simp), Option.bind_some]
 congr 2
 simp [sealV]
theorem sameL16 (N : Nat) (a b : Vector Int 16) (ha : vbytes a) (hb : vbytes b) : ∀ (k i : Nat) (s : Int), isB s → i ≤ 16 → 16 - i < k → ∃ t, p_poly_Same_L1 N a b k s (i : Int) = some t ∧ isB t ∧ (t = 0 ↔ s = 0 ∧ ∀ j, i ≤ j → j < 16 → a.toList.getD j 0 = b.toList.getD j 0)
 | 0, _, _, _, _, h => by omega
 | k + 1, i, s, hs, hi, hk => by
  rw [p_poly_Same_L1]
  by_cases h : i < 16
  ·have b1 : isB (bxor .u8 (a.toList.getD i 0) (b.toList.getD i 0)) := bxor_b
   obtain ⟨c1, c2⟩ := bor8 hs b1
   rw [dt (by omega), cond_true, idx_D (by simp; omega), Option.bind_some, idx_D (by simp; omega), Option.bind_some, letO_e, I64_s (by omega)]
   obtain ⟨t, h1, h2, h3⟩ := sameL16 N a b ha hb k (i + 1) _ c1 (by omega) (by omega)
   refine ⟨t, h1, h2, ?_⟩
   rw [h3, c2, bxor8 (ha.getD i) (hb.getD i)]
   constructor
   ·rintro ⟨⟨h4, h5⟩, h6⟩
    refine ⟨h4, fun j hj hj2 => ?_⟩
    rcases Nat.lt_or_ge i j with h7 | h7
    ·exact h6 j h7 hj2
    ·obtain rfl : j = i := by omega
     exact h5
   ·rintro ⟨h4, h5⟩
    exact ⟨⟨h4, h5 i (Nat.le_refl _) h⟩, fun j hj hj2 => h5 j (by omega) hj2⟩
  ·refine ⟨s, by rw [df (by omega), cond_false], hs, ?_⟩
   constructor
   ·intro h0; exact ⟨h0, fun j hj hj2 => by omega⟩
   ·intro h0; exact h0.1
theorem same16 (N : Nat) (hN : 32 < N) (a b : Vector Int 16) (ha : vbytes a) (hb : vbytes b) : p_poly_Same N a b = some (decide (a = b)) := by
 unfold p_poly_Same
 obtain ⟨t, h1, h2, h3⟩ := sameL16 N a b ha hb N 0 0 ⟨by decide, by decide⟩ (by omega) (by omega)
 rw [show ((0 : Nat) : Int) = 0 from rfl] at h1
 rw [h1, Option.bind_some]
 congr 1
 rw [Bool.eq_iff_iff, beq_iff_eq, decide_eq_true_eq, h3]
 constructor
 ·rintro ⟨_, h⟩
  exact vext (fun j hj => h j (by omega) hj)
 ·rintro rfl
  exact ⟨rfl, fun _ _ _ => rfl⟩
def openV (N : Nat) (key : Vector Int 32) (n : Vector Int 12) (a c : List Int) (t : List Int) : List Int × Int := cond (decide ((macV N key n a c).toList = t)) (xorV N key n c, 0) ([], 6)
theorem openP (N : Nat) (hN : 70000 ≤ N) (key : Vector Int 32) (n : Vector Int 12) (a c t : List Int) (ht : bytesL t) (ht16 : t.length = 16) (ha : a.length ≤ 16384) (hc : c.length ≤ 16384) : p_aead_Open N key n a (c ++ t) = some (openV N key n a c t) := by
 unfold p_aead_Open
 have f : I64 (((c ++ t).length : Int) - 16) = (c.length : Int) := by rw [List.length_append, ht16, I64_id (by omega) (by omega)]; omega
 rw [f, letO_e, df (by omega), cond_false, letO_e, df (by omega), cond_false, letO_e, df (by omega), cond_false, slcO_take (by simp), Option.bind_some, List.take_left', (macP N hN key n a c (by omega) (by omega)).1, Option.bind_some, slcO_drop (by simp), Option.bind_some]
 ·rw [List.drop_left' rfl]
  obtain ⟨v, h1, h2⟩ := T.vec (n := 16) (l := t) (by omega)
  rw [List.take_of_length_le (by omega)] at h2
  rw [h1, Option.bind_some, same16 N (by omega) _ _ (macP N hN key n a c (by omega) (by omega)).2 (by unfold vbytes; rw [h2]; exact ht), Option.bind_some]
  unfold openV
  have e : decide ((macV N key n a c).toList = t) = decide (macV N key n a c = v) := by
   rw [Bool.eq_iff_iff, decide_eq_true_eq, decide_eq_true_eq, ← h2, Vector.toList_inj]
  rw [e]
  cases decide (macV N key n a c = v) with
  | true => rw [Bool.not_true, cond_false, cond_true, xorP N hN key n c (by omega), Option.bind_some]
  | false => rfl
 ·rfl
theorem openShort (N : Nat) (key : Vector Int 32) (n : Vector Int 12) (a s : List Int) (h : s.length < 16) : p_aead_Open N key n a s = some ([], 4) := by
 unfold p_aead_Open
 have f : I64 ((s.length : Int) - 16) = (s.length : Int) - 16 := by rw [I64_id (by omega) (by omega)]
 rw [f, letO_e, dt (by omega), cond_true]
theorem openSeal (N : Nat) (hN : 70000 ≤ N) (key : Vector Int 32) (n : Vector Int 12) (a p : List Int) (hp : bytesL p) (ha : a.length ≤ 16384) (hl : p.length ≤ 16384) : p_aead_Open N key n a (sealV N key n a p) = some (p, 0) := by
 have hx := xorV_len N hN key n (d := p) (by omega)
 have hm := (macP N hN key n a (xorV N key n p) (by omega) (by omega)).2
 unfold sealV
 rw [openP N hN key n a _ _ hm (by simp) ha (by omega)]
 unfold openV
 rw [dt rfl, cond_true, xorV_twice N hN key n hp (by omega)]
theorem sealOpen (N : Nat) (hN : 70000 ≤ N) (key : Vector Int 32) (n : Vector Int 12) (a s p : List Int) (hs : bytesL s) (ha : a.length ≤ 16384) (hl : s.length ≤ 16384) (h : p_aead_Open N key n a s = some (p, 0)) : s = sealV N key n a p ∧ bytesL p ∧ s.length = p.length + 16 := by
 by_cases h16 : s.length < 16
 ·rw [openShort N key n a s h16] at h; simp at h
 ·have e : s = s.take (s.length - 16) ++ s.drop (s.length - 16) := (List.take_append_drop _ _).symm
  rw [e, openP N hN key n a _ _ (hs.drop _) (by simp; omega) ha (by simp; omega)] at h
  unfold openV at h
  cases hd : decide ((macV N key n a (s.take (s.length - 16))).toList = s.drop (s.length - 16)) with
  | false => rw [hd, cond_false] at h; simp at h
  | true =>
   rw [hd, cond_true] at h
   have h := (Prod.mk.inj (Option.some.inj h)).1
   have hd := of_decide_eq_true hd
   subst h
   have hb : bytesL (s.take (s.length - 16)) := hs.take _
   refine ⟨?_, xorZ_bytes _ _, ?_⟩
   ·unfold sealV
    rw [xorV_twice N hN key n hb (by simp; omega), hd]
    exact e
   ·rw [xorV_len N hN key n (by simp; omega)]
    simp; omega
theorem openT (N : Nat) (hN : 70000 ≤ N) (key : Vector Int 32) (n : Vector Int 12) (a s : List Int) (hs : bytesL s) (ha : a.length ≤ 16384) (hl : s.length ≤ 16384) : T (p_aead_Open N key n a s) (fun r => (r.2 = 0 ∧ bytesL r.1 ∧ s.length = r.1.length + 16 ∧ s = sealV N key n a r.1) ∨ (r.1 = [] ∧ (r.2 = 4 ∨ r.2 = 6))) := by
 by_cases h16 : s.length < 16
 ·exact T.of (openShort N key n a s h16) (.inr ⟨rfl, .inl rfl⟩)
 ·have e : s = s.take (s.length - 16) ++ s.drop (s.length - 16) := (List.take_append_drop _ _).symm
  have h : p_aead_Open N key n a s = some (openV N key n a (s.take (s.length - 16)) (s.drop (s.length - 16))) := by
   conv => lhs; rw [e]
   exact openP N hN key n a _ _ (hs.drop _) (by simp; omega) ha (by simp; omega)
  refine T.of h ?_
  unfold openV at h ⊢
  cases hd : decide ((macV N key n a (s.take (s.length - 16))).toList = s.drop (s.length - 16)) with
  | false => exact .inr ⟨rfl, .inr rfl⟩
  | true =>
   rw [hd, cond_true] at h
   obtain ⟨g1, g2, g3⟩ := sealOpen N hN key n a s _ hs ha hl h
   exact .inl ⟨rfl, g2, g3, g1⟩
end Go.UK

