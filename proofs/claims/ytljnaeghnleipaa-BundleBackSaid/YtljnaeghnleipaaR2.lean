/- A part of the proof: what the functions of the program compute. -/
import Derived.Test.YtljnaeghnleipaaR1
namespace Go.UK
open Go Go.Proofs
set_option maxRecDepth 20000
set_option maxHeartbeats 2000000
set_option linter.all false
def T {α : Type} (o : Option α) (Q : α → Prop) : Prop := ∃ a, o = some a ∧ Q a
section
variable {α β : Type}
theorem T.bind {o : Option α} {f : α → Option β} {P : α → Prop} {Q : β → Prop} (h : T o P) (hf : ∀ a, P a → T (f a) Q) : T (Option.bind o f) Q := by
 obtain ⟨a, rfl, ha⟩ := h
 exact hf a ha
theorem T.ret {a : α} {Q : α → Prop} (h : Q a) : T (some a) Q := ⟨a, rfl, h⟩
theorem T.mono {o : Option α} {P Q : α → Prop} (h : T o P) (hp : ∀ a, P a → Q a) : T o Q := by obtain ⟨a, e, ha⟩ := h; exact ⟨a, e, hp a ha⟩
theorem T.cond {c : Bool} {x y : Option α} {Q : α → Prop} (h1 : c = true → T x Q) (h2 : c = false → T y Q) : T (cond c x y) Q := by cases c with | true => exact h1 rfl | false => exact h2 rfl
theorem T.letO {a : α} {f : α → Option β} {Q : β → Prop} (h : ∀ x, x = a → T (f x) Q) : T (letO a f) Q := h a rfl
theorem T.of {o : Option α} {a : α} {Q : α → Prop} (h : o = some a) (hq : Q a) : T o Q := ⟨a, h, hq⟩
theorem T.idx {l : List α} {i : Int} (h0 : 0 ≤ i) (h1 : i < (l.length : Int)) : T (idx l i) (fun e => l[i.toNat]? = some e) := by
 obtain ⟨n, rfl⟩ := Int.eq_ofNat_of_zero_le h0
 rw [idx_get?, List.getElem?_eq_getElem (by omega)]
 exact ⟨_, rfl, by rw [Int.toNat_natCast, List.getElem?_eq_getElem (by omega)]⟩
theorem T.get {l : List α} {i : Nat} (h : i < l.length) : T (l[i]?) (fun e => l[i]? = some e) := by
 rw [List.getElem?_eq_getElem h]; exact ⟨_, rfl, rfl⟩
theorem T.inRO {i : Int} {n : Nat} (h : 0 ≤ i) (h' : i < (n : Int)) : T (inRO i n) (fun _ => True) := ⟨_, inRO_ok h h', trivial⟩
theorem T.slc {l : List α} {lo hi : Int} (h0 : 0 ≤ lo) (h1 : lo ≤ hi) (h2 : hi ≤ (l.length : Int)) : T (slcO l lo hi) (fun r => r = (l.take hi.toNat).drop lo.toNat ∧ (r.length : Int) = hi - lo) := by
 refine ⟨_, slcO_ok h0 h1 h2, rfl, ?_⟩
 rw [List.length_drop, List.length_take]
 omega
end
def isU (x : Int) : Prop := 0 ≤ x ∧ x < 18446744073709551616
def allU {m : Nat} (v : Vector Int m) : Prop := ∀ x ∈ v.toList, isU x
theorem isU_U (x : Int) : isU (U64 x) := ⟨U64_lo x, U64_hi x⟩
theorem isU0 : isU 0 := ⟨by decide, by decide⟩
theorem allU.set {m : Nat} {v : Vector Int m} {i : Nat} {x : Int} (h : allU v) (hx : isU x) : allU (v.setIfInBounds i x) := by
 intro y hy
 have e : (v.setIfInBounds i x).toList = v.toList.set i x := by simp
 rw [e] at hy
 rcases List.mem_or_eq_of_mem_set hy with h' | h'
 ·exact h y h'
 ·rw [h']; exact hx
theorem vmem {α : Type} {m : Nat} (v : Vector α m) {i : Nat} (h : i < m) : v[i] ∈ v.toList := by simp
theorem T.vget {m : Nat} {v : Vector Int m} {i : Nat} (h : i < m) : T (v.toList[i]?) (fun _ => True) := ⟨_, Go.UK.vget v i h, trivial⟩
theorem T.vgetU {m : Nat} {v : Vector Int m} {i : Nat} (hv : allU v) (h : i < m) : T (v.toList[i]?) isU := ⟨_, Go.UK.vget v i h, hv _ (vmem v h)⟩
theorem T.add64 {x y c : Int} (hx : isU x) (hy : isU y) (hc : 0 ≤ c ∧ c ≤ 1) : T (p_Add64 x y c) (fun r => isU r.1 ∧ (0 ≤ r.2 ∧ r.2 ≤ 1)) := by
 obtain ⟨x0, x1⟩ := hx
 obtain ⟨y0, y1⟩ := hy
 obtain ⟨c0, c1⟩ := hc
 unfold p_Add64
 rw [dt x0, dt y0, dt c0, dt c1]
 refine ⟨_, rfl, ⟨?_, ?_⟩, ?_, ?_⟩ <;> dsimp only <;> omega
theorem mul64 (N : Nat) (a b : Int) : T (p_math_bits_Mul64 N a b) (fun r => isU r.1 ∧ isU r.2) := by
 unfold p_math_bits_Mul64
 simp only [letO_e]
 exact ⟨_, rfl, isU_U _, isU_U _⟩
theorem shr_U {k : IntKind} {a : Int} (ha : isU a) (b : Int) : isU (shr k a b) := by
 unfold shr
 rw [Int.fdiv_eq_ediv_of_nonneg _ (Int.le_of_lt (Int.pow_pos (by decide)))]
 have := Int.ediv_le_self ((2 : Int) ^ min b.toNat k.bits) ha.1
 exact ⟨Int.ediv_nonneg ha.1 (Int.le_of_lt (Int.pow_pos (by decide))), by have := ha.2; omega⟩
theorem bor_U (a b : Int) : isU (bor .u64 a b) := bor_rng a b
theorem band_U (a b : Int) : isU (band .u64 a b) := isU_U _
theorem bandn_U (a b : Int) : isU (bandn .u64 a b) := isU_U _
theorem T.loop {σ : Type} {n : Nat} (hn : n < 9223372036854775807) (I : Nat → σ → Prop) {F : Nat → σ → Int → Option σ}
  (hstep : ∀ k s i, i < n → I i s → ∀ Q : σ → Prop, (∀ s', I (i + 1) s' → T (F k s' ((i + 1 : Nat) : Int)) Q) → T (F (k + 1) s (i : Int)) Q) (hend : ∀ k s, F (k + 1) s (n : Int) = some s) :
  ∀ (k i : Nat) (s : σ), I i s → i ≤ n → n - i < k → T (F k s (i : Int)) (I n)
 | 0, i, _, _, _, h => by omega
 | k + 1, i, s, hs, hi, hk => by
  by_cases h : i < n
  ·exact hstep k s i h hs _ fun s' h' => T.loop hn I hstep hend k (i + 1) s' h' (by omega) (by omega)
  ·obtain rfl : i = n := by omega
   exact ⟨s, hend _ _, hs⟩
theorem T.loop0 {σ : Type} {n : Nat} (hn : n < 9223372036854775807) (I : Nat → σ → Prop) {F : Nat → σ → Int → Option σ}
  (hstep : ∀ k s i, i < n → I i s → ∀ Q : σ → Prop, (∀ s', I (i + 1) s' → T (F k s' ((i + 1 : Nat) : Int)) Q) → T (F (k + 1) s (i : Int)) Q) (hend : ∀ k s, F (k + 1) s (n : Int) = some s) {N : Nat} (hN : n < N) {s : σ} (hs : I 0 s) : T (F N s 0) (I n) :=
 T.loop hn I hstep hend N 0 s hs (by omega) (by omega)
theorem numC (N : Nat) (b : List Int) (h : 4 ≤ b.length) : T (p_chacha_number N b) (fun _ => True) := by
 unfold p_chacha_number
 refine T.bind (T.idx (by omega) (by omega)) fun _ _ => T.bind (T.idx (by omega) (by omega)) fun _ _ => ?_
 refine T.letO fun _ _ => T.bind (T.idx (by omega) (by omega)) fun _ _ => T.letO fun _ _ => T.bind (T.idx (by omega) (by omega)) fun _ _ => T.letO fun _ _ => T.ret trivial
theorem i4 {a i : Nat} (h : a * i < 1000000) : I64 ((a : Int) * (i : Int)) = ((a * i : Nat) : Int) := by
 have e : (a : Int) * (i : Int) = ((a * i : Nat) : Int) := by push_cast; rfl
 rw [e]; exact I64_id (by omega) (by omega)
theorem ia {a i : Nat} (h : a + i < 1000000) : I64 ((a : Int) + (i : Int)) = ((a + i : Nat) : Int) := by
 rw [I64_id (by omega) (by omega)]; omega
theorem stateT (N : Nat) (hN : 20 < N) (key : Vector Int 32) (c : Int) (n : Vector Int 12) : T (p_chacha_State N key c n) (fun _ => True) := by
 unfold p_chacha_State
 refine T.bind (T.loop0 (n := 8) (by decide) (fun _ _ => True) (F := p_chacha_State_L1 N key) (fun k s i hi _ Q hk => ?_) (fun k s => by rw [p_chacha_State_L1, df (by omega), cond_false]) (by omega) trivial) fun v _ => ?_
 ·rw [p_chacha_State_L1, dt (by omega), cond_true, show (4 : Int) = ((4 : Nat) : Int) from rfl, i4 (by omega), ia (by omega)]
  refine T.bind (T.slc (by omega) (by omega) (by simp)) fun s4 h4 => T.bind (numC N s4 (by omega)) fun r _ => T.bind (T.inRO (by omega) (by omega)) fun _ _ => T.bind (T.vget (by omega)) fun e _ => ?_
  rw [I64_s (by omega)]
  exact hk _ trivial
 refine T.bind (T.loop0 (n := 3) (by decide) (fun _ _ => True) (F := p_chacha_State_L2 N n) (fun k s i hi _ Q hk => ?_) (fun k s => by rw [p_chacha_State_L2, df (by omega), cond_false]) (by omega) trivial) fun v _ => T.ret trivial
 rw [p_chacha_State_L2, dt (by omega), cond_true, show (4 : Int) = ((4 : Nat) : Int) from rfl, i4 (by omega), show (13 : Int) = ((13 : Nat) : Int) from rfl, ia (by omega)]
 refine T.bind (T.slc (by omega) (by omega) (by simp)) fun s4 h4 => T.bind (numC N s4 (by omega)) fun r _ => T.bind (T.inRO (by omega) (by omega)) fun _ _ => T.bind (T.vget (by omega)) fun e _ => ?_
 rw [I64_s (by omega)]
 exact hk _ trivial
theorem rotT (N : Nat) (x : Int) (n : Nat) (h1 : 1 ≤ n) (h2 : n ≤ 31) : T (p_math_bits_RotateLeft32 N x (n : Int)) (fun _ => True) := by
 have b : ∀ n : Fin 32, band .u64 (U64 (n.val : Int)) 31 = (n.val : Int) := by decide +kernel
 have hb : band .u64 (U64 (n : Int)) 31 = (n : Int) := b ⟨n, by omega⟩
 unfold p_math_bits_RotateLeft32
 rw [hb, shlO_ok .u32 (by omega), Option.bind_some, letO_e, U64_id (by omega) (by omega), shrO_ok .u32 (by omega)]
 exact T.ret trivial
theorem quarterT (N : Nat) (v : Vector Int 4) : T (p_chacha_Quarter N v) (fun _ => True) := by
 unfold p_chacha_Quarter
 refine T.bind (T.idx (by omega) (by simp)) fun _ _ => T.bind (T.idx (by omega) (by simp)) fun _ _ => T.bind (T.idx (by omega) (by simp)) fun _ _ => T.bind (T.idx (by omega) (by simp)) fun _ _ => ?_
 refine T.letO fun _ _ => T.bind (rotT N _ 16 (by decide) (by decide)) fun _ _ => T.letO fun _ _ => T.bind (rotT N _ 12 (by decide) (by decide)) fun _ _ => T.letO fun _ _ => T.bind (rotT N _ 8 (by decide) (by decide)) fun _ _ => T.letO fun _ _ => T.bind (rotT N _ 7 (by decide) (by decide)) fun _ _ => T.ret trivial
def places : List (Vector Int 4) := (#v[#v[0, 4, 8, 12], #v[1, 5, 9, 13], #v[2, 6, 10, 14], #v[3, 7, 11, 15], #v[0, 5, 10, 15], #v[1, 6, 11, 12], #v[2, 7, 8, 13], #v[3, 4, 9, 14]] : Vector (Vector Int 4) 8).toList
theorem places_in : ∀ v ∈ places, ∀ x ∈ v.toList, 0 ≤ x ∧ x < 16 := by unfold places; decide
theorem T.place {v : Vector Int 4} (hv : v ∈ places) {i : Nat} (h : i < 4) : T (v.toList[i]?) (fun x => 0 ≤ x ∧ x < 16) :=
 ⟨_, Go.UK.vget v i h, places_in v hv _ (vmem v h)⟩
theorem block2T (N : Nat) (hN : 20 < N) (s : Vector Int 16) : T (p_chacha_Block_L2 N N s 0) (fun _ => True) := by
 refine T.loop0 (n := 8) (by decide) (fun _ _ => True) (F := p_chacha_Block_L2 N) (fun k s i hi _ Q hk => ?_) (fun k s => by rw [p_chacha_Block_L2, df (by omega), cond_false]) (by omega) trivial
 rw [p_chacha_Block_L2, dt (by omega), cond_true]
 refine T.bind (T.idx (by omega) (by simp; omega)) fun e8 he => ?_
 have hm : e8 ∈ places := List.mem_of_getElem? he
 iterate 4 refine T.bind (T.inRO (by decide) (by decide)) fun _ _ => T.bind (T.place hm (by decide)) fun _ h => T.bind (T.inRO h.1 h.2) fun _ _ => T.bind (T.vget (by omega)) fun _ _ => ?_
 refine T.bind (quarterT N _) fun r25 _ => ?_
 refine T.bind (T.inRO (by decide) (by decide)) fun _ _ => T.bind (T.place hm (by decide)) fun _ h0 => ?_
 refine T.bind (T.inRO (by decide) (by decide)) fun _ _ => T.bind (T.place hm (by decide)) fun _ h1 => ?_
 refine T.bind (T.inRO (by decide) (by decide)) fun _ _ => T.bind (T.place hm (by decide)) fun _ h2 => ?_
 refine T.bind (T.inRO (by decide) (by decide)) fun _ _ => T.bind (T.place hm (by decide)) fun _ h3 => ?_
 iterate 4 refine T.bind (T.inRO (by decide) (by decide)) fun _ _ => T.bind (T.vget (by decide)) fun _ _ => ?_
 refine T.bind (T.inRO h0.1 h0.2) fun _ _ => T.bind (T.vget (by omega)) fun _ _ => T.bind (T.inRO h1.1 h1.2) fun _ _ => T.bind (T.vget (by omega)) fun _ _ => T.bind (T.inRO h2.1 h2.2) fun _ _ => T.bind (T.vget (by omega)) fun _ _ => T.bind (T.inRO h3.1 h3.2) fun _ _ => T.bind (T.vget (by omega)) fun _ _ => ?_
 rw [I64_s (by omega)]
 exact hk _ trivial
theorem blockT (N : Nat) (hN : 20 < N) (key : Vector Int 32) (c : Int) (n : Vector Int 12) : T (p_chacha_Block N key c n) (fun _ => True) := by
 unfold p_chacha_Block
 refine T.bind (stateT N hN key c n) fun r1 _ => ?_
 refine T.bind (T.loop0 (n := 10) (by decide) (fun _ _ => True) (F := p_chacha_Block_L1 N) (fun k s i hi _ Q hk => ?_) (fun k s => by rw [p_chacha_Block_L1, df (by omega), cond_false]) (by omega) trivial) fun p2 _ => ?_
 ·rw [p_chacha_Block_L1, dt (by omega), cond_true, I64_s (by omega)]
  exact T.bind (block2T N hN s) fun _ _ => hk _ trivial
 refine T.bind (T.loop0 (n := 16) (by decide) (fun _ _ => True) (F := p_chacha_Block_L3 N p2 r1) (fun k s i hi _ Q hk => ?_) (fun k s => by rw [p_chacha_Block_L3, df (by omega), cond_false]) (by omega) trivial) fun p3 _ => T.ret trivial
 rw [p_chacha_Block_L3, dt (by omega), cond_true, show (4 : Int) = ((4 : Nat) : Int) from rfl, i4 (by omega)]
 have f1 : I64 (((4 * i : Nat) : Int) + 1) = ((4 * i + 1 : Nat) : Int) := by rw [I64_id (by omega) (by omega)]; omega
 have f2 : I64 (((4 * i : Nat) : Int) + 2) = ((4 * i + 2 : Nat) : Int) := by rw [I64_id (by omega) (by omega)]; omega
 have f3 : I64 (((4 * i : Nat) : Int) + 3) = ((4 * i + 3 : Nat) : Int) := by rw [I64_id (by omega) (by omega)]; omega
 refine T.bind (T.idx (by omega) (by simp; omega)) fun _ _ => T.bind (T.inRO (by omega) (by omega)) fun _ _ => T.bind (T.vget (by omega)) fun _ _ => ?_
 simp only [letO_e, f1, f2, f3]
 iterate 4 refine T.bind (T.inRO (by omega) (by omega)) fun _ _ => T.bind (T.vget (by omega)) fun _ _ => ?_
 rw [I64_s (by omega)]
 exact hk _ trivial
end Go.UK

