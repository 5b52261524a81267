/- A part of the proof: what the functions of the program compute. -/
import Derived.Test.YtbifjcmhomoppaaGreatJ1
import Derived.Test.YtbifjcmhomoppaaGreatP10
namespace Go.UK
open Go Go.Proofs
set_option maxRecDepth 20000
set_option maxHeartbeats 2000000
set_option linter.all false
abbrev Sp := S_umbraref36_Span
abbrev Mp := List (Int × S_keys_span)
section
variable {α : Type}
theorem mget_put_self : ∀ (l : List (Int × α)) (k : Int) (v : α), mget (mput l k v) k = some v
 | [], k, v => by simp [mput, mget]
 | p :: l, k, v => by
  by_cases h : p.1 = k
  ·simp [mput, mget, h]
  ·simp [mput, mget, h, mget_put_self l k v]
theorem mget_put_ne {k k' : Int} (hk : k ≠ k') : ∀ (l : List (Int × α)) (v : α), mget (mput l k v) k' = mget l k'
 | [], v => by simp [mput, mget, hk]
 | p :: l, v => by
  by_cases h : p.1 = k
  ·subst h; simp [mput, mget, hk]
  ·simp [mput, mget, h, mget_put_ne hk l v]
theorem mget_none {k : Int} : ∀ (l : List (Int × α)), mget l k = none ↔ k ∉ keysOf l
 | [] => by simp [mget, keysOf]
 | p :: l => by
  have ih := mget_none (k := k) l
  by_cases h : p.1 = k
  ·simp [mget, keysOf, h]
  ·have h' : k ≠ p.1 := fun e => h e.symm
   simp only [mget, keysOf, List.map_cons, List.mem_cons, h', false_or] at ih ⊢
   rw [show decide (p.1 = k) = false by simpa using h]
   exact ih
theorem keys_put : ∀ (l : List (Int × α)) (k : Int) (v : α), keysOf (mput l k v) = if k ∈ keysOf l then keysOf l else keysOf l ++ [k]
 | [], k, v => by simp [mput, keysOf]
 | p :: l, k, v => by
  have ih := keys_put l k v
  by_cases h : p.1 = k
  ·simp [mput, keysOf, h]
  ·have h' : k ≠ p.1 := fun e => h e.symm
   have e : keysOf (mput (p :: l) k v) = p.1 :: keysOf (mput l k v) := by simp [mput, keysOf, h]
   rw [e, ih]
   have e2 : (k ∈ keysOf (p :: l)) ↔ k ∈ keysOf l := by simp [keysOf, h']
   by_cases hk : k ∈ keysOf l
   ·rw [if_pos hk, if_pos (e2.2 hk)]; rfl
   ·rw [if_neg hk, if_neg (fun x => hk (e2.1 x))]; rfl
end
theorem sorted_uniq : ∀ {l l' : List Int}, l.Pairwise (· ≤ ·) → l'.Pairwise (· ≤ ·) → l.Perm l' → l = l'
 | [], l', _, _, p => by rw [List.nil_perm.1 p]
 | a :: l, [], _, _, p => by have := p.length_eq; simp at this
 | a :: l, b :: l', h, h', p => by
  rw [List.pairwise_cons] at h h'
  have e : a = b := by
   have ha : a ∈ b :: l' := p.mem_iff.1 (by simp)
   have hb : b ∈ a :: l := p.mem_iff.2 (by simp)
   rcases List.mem_cons.1 ha with h1 | h1
   ·exact h1
   ·rcases List.mem_cons.1 hb with h2 | h2
    ·exact h2.symm
    ·have := h.1 _ h2; have := h'.1 _ h1; omega
  subst e
  rw [sorted_uniq h.2 h'.2 (List.perm_cons a |>.1 p)]
structure Inv (m : Mp) (s : List Sp) : Prop where
 srt : s.Pairwise (fun a b => a.gId < b.gId)
 ok : ∀ e ∈ s, 1 ≤ e.gId ∧ e.gId ≤ 65535 ∧ 1 ≤ e.gFrom ∧ e.gFrom ≤ e.gTo ∧ e.gTo ≤ 65535
 perm : (keysOf m).Perm (s.map (·.gId))
 val : ∀ e ∈ s, mget m e.gId = some ⟨e.gFrom, e.gTo⟩
abbrev fi (s : List Sp) (id : Int) : Option Nat := s.findIdx? (fun e => e.gId == id)
theorem Inv.fnone {m : Mp} {s : List Sp} (h : Inv m s) {id : Int} (hf : fi s id = none) : mget m id = none := by
 rw [mget_none, h.perm.mem_iff]
 intro hm
 obtain ⟨e, he, e2⟩ := List.mem_map.1 hm
 have := List.findIdx?_eq_none_iff.1 hf e he
 simp [e2] at this
theorem fi_some {s : List Sp} {id : Int} {j : Nat} (hf : fi s id = some j) : ∃ e, s[j]? = some e ∧ e.gId = id := by
 obtain ⟨h, h1, _⟩ := List.findIdx?_eq_some_iff_getElem.1 hf
 exact ⟨s[j], List.getElem?_eq_getElem h, by simpa using h1⟩
theorem Inv.fsome {m : Mp} {s : List Sp} (h : Inv m s) {id : Int} {j : Nat} (hf : fi s id = some j) : ∃ e, s[j]? = some e ∧ e.gId = id ∧ mget m id = some ⟨e.gFrom, e.gTo⟩ ∧ (1 ≤ e.gFrom ∧ e.gFrom ≤ e.gTo ∧ e.gTo ≤ 65535) := by
 obtain ⟨e, h1, h2⟩ := fi_some hf
 have hm := List.mem_of_getElem? h1
 obtain ⟨a1, a2, a3⟩ := h.ok e hm
 exact ⟨e, h1, h2, by rw [← h2]; exact h.val e hm, a3⟩
theorem Inv.upd {m : Mp} {s : List Sp} (h : Inv m s) {j : Nat} {e e' : Sp} (he : s[j]? = some e) (hid : e'.gId = e.gId) (hb : 1 ≤ e'.gFrom ∧ e'.gFrom ≤ e'.gTo ∧ e'.gTo ≤ 65535) : Inv (mput m e.gId ⟨e'.gFrom, e'.gTo⟩) (s.set j e') := by
 have hj := get_lt he
 have hm := List.mem_of_getElem? he
 have hmap : (s.set j e').map (·.gId) = s.map (·.gId) := by
  rw [List.map_set, hid]
  have : (s.map (·.gId))[j]? = some e.gId := by rw [List.getElem?_map, he]; rfl
  refine List.ext_getElem? fun i => ?_
  rw [List.getElem?_set]
  split
  ·rename_i h1; subst h1; rw [this]; simp [hj]
  ·rfl
 have hk : keysOf (mput m e.gId ⟨e'.gFrom, e'.gTo⟩) = keysOf m := by
  rw [keys_put, if_pos]
  rw [h.perm.mem_iff]
  exact List.mem_map.2 ⟨e, hm, rfl⟩
 have hnd : ∀ (i : Nat) x, s[i]? = some x → x.gId = e.gId → i = j := by
  intro i x hx hxe
  have hp := List.pairwise_iff_getElem.1 h.srt
  have hi := get_lt hx
  have e1 : s[i] = x := by rw [List.getElem?_eq_getElem hi] at hx; exact Option.some.inj hx
  have e2 : s[j] = e := by rw [List.getElem?_eq_getElem hj] at he; exact Option.some.inj he
  rcases Nat.lt_trichotomy i j with hl | hl | hl
  ·have := hp i j hi hj hl; rw [e1, e2] at this; omega
  ·exact hl
  ·have := hp j i hj hi hl; rw [e1, e2] at this; omega
 refine ⟨?_, ?_, by rw [hk, hmap]; exact h.perm, ?_⟩
 ·have := (List.pairwise_map (f := fun e : Sp => e.gId) (R := (· < ·)) (l := s)).2 h.srt
  rw [← hmap] at this
  exact List.pairwise_map.1 this
 ·intro x hx
  rcases List.mem_or_eq_of_mem_set hx with h' | h'
  ·exact h.ok x h'
  ·subst h'
   obtain ⟨a1, a2, _⟩ := h.ok e hm
   exact ⟨by omega, by omega, hb⟩
 ·intro x hx
  obtain ⟨i, hi⟩ := List.getElem?_of_mem hx
  rw [List.getElem?_set] at hi
  split at hi
  ·rename_i hij
   simp only [Option.some.injEq] at hi
   subst hi
   rw [hid, mget_put_self]
  ·rename_i hij
   have hne : e.gId ≠ x.gId := fun e3 => hij (hnd i x hi e3.symm).symm
   rw [mget_put_ne hne]
   exact h.val x (List.mem_of_getElem? hi)
def insS (id : Int) : List Sp → List Sp
 | [] => [⟨id, 1, 1⟩]
 | e :: t => if e.gId > id then ⟨id, 1, 1⟩ :: e :: t else e :: insS id t
theorem insS_mem {id : Int} {x : Sp} : ∀ {s : List Sp}, x ∈ insS id s ↔ x = ⟨id, 1, 1⟩ ∨ x ∈ s
 | [] => by simp [insS]
 | e :: t => by
  unfold insS
  split
  ·simp
  ·simp only [List.mem_cons, insS_mem (s := t)]; constructor <;> rintro (h | h | h) <;> simp [h]
theorem insS_len {id : Int} : ∀ {s : List Sp}, (insS id s).length = s.length + 1
 | [] => rfl
 | e :: t => by unfold insS; split <;> simp [insS_len (s := t)]
theorem insS_perm {id : Int} : ∀ {s : List Sp}, ((insS id s).map (·.gId)).Perm (id :: s.map (·.gId))
 | [] => by simp [insS]
 | e :: t => by
  unfold insS
  split
  ·simp
  ·simp only [List.map_cons]
   exact ((insS_perm (s := t)).cons _).trans (List.Perm.swap _ _ _)
theorem insS_srt {id : Int} : ∀ {s : List Sp}, s.Pairwise (fun a b => a.gId < b.gId) → (∀ e ∈ s, e.gId ≠ id) → (insS id s).Pairwise (fun a b => a.gId < b.gId)
 | [], _, _ => by simp [insS]
 | e :: t, h, hn => by
  unfold insS
  have h' := List.pairwise_cons.1 h
  split
  ·rename_i hg
   refine List.pairwise_cons.2 ⟨fun x hx => ?_, h⟩
   rcases List.mem_cons.1 hx with e1 | e1
   ·subst e1; exact hg
   ·have := h'.1 x e1; dsimp only; omega
  ·rename_i hg
   refine List.pairwise_cons.2 ⟨fun x hx => ?_, insS_srt h'.2 fun e he => hn e (by simp [he])⟩
   rcases insS_mem.1 hx with e1 | e1
   ·subst e1; have := hn e (by simp); dsimp only; omega
   ·exact h'.1 x e1
theorem Inv.ins {m : Mp} {s : List Sp} (h : Inv m s) {id : Int} (hf : fi s id = Option.none) (hi : 1 ≤ id ∧ id ≤ 65535) : Inv (mput m id ⟨1, 1⟩) (insS id s) := by
 have hn : ∀ e ∈ s, e.gId ≠ id := fun e he hh => by
  have := List.findIdx?_eq_none_iff.1 hf e he
  simp [hh] at this
 have hk : id ∉ keysOf m := (mget_none m).1 (h.fnone hf)
 refine ⟨insS_srt h.srt hn, ?_, ?_, ?_⟩
 ·intro e he
  rcases insS_mem.1 he with h1 | h1
  ·subst h1; exact ⟨hi.1, hi.2, Int.le_refl _, Int.le_refl _, by show (1 : Int) ≤ 65535; decide⟩
  ·exact h.ok e h1
 ·rw [keys_put, if_neg hk]
  refine List.Perm.trans ?_ insS_perm.symm
  exact (List.perm_append_comm).trans (h.perm.cons id)
 ·intro e he
  rcases insS_mem.1 he with h1 | h1
  ·subst h1; exact mget_put_self _ _ _
  ·rw [mget_put_ne (fun e1 => hn e h1 e1.symm)]
   exact h.val e h1
end Go.UK
namespace Go.UK
open Go Go.Proofs
set_option maxRecDepth 20000
set_option maxHeartbeats 2000000
set_option linter.all false
def fiZ (s : List Sp) (id : Int) : Int := match fi s id with | some j => (j : Int) | none => -1
theorem findL (N : Nat) (s : List Sp) (id : Int) (hs : s.length ≤ 1000) : ∀ (k i : Nat), i ≤ s.length → s.length - i < k →
  p_umbraref36_Ring_Find_rd_L1 N s id k (i : Int) = some (match fi (s.drop i) id with | some j => Sum.inr ((i + j : Nat) : Int) | none => Sum.inl ())
 | 0, i, _, h => by omega
 | k + 1, i, hi, hk => by
  rw [p_umbraref36_Ring_Find_rd_L1, letO_e]
  by_cases h : i < s.length
  ·rw [dt (by omega), cond_true, inRO_ok (by omega) (by omega), Option.bind_some, Int.toNat_natCast, List.getElem?_eq_getElem h, Option.bind_some, I64_s (by omega), findL N s id hs k (i + 1) (by omega) (by omega), List.drop_eq_getElem_cons h]
   unfold fi
   rw [List.findIdx?_cons]
   cases hc : (s[i].gId == id) with
   | true => simp
   | false =>
    simp only [cond_false, Bool.false_eq_true, if_false]
    cases List.findIdx? (fun e => e.gId == id) (s.drop (i + 1)) with
    | none => rfl
    | some j => simp only [Option.map_some]; congr 2; omega
  ·rw [df (by omega), cond_false, List.drop_of_length_le (by omega)]; rfl
theorem findR (N : Nat) (hN : 1000 < N) (s : List Sp) (id : Int) (v : Vector Int 32) (hs : s.length ≤ 1000) : p_umbraref36_Ring_Find_rd N s id v = some (fiZ s id) := by
 unfold p_umbraref36_Ring_Find_rd
 have := findL N s id hs N 0 (by omega) (by omega)
 rw [List.drop_zero] at this
 rw [show (0 : Int) = ((0 : Nat) : Int) from rfl, this]
 unfold fiZ
 cases fi s id <;> simp [sumC]
def goS (id : Int) : List Sp → Bool → List Sp × Bool
 | [], put => ([], put)
 | e :: t, put => cond (!put && decide (e.gId > id)) (⟨id, 1, 1⟩ :: e :: (goS id t true).1, (goS id t true).2) (e :: (goS id t put).1, (goS id t put).2)
theorem goS_true (id : Int) : ∀ s : List Sp, goS id s true = (s, true)
 | [] => rfl
 | e :: t => by simp [goS, goS_true id t]
theorem goS_ins (id : Int) : ∀ s : List Sp, cond (!(goS id s false).2) ((goS id s false).1 ++ [(⟨id, 1, 1⟩ : Sp)]) (goS id s false).1 = insS id s
 | [] => rfl
 | e :: t => by
  have ih := goS_ins id t
  unfold goS insS
  by_cases h : e.gId > id
  ·simp [h, goS_true]
  ·rw [df h, if_neg h, ← ih]
   simp only [Bool.not_false, Bool.and_false, cond_false]
   cases (goS id t false).2 <;> rfl
theorem addL (N : Nat) (s : List Sp) (id : Int) (hs : s.length ≤ 1000) : ∀ (k i : Nat) (out : List Sp) (put : Bool), i ≤ s.length → s.length - i < k → out.length ≤ i + put.toNat →
  p_umbraref36_Ring_Add_rd_L1 N s id k out put (i : Int) = some (out ++ (goS id (s.drop i) put).1, (goS id (s.drop i) put).2)
 | 0, i, _, _, _, h, _ => by omega
 | k + 1, i, out, put, hi, hk, ho => by
  rw [p_umbraref36_Ring_Add_rd_L1, letO_e]
  have hp := Bool.toNat_le put
  by_cases h : i < s.length
  ·rw [dt (by omega), cond_true, inRO_ok (by omega) (by omega), Option.bind_some, Int.toNat_natCast, List.getElem?_eq_getElem h, Option.bind_some, I64_s (by omega), List.drop_eq_getElem_cons h]
   have key : ∀ (o2 : List Sp) (p2 : Bool), o2.length ≤ i + p2.toNat →
     Option.bind (appO 24 o2 [s[i]]) (fun z15 => p_umbraref36_Ring_Add_rd_L1 N s id k z15 p2 ((i + 1 : Nat) : Int)) = some (o2 ++ s[i] :: (goS id (s.drop (i + 1)) p2).1, (goS id (s.drop (i + 1)) p2).2) := by
    intro o2 p2 hl
    have hp := Bool.toNat_le p2
    rw [appO_ok (by simp only [List.length_cons, List.length_nil]; omega), Option.bind_some, addL N s id hs k (i + 1) _ p2 (by omega) (by omega) (by simp; omega), List.append_assoc]
    rfl
   cases put with
   | true =>
    simp only [Bool.not_true, cond_false, Option.bind_some]
    refine (key out true ho).trans ?_
    simp [goS, goS_true]
   | false =>
    simp only [Bool.not_false, cond_true, Option.bind_some]
    by_cases hg : s[i].gId > id
    ·rw [dt hg, cond_true, appO_ok (by simp only [List.length_cons, List.length_nil]; omega), Option.bind_some, Option.bind_some]
     dsimp only
     have hl : (out ++ [(S_umbraref36_Span.mk id 1 1)]).length ≤ i + true.toNat := by rw [List.length_append]; exact Nat.add_le_add ho (Nat.le_refl 1)
     rw [key _ true hl]
     simp [goS, goS_true, hg]
    ·rw [df hg, cond_false, Option.bind_some]
     dsimp only
     refine (key out false ho).trans ?_
     simp [goS, hg]
  ·rw [df (by omega), cond_false, List.drop_of_length_le (by omega)]; simp [goS]
theorem addR (N : Nat) (hN : 1000 < N) (s : List Sp) (id : Int) (v : Vector Int 32) (hs : s.length ≤ 1000) :
  p_umbraref36_Ring_Add_rd N s id v = some (if id < 1 ∨ 65535 < id then Sum.inl (2 : Int) else match fi s id with | some _ => Sum.inl 10 | none => Sum.inr (insS id s, (0 : Int))) := by
 unfold p_umbraref36_Ring_Add_rd
 rw [letO_e]
 by_cases c : id < 1 ∨ 65535 < id
 ·rw [if_pos c, show cond (decide (id < 1)) true (decide (id > 65535)) = true by
   rcases c with c | c
   ·rw [dt c]; rfl
   ·by_cases c' : id < 1
    ·rw [dt c']; rfl
    ·rw [df c', cond_false, dt c], cond_true]
 ·rw [if_neg c, df (by omega), df (by omega), cond_false, cond_false, findR N hN s id v hs, Option.bind_some]
  unfold fiZ
  cases hf : fi s id with
  | some j => dsimp only; rw [dt (by omega), cond_true]
  | none =>
   dsimp only
   have := addL N s id hs N 0 [] false (by omega) (by omega) (by simp)
   rw [df (by omega), cond_false, show (0 : Int) = ((0 : Nat) : Int) from rfl, this, Option.bind_some, List.drop_zero, List.nil_append, ← goS_ins id s]
   dsimp only
   have hl : (goS id s false).1.length ≤ 2000 := by
    have := congrArg List.length (goS_ins id s)
    rw [insS_len] at this
    revert this
    cases (goS id s false).2 <;> simp <;> omega
   cases (goS id s false).2 with
   | true => rfl
   | false => simp only [Bool.not_false, cond_true]; rw [appO_ok (by simp only [List.length_cons, List.length_nil]; omega)]; rfl
theorem updO_ok {α : Type} {l : List α} {j : Nat} {e : α} (h : l[j]? = some e) (f : α → α) : updO l j f = some (l.set j (f e)) := by unfold updO; rw [h]
theorem rotR (N : Nat) (hN : 1000 < N) (s : List Sp) (id : Int) (v : Vector Int 32) (hs : s.length ≤ 1000) :
  p_umbraref36_Ring_Rotate_rd N s id v = some (match fi s id with | none => (s, 0, 11) | some j => match s[j]? with | none => (s, 0, 0) | some e => if e.gTo ≥ 65535 then (s, 0, 3) else (s.set j ⟨e.gId, e.gFrom, I64 (e.gTo + 1)⟩, I64 (e.gTo + 1), 0)) := by
 unfold p_umbraref36_Ring_Rotate_rd
 rw [findR N hN s id v hs, Option.bind_some]
 unfold fiZ
 cases hf : fi s id with
 | none => rfl
 | some j =>
  obtain ⟨e, he, _⟩ := fi_some hf
  have hj := get_lt he
  dsimp only
  rw [df (by omega), cond_false, inRO_ok (by omega) (by omega), Option.bind_some, Int.toNat_natCast, he, Option.bind_some, letO_e]
  dsimp only
  by_cases c : e.gTo ≥ 65535
  ·rw [dt c, cond_true, if_pos c]
  ·rw [df c, cond_false, if_neg c]
   simp only [Option.bind_some]
   rw [updO_ok he]
   simp only [Option.bind_some]
   rw [inRO_ok (by omega) (by simp; omega), Option.bind_some, List.getElem?_set_self hj, Option.bind_some]
theorem retR (N : Nat) (hN : 1000 < N) (s : List Sp) (id ep : Int) (v : Vector Int 32) (hs : s.length ≤ 1000) :
  p_umbraref36_Ring_Retire_rdd N s id ep v = some (match fi s id with | none => (s, 11) | some j => match s[j]? with | none => (s, 0) | some e => if ep < e.gFrom ∨ e.gTo ≤ ep then (s, 2) else (s.set j ⟨e.gId, I64 (ep + 1), e.gTo⟩, 0)) := by
 unfold p_umbraref36_Ring_Retire_rdd
 rw [findR N hN s id v hs, Option.bind_some]
 unfold fiZ
 cases hf : fi s id with
 | none => rfl
 | some j =>
  obtain ⟨e, he, _⟩ := fi_some hf
  have hj := get_lt he
  dsimp only
  rw [df (by omega), cond_false, inRO_ok (by omega) (by omega), Option.bind_some, Int.toNat_natCast, he, Option.bind_some]
  simp only [Option.bind_some]
  by_cases c : ep < e.gFrom ∨ e.gTo ≤ ep
  ·rw [if_pos c]
   rcases c with c | c
   ·rw [dt c, cond_true, Option.bind_some, cond_true]
   ·by_cases c' : ep < e.gFrom
    ·rw [dt c', cond_true, Option.bind_some, cond_true]
    ·rw [df c', cond_false, dt c, Option.bind_some, cond_true]
  ·rw [if_neg c, df (by omega), cond_false, df (by omega), Option.bind_some, cond_false, updO_ok he, Option.bind_some]
theorem findP (N : Nat) (l : Mp) (id : Int) (m : Vector Int 32) : p_keys_Ring_find_rd N l id m = some (match mget l id with | some s => (s, 0) | none => (S_keys_span.mk 0 0, 11)) := by
 unfold p_keys_Ring_find_rd
 rw [show p_keys_Ring_none_r N l m = some () from rfl, Option.bind_some]
 unfold mhas mgetD
 cases mget l id <;> rfl
theorem addP (N : Nat) (l : Mp) (id : Int) (m : Vector Int 32) : p_keys_Ring_Add_rd N l id m = some (if id < 1 ∨ 65535 < id then (l, (2 : Int)) else match mget l id with | some _ => (l, 10) | none => (mput l id ⟨1, 1⟩, 0)) := by
 unfold p_keys_Ring_Add_rd p_keys_between
 rw [show p_keys_Ring_none_r N l m = some () from rfl, Option.bind_some, letO_e, Option.bind_some]
 unfold mhas
 by_cases c : id < 1 ∨ 65535 < id
 ·rw [if_pos c]
  have : (cond (decide (id ≥ 1)) (decide (id ≤ 65535)) false) = false := by
   rcases c with c | c
   ·rw [df (by omega)]; rfl
   ·rw [dt (by omega), cond_true, df (by omega)]
  rw [this]; rfl
 ·rw [if_neg c, dt (by omega), dt (by omega)]
  cases mget l id <;> rfl
theorem rotP (N : Nat) (l : Mp) (id : Int) (m : Vector Int 32) : p_keys_Ring_Rotate_rd N l id m = some (match mget l id with | none => (l, 0, 11) | some e => if e.gto = 65535 then (l, 0, 3) else (mput l id ⟨e.gfrom, I64 (e.gto + 1)⟩, I64 (e.gto + 1), 0)) := by
 unfold p_keys_Ring_Rotate_rd
 rw [findP, Option.bind_some]
 cases mget l id with
 | none => rfl
 | some e =>
  dsimp only
  rw [show ((0 : Int) != 0) = false from rfl, cond_false]
  by_cases c : e.gto = 65535
  ·rw [if_pos c, show (e.gto == 65535) = true by simpa using c]; rfl
  ·rw [if_neg c, show (e.gto == 65535) = false by simpa using c]; rfl
theorem retP (N : Nat) (l : Mp) (id ep : Int) (m : Vector Int 32) : p_keys_Ring_Retire_rdd N l id ep m = some (match mget l id with | none => (l, 11) | some e => if ep < e.gfrom ∨ e.gto ≤ ep then (l, 2) else (mput l id ⟨I64 (ep + 1), e.gto⟩, 0)) := by
 unfold p_keys_Ring_Retire_rdd
 rw [findP, Option.bind_some]
 cases mget l id with
 | none => rfl
 | some e =>
  dsimp only
  rw [show ((0 : Int) != 0) = false from rfl, cond_false, letO_e, letO_e]
  by_cases c : ep < e.gfrom ∨ e.gto ≤ ep
  ·rw [if_pos c, show cond (decide (ep < e.gfrom)) true (decide (ep ≥ e.gto)) = true by
    rcases c with c | c
    ·rw [dt c]; rfl
    ·by_cases c' : ep < e.gfrom
     ·rw [dt c']; rfl
     ·rw [df c', cond_false, dt c], cond_true]
  ·rw [if_neg c, df (by omega), df (by omega), cond_false, cond_false]
end Go.UK
namespace Go.UK
open Go Go.Proofs
set_option maxRecDepth 20000
set_option maxHeartbeats 2000000
set_option linter.all false
theorem wf64 {k : Int} (h : 1 ≤ k ∧ k ≤ 65535) : (Lit.int .i64 k).wf = true := by
 simp [Lit.wf, IntKind.min, IntKind.max, IntKind.signed, IntKind.bits]
 omega
theorem sortR {m : Mp} {s : List Sp} (h : Inv m s) (hs : s.length ≤ 1000) : sortO m = some (s.map (·.gId)) := by
 have hsrt : (s.map (·.gId)).Pairwise (· < ·) := List.pairwise_map.2 h.srt
 have hnd : (keysOf m).Nodup := h.perm.nodup_iff.2 (hsrt.imp (fun h => Int.ne_of_lt h))
 have hl : (keysOf m).length ≤ 1000 := by rw [h.perm.length_eq, List.length_map]; exact hs
 have hok : okKeys (keysOf m) = true := by
  unfold okKeys
  rw [Bool.and_eq_true, Bool.and_eq_true]
  refine ⟨by simpa using hnd, List.all_eq_true.2 fun k hk => ?_, dt (by omega)⟩
  obtain ⟨e, he, e1⟩ := List.mem_map.1 (h.perm.mem_iff.1 hk)
  obtain ⟨a1, a2, _⟩ := h.ok e he
  exact wf64 ⟨by omega, by omega⟩
 unfold sortO
 rw [hok, cond_true]
 congr 1
 refine sorted_uniq ?_ (hsrt.imp Int.le_of_lt) ((List.mergeSort_perm _ _).trans h.perm)
 have := List.pairwise_mergeSort (le := fun (x y : Int) => decide (x ≤ y)) (by intro a b c; simp; omega) (by intro a b; simp; omega) (keysOf m)
 exact this.imp (fun h => by simpa using h)
theorem l2R (N : Nat) {m : Mp} {s : List Sp} (h : Inv m s) (hs : s.length ≤ 1000) (v : Vector Int 32) : ∀ (k i : Nat), i ≤ s.length → s.length - i < k →
  p_umbralaw36_KeysPlays_L2 N (m, s) v (s.map (·.gId)) k (i : Int) = some (Sum.inl ())
 | 0, i, _, h => by omega
 | k + 1, i, hi, hk => by
  rw [p_umbralaw36_KeysPlays_L2, letO_e]
  by_cases hc : i < s.length
  ·have hm : s[i] ∈ s := List.getElem_mem hc
   have e1 : p_keys_Ring_Span_rd N m s[i].gId v = some (s[i].gFrom, s[i].gTo, 0) := by
    unfold p_keys_Ring_Span_rd
    rw [findP, h.val _ hm]; rfl
   dsimp only
   rw [dt (by omega), cond_true, inRO_ok (by omega) (by omega), Option.bind_some, Int.toNat_natCast, List.getElem?_eq_getElem hc, Option.bind_some, e1, Option.bind_some]
   have e2 : idx (s.map (·.gId)) (i : Int) = some s[i].gId := by rw [idx_get?, List.getElem?_map, List.getElem?_eq_getElem hc]; rfl
   rw [e2, Option.bind_some]
   simp only [bne_self_eq_false, cond_false, Option.bind_some]
   rw [I64_s (by omega)]
   exact l2R N h hs v k (i + 1) (by omega) (by omega)
  ·dsimp only; rw [df (by omega), cond_false]
theorem lawL (N : Nat) (hN : 1000 < N) (l : List S_umbralaw36_Act) : ∀ (k i : Nat) (m : Mp) (s : List Sp) (v w : Vector Int 32), Inv m s → s.length ≤ i → i ≤ 40 → 40 - i < k →
  T (p_umbralaw36_KeysPlays_L1 N l k m s v w (i : Int)) (fun r => ∃ m s v w, r = Sum.inl (m, s, v, w) ∧ Inv m s)
 | 0, i, _, _, _, _, _, _, _, h => by omega
 | k + 1, i, m, s, v, w, h, hs, hi, hk => by
  rw [p_umbralaw36_KeysPlays_L1, letO_e, letO_e]
  by_cases hc : i < l.length ∧ i < 40
  ·rw [dt (by omega), cond_true, dt (by omega), cond_true, idx_get?, List.getElem?_eq_getElem hc.1, Option.bind_some]
   generalize l[i] = a
   have go : ∀ (m' : Mp) (s' : List Sp), Inv m' s' → s'.length ≤ i + 1 →
     T (Option.bind (p_keys_Ring_Ids_r N m' v) fun r29 => letO (((r29.length : Int)) != ((s'.length : Int))) fun x30 => cond x30 (some (Sum.inr false)) (
      Option.bind (p_umbralaw36_KeysPlays_L2 N (m', s') v r29 N 0) fun o => sumC o (fun p31 => p_umbralaw36_KeysPlays_L1 N l k m' s' v w (I64 ((i : Int) + 1))) (fun r => some (Sum.inr r)))) (fun r => ∃ m s v w, r = Sum.inl (m, s, v, w) ∧ Inv m s) := by
    intro m' s' h' hs'
    have e : p_keys_Ring_Ids_r N m' v = some (s'.map (·.gId)) := by
     unfold p_keys_Ring_Ids_r
     rw [show p_keys_Ring_none_r N m' v = some () from rfl, Option.bind_some, sortR h' (by omega)]; rfl
    have e2 := l2R N h' (by omega) v N 0 (by omega) (by omega)
    rw [e, Option.bind_some, letO_e, List.length_map, bne_self_eq_false, cond_false, show (0 : Int) = ((0 : Nat) : Int) from rfl, e2, Option.bind_some, I64_s (by omega)]
    exact lawL N hN l k (i + 1) m' s' v w h' hs' (by omega) (by omega)
   refine T.bind (P := fun _ => True) ?_ fun _ _ => ?_
   ·refine T.cond (fun _ => ?_) (fun _ => T.ret trivial)
    rw [show p_keys_Ring_Copy_r N m v = some () from rfl, Option.bind_some, addP, Option.bind_some, rotP, Option.bind_some]
    exact T.ret trivial
   refine T.bind (P := fun o => ∃ m' s', o = Sum.inl (m', s') ∧ Inv m' s' ∧ s'.length ≤ i + 1) ?_ fun o ho => ?_
   ·refine T.cond (fun _ => ?_) fun _ => T.cond (fun _ => ?_) fun _ => ?_
    ·rw [addP, Option.bind_some, addR N hN s _ w (by omega), Option.bind_some]
     have e0 : p_keys_Ring_Add_isdczd N (Vector.replicate 32 0) a.gId = some 1 := rfl
     by_cases c : a.gId < 1 ∨ 65535 < a.gId
     ·rw [if_pos c, if_pos c]
      exact T.ret ⟨_, _, rfl, h, Nat.le_succ_of_le hs⟩
     ·rw [if_neg c, if_neg c]
      cases hf : fi s a.gId with
      | none =>
       rw [h.fnone hf]
       exact T.ret ⟨_, _, rfl, h.ins hf (by omega), by rw [insS_len]; omega⟩
      | some j =>
       obtain ⟨e, _, _, hm, _⟩ := h.fsome hf
       rw [hm]
       exact T.ret ⟨_, _, rfl, h, Nat.le_succ_of_le hs⟩
    ·rw [rotP, Option.bind_some, rotR N hN s _ w (by omega), Option.bind_some]
     cases hf : fi s a.gId with
     | none =>
      rw [h.fnone hf]
      exact T.ret ⟨_, _, rfl, h, Nat.le_succ_of_le hs⟩
     | some j =>
      obtain ⟨e, he, hid, hm, b1, b2, b3⟩ := h.fsome hf
      rw [hm]
      simp only [he, letO_e]
      by_cases c : e.gTo = 65535
      ·rw [if_pos c, if_pos (by omega)]
       exact T.ret ⟨_, _, rfl, h, Nat.le_succ_of_le hs⟩
      ·rw [if_neg c, if_neg (by omega)]
       simp only [bne_self_eq_false, cond_false]
       rw [I64_id (by omega) (by omega)]
       refine T.ret ⟨_, _, rfl, ?_, by rw [List.length_set]; exact Nat.le_succ_of_le hs⟩
       rw [← hid]
       exact h.upd (e' := ⟨e.gId, e.gFrom, e.gTo + 1⟩) he rfl ⟨b1, by dsimp only; omega, by dsimp only; omega⟩
    ·refine T.bind (P := fun o => ∃ m' s', o = (m', s', false) ∧ Inv m' s' ∧ s'.length ≤ i + 1) ?_ ?_
     ·rw [retP, Option.bind_some, retR N hN s _ _ w (by omega), Option.bind_some]
      have e0 : p_keys_Ring_Retire_cdd N a.gId a.gEpoch = some 1 := rfl
      cases hf : fi s a.gId with
      | none =>
       rw [h.fnone hf]
       exact T.ret ⟨_, _, rfl, h, Nat.le_succ_of_le hs⟩
      | some j =>
       obtain ⟨e, he, hid, hm, b1, b2, b3⟩ := h.fsome hf
       rw [hm]
       simp only [he]
       by_cases c : a.gEpoch < e.gFrom ∨ e.gTo ≤ a.gEpoch
       ·rw [if_pos c, if_pos c]
        exact T.ret ⟨_, _, rfl, h, Nat.le_succ_of_le hs⟩
       ·rw [if_neg c, if_neg c]
        simp only [bne_self_eq_false, cond_false]
        rw [I64_id (by omega) (by omega)]
        refine T.ret ⟨_, _, rfl, ?_, by rw [List.length_set]; exact Nat.le_succ_of_le hs⟩
        rw [← hid]
        exact h.upd (e' := ⟨e.gId, a.gEpoch + 1, e.gTo⟩) he rfl ⟨by dsimp only; omega, by dsimp only; omega, b3⟩
     ·rintro _ ⟨m', s', rfl, h', hl'⟩
      exact T.ret ⟨_, _, rfl, h', hl'⟩
   ·obtain ⟨m', s', rfl, h', hl'⟩ := ho
    exact go m' s' h' hl'
  ·have : cond (decide ((i : Int) < (l.length : Int))) (decide ((i : Int) < 40)) false = false := by
    by_cases c : i < l.length
    ·rw [dt (by omega), cond_true, df (by omega)]
    ·rw [df (by omega)]; rfl
   rw [this, cond_false]
   exact T.ret ⟨m, s, v, w, rfl, h⟩
theorem keysPlaysT (N : Nat) (hN : 1000 < N) (hw : p_umbralaw36_works N = some true) (l : List S_umbralaw36_Act) : p_umbralaw36_KeysPlays N l = some true := by
 have h0 : Inv [] [] := ⟨List.Pairwise.nil, by simp, by simp [keysOf], by simp⟩
 obtain ⟨r, e, m, s, v, w, rfl, h⟩ := lawL N hN l N 0 [] [] (Vector.replicate 32 0) (Vector.replicate 32 0) h0 (Nat.zero_le _) (by omega) (by omega)
 rw [show ((0 : Nat) : Int) = 0 from rfl] at e
 have e0 : mget m 0 = none := h.fnone (List.findIdx?_eq_none_iff.2 fun x hx => by
  have := (h.ok x hx).1
  simp; omega)
 unfold p_umbralaw36_KeysPlays
 rw [show p_keys_New N (Vector.replicate 32 0) = some () from rfl, Option.bind_some, e, Option.bind_some]
 unfold sumC
 dsimp only
 have e1 : p_keys_Ring_Span_rd N m 0 v = some (0, 0, 11) := by
  unfold p_keys_Ring_Span_rd
  rw [findP, e0]; rfl
 rw [e1, Option.bind_some, hw]
 rfl
end Go.UK
