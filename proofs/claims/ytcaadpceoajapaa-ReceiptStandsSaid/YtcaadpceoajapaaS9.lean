/- A part of the proof: what the functions of the program compute. -/
import Derived.Test.YtcaadpceoajapaaS8
namespace Go.UK
open Go Go.Proofs
set_option maxRecDepth 20000
set_option maxHeartbeats 1000000
set_option linter.all false
theorem loopList {α σ : Type} (l : List α) (hl : l.length < 9223372036854775807) (st : σ → α → σ) (I : σ → Prop) (F : Nat → σ → Int → Option σ) (hI : ∀ s a, a ∈ l → I s → I (st s a))
    (h1 : ∀ k s i (h : i < l.length), I s → F (k + 1) s (i : Int) = F k (st s l[i]) (I64 ((i : Int) + 1))) (h2 : ∀ k s, F (k + 1) s (l.length : Int) = some s) :
    ∀ (k i : Nat) (s : σ), I s → i ≤ l.length → l.length - i < k → F k s (i : Int) = some ((l.drop i).foldl st s) ∧ I ((l.drop i).foldl st s)
  | 0, i, _, _, _, h => by omega
  | k + 1, i, s, hs, hi, hk => by
    by_cases h : i < l.length
    · rw [h1 k s i h hs, I64_s (by omega), List.drop_eq_getElem_cons h, List.foldl_cons]
      exact loopList l hl st I F hI h1 h2 k (i + 1) _ (hI s _ (List.getElem_mem h) hs) (by omega) (by omega)
    · obtain rfl : i = l.length := by omega
      rw [h2, List.drop_length]
      exact ⟨rfl, hs⟩
theorem loopList0 {α σ : Type} (l : List α) (hl : l.length < 9223372036854775807) (st : σ → α → σ) (I : σ → Prop) (F : Nat → σ → Int → Option σ) (hI : ∀ s a, a ∈ l → I s → I (st s a))
    (h1 : ∀ k s i (h : i < l.length), I s → F (k + 1) s (i : Int) = F k (st s l[i]) (I64 ((i : Int) + 1))) (h2 : ∀ k s, F (k + 1) s (l.length : Int) = some s) {N : Nat} (hN : l.length < N) {s : σ} (hs : I s) : F N s 0 = some (l.foldl st s) ∧ I (l.foldl st s) := by
  have := loopList l hl st I F hI h1 h2 N 0 s hs (by omega) (by omega)
  rwa [List.drop_zero] at this
/-! ### a chain -/
structure EntOK (e : S_api_Entry) : Prop where
  seq : in64 e.gSeq
  clock : isW e.gClock
  who : in64 e.gWho
  err : in64 e.gErr
  sum : vbytes e.gSum
def s8 (ns : List Int) : List Int := (ns.map (fun x => x % 18446744073709551616)).flatMap (leB 8)
theorem s8_bytes (ns : List Int) : bytesL (s8 ns) := by
  intro x hx
  unfold s8 at hx
  obtain ⟨y, _, hx⟩ := List.mem_flatMap.1 hx
  exact leB_bytes _ _ x hx
theorem s8_len : ∀ (ns : List Int), (s8 ns).length = 8 * ns.length
  | [] => rfl
  | a :: l => by
    have := s8_len l
    unfold s8 at this ⊢
    rw [List.map_cons, List.flatMap_cons, List.length_append, this, leB_len, List.length_cons]
    omega
def startB : List Int := [117, 109, 98, 114, 97, 32, 97, 117, 100, 105, 116, 32, 99, 104, 97, 105, 110]
theorem startB_bytes : bytesL startB := by unfold bytesL isB startB; decide
def startV (layer : Int) : Vector Int 32 := shaV (startB ++ s8 [layer])
def entB (e : S_api_Entry) : List Int := s8 [e.gSeq, e.gClock, e.gWho, e.gErr] ++ e.gSum.toList
theorem entB_len (e : S_api_Entry) : (entB e).length = 64 := by unfold entB; rw [List.length_append, s8_len]; simp
theorem entB_bytes {e : S_api_Entry} (h : EntOK e) : bytesL (entB e) := (s8_bytes _).app h.sum
def nextV (h : Vector Int 32) (e : S_api_Entry) : Vector Int 32 := shaV (h.toList ++ entB e)
def headV (layer : Int) (l : List S_api_Entry) : Vector Int 32 := l.foldl nextV (startV layer)
theorem headV_bytes (layer : Int) (l : List S_api_Entry) : vbytes (headV layer l) := by
  unfold headV
  rcases List.eq_nil_or_concat l with h | ⟨l', e, h⟩
  · subst h; exact shaV_bytes _
  · subst h; rw [List.concat_eq_append, List.foldl_append]; exact shaV_bytes _
theorem EntOK.l {e : S_api_Entry} (h : EntOK e) : in64L [e.gSeq, I64 e.gClock, e.gWho, e.gErr] := by
  intro x hx
  simp only [List.mem_cons, List.not_mem_nil, or_false] at hx
  rcases hx with rfl | rfl | rfl | rfl
  · exact h.seq
  · exact I64_in _
  · exact h.who
  · exact h.err
theorem EntOK.ck {e : S_api_Entry} (h : EntOK e) : I64 e.gClock = e.gClock := I64_id (by have := h.clock.1; omega) (by have := h.clock.2; omega)
theorem startP (N : Nat) (hN : 200 < N) (layer : Int) (hl : in64 layer) : p_chain_Start N layer = some (startV layer) := by
  unfold p_chain_Start
  have h := sgnP N startB 8 (by decide) (by decide) [layer] (by intro x hx; simp at hx; subst hx; exact hl) (by decide) (by simp) (by omega) (by simp; omega)
  rw [sgn8 _ _ (by intro x hx; simp at hx; subst hx; exact hl)] at h
  show Option.bind (p_codec_Signed N startB ((8 : Nat) : Int) [layer]) _ = _
  rw [h, Option.bind_some]
  show Option.bind (p_sha_Sum N [startB ++ s8 [layer]]) _ = _
  have hlen : (startB ++ s8 [layer]).length = 25 := by rw [List.length_append, s8_len]; rfl
  rw [shaP1 N (by omega) _ (startB_bytes.app (s8_bytes _)) (by omega) (by omega), Option.bind_some]
  rfl
theorem startR (N : Nat) (hN : 200 < N) (layer : Int) (hl : in64 layer) : p_umbraref32_Start N layer = some (startV layer) := by
  unfold p_umbraref32_Start
  have h := sgnR N startB 8 (by decide) (by decide) [layer] (by intro x hx; simp at hx; subst hx; exact hl) (by decide) (by simp) (by omega) (by simp; omega)
  rw [sgn8 _ _ (by intro x hx; simp at hx; subst hx; exact hl)] at h
  show Option.bind (p_umbraref11_Signed N startB ((8 : Nat) : Int) [layer]) _ = _
  rw [h, Option.bind_some]
  show Option.bind (p_umbraref09_Sum N (startB ++ s8 [layer])) _ = _
  have hlen : (startB ++ s8 [layer]).length = 25 := by rw [List.length_append, s8_len]; rfl
  rw [shaR N (by omega) _ (startB_bytes.app (s8_bytes _)) (by omega) (by omega), Option.bind_some]
  rfl
theorem entP (N : Nat) (hN : 200 < N) (e : S_api_Entry) (h : EntOK e) : p_chain_Bytes N e = some (entB e) := by
  unfold p_chain_Bytes
  have h1 := sgnP N [] 8 (by decide) (by decide) _ h.l (by decide) (by simp) (by omega) (by simp; omega)
  rw [sgn8 _ _ h.l, List.nil_append, h.ck] at h1
  rw [h.ck]
  show Option.bind (p_codec_Signed N [] ((8 : Nat) : Int) [e.gSeq, e.gClock, e.gWho, e.gErr]) _ = _
  rw [h1, Option.bind_some, slcV32, Option.bind_some]
  show Option.bind (appO 1 (s8 [e.gSeq, e.gClock, e.gWho, e.gErr]) e.gSum.toList) _ = _
  rw [appO_ok (by rw [s8_len]; simp), Option.bind_some]
  rfl
theorem entR (N : Nat) (hN : 200 < N) (e : S_api_Entry) (h : EntOK e) : p_umbraref32_Bytes N e = some (entB e) := by
  unfold p_umbraref32_Bytes
  have h1 := sgnR N [] 8 (by decide) (by decide) _ h.l (by decide) (by simp) (by omega) (by simp; omega)
  rw [sgn8 _ _ h.l, List.nil_append, h.ck] at h1
  rw [h.ck]
  show Option.bind (p_umbraref11_Signed N [] ((8 : Nat) : Int) [e.gSeq, e.gClock, e.gWho, e.gErr]) _ = _
  rw [h1, Option.bind_some]
  show Option.bind (p_umbraref32_Bytes_L1 N e N (s8 [e.gSeq, e.gClock, e.gWho, e.gErr]) 0) _ = _
  rw [loopVecApp (by decide) e.gSum (p_umbraref32_Bytes_L1 N e) (fun k s i hi hs => by rw [p_umbraref32_Bytes_L1, dt (show (i : Int) < 32 by omega), cond_true, idx_D (by simp; omega), Option.bind_some, appO_ok (by simp; omega), Option.bind_some]) (fun k s => by rw [p_umbraref32_Bytes_L1, df (by omega), cond_false]) (by omega) (by rw [s8_len]; simp), Option.bind_some]
  rfl
theorem nextP (N : Nat) (hN : 200 < N) (v : Vector Int 32) (hv : vbytes v) (e : S_api_Entry) (h : EntOK e) : p_chain_Next N v e = some (nextV v e) := by
  unfold p_chain_Next
  rw [slcV32, Option.bind_some, entP N hN e h, Option.bind_some, shaP N (by omega) [v.toList, entB e] (by intro p hp; simp at hp; rcases hp with rfl | rfl; exact hv; exact (s8_bytes _).app h.sum) (by intro p hp; simp at hp; rcases hp with rfl | rfl; simp; omega; rw [entB_len]; omega) (by simp; omega) (by simp [entB_len]) (by simp), Option.bind_some]
  unfold nextV
  simp
theorem nextR (N : Nat) (hN : 200 < N) (v : Vector Int 32) (hv : vbytes v) (e : S_api_Entry) (h : EntOK e) : p_umbraref32_Next N v e = some (nextV v e) := by
  unfold p_umbraref32_Next
  rw [loopVecApp (by decide) v (p_umbraref32_Next_L1 N v) (fun k s i hi hs => by rw [p_umbraref32_Next_L1, dt (show (i : Int) < 32 by omega), cond_true, idx_D (by simp; omega), Option.bind_some, appO_ok (by simp; omega), Option.bind_some]) (fun k s => by rw [p_umbraref32_Next_L1, df (by omega), cond_false]) (by omega) (s := []) (by simp), Option.bind_some, List.nil_append, entR N hN e h, Option.bind_some, appO_ok (by rw [entB_len]; simp), Option.bind_some,
    shaR N (by omega) _ (bytesL.app hv (entB_bytes h)) (by rw [List.length_append, entB_len]; simp) (by rw [List.length_append, entB_len]; simp; omega), Option.bind_some]
  rfl
def entsOK (l : List S_api_Entry) : Prop := ∀ e ∈ l, EntOK e
theorem headP (N : Nat) (hN : 200 < N) (layer : Int) (hl : in64 layer) (l : List S_api_Entry) (h : entsOK l) (hlen : l.length < N) (hlen2 : l.length < 9223372036854775807) : p_chain_Head N layer l = some (headV layer l) := by
  unfold p_chain_Head
  rw [startP N hN layer hl, Option.bind_some, (loopList0 l hlen2 nextV vbytes (p_chain_Head_L1 N l) (fun s a _ _ => shaV_bytes _) (fun k s i hi hs => by
    rw [p_chain_Head_L1, letO_e, dt (by omega), cond_true, idx_at hi, Option.bind_some, nextP N hN s hs _ (h _ (List.getElem_mem hi)), Option.bind_some]) (fun k s => by rw [p_chain_Head_L1, letO_e, df (by omega), cond_false]) hlen (s := startV layer) (shaV_bytes _)).1, Option.bind_some]
  rfl
theorem headR (N : Nat) (hN : 200 < N) (layer : Int) (hl : in64 layer) (l : List S_api_Entry) (h : entsOK l) (hlen : l.length < N) (hlen2 : l.length < 9223372036854775807) : p_umbraref32_Head N layer l = some (headV layer l) := by
  unfold p_umbraref32_Head
  rw [startR N hN layer hl, Option.bind_some, (loopList0 l hlen2 nextV vbytes (p_umbraref32_Head_L1 N l) (fun s a _ _ => shaV_bytes _) (fun k s i hi hs => by
    rw [p_umbraref32_Head_L1, letO_e, dt (by omega), cond_true, idx_at hi, Option.bind_some, nextR N hN s hs _ (h _ (List.getElem_mem hi)), Option.bind_some]) (fun k s => by rw [p_umbraref32_Head_L1, letO_e, df (by omega), cond_false]) hlen (s := startV layer) (shaV_bytes _)).1, Option.bind_some]
  rfl
end Go.UK
