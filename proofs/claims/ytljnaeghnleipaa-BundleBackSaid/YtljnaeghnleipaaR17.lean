/- A part of the proof: what the functions of the program compute. -/
import Derived.Test.YtljnaeghnleipaaR16
namespace Go.UK
open Go Go.Proofs
set_option maxRecDepth 20000
set_option maxHeartbeats 1000000
set_option linter.all false
theorem leftP (N : Nat) (b : List Int) : p_codec_Reader_Left_r N (S_codec_Reader.mk b 0 true) = some (b.length : Int) := rfl
theorem open1 (N : Nat) (e : Int) : p_bundle_Open_1 N e = some (zM, zA 0, e) := rfl
structure BunAt (N : Nat) (key : Vector Int 32) (base : Vector Int 8) (m : S_api_Manifest) (a : S_api_Asset) (b : List Int) : Prop where
 hbase : vbytes base
 hm : ManR m
 chk : mchkV m = 0
 good : GoodA N a
 kind : a.gKind = m.gKind
 size : ((assB a).length : Int) = m.gSize
 eq : b = bundleB N key base m (assB a)
theorem BunAt.head {N : Nat} (hN : 70000 ≤ N) {key : Vector Int 32} {base : Vector Int 8} {m : S_api_Manifest} {a : S_api_Asset} {b : List Int} (h : BunAt N key base m a b) : HeadAt N key base m b := by
 rw [h.eq]
 unfold bundleB
 exact (HeadAt.of hN key h.hbase h.hm h.chk _).1
theorem assB_bytes {a : S_api_Asset} (h : OwnG a) : bytesL (assB a) := by
 unfold assB
 rcases h with ⟨k, _⟩ | ⟨k, _⟩ | ⟨k, _⟩ | ⟨k, _⟩
 ·rw [if_pos k]; exact (leB_bytes _ _).app ((leB_bytes _ _).app ((flat_bytes ptB_bytes _).app ((flat_bytes uvB_bytes _).app (flat_bytes (trB_bytes 1) _))))
 ·rw [if_neg (by omega), if_pos k]; exact (leB_bytes _ _).app (flat_bytes (trB_bytes 1) _)
 ·rw [if_neg (by omega), if_neg (by omega), if_pos k]; exact (leB_bytes _ _).app ((trB_bytes 2 _).app (leB_bytes _ _))
 ·rw [if_neg (by omega), if_neg (by omega), if_neg (by omega)]; exact (leB_bytes _ _).app ((trB_bytes 4 _).app ((ptB_bytes _).app ((ptB_bytes _).app (ptB_bytes _))))
theorem sealV_inj {N : Nat} (hN : 70000 ≤ N) {key : Vector Int 32} {n : Vector Int 12} {a p q : List Int} (hp : bytesL p) (hq : bytesL q) (ha : a.length ≤ 16384) (hpl : p.length ≤ 16384) (hql : q.length ≤ 16384) (h : sealV N key n a p = sealV N key n a q) : p = q := by
 have h1 := openSeal N hN key n a p hp ha hpl
 have h2 := openSeal N hN key n a q hq ha hql
 rw [h, h2] at h1
 exact (Prod.mk.inj (Option.some.inj h1)).1.symm
theorem bodyC_inj {N : Nat} (hN : 70000 ≤ N) (key : Vector Int 32) (base : Vector Int 8) (mark : List Int) (hm : mark.length = 16) : ∀ (c i : Nat) (p q : List Int), bytesL p → bytesL q → p.length = q.length → p.length ≤ 256 * c → bodyC N key base mark c i p = bodyC N key base mark c i q → p = q
 | 0, _, p, q, _, _, h, hl, _ => by rw [List.eq_nil_of_length_eq_zero (show p.length = 0 by omega), List.eq_nil_of_length_eq_zero (show q.length = 0 by omega)]
 | c + 1, i, p, q, hp, hq, hl, hc, h => by
  rw [bodyC, bodyC] at h
  have l1 : (p.take 256).length ≤ 256 := by rw [List.length_take]; omega
  have l2 : (q.take 256).length ≤ 256 := by rw [List.length_take]; omega
  have l3 : (p.take 256).length = (q.take 256).length := by rw [List.length_take, List.length_take, hl]
  obtain ⟨h1, h2⟩ := List.append_inj h (by rw [chunkF_len N hN _ _ _ _ (by omega), chunkF_len N hN _ _ _ _ (by omega), l3])
  unfold chunkF sealC at h1
  rw [l3] at h1
  have h1 := sealV_inj hN (hp.take _) (hq.take _) (by rw [List.length_append, preB_len]; omega) (by omega) (by omega) (List.append_cancel_left h1)
  have h2 := bodyC_inj hN key base mark hm c (i + 1) (p.drop 256) (q.drop 256) (hp.drop _) (hq.drop _) (by simp; omega) (by simp; omega) h2
  rw [← List.take_append_drop 256 p, ← List.take_append_drop 256 q, h1, h2]
theorem openA (N : Nat) (hN : 70000 ≤ N) (key : Vector Int 32) (b : List Int) (hb : bytesL b) (hl : b.length ≤ 4000) :
  T (p_bundle_Open N key b) (fun r => (r.2.2 = 0 ∧ AssL r.2.1 ∧ ∃ base, BunAt N key base r.1 r.2.1 b)
   ∨ (r.2.2 ≠ 0 ∧ r.1 = zM ∧ r.2.1 = zA 0 ∧ (∀ base m a, ¬ BunAt N key base m a b)
    ∧ (∀ base m, HeadAt N key base m b → ∀ p x, bytesL p → (p.length : Int) = m.gSize → x ≠ [] → b.drop 63 = bodyC N key base (markV N key base m) (nCh p.length) 0 p ++ x → r.2.2 = 7)
    ∧ (∀ base m, HeadAt N key base m b → 67 ≤ b.length → (b.drop 63).take 4 ≠ preB 0 (min 256 m.gSize.toNat) → r.2.2 = 7))) := by
 unfold p_bundle_Open
 obtain ⟨r1, e1, h1⟩ := peekT N hN key b hb (by omega)
 rw [e1, Option.bind_some]
 rcases h1 with ⟨h1, base, hh⟩ | ⟨h1, _, hh⟩
 rotate_left
 ·rw [show (r1.2 != 0) = true by simpa using h1, cond_true, open1, Option.bind_some]
  exact T.ret (.inr ⟨h1, rfl, rfl, fun base m a h => hh base m (h.head hN), fun base m h => absurd h (hh base m), fun base m h => absurd h (hh base m)⟩)
 obtain ⟨m, e⟩ := r1
 dsimp only at h1 hh
 subst h1
 have hlen := hh.len hN
 obtain ⟨q1, q2, q3, q4, q5⟩ := hh.parts hN
 rw [show ((0 : Int) != 0) = false from rfl, cond_false]
 refine T.bind (T.slc (by decide) (by decide) (by omega)) fun s3 h3 => T.bind (T.vec (by have := h3.2; omega)) fun v4 h4 => ?_
 rw [List.take_of_length_le (by have := h3.2; omega), h3.1, show (12 : Int).toNat = 12 from rfl, show (4 : Int).toNat = 4 from rfl, q2] at h4
 obtain rfl := Vector.toList_inj.1 h4
 refine T.bind (T.slc (by decide) (by decide) (by omega)) fun s5 h5 => ?_
 have e5 : s5 = markV N key v4 m := by rw [h5.1]; exact q5
 subst e5
 rw [show (63 : Int) = ((63 : Nat) : Int) from rfl, slcO_drop hlen, Option.bind_some, newP N _ (by rw [List.length_drop]; omega), Option.bind_some]
 obtain ⟨c0, c1, c2, c3⟩ := mchk0 hh.2.2.1
 have c4 := capV_le m.gKind
 obtain ⟨sz, hsz⟩ := Int.eq_ofNat_of_zero_le (show 0 ≤ m.gSize by omega)
 rw [hsz, nCh_e] at c3
 have hnc : nCh sz ≤ 8 := by unfold nCh; omega
 have hmb := markV_bytes N hN key v4 m
 obtain ⟨o, e2, h2⟩ := openL N hN key v4 (markV N key v4 m) (markV_len N hN key v4 m) hmb m N sz 0 [] (b.drop 63) (by omega) (by rw [hsz]; simp) (by rw [c3]; simp) (by simp; omega) (by omega) (hb.drop _) (by rw [List.length_drop]; omega)
 rw [show ((0 : Nat) : Int) = 0 from rfl] at e2
 rw [e2, Option.bind_some]
 have uniq : ∀ base m', HeadAt N key base m' b → v4 = base ∧ m = m' := fun base m' h => hh.uniq hN h
 rcases h2 with ⟨p, b', rfl, hp, hpb, hbb, hbe⟩ | ⟨e, h3, rfl, h5, h6⟩
 rotate_left
 ·unfold sumC
  dsimp only
  refine T.ret (.inr ⟨h3, rfl, rfl, fun base m' a h => ?_, fun base m' h q x hq hqs hx hbd => ?_, fun base m' h h67 hne => ?_⟩)
  ·obtain ⟨rfl, rfl⟩ := uniq _ _ (h.head hN)
   have hs : (assB a).length = sz := by have := h.size; omega
   refine h5 (assB a) [] (assB_bytes h.good.own) hs ?_
   rw [List.append_nil, ← hs]
   conv => lhs; rw [h.eq]
   exact (HeadAt.of hN key h.hbase h.hm h.chk _).2
  ·obtain ⟨rfl, rfl⟩ := uniq _ _ h
   have hs : q.length = sz := by omega
   exact absurd (hs ▸ hbd) (h5 q x hq hs)
  ·obtain ⟨rfl, rfl⟩ := uniq _ _ h
   refine h6 (by rw [List.length_drop]; omega) ?_
   rw [hsz] at hne
   exact hne
 ·unfold sumC
  dsimp only
  rw [leftP, Option.bind_some]
  refine T.cond (fun c => ?_) fun c => ?_
  ·rw [open1, Option.bind_some]
   have c : b' ≠ [] := by rintro rfl; cases c
   refine T.ret (.inr ⟨(show (7 : Int) ≠ 0 by decide), rfl, rfl, fun base m' a h => ?_, fun _ _ _ _ _ _ _ _ _ => rfl, fun _ _ _ _ _ => rfl⟩)
   obtain ⟨rfl, rfl⟩ := uniq _ _ (h.head hN)
   have hs : (assB a).length = sz := by have := h.size; omega
   have k : b.drop 63 = bodyC N key v4 (markV N key v4 m) (nCh (assB a).length) 0 (assB a) := by
    conv => lhs; rw [h.eq]
    exact (HeadAt.of hN key h.hbase h.hm h.chk _).2
   rw [k] at hbe
   have := congrArg List.length hbe
   rw [List.length_append, bodyC_len N hN, bodyC_len N hN, hs, hp] at this
   exact c (List.eq_nil_of_length_eq_zero (by omega))
  ·have c : b' = [] := List.eq_nil_of_length_eq_zero (by have := of_decide_eq_false c; omega)
   subst c
   rw [List.append_nil] at hbe
   rw [List.nil_append]
   have hbun : b = bundleB N key v4 m p := by
    unfold bundleB
    rw [hp, ← hbe]
    exact hh.2.2.2
   refine T.bind (assDecT N (by omega) m.gKind p hpb (by omega)) fun r22 h22 => ?_
   rcases h22 with ⟨g0, g1, g2, g3, g4⟩ | ⟨g0, g1, g2⟩
   ·rw [show (r22.2 != 0) = false by rw [g0]; rfl, cond_false]
    exact T.ret (.inl ⟨rfl, g4, v4, ⟨hh.1, hh.2.1, hh.2.2.1, g2, g3, by dsimp only; rw [← g1]; omega, by dsimp only; rw [← g1]; exact hbun⟩⟩)
   ·rw [show (r22.2 != 0) = true by simpa using g0, cond_true, open1, Option.bind_some]
    refine T.ret (.inr ⟨g0, rfl, rfl, fun base m' a h => ?_, fun base m' h q x hq hqs hx hbd => ?_, fun base m' h h67 hne => ?_⟩)
    ·obtain ⟨rfl, rfl⟩ := uniq _ _ (h.head hN)
     have hs : (assB a).length = sz := by have := h.size; omega
     have k : b.drop 63 = bodyC N key v4 (markV N key v4 m) (nCh (assB a).length) 0 (assB a) := by
      conv => lhs; rw [h.eq]
      exact (HeadAt.of hN key h.hbase h.hm h.chk _).2
     rw [hs] at k
     have := bodyC_inj hN key v4 _ (markV_len N hN key v4 m) (nCh sz) 0 p (assB a) hpb (assB_bytes h.good.own) (by omega) (by unfold nCh; omega) (hbe.symm.trans k)
     exact g2 a h.good h.kind this
    ·obtain ⟨rfl, rfl⟩ := uniq _ _ h
     exfalso
     have := congrArg List.length (hbe.symm.trans hbd)
     rw [List.length_append, bodyC_len N hN, bodyC_len N hN, hp, show q.length = sz by omega] at this
     exact hx (List.eq_nil_of_length_eq_zero (by omega))
    ·obtain ⟨rfl, rfl⟩ := uniq _ _ h
     exfalso
     apply hne
     rw [hbe]
     have : nCh sz = nCh (sz - 256) + 1 := by unfold nCh; omega
     rw [this, bodyC]
     unfold chunkF
     rw [List.append_assoc, List.take_left' (preB_len _ _), List.length_take, hp, hsz]
     rfl
end Go.UK

