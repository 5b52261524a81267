/- A part of the proof: what the functions of the program compute. -/
import Derived.Test.YtljnaeghnleipaaB12
namespace Go.UK
open Go Go.Proofs
set_option maxRecDepth 20000
set_option maxHeartbeats 4000000
set_option linter.all false

attribute [local irreducible] owp awl aw FnM NatFn opS Stab TOK Big
def m_umbralaw16_BundleParts : Nat → Bool := imL [2]

def p_umbralaw16_BundleParts_L1 (N : Nat) (r3 : (List Int) × Int) (r2 : (List Int) × Int) (a0 : S_umbralaw16_Sealed) : Nat → Int → Int → Option (Sum (Int) (Bool))
 | 0, _, _ => none
 | k + 1, s15, s16 =>
  Option.bind (p_manifest_Chunks N ((r3.1.length : Int))) fun r17 =>
  cond (decide (s16 < r17)) (
   letO (I64 (((r3.1.length : Int)) - (I64 (256 * s16)))) fun x18 =>
   letO (I64 (((r2.1.length : Int)) - s15)) fun x19 =>
   letO (I64 ((imin 256 x18) + 20)) fun x20 =>
   cond (decide (x19 < x20)) (
    some (Sum.inr false)) (
    Option.bind (p_bundle_Nonce N a0.gBase (I64 (s16 + 1))) fun r21 =>
    Option.bind (slcO r2.1 s15 (I64 (s15 + 4))) fun s22 =>
    Option.bind (appO 1 (([] : List Int)) s22) fun z23 =>
    Option.bind (slcO r2.1 47 63) fun s24 =>
    Option.bind (appO 1 z23 s24) fun z25 =>
    letO (I64 ((I64 (s15 + 20)) + (imin 256 x18))) fun x26 =>
    Option.bind (slcO r2.1 (I64 (s15 + 4)) x26) fun s27 =>
    Option.bind (p_aead_Open N a0.gKey r21 z25 s27) fun r28 =>
    Option.bind (cond (r28.2 != 0) (
     some true) (
     letO (I64 ((I64 (256 * s16)) + (imin 256 x18))) fun x30 =>
     Option.bind (slcO r3.1 (I64 (256 * s16)) x30) fun s31 =>
     Option.bind (p_bytes_Equal N r28.1 s31) fun r32 =>
     some (!r32))) fun p29 =>
    cond p29 (
     some (Sum.inr false)) (
     letO (I64 ((imin 256 x18) + 20)) fun x34 =>
     p_umbralaw16_BundleParts_L1 N r3 r2 a0 k (I64 (s15 + x34)) (I64 (s16 + 1))))) (
   some (Sum.inl s15))

def p_umbralaw16_BundleParts (N : Nat) (a0 : S_umbralaw16_Sealed) (a1 : S_api_Asset) : Option (Bool) :=
 Option.bind (p_umbralaw16_few N a1) fun r1 =>
 Option.bind (p_bundle_Seal N a0.gKey a0.gBase a0.gM r1) fun r2 =>
 Option.bind (p_asset_Encode N r1) fun r3 =>
 cond (r2.2 != 0) (
  Option.bind (p_umbralaw16_works N ) fun r4 =>
  some r4) (
  Option.bind (letO (decide (((r2.1.length : Int)) < 63)) fun x6 =>
  letO (cond (r3.2 != 0) true x6) fun x7 =>
  cond x7 (
   some true) (
   Option.bind (slcO r2.1 0 4) fun s8 =>
   letO (!(ByteArray.toList (strO s8) == ByteArray.toList (ByteArray.mk #[85, 77, 66, 49]))) fun x9 =>
   some x9)) fun p5 =>
  cond p5 (
   some false) (
   Option.bind (p_bundle_Nonce N a0.gBase 0) fun r10 =>
   Option.bind (slcO r2.1 0 47) fun s11 =>
   Option.bind (slcO r2.1 47 63) fun s12 =>
   Option.bind (p_aead_Open N a0.gKey r10 s11 s12) fun r13 =>
   cond (r13.2 != 0) (
    some false) (
    Option.bind (p_umbralaw16_BundleParts_L1 N r3 r2 a0 N 63 0) fun o => sumC o (fun p14 =>
     Option.bind (letO (p14 == ((r2.1.length : Int))) fun x36 =>
     cond x36 (
      Option.bind (p_umbralaw16_works N ) fun r37 =>
      some r37) (
      some false)) fun p35 =>
     some p35) (fun r => some r))))

theorem umbralaw16_BundleParts_ok {N : Nat} {a0 : S_umbralaw16_Sealed} {a1 : S_api_Asset} {r : Bool} (h : p_umbralaw16_BundleParts N a0 a1 = some r) : FnM Try.prog 5 [] [(S_umbralaw16_Sealed.enc a0), (S_api_Asset.enc a1)] (eB r) [] := by
 unfold p_umbralaw16_BundleParts at h
 refine fnM_of_aw (m := 140) (lo := 0) (rs := [.tmp 4]) hT Try.func5 rfl (by kernel_rfl) rfl ?_
 refine aw_sregU hT m_umbralaw16_BundleParts [] (by kernel_rfl) ?_
 refine aw_sreg ?_
 refine awl_u hT m_umbralaw16_BundleParts [] 1 (by kernel_rfl) ?_
 obtain ⟨r1, hr1, h⟩ := obind h
 refine awl_big (big_call [] (umbralaw16_few_ok hr1) umbralaw16_few_ok_c (by kernel_rfl) (by kernel_rfl)) (by kernel_rfl) ?_
 refine awl_u hT m_umbralaw16_BundleParts [] 1 (by kernel_rfl) ?_
 refine awl_nil ?_
 refine aw_sreg ?_
 refine awl_u hT m_umbralaw16_BundleParts [] 7 (by kernel_rfl) ?_
 obtain ⟨r2, hr2, h⟩ := obind h
 refine awl_big (big_call [] (bundle_Seal_ok hr2) bundle_Seal_ok_c (by kernel_rfl) (by kernel_rfl)) (by kernel_rfl) ?_
 refine awl_u hT m_umbralaw16_BundleParts [] 5 (by kernel_rfl) ?_
 refine awl_nil ?_
 refine aw_sreg ?_
 refine awl_u hT m_umbralaw16_BundleParts [] 1 (by kernel_rfl) ?_
 obtain ⟨r3, hr3, h⟩ := obind h
 refine awl_big (big_call [] (asset_Encode_ok hr3) asset_Encode_ok_c (by kernel_rfl) (by kernel_rfl)) (by kernel_rfl) ?_
 refine awl_u hT m_umbralaw16_BundleParts [] 5 (by kernel_rfl) ?_
 refine awl_nil ?_
 refine aw_seq ?_
 refine aw_sregU hT m_umbralaw16_BundleParts [] (by kernel_rfl) ?_
 refine aw_condH h (by kernel_rfl) (fun _ h => ?_) (fun _ h => ?_)
 ·refine aw_sreg ?_
  obtain ⟨r4, hr4, h⟩ := obind h
  refine awl_big (big_call [] (umbralaw16_works_ok hr4) umbralaw16_works_ok_c (by kernel_rfl) (by kernel_rfl)) (by kernel_rfl) ?_
  refine awl_u hT m_umbralaw16_BundleParts [] 1 (by kernel_rfl) ?_
  refine awl_nil ?_
  refine aw_ret (tn_r ?_)
  cases h
  exact fin_r (by kernel_rfl)
 ·refine aw_skip (tn_n ?_)
  refine aw_seq ?_
  obtain ⟨p5, h, g5⟩ := obind h
  refine aw_joinT ⟨[en 2 (.im (S_umbralaw16_Sealed.enc a0)), en 5 (eL 1 k8 r2.1), en 7 (eL 1 k8 r3.1), en 49 (eB p5)], [.var (S_api_Asset.enc r1)]⟩ ?_ ?_
  ·refine aw_region ?_
   obtain ⟨x6, hx6, h⟩ := letE h
   obtain ⟨x7, hx7, h⟩ := letE h
   refine awl_u hT m_umbralaw16_BundleParts [] 8 (by kernel_rfl) ?_
   refine awl_nms [(44, (eB x7))] (by subst hx7 hx6; kernel_rfl) ?_
   refine awl_split 44 h (by kernel_rfl) (fun h => ?_) (fun h => ?_)
   ·refine awl_u hT m_umbralaw16_BundleParts [44] 5 (by kernel_rfl) ?_
    refine awl_nil (tn_n ?_)
    cases h
    exact jr (by kernel_rfl)
   ·refine awl_u hT m_umbralaw16_BundleParts [44] 1 (by kernel_rfl) ?_
    obtain ⟨s8, hs8, h⟩ := obind h
    refine awl_big (big_slc hT (k := 1) k8 hs8 (by kernel_rfl) (by kernel_rfl)) (by kernel_rfl) ?_
    refine awl_big (big_b2s hT s8 (v := (eL 1 k8 s8)) (e := 5) (by kernel_rfl) (by kernel_rfl) (by kernel_rfl)) (by kernel_rfl) ?_
    obtain ⟨x9, hx9, h⟩ := letE h
    refine awl_u hT m_umbralaw16_BundleParts [44] 2 (by kernel_rfl) ?_
    refine awl_nms [(49, (eB x9))] (by subst hx9; kernel_rfl) ?_
    refine awl_nil (tn_n ?_)
    cases h
    exact jr (by kernel_rfl)
  ·have h := g5
   refine aw_condH h (by kernel_rfl) (fun _ h => ?_) (fun _ h => ?_)
   ·refine aw_sregU hT m_umbralaw16_BundleParts [] (by kernel_rfl) ?_
    refine aw_ret (tn_r ?_)
    cases h
    exact fin_r (by kernel_rfl)
   ·refine aw_skip (tn_n ?_)
    refine aw_seq ?_
    obtain ⟨r10, hr10, h⟩ := obind h
    obtain ⟨s11, hs11, h⟩ := obind h
    obtain ⟨s12, hs12, h⟩ := obind h
    obtain ⟨r13, hr13, h⟩ := obind h
    refine aw_sdrawV hT hmo m_umbralaw16_BundleParts [(4, (eA 12 1 k8 r10)), (6, (eL 1 k8 s11)), (8, (eL 1 k8 s12)), (9, (.tup [(eL 1 k8 r13.1), (j64 r13.2)]))] [] (by kernel_rfl) (by kernel_rfl) (by kernel_rfl) ⟨fun _ => big_call0 (bundle_Nonce_ok hr10) bundle_Nonce_ok_c (by kernel_rfl) (by kernel_rfl) (by kernel_rfl), fun _ => big_slc hT (k := 1) k8 hs11 (by kernel_rfl) (by kernel_rfl), fun _ => big_slc hT (k := 1) k8 hs12 (by kernel_rfl) (by kernel_rfl), fun _ => big_call0 (aead_Open_ok hr13) aead_Open_ok_c (by kernel_rfl) (by kernel_rfl) (by kernel_rfl), trivial⟩ trivial ?_
    refine aw_sregU hT m_umbralaw16_BundleParts [] (by kernel_rfl) ?_
    refine aw_condH h (by kernel_rfl) (fun _ h => ?_) (fun _ h => ?_)
    ·refine aw_sregU hT m_umbralaw16_BundleParts [] (by kernel_rfl) ?_
     refine aw_ret (tn_r ?_)
     cases h
     exact fin_r (by kernel_rfl)
    ·refine aw_skip (tn_n ?_)
     refine aw_sregU hT m_umbralaw16_BundleParts [] (by kernel_rfl) ?_
     refine aw_seq ?_
     refine aw_sregU hT m_umbralaw16_BundleParts [] (by kernel_rfl) ?_
     obtain ⟨op14, h, g14⟩ := obind h
     refine aw_joinSK (fun p14 => ⟨[en 5 (eL 1 k8 r2.1), en 11 (j64 p14)], [.var (S_api_Asset.enc r1)]⟩) g14 ?_ (fun p14 h => ?_)
     ·refine aw_block (aw_loop (fun k s => ∃ s15 s16, p_umbralaw16_BundleParts_L1 N r3 r2 a0 k s15 s16 = some op14 ∧ JR (Fr.f 140 0) ⟨[en 2 (.im (S_umbralaw16_Sealed.enc a0)), en 5 (eL 1 k8 r2.1), en 7 (eL 1 k8 r3.1), en 11 (j64 s15), en 12 (j64 s16)], [.var (S_api_Asset.enc r1)]⟩ s) (fun k s hI => ?_) N _ ⟨_, _, h, jr (by kernel_rfl)⟩)
      obtain ⟨s15, s16, h, hj⟩ := hI
      cases k with
      | zero => cases h
      | succ k =>
       refine aw_jr hj ?_
       refine aw_seq ?_
       refine aw_sreg ?_
       refine awl_u hT m_umbralaw16_BundleParts [] 3 (by kernel_rfl) ?_
       obtain ⟨r17, hr17, h⟩ := obind h
       refine awl_big (big_call [] (manifest_Chunks_ok hr17) manifest_Chunks_ok_c (by kernel_rfl) (by kernel_rfl)) (by kernel_rfl) ?_
       refine awl_u hT m_umbralaw16_BundleParts [] 1 (by kernel_rfl) ?_
       refine awl_nil ?_
       refine aw_condH h (by kernel_rfl) (fun _ h => ?_) (fun _ h => ?_)
       ·refine aw_skip (tn_n ?_)
        refine aw_seq ?_
        refine aw_block ?_
        obtain ⟨x18, hx18, h⟩ := letE h
        refine aw_sregU hT m_umbralaw16_BundleParts [] (by kernel_rfl) ?_
        refine aw_nms [(13, (j64 (imin 256 x18)))] (by subst hx18; kernel_rfl) ?_
        refine aw_seq ?_
        obtain ⟨x19, hx19, h⟩ := letE h
        obtain ⟨x20, hx20, h⟩ := letE h
        refine aw_sregU hT m_umbralaw16_BundleParts [] (by kernel_rfl) ?_
        refine aw_nms [(84, (eB (decide (x19 < x20))))] (by subst hx20 hx19; kernel_rfl) ?_
        refine aw_condH h (by kernel_rfl) (fun _ h => ?_) (fun _ h => ?_)
        ·refine aw_sregU hT m_umbralaw16_BundleParts [] (by kernel_rfl) ?_
         cases h
         have h := g14
         refine aw_ret (tn_r (inB_r (tn_r (tn_r (inB_r (tn_r (tn_r ?_)))))))
         obtain rfl := sum_e h
         exact fin_r (by kernel_rfl)
        ·refine aw_skip (tn_n ?_)
         obtain ⟨r21, hr21, h⟩ := obind h
         obtain ⟨s22, hs22, h⟩ := obind h
         obtain ⟨z23, hz23, h⟩ := obind h
         obtain ⟨s24, hs24, h⟩ := obind h
         obtain ⟨z25, hz25, h⟩ := obind h
         obtain ⟨x26, hx26, h⟩ := letE h
         obtain ⟨s27, hs27, h⟩ := obind h
         obtain ⟨r28, hr28, h⟩ := obind h
         refine aw_sdrawV hT hmo m_umbralaw16_BundleParts [(6, (eA 12 1 k8 r21)), (12, (eL 1 k8 s22)), (15, (eL 1 k8 s24)), (24, (eL 1 k8 s27)), (25, (.tup [(eL 1 k8 r28.1), (j64 r28.2)]))] [(7, fun _ => ((eO 1 1 k8 (([] : List Int))), [.var (S_api_Asset.enc r1), .tail ((([] : List Int)).length * 1)])), (13, fun _ => ((eO 1 1 k8 z23), [.var (S_api_Asset.enc r1), .tail (z23.length * 1)])), (16, fun _ => ((eO 1 1 k8 z25), [.var (S_api_Asset.enc r1), .tail (z25.length * 1)]))] (by subst hx26; kernel_rfl) (by subst hx26; kernel_rfl) (by kernel_rfl) ⟨fun _ => big_call0 (bundle_Nonce_ok hr21) bundle_Nonce_ok_c (by kernel_rfl) (by kernel_rfl) (by kernel_rfl), fun _ => big_slc hT (k := 1) k8 hs22 (by kernel_rfl) (by kernel_rfl), fun _ => big_slc hT (k := 1) k8 hs24 (by kernel_rfl) (by kernel_rfl), fun _ => big_slc hT (k := 1) k8 hs27 (by subst hx26; kernel_rfl) (by subst hx26; kernel_rfl), fun _ => big_call0 (aead_Open_ok hr28) aead_Open_ok_c (by subst hx26; kernel_rfl) (by subst hx26; kernel_rfl) (by subst hx26; kernel_rfl), trivial⟩ ⟨big_at (big_rowO hT k8 (k := 1) ([] : List Int) (by kernel_rfl) (by kernel_rfl)) (by subst hx26; kernel_rfl), big_at (big_app hT k8 (id := 1) (k := 1) hz23 (by kernel_rfl) (by kernel_rfl)) (by subst hx26; kernel_rfl), big_at (big_app hT k8 (id := 1) (k := 1) hz25 (by kernel_rfl) (by kernel_rfl)) (by subst hx26; kernel_rfl), trivial⟩ ?_
         refine aw_seq ?_
         obtain ⟨p29, h, g29⟩ := obind h
         refine aw_joinT ⟨[en 2 (.im (S_umbralaw16_Sealed.enc a0)), en 5 (eL 1 k8 r2.1), en 7 (eL 1 k8 r3.1), en 11 (j64 s15), en 12 (j64 s16), en 13 (j64 (imin 256 x18)), en 128 (eB p29)], [.var (S_api_Asset.enc r1), .tail (z25.length * 1)]⟩ ?_ ?_
         ·refine aw_region ?_
          refine awl_u hT m_umbralaw16_BundleParts [] 3 (by kernel_rfl) ?_
          refine awl_split 116 h (by kernel_rfl) (fun h => ?_) (fun h => ?_)
          ·refine awl_u hT m_umbralaw16_BundleParts [116] 12 (by kernel_rfl) ?_
           refine awl_nil (tn_n ?_)
           cases h
           exact jr (by kernel_rfl)
          ·obtain ⟨x30, hx30, h⟩ := letE h
           refine awl_u hT m_umbralaw16_BundleParts [116] 8 (by kernel_rfl) ?_
           refine awl_nms [(124, (j64 x30))] (by subst hx30; kernel_rfl) ?_
           obtain ⟨s31, hs31, h⟩ := obind h
           refine awl_big (big_slc hT (k := 1) k8 hs31 (by kernel_rfl) (by kernel_rfl)) (by kernel_rfl) ?_
           obtain ⟨r32, hr32, h⟩ := obind h
           refine awl_big (big_call [] (bytes_Equal_ok hr32) bytes_Equal_ok_c (by kernel_rfl) (by kernel_rfl)) (by kernel_rfl) ?_
           refine awl_u hT m_umbralaw16_BundleParts [116] 2 (by kernel_rfl) ?_
           refine awl_nil (tn_n ?_)
           cases h
           exact jr (by kernel_rfl)
         ·have h := g29
          refine aw_condH h (by kernel_rfl) (fun _ h => ?_) (fun _ h => ?_)
          ·refine aw_sregU hT m_umbralaw16_BundleParts [] (by kernel_rfl) ?_
           cases h
           have h := g14
           refine aw_ret (tn_r (inB_r (tn_r (tn_r (inB_r (tn_r (tn_r ?_)))))))
           obtain rfl := sum_e h
           exact fin_r (by kernel_rfl)
          ·refine aw_skip (tn_n ?_)
           refine aw_region ?_
           obtain ⟨x34, hx34, h⟩ := letE h
           refine awl_u hT m_umbralaw16_BundleParts [] 5 (by kernel_rfl) ?_
           refine awl_nms [(11, (j64 (I64 (s15 + x34))))] (by subst hx34; kernel_rfl) ?_
           refine awl_nil (inB_n (tn_n ?_))
           refine aw_regU hT m_umbralaw16_BundleParts [] (by kernel_rfl) (tn_n ?_)
           exact ⟨k, Nat.lt_succ_self k, _, _, h, jr (by kernel_rfl)⟩
       ·refine aw_exit (tn_x (tn_x (inB_e (tn_n ?_))))
        cases h
        exact ⟨_, rfl, jr (by kernel_rfl)⟩
     ·refine (tn_n ?_)
      obtain ⟨p35, h, g35⟩ := obind h
      refine aw_joinT ⟨[en 4 (eB p35)], [.var (S_api_Asset.enc r1)]⟩ ?_ ?_
      ·refine aw_region ?_
       obtain ⟨x36, hx36, h⟩ := letE h
       refine awl_u hT m_umbralaw16_BundleParts [] 5 (by kernel_rfl) ?_
       refine awl_nms [(137, (eB x36))] (by subst hx36; kernel_rfl) ?_
       refine awl_split 137 h (by kernel_rfl) (fun h => ?_) (fun h => ?_)
       ·obtain ⟨r37, hr37, h⟩ := obind h
        refine awl_big (big_call [] (umbralaw16_works_ok hr37) umbralaw16_works_ok_c (by kernel_rfl) (by kernel_rfl)) (by kernel_rfl) ?_
        refine awl_u hT m_umbralaw16_BundleParts [137] 2 (by kernel_rfl) ?_
        refine awl_nil (tn_n ?_)
        cases h
        exact jr (by kernel_rfl)
       ·refine awl_u hT m_umbralaw16_BundleParts [137] 3 (by kernel_rfl) ?_
        refine awl_nil (tn_n ?_)
        cases h
        exact jr (by kernel_rfl)
      ·have h := g35
       refine aw_ret ?_
       cases h
       exact fin_r (by kernel_rfl)

end Go.UK

