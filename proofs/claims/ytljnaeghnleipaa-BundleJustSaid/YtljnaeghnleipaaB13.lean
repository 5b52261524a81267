/- A part of the proof: what the functions of the program compute. -/
import Derived.Test.YtljnaeghnleipaaB12
namespace Go.UK
open Go Go.Proofs
set_option maxRecDepth 20000
set_option maxHeartbeats 4000000
set_option linter.all false

attribute [local irreducible] owp awl aw FnM NatFn opS Stab TOK Big
def m_umbralaw16_BundleJust : Nat → Bool := imL [2]

def p_umbralaw16_BundleJust (N : Nat) (a0 : (Vector Int 32)) (a1 : (List Int)) : Option (Bool) :=
 letO (imin ((a1.length : Int)) 1200) fun x2 =>
 Option.bind (slcO a1 0 x2) fun s3 =>
 Option.bind (p_bundle_Open N a0 s3) fun r4 =>
 cond (r4.2.2 != 0) (
  Option.bind (letO (S_api_Manifest.eq r4.1 (S_api_Manifest.mk 0 0 0 (Vector.replicate 8 0) 0 0 0 0)) fun x6 =>
  cond x6 (
   Option.bind (p_asset_Same N r4.2.1 (S_api_Asset.mk 0 (S_api_Mesh.mk [] [] []) (S_api_Texture.mk 0 []) (S_api_Material.mk 0 (#v[0, 0, 0]) 0) (S_api_Light.mk 0 (#v[0, 0, 0]) (S_api_Point.mk 0 0 0) (S_api_Point.mk 0 0 0) (S_api_Point.mk 0 0 0)))) fun r7 =>
   cond r7 (
    Option.bind (p_umbralaw16_works N ) fun r8 =>
    some r8) (
    some false)) (
   some false)) fun p5 =>
  some p5) (
  letO (decide (((s3.length : Int)) < 63)) fun x9 =>
  cond x9 (
   some false) (
   Option.bind (slcO s3 4 12) fun s10 =>
   Option.bind (vecO 8 s10) fun v11 =>
   Option.bind (p_bundle_Seal N a0 v11 r4.1 r4.2.1) fun r12 =>
   Option.bind (cond (r12.2 == 0) (
    Option.bind (p_bytes_Equal N s3 r12.1) fun r14 =>
    cond r14 (
     Option.bind (p_umbralaw16_works N ) fun r15 =>
     some r15) (
     some false)) (
    some false)) fun p13 =>
   some p13))

theorem umbralaw16_BundleJust_ok {N : Nat} {a0 : (Vector Int 32)} {a1 : (List Int)} {r : Bool} (h : p_umbralaw16_BundleJust N a0 a1 = some r) : FnM Try.prog 4 [] [(eA 32 1 k8 a0), (eL 1 k8 a1)] (eB r) [] := by
 unfold p_umbralaw16_BundleJust at h
 refine fnM_of_aw (m := 59) (lo := 0) (rs := [.tmp 4]) hT Try.func4 rfl (by kernel_rfl) rfl ?_
 refine aw_sregU hT m_umbralaw16_BundleJust [] (by kernel_rfl) ?_
 refine aw_sreg ?_
 obtain ⟨x2, hx2, h⟩ := letE h
 refine awl_u hT m_umbralaw16_BundleJust [] 4 (by kernel_rfl) ?_
 refine awl_nms [(13, (j64 x2))] (by subst hx2; kernel_rfl) ?_
 obtain ⟨s3, hs3, h⟩ := obind h
 refine awl_big (big_slc hT (k := 1) k8 hs3 (by kernel_rfl) (by kernel_rfl)) (by kernel_rfl) ?_
 refine awl_u hT m_umbralaw16_BundleJust [] 1 (by kernel_rfl) ?_
 refine awl_nil ?_
 refine aw_sreg ?_
 refine awl_u hT m_umbralaw16_BundleJust [] 2 (by kernel_rfl) ?_
 obtain ⟨r4, hr4, h⟩ := obind h
 refine awl_big (big_call [] (bundle_Open_ok hr4) bundle_Open_ok_c (by kernel_rfl) (by kernel_rfl)) (by kernel_rfl) ?_
 refine awl_u hT m_umbralaw16_BundleJust [] 9 (by kernel_rfl) ?_
 refine awl_nil ?_
 refine aw_seq ?_
 refine aw_sregU hT m_umbralaw16_BundleJust [] (by kernel_rfl) ?_
 refine aw_condH h (by kernel_rfl) (fun _ h => ?_) (fun _ h => ?_)
 ·obtain ⟨p5, h, g5⟩ := obind h
  refine aw_joinT ⟨[en 4 (eB p5)], [.var (S_api_Manifest.enc r4.1), .var (S_api_Asset.enc r4.2.1)]⟩ ?_ ?_
  ·refine aw_region ?_
   refine awl_u hT m_umbralaw16_BundleJust [] 2 (by kernel_rfl) ?_
   refine awl_big (big_eql eqT_27 (r4.1 : S_api_Manifest) (S_api_Manifest.mk 0 0 0 (Vector.replicate 8 0) 0 0 0 0 : S_api_Manifest) (by kernel_rfl) (by kernel_rfl) (fun _ => rfl) (fun _ => rfl) (by kernel_rfl) (by kernel_rfl)) (by kernel_rfl) ?_
   obtain ⟨x6, hx6, h⟩ := letE h
   refine awl_u hT m_umbralaw16_BundleJust [] 1 (by kernel_rfl) ?_
   refine awl_nms [(27, (eB x6))] (by subst hx6; kernel_rfl) ?_
   refine awl_split 27 h (by kernel_rfl) (fun h => ?_) (fun h => ?_)
   ·refine awl_u hT m_umbralaw16_BundleJust [27] 2 (by kernel_rfl) ?_
    obtain ⟨r7, hr7, h⟩ := obind h
    refine awl_big (big_call [] (asset_Same_ok hr7) asset_Same_ok_c (by kernel_rfl) (by kernel_rfl)) (by kernel_rfl) ?_
    refine awl_u hT m_umbralaw16_BundleJust [27] 2 (by kernel_rfl) ?_
    refine awl_split 32 h (by kernel_rfl) (fun h => ?_) (fun h => ?_)
    ·obtain ⟨r8, hr8, h⟩ := obind h
     refine awl_big (big_call [] (umbralaw16_works_ok hr8) umbralaw16_works_ok_c (by kernel_rfl) (by kernel_rfl)) (by kernel_rfl) ?_
     refine awl_u hT m_umbralaw16_BundleJust [32] 2 (by kernel_rfl) ?_
     refine awl_nil (tn_n ?_)
     cases h
     exact jr (by kernel_rfl)
    ·refine awl_u hT m_umbralaw16_BundleJust [32] 3 (by kernel_rfl) ?_
     refine awl_nil (tn_n ?_)
     cases h
     exact jr (by kernel_rfl)
   ·refine awl_u hT m_umbralaw16_BundleJust [27, 32] 8 (by kernel_rfl) ?_
    refine awl_nil (tn_n ?_)
    cases h
    exact jr (by kernel_rfl)
  ·have h := g5
   refine aw_ret (tn_r ?_)
   cases h
   exact fin_r (by kernel_rfl)
 ·refine aw_skip (tn_n ?_)
  refine aw_seq ?_
  obtain ⟨x9, hx9, h⟩ := letE h
  refine aw_sregU hT m_umbralaw16_BundleJust [] (by kernel_rfl) ?_
  refine aw_nms [(37, (eB x9))] (by subst hx9; kernel_rfl) ?_
  refine aw_condH h (by kernel_rfl) (fun _ h => ?_) (fun _ h => ?_)
  ·refine aw_sregU hT m_umbralaw16_BundleJust [] (by kernel_rfl) ?_
   refine aw_ret (tn_r ?_)
   cases h
   exact fin_r (by kernel_rfl)
  ·refine aw_skip (tn_n ?_)
   obtain ⟨s10, hs10, h⟩ := obind h
   obtain ⟨v11, hv11, h⟩ := obind h
   obtain ⟨r12, hr12, h⟩ := obind h
   refine aw_sdrawV hT hmo m_umbralaw16_BundleJust [(2, (eL 1 k8 s10)), (3, (.im (eA 8 1 k8 v11))), (7, (.tup [(eL 1 k8 r12.1), (j64 r12.2)]))] [] (by kernel_rfl) (by kernel_rfl) (by kernel_rfl) ⟨fun _ => big_slc hT (k := 1) k8 hs10 (by kernel_rfl) (by kernel_rfl), fun _ => big_s2a hT k8 s10 v11 hv11 rfl (by kernel_rfl) (by kernel_rfl), fun _ => big_call0 (bundle_Seal_ok hr12) bundle_Seal_ok_c (by kernel_rfl) (by kernel_rfl) (by kernel_rfl), trivial⟩ trivial ?_
   obtain ⟨p13, h, g13⟩ := obind h
   refine aw_joinT ⟨[en 4 (eB p13)], [.var (S_api_Manifest.enc r4.1), .var (S_api_Asset.enc r4.2.1)]⟩ ?_ ?_
   ·refine aw_region ?_
    refine awl_u hT m_umbralaw16_BundleJust [] 3 (by kernel_rfl) ?_
    refine awl_split 51 h (by kernel_rfl) (fun h => ?_) (fun h => ?_)
    ·refine awl_u hT m_umbralaw16_BundleJust [51] 2 (by kernel_rfl) ?_
     obtain ⟨r14, hr14, h⟩ := obind h
     refine awl_big (big_call [] (bytes_Equal_ok hr14) bytes_Equal_ok_c (by kernel_rfl) (by kernel_rfl)) (by kernel_rfl) ?_
     refine awl_u hT m_umbralaw16_BundleJust [51] 2 (by kernel_rfl) ?_
     refine awl_split 56 h (by kernel_rfl) (fun h => ?_) (fun h => ?_)
     ·obtain ⟨r15, hr15, h⟩ := obind h
      refine awl_big (big_call [] (umbralaw16_works_ok hr15) umbralaw16_works_ok_c (by kernel_rfl) (by kernel_rfl)) (by kernel_rfl) ?_
      refine awl_u hT m_umbralaw16_BundleJust [56] 2 (by kernel_rfl) ?_
      refine awl_nil (tn_n ?_)
      cases h
      exact jr (by kernel_rfl)
     ·refine awl_u hT m_umbralaw16_BundleJust [56] 3 (by kernel_rfl) ?_
      refine awl_nil (tn_n ?_)
      cases h
      exact jr (by kernel_rfl)
    ·refine awl_u hT m_umbralaw16_BundleJust [51, 56] 8 (by kernel_rfl) ?_
     refine awl_nil (tn_n ?_)
     cases h
     exact jr (by kernel_rfl)
   ·have h := g13
    refine aw_ret ?_
    cases h
    exact fin_r (by kernel_rfl)

end Go.UK

