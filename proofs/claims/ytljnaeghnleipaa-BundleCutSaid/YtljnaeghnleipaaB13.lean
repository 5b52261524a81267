/- A part of the proof: what the functions of the program compute. -/
import Derived.Test.YtljnaeghnleipaaB12
namespace Go.UK
open Go Go.Proofs
set_option maxRecDepth 20000
set_option maxHeartbeats 4000000
set_option linter.all false

attribute [local irreducible] owp awl aw FnM NatFn opS Stab TOK Big
def m_umbralaw16_BundleCut : Nat → Bool := imL [3]

def p_umbralaw16_BundleCut (N : Nat) (a0 : S_umbralaw16_Sealed) (a1 : S_api_Asset) (a2 : Int) : Option (Bool) :=
 Option.bind (p_umbralaw16_few N a1) fun r1 =>
 Option.bind (p_bundle_Seal N a0.gKey a0.gBase a0.gM r1) fun r2 =>
 letO (((r2.1.length : Int)) == 0) fun x3 =>
 letO (cond (r2.2 != 0) true x3) fun x4 =>
 cond x4 (
  Option.bind (cond (r2.2 != 0) (
   Option.bind (p_umbralaw16_works N ) fun r6 =>
   some r6) (
   some false)) fun p5 =>
  some p5) (
  Option.bind (remO .i64 a2 ((r2.1.length : Int))) fun x7 =>
  letO (I64 (x7 + ((r2.1.length : Int)))) fun x8 =>
  Option.bind (remO .i64 x8 ((r2.1.length : Int))) fun x9 =>
  Option.bind (slcO r2.1 0 x9) fun s10 =>
  Option.bind (p_bundle_Open N a0.gKey s10) fun r11 =>
  Option.bind (appO 1 (([] : List Int)) r2.1) fun z12 =>
  Option.bind (appO 1 z12 (([0] : List Int))) fun z13 =>
  Option.bind (p_bundle_Open N a0.gKey z13) fun r14 =>
  letO (cond (r11.2.2 == 0) true (r14.2.2 != 7)) fun x15 =>
  cond x15 (
   some false) (
   letO (decide (((r2.1.length : Int)) < 615)) fun x16 =>
   cond x16 (
    Option.bind (p_umbralaw16_works N ) fun r17 =>
    some r17) (
    Option.bind (slcO r2.1 0 63) fun s18 =>
    Option.bind (appO 1 (([] : List Int)) s18) fun z19 =>
    Option.bind (slcO r2.1 339 615) fun s20 =>
    Option.bind (appO 1 z19 s20) fun z21 =>
    Option.bind (slcO r2.1 63 339) fun s22 =>
    Option.bind (appO 1 z21 s22) fun z23 =>
    Option.bind (slcO r2.1 615 ((r2.1.length : Int))) fun s24 =>
    Option.bind (appO 1 z23 s24) fun z25 =>
    Option.bind (p_bundle_Open N a0.gKey z25) fun r26 =>
    Option.bind (cond (r26.2.2 == 7) (
     Option.bind (p_umbralaw16_works N ) fun r28 =>
     some r28) (
     some false)) fun p27 =>
    some p27)))

theorem umbralaw16_BundleCut_ok {N : Nat} {a0 : S_umbralaw16_Sealed} {a1 : S_api_Asset} {a2 : Int} {r : Bool} (h : p_umbralaw16_BundleCut N a0 a1 a2 = some r) : FnM Try.prog 6 [] [(S_umbralaw16_Sealed.enc a0), (S_api_Asset.enc a1), (j64 a2)] (eB r) [] := by
 unfold p_umbralaw16_BundleCut at h
 refine fnM_of_aw (m := 116) (lo := 0) (rs := [.tmp 6]) hT Try.func6 rfl (by kernel_rfl) rfl ?_
 refine aw_sregU hT m_umbralaw16_BundleCut [] (by kernel_rfl) ?_
 refine aw_sreg ?_
 refine awl_u hT m_umbralaw16_BundleCut [] 1 (by kernel_rfl) ?_
 obtain ⟨r1, hr1, h⟩ := obind h
 refine awl_big (big_call [] (umbralaw16_few_ok hr1) umbralaw16_few_ok_c) (by kernel_rfl) ?_
 refine awl_u hT m_umbralaw16_BundleCut [] 1 (by kernel_rfl) ?_
 refine awl_nil ?_
 refine aw_sreg ?_
 refine awl_u hT m_umbralaw16_BundleCut [] 7 (by kernel_rfl) ?_
 obtain ⟨r2, hr2, h⟩ := obind h
 refine awl_big (big_call [] (bundle_Seal_ok hr2) bundle_Seal_ok_c) (by kernel_rfl) ?_
 refine awl_u hT m_umbralaw16_BundleCut [] 5 (by kernel_rfl) ?_
 refine awl_nil ?_
 refine aw_seq ?_
 obtain ⟨x3, hx3, h⟩ := letE h
 obtain ⟨x4, hx4, h⟩ := letE h
 refine aw_sregU hT m_umbralaw16_BundleCut [] (by kernel_rfl) ?_
 refine aw_nms [(39, (eB x4))] (by subst hx4 hx3; kernel_rfl) ?_
 refine aw_condH h (by kernel_rfl) (fun _ h => ?_) (fun _ h => ?_)
 ·obtain ⟨p5, h, g5⟩ := obind h
  refine aw_joinT ⟨[en 6 (eB p5)], [.var (S_api_Asset.enc r1)]⟩ ?_ ?_
  ·refine aw_region ?_
   refine awl_u hT m_umbralaw16_BundleCut [] 3 (by kernel_rfl) ?_
   refine awl_split 42 h (by kernel_rfl) (fun h => ?_) (fun h => ?_)
   ·obtain ⟨r6, hr6, h⟩ := obind h
    refine awl_big (big_call [] (umbralaw16_works_ok hr6) umbralaw16_works_ok_c) (by kernel_rfl) ?_
    refine awl_u hT m_umbralaw16_BundleCut [42] 2 (by kernel_rfl) ?_
    refine awl_nil (tn_n ?_)
    cases h
    exact jr
   ·refine awl_u hT m_umbralaw16_BundleCut [42] 3 (by kernel_rfl) ?_
    refine awl_nil (tn_n ?_)
    cases h
    exact jr
  ·have h := g5
   refine aw_ret (tn_r ?_)
   cases h
   exact fin_r
 ·refine aw_skip (tn_n ?_)
  refine aw_sreg ?_
  refine awl_u hT m_umbralaw16_BundleCut [] 3 (by kernel_rfl) ?_
  obtain ⟨x7, hx7, h⟩ := obind h
  refine awl_big (big_rem hT hx7 (by kernel_rfl) (by kernel_rfl)) (by kernel_rfl) ?_
  obtain ⟨x8, hx8, h⟩ := letE h
  refine awl_u hT m_umbralaw16_BundleCut [] 5 (by kernel_rfl) ?_
  refine awl_nms [(51, (j64 x8))] (by subst hx8; kernel_rfl) ?_
  obtain ⟨x9, hx9, h⟩ := obind h
  refine awl_big (big_rem hT hx9 (by kernel_rfl) (by kernel_rfl)) (by kernel_rfl) ?_
  refine awl_u hT m_umbralaw16_BundleCut [] 1 (by kernel_rfl) ?_
  refine awl_nil ?_
  obtain ⟨s10, hs10, h⟩ := obind h
  obtain ⟨r11, hr11, h⟩ := obind h
  refine aw_seq (aw_drawS2 hT hmo m_umbralaw16_BundleCut [false, false] [(4, (eL 1 k8 s10)), (5, (.tup [(S_api_Manifest.enc r11.1), (S_api_Asset.enc r11.2.1), (j64 r11.2.2)]))] [(10, ⟨(.ref 1 [] 0), 1, .var cv_2, .dead⟩), (11, ⟨(.ref 2 [] 0), 2, .var cv_3, .dead⟩)] [[[.var (S_api_Asset.enc r1), .dead, .dead], [.var (S_api_Asset.enc r1), .dead, .var cv_3]], [[.var (S_api_Asset.enc r1), .dead, .dead], [.var (S_api_Asset.enc r1), .var cv_2, .dead]]] (by kernel_rfl) (by kernel_rfl) (by kernel_rfl) ⟨fun _ => big_slc hT (k := 1) k8 hs10, fun _ => big_call0 (bundle_Open_ok hr11) bundle_Open_ok_c (by kernel_rfl) (by kernel_rfl) (by kernel_rfl), trivial⟩ (by kernel_rfl) ⟨⟨big_allocS hT 1 (by kernel_rfl) (by kernel_rfl) (by kernel_rfl), big_allocS hT 1 (by kernel_rfl) (by kernel_rfl) (by kernel_rfl), trivial⟩, ⟨big_allocS hT 2 (by kernel_rfl) (by kernel_rfl) (by kernel_rfl), big_allocS hT 2 (by kernel_rfl) (by kernel_rfl) (by kernel_rfl), trivial⟩, trivial⟩ [] (by kernel_rfl) ?_)
  obtain ⟨z12, hz12, h⟩ := obind h
  obtain ⟨z13, hz13, h⟩ := obind h
  obtain ⟨r14, hr14, h⟩ := obind h
  refine aw_seq (aw_drawS2 hT hmo m_umbralaw16_BundleCut [true, false, false] [(5, (.sl 1 1 [(k8 0)])), (7, (.tup [(S_api_Manifest.enc r14.1), (S_api_Asset.enc r14.2.1), (j64 r14.2.2)]))] [(2, ⟨(eO 3 1 k8 (([] : List Int))), 3, .tail ((([] : List Int)).length * 1), .tail 0⟩), (4, ⟨(eO 3 1 k8 z12), 3, .tail (z12.length * 1), .tail ((([] : List Int)).length * 1)⟩), (6, ⟨(eO 3 1 k8 z13), 3, .tail (z13.length * 1), .tail (z12.length * 1)⟩), (12, ⟨(.ref 4 [] 0), 4, .var cv_2, .dead⟩), (13, ⟨(.ref 5 [] 0), 5, .var cv_3, .dead⟩)] [[[.var (S_api_Asset.enc r1), .var (S_api_Manifest.enc r11.1), .var (S_api_Asset.enc r11.2.1), .tail 0, .dead, .dead], [.var (S_api_Asset.enc r1), .var (S_api_Manifest.enc r11.1), .var (S_api_Asset.enc r11.2.1), .tail 0, .dead, .var cv_3], [.var (S_api_Asset.enc r1), .var (S_api_Manifest.enc r11.1), .var (S_api_Asset.enc r11.2.1), .tail 0, .var cv_2, .dead], [.var (S_api_Asset.enc r1), .var (S_api_Manifest.enc r11.1), .var (S_api_Asset.enc r11.2.1), .tail 0, .var cv_2, .var cv_3]], [[.var (S_api_Asset.enc r1), .var (S_api_Manifest.enc r11.1), .var (S_api_Asset.enc r11.2.1), .tail ((([] : List Int)).length * 1), .dead, .dead], [.var (S_api_Asset.enc r1), .var (S_api_Manifest.enc r11.1), .var (S_api_Asset.enc r11.2.1), .tail ((([] : List Int)).length * 1), .dead, .var cv_3], [.var (S_api_Asset.enc r1), .var (S_api_Manifest.enc r11.1), .var (S_api_Asset.enc r11.2.1), .tail ((([] : List Int)).length * 1), .var cv_2, .dead], [.var (S_api_Asset.enc r1), .var (S_api_Manifest.enc r11.1), .var (S_api_Asset.enc r11.2.1), .tail ((([] : List Int)).length * 1), .var cv_2, .var cv_3]], [[.var (S_api_Asset.enc r1), .var (S_api_Manifest.enc r11.1), .var (S_api_Asset.enc r11.2.1), .tail (z12.length * 1), .dead, .dead], [.var (S_api_Asset.enc r1), .var (S_api_Manifest.enc r11.1), .var (S_api_Asset.enc r11.2.1), .tail (z12.length * 1), .dead, .var cv_3], [.var (S_api_Asset.enc r1), .var (S_api_Manifest.enc r11.1), .var (S_api_Asset.enc r11.2.1), .tail (z12.length * 1), .var cv_2, .dead], [.var (S_api_Asset.enc r1), .var (S_api_Manifest.enc r11.1), .var (S_api_Asset.enc r11.2.1), .tail (z12.length * 1), .var cv_2, .var cv_3]], [[.var (S_api_Asset.enc r1), .var (S_api_Manifest.enc r11.1), .var (S_api_Asset.enc r11.2.1), .tail 0, .dead, .dead], [.var (S_api_Asset.enc r1), .var (S_api_Manifest.enc r11.1), .var (S_api_Asset.enc r11.2.1), .tail 0, .dead, .var cv_3], [.var (S_api_Asset.enc r1), .var (S_api_Manifest.enc r11.1), .var (S_api_Asset.enc r11.2.1), .tail (z13.length * 1), .dead, .dead], [.var (S_api_Asset.enc r1), .var (S_api_Manifest.enc r11.1), .var (S_api_Asset.enc r11.2.1), .tail (z13.length * 1), .dead, .var cv_3], [.var (S_api_Asset.enc r1), .var (S_api_Manifest.enc r11.1), .var (S_api_Asset.enc r11.2.1), .tail (z12.length * 1), .dead, .dead], [.var (S_api_Asset.enc r1), .var (S_api_Manifest.enc r11.1), .var (S_api_Asset.enc r11.2.1), .tail (z12.length * 1), .dead, .var cv_3], [.var (S_api_Asset.enc r1), .var (S_api_Manifest.enc r11.1), .var (S_api_Asset.enc r11.2.1), .tail (z13.length * 1), .dead, .dead], [.var (S_api_Asset.enc r1), .var (S_api_Manifest.enc r11.1), .var (S_api_Asset.enc r11.2.1), .tail (z13.length * 1), .dead, .var cv_3], [.var (S_api_Asset.enc r1), .var (S_api_Manifest.enc r11.1), .var (S_api_Asset.enc r11.2.1), .tail ((([] : List Int)).length * 1), .dead, .dead], [.var (S_api_Asset.enc r1), .var (S_api_Manifest.enc r11.1), .var (S_api_Asset.enc r11.2.1), .tail ((([] : List Int)).length * 1), .dead, .var cv_3], [.var (S_api_Asset.enc r1), .var (S_api_Manifest.enc r11.1), .var (S_api_Asset.enc r11.2.1), .tail (z13.length * 1), .dead, .dead], [.var (S_api_Asset.enc r1), .var (S_api_Manifest.enc r11.1), .var (S_api_Asset.enc r11.2.1), .tail (z13.length * 1), .dead, .var cv_3], [.var (S_api_Asset.enc r1), .var (S_api_Manifest.enc r11.1), .var (S_api_Asset.enc r11.2.1), .tail (z12.length * 1), .dead, .dead], [.var (S_api_Asset.enc r1), .var (S_api_Manifest.enc r11.1), .var (S_api_Asset.enc r11.2.1), .tail (z12.length * 1), .dead, .var cv_3], [.var (S_api_Asset.enc r1), .var (S_api_Manifest.enc r11.1), .var (S_api_Asset.enc r11.2.1), .tail (z13.length * 1), .dead, .dead], [.var (S_api_Asset.enc r1), .var (S_api_Manifest.enc r11.1), .var (S_api_Asset.enc r11.2.1), .tail (z13.length * 1), .dead, .var cv_3]], [[.var (S_api_Asset.enc r1), .var (S_api_Manifest.enc r11.1), .var (S_api_Asset.enc r11.2.1), .tail 0, .dead, .dead], [.var (S_api_Asset.enc r1), .var (S_api_Manifest.enc r11.1), .var (S_api_Asset.enc r11.2.1), .tail 0, .var cv_2, .dead], [.var (S_api_Asset.enc r1), .var (S_api_Manifest.enc r11.1), .var (S_api_Asset.enc r11.2.1), .tail (z13.length * 1), .dead, .dead], [.var (S_api_Asset.enc r1), .var (S_api_Manifest.enc r11.1), .var (S_api_Asset.enc r11.2.1), .tail (z13.length * 1), .var cv_2, .dead], [.var (S_api_Asset.enc r1), .var (S_api_Manifest.enc r11.1), .var (S_api_Asset.enc r11.2.1), .tail (z12.length * 1), .dead, .dead], [.var (S_api_Asset.enc r1), .var (S_api_Manifest.enc r11.1), .var (S_api_Asset.enc r11.2.1), .tail (z12.length * 1), .var cv_2, .dead], [.var (S_api_Asset.enc r1), .var (S_api_Manifest.enc r11.1), .var (S_api_Asset.enc r11.2.1), .tail (z13.length * 1), .dead, .dead], [.var (S_api_Asset.enc r1), .var (S_api_Manifest.enc r11.1), .var (S_api_Asset.enc r11.2.1), .tail (z13.length * 1), .var cv_2, .dead], [.var (S_api_Asset.enc r1), .var (S_api_Manifest.enc r11.1), .var (S_api_Asset.enc r11.2.1), .tail ((([] : List Int)).length * 1), .dead, .dead], [.var (S_api_Asset.enc r1), .var (S_api_Manifest.enc r11.1), .var (S_api_Asset.enc r11.2.1), .tail ((([] : List Int)).length * 1), .var cv_2, .dead], [.var (S_api_Asset.enc r1), .var (S_api_Manifest.enc r11.1), .var (S_api_Asset.enc r11.2.1), .tail (z13.length * 1), .dead, .dead], [.var (S_api_Asset.enc r1), .var (S_api_Manifest.enc r11.1), .var (S_api_Asset.enc r11.2.1), .tail (z13.length * 1), .var cv_2, .dead], [.var (S_api_Asset.enc r1), .var (S_api_Manifest.enc r11.1), .var (S_api_Asset.enc r11.2.1), .tail (z12.length * 1), .dead, .dead], [.var (S_api_Asset.enc r1), .var (S_api_Manifest.enc r11.1), .var (S_api_Asset.enc r11.2.1), .tail (z12.length * 1), .var cv_2, .dead], [.var (S_api_Asset.enc r1), .var (S_api_Manifest.enc r11.1), .var (S_api_Asset.enc r11.2.1), .tail (z13.length * 1), .dead, .dead], [.var (S_api_Asset.enc r1), .var (S_api_Manifest.enc r11.1), .var (S_api_Asset.enc r11.2.1), .tail (z13.length * 1), .var cv_2, .dead]]] (by kernel_rfl) (by kernel_rfl) (by kernel_rfl) ⟨fun _ => big_row hT (x := (.sl 1 1 [(k8 0)])), fun _ => big_call0 (bundle_Open_ok hr14) bundle_Open_ok_c (by kernel_rfl) (by kernel_rfl) (by kernel_rfl), trivial⟩ (by kernel_rfl) ⟨⟨big_rowOS hT 3 k8 (k := 1) ([] : List Int) (by kernel_rfl) (by kernel_rfl) (by kernel_rfl), big_rowOS hT 3 k8 (k := 1) ([] : List Int) (by kernel_rfl) (by kernel_rfl) (by kernel_rfl), big_rowOS hT 3 k8 (k := 1) ([] : List Int) (by kernel_rfl) (by kernel_rfl) (by kernel_rfl), big_rowOS hT 3 k8 (k := 1) ([] : List Int) (by kernel_rfl) (by kernel_rfl) (by kernel_rfl), trivial⟩, ⟨big_at (big_app hT k8 (id := 3) (k := 1) hz12), big_at (big_app hT k8 (id := 3) (k := 1) hz12), big_at (big_app hT k8 (id := 3) (k := 1) hz12), big_at (big_app hT k8 (id := 3) (k := 1) hz12), trivial⟩, ⟨big_at (big_app hT k8 (id := 3) (k := 1) hz13), big_at (big_app hT k8 (id := 3) (k := 1) hz13), big_at (big_app hT k8 (id := 3) (k := 1) hz13), big_at (big_app hT k8 (id := 3) (k := 1) hz13), trivial⟩, ⟨big_allocS hT 4 (by kernel_rfl) (by kernel_rfl) (by kernel_rfl), big_allocS hT 4 (by kernel_rfl) (by kernel_rfl) (by kernel_rfl), big_allocS hT 4 (by kernel_rfl) (by kernel_rfl) (by kernel_rfl), big_allocS hT 4 (by kernel_rfl) (by kernel_rfl) (by kernel_rfl), big_allocS hT 4 (by kernel_rfl) (by kernel_rfl) (by kernel_rfl), big_allocS hT 4 (by kernel_rfl) (by kernel_rfl) (by kernel_rfl), big_allocS hT 4 (by kernel_rfl) (by kernel_rfl) (by kernel_rfl), big_allocS hT 4 (by kernel_rfl) (by kernel_rfl) (by kernel_rfl), big_allocS hT 4 (by kernel_rfl) (by kernel_rfl) (by kernel_rfl), big_allocS hT 4 (by kernel_rfl) (by kernel_rfl) (by kernel_rfl), big_allocS hT 4 (by kernel_rfl) (by kernel_rfl) (by kernel_rfl), big_allocS hT 4 (by kernel_rfl) (by kernel_rfl) (by kernel_rfl), big_allocS hT 4 (by kernel_rfl) (by kernel_rfl) (by kernel_rfl), big_allocS hT 4 (by kernel_rfl) (by kernel_rfl) (by kernel_rfl), big_allocS hT 4 (by kernel_rfl) (by kernel_rfl) (by kernel_rfl), big_allocS hT 4 (by kernel_rfl) (by kernel_rfl) (by kernel_rfl), trivial⟩, ⟨big_allocS hT 5 (by kernel_rfl) (by kernel_rfl) (by kernel_rfl), big_allocS hT 5 (by kernel_rfl) (by kernel_rfl) (by kernel_rfl), big_allocS hT 5 (by kernel_rfl) (by kernel_rfl) (by kernel_rfl), big_allocS hT 5 (by kernel_rfl) (by kernel_rfl) (by kernel_rfl), big_allocS hT 5 (by kernel_rfl) (by kernel_rfl) (by kernel_rfl), big_allocS hT 5 (by kernel_rfl) (by kernel_rfl) (by kernel_rfl), big_allocS hT 5 (by kernel_rfl) (by kernel_rfl) (by kernel_rfl), big_allocS hT 5 (by kernel_rfl) (by kernel_rfl) (by kernel_rfl), big_allocS hT 5 (by kernel_rfl) (by kernel_rfl) (by kernel_rfl), big_allocS hT 5 (by kernel_rfl) (by kernel_rfl) (by kernel_rfl), big_allocS hT 5 (by kernel_rfl) (by kernel_rfl) (by kernel_rfl), big_allocS hT 5 (by kernel_rfl) (by kernel_rfl) (by kernel_rfl), big_allocS hT 5 (by kernel_rfl) (by kernel_rfl) (by kernel_rfl), big_allocS hT 5 (by kernel_rfl) (by kernel_rfl) (by kernel_rfl), big_allocS hT 5 (by kernel_rfl) (by kernel_rfl) (by kernel_rfl), big_allocS hT 5 (by kernel_rfl) (by kernel_rfl) (by kernel_rfl), trivial⟩, trivial⟩ [] (by kernel_rfl) ?_)
  refine aw_seq ?_
  obtain ⟨x15, hx15, h⟩ := letE h
  refine aw_sregU hT m_umbralaw16_BundleCut [] (by kernel_rfl) ?_
  refine aw_nms [(82, (eB x15))] (by subst hx15; kernel_rfl) ?_
  refine aw_condH h (by kernel_rfl) (fun _ h => ?_) (fun _ h => ?_)
  ·refine aw_sregU hT m_umbralaw16_BundleCut [] (by kernel_rfl) ?_
   refine aw_ret (tn_r ?_)
   cases h
   exact fin_r
  ·refine aw_skip (tn_n ?_)
   refine aw_seq ?_
   obtain ⟨x16, hx16, h⟩ := letE h
   refine aw_sregU hT m_umbralaw16_BundleCut [] (by kernel_rfl) ?_
   refine aw_nms [(85, (eB x16))] (by subst hx16; kernel_rfl) ?_
   refine aw_condH h (by kernel_rfl) (fun _ h => ?_) (fun _ h => ?_)
   ·refine aw_sreg ?_
    obtain ⟨r17, hr17, h⟩ := obind h
    refine awl_big (big_call [] (umbralaw16_works_ok hr17) umbralaw16_works_ok_c) (by kernel_rfl) ?_
    refine awl_u hT m_umbralaw16_BundleCut [] 1 (by kernel_rfl) ?_
    refine awl_nil ?_
    refine aw_ret (tn_r ?_)
    cases h
    exact fin_r
   ·refine aw_skip (tn_n ?_)
    refine aw_sregU hT m_umbralaw16_BundleCut [] (by kernel_rfl) ?_
    refine aw_sreg ?_
    refine awl_u hT m_umbralaw16_BundleCut [] 2 (by kernel_rfl) ?_
    obtain ⟨s18, hs18, h⟩ := obind h
    refine awl_big (big_slc hT (k := 1) k8 hs18) (by kernel_rfl) ?_
    refine awl_own_nil 87 1 (by kernel_rfl) ?_
    obtain ⟨z19, hz19, h⟩ := obind h
    refine awl_big (big_app hT k8 (id := 6) (k := 1) hz19) (by kernel_rfl) ?_
    first | refine awl_to ⟨[en 3 (.im (S_umbralaw16_Sealed.enc a0)), en 7 (eL 1 k8 r2.1), en 90 (eO 6 1 k8 z19)], [.var (S_api_Asset.enc r1), .var (S_api_Manifest.enc r11.1), .var (S_api_Asset.enc r11.2.1), .tail (z13.length * 1), .var (S_api_Manifest.enc r14.1), .var (S_api_Asset.enc r14.2.1), .tail (z19.length * 1)]⟩ (by kernel_rfl) ?_ | skip
    refine awl_u hT m_umbralaw16_BundleCut [] 1 (by kernel_rfl) ?_
    refine awl_nil ?_
    refine aw_sreg ?_
    refine awl_u hT m_umbralaw16_BundleCut [] 2 (by kernel_rfl) ?_
    obtain ⟨s20, hs20, h⟩ := obind h
    refine awl_big (big_slc hT (k := 1) k8 hs20) (by kernel_rfl) ?_
    obtain ⟨z21, hz21, h⟩ := obind h
    refine awl_big (big_app hT k8 (id := 6) (k := 1) hz21) (by kernel_rfl) ?_
    refine awl_u hT m_umbralaw16_BundleCut [] 1 (by kernel_rfl) ?_
    refine awl_nil ?_
    refine aw_sreg ?_
    refine awl_u hT m_umbralaw16_BundleCut [] 2 (by kernel_rfl) ?_
    obtain ⟨s22, hs22, h⟩ := obind h
    refine awl_big (big_slc hT (k := 1) k8 hs22) (by kernel_rfl) ?_
    obtain ⟨z23, hz23, h⟩ := obind h
    refine awl_big (big_app hT k8 (id := 6) (k := 1) hz23) (by kernel_rfl) ?_
    first | refine awl_to ⟨[en 3 (.im (S_umbralaw16_Sealed.enc a0)), en 7 (eL 1 k8 r2.1), en 98 (eO 6 1 k8 z23)], [.var (S_api_Asset.enc r1), .var (S_api_Manifest.enc r11.1), .var (S_api_Asset.enc r11.2.1), .tail (z13.length * 1), .var (S_api_Manifest.enc r14.1), .var (S_api_Asset.enc r14.2.1), .tail (z23.length * 1)]⟩ (by kernel_rfl) ?_ | skip
    refine awl_u hT m_umbralaw16_BundleCut [] 1 (by kernel_rfl) ?_
    refine awl_nil ?_
    refine aw_sreg ?_
    refine awl_u hT m_umbralaw16_BundleCut [] 2 (by kernel_rfl) ?_
    obtain ⟨s24, hs24, h⟩ := obind h
    refine awl_big (big_slc hT (k := 1) k8 hs24) (by kernel_rfl) ?_
    obtain ⟨z25, hz25, h⟩ := obind h
    refine awl_big (big_app hT k8 (id := 6) (k := 1) hz25) (by kernel_rfl) ?_
    refine awl_u hT m_umbralaw16_BundleCut [] 1 (by kernel_rfl) ?_
    refine awl_nil ?_
    refine aw_sreg ?_
    refine awl_u hT m_umbralaw16_BundleCut [] 3 (by kernel_rfl) ?_
    obtain ⟨r26, hr26, h⟩ := obind h
    refine awl_big (big_call [] (bundle_Open_ok hr26) bundle_Open_ok_c) (by kernel_rfl) ?_
    refine awl_u hT m_umbralaw16_BundleCut [] 9 (by kernel_rfl) ?_
    refine awl_nil ?_
    obtain ⟨p27, h, g27⟩ := obind h
    refine aw_joinT ⟨[en 6 (eB p27)], [.var (S_api_Asset.enc r1), .var (S_api_Manifest.enc r11.1), .var (S_api_Asset.enc r11.2.1), .tail (z13.length * 1), .var (S_api_Manifest.enc r14.1), .var (S_api_Asset.enc r14.2.1), .tail (z25.length * 1), .var (S_api_Manifest.enc r26.1), .var (S_api_Asset.enc r26.2.1)]⟩ ?_ ?_
    ·refine aw_region ?_
     refine awl_u hT m_umbralaw16_BundleCut [] 3 (by kernel_rfl) ?_
     refine awl_split 113 h (by kernel_rfl) (fun h => ?_) (fun h => ?_)
     ·obtain ⟨r28, hr28, h⟩ := obind h
      refine awl_big (big_call [] (umbralaw16_works_ok hr28) umbralaw16_works_ok_c) (by kernel_rfl) ?_
      refine awl_u hT m_umbralaw16_BundleCut [113] 2 (by kernel_rfl) ?_
      refine awl_nil (tn_n ?_)
      cases h
      exact jr
     ·refine awl_u hT m_umbralaw16_BundleCut [113] 3 (by kernel_rfl) ?_
      refine awl_nil (tn_n ?_)
      cases h
      exact jr
    ·have h := g27
     refine aw_ret ?_
     cases h
     exact fin_r

end Go.UK

