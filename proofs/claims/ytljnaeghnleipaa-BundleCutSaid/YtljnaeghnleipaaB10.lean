/- A part of the proof: what the functions of the program compute. -/
import Derived.Test.YtljnaeghnleipaaB9
namespace Go.UK
open Go Go.Proofs
set_option maxRecDepth 20000
set_option maxHeartbeats 4000000
set_option linter.all false

attribute [local irreducible] owp awl aw FnM NatFn opS Stab TOK Big
def p_codec_New (N : Nat) (a0 : (List Int)) : Option ((List Int)) :=
 Option.bind (p_slices_Clone_byte_byte N a0) fun r1 =>
 some r1

theorem codec_New_ok {N : Nat} {a0 : (List Int)} {r : (List Int)} (h : p_codec_New N a0 = some r) : FnM Try.prog 25 [] [(eL 1 k8 a0)] (.ref 1 [] 0) [.tail (r.length * 1), .var (.st 3 [(eO 0 1 k8 r), (j64 0), (eB true)])] := by
 unfold p_codec_New at h
 refine fnM_of_aw (m := 7) (lo := 0) (rs := [.tmp 2]) hT Try.func25 rfl (by kernel_rfl) rfl ?_
 refine aw_sregU hT m_no [] (by kernel_rfl) ?_
 refine aw_sreg ?_
 refine awl_u hT m_no [] 1 (by kernel_rfl) ?_
 obtain ⟨r1, hr1, h⟩ := obind h
 refine awl_big (big_call [] (slices_Clone_byte_byte_ok hr1) slices_Clone_byte_byte_ok_c) (by kernel_rfl) ?_
 refine awl_u hT m_no [] 3 (by kernel_rfl) ?_
 refine awl_nil ?_
 refine aw_ret ?_
 cases h
 exact fin_r

theorem codec_New_ok_c : callable Try.prog 25 := ⟨_, Try.func25, by decide, rfl⟩

def p_codec_Reader_none_r (N : Nat) (a0 : S_codec_Reader) : Option (Bool) :=
 some (!a0.gmade)

theorem codec_Reader_none_r_ok {N : Nat} {a0 : S_codec_Reader} {r : Bool} (h : p_codec_Reader_none_r N a0 = some r) : FnM Try.prog 45 [.var (S_codec_Reader.enc a0)] [(.ref 0 [] 0)] (eB r) [.var (S_codec_Reader.enc a0)] := by
 unfold p_codec_Reader_none_r at h
 refine fnM_of_aw (m := 12) (lo := 1) (rs := [.tmp 2]) hT Try.func45 rfl (by kernel_rfl) rfl ?_
 refine aw_sregU hT m_no [] (by kernel_rfl) ?_
 refine aw_sreg ?_
 refine awl_u hT m_no [] 1 (by kernel_rfl) ?_
 refine awl_big (big_eqp hT (t := 74) (x := (.ref 0 [] 0)) (b := true) (by kernel_rfl) rfl rfl (by kernel_rfl)) (by kernel_rfl) ?_
 refine awl_u hT m_no [5] 8 (by kernel_rfl) ?_
 refine awl_nil ?_
 refine aw_ret ?_
 cases h
 exact fin_r

theorem codec_Reader_none_r_ok_c : callable Try.prog 45 := ⟨_, Try.func45, by decide, rfl⟩

def p_codec_Reader_Take_rd (N : Nat) (a0 : Int) (a1 : S_codec_Reader) : Option ((List Int) × Int × (List Int)) :=
 Option.bind (p_codec_Reader_none_r N a1) fun r1 =>
 letO (cond r1 true (a1.ge != 0)) fun x2 =>
 cond x2 (
  some ((a1.gb, a1.ge, []))) (
  cond (decide (a0 < 0)) (
   some ((a1.gb, 2, []))) (
   letO (decide (a0 > ((a1.gb.length : Int)))) fun x3 =>
   cond x3 (
    some ((a1.gb, 4, []))) (
    Option.bind (slc3O a1.gb 0 a0 a0) fun s4 =>
    Option.bind (slcO a1.gb a0 ((a1.gb.length : Int))) fun s5 =>
    some ((s5, a1.ge, s4)))))

theorem codec_Reader_Take_rd_ok {N : Nat} {a0 : Int} {a1 : S_codec_Reader} {r : (List Int) × Int × (List Int)} (h : p_codec_Reader_Take_rd N a0 a1 = some r) : FnM Try.prog 43 [.var (S_codec_Reader.enc a1)] [(.ref 0 [] 0), (j64 a0)] (eL 1 k8 r.2.2) [.var (.st 3 [(eL 1 k8 r.1), (j64 r.2.1), (eB a1.gmade)])] := by
 unfold p_codec_Reader_Take_rd at h
 refine fnM_of_aw (m := 50) (lo := 1) (rs := [.tmp 4]) hT Try.func43 rfl (by kernel_rfl) rfl ?_
 refine aw_sregU hT m_no [] (by kernel_rfl) ?_
 refine aw_seq ?_
 refine aw_block ?_
 refine aw_sreg ?_
 refine awl_u hT m_no [] 1 (by kernel_rfl) ?_
 obtain ⟨r1, hr1, h⟩ := obind h
 refine awl_big (big_call [0] (codec_Reader_none_r_ok hr1) codec_Reader_none_r_ok_c) (by kernel_rfl) ?_
 obtain ⟨x2, hx2, h⟩ := letE h
 refine awl_u hT m_no [] 8 (by kernel_rfl) ?_
 refine awl_nms [(6, (eB x2))] (by subst hx2; kernel_rfl) ?_
 refine awl_nil ?_
 refine aw_condH h (by kernel_rfl) (fun _ h => ?_) (fun _ h => ?_)
 ·refine aw_sregU hT m_no [] (by kernel_rfl) ?_
  refine aw_ret (inB_r (tn_r ?_))
  cases h
  exact fin_r
 ·refine aw_sregU hT m_no [] (by kernel_rfl) ?_
  refine aw_condH h (by kernel_rfl) (fun _ h => ?_) (fun _ h => ?_)
  ·refine aw_sregU hT m_no [] (by kernel_rfl) ?_
   refine aw_sregU hT m_no [] (by kernel_rfl) ?_
   refine aw_ret (inB_r (tn_r ?_))
   cases h
   exact fin_r
  ·obtain ⟨x3, hx3, h⟩ := letE h
   refine aw_sregU hT m_no [] (by kernel_rfl) ?_
   refine aw_nms [(22, (eB x3))] (by subst hx3; kernel_rfl) ?_
   refine aw_condH h (by kernel_rfl) (fun _ h => ?_) (fun _ h => ?_)
   ·refine aw_sregU hT m_no [] (by kernel_rfl) ?_
    refine aw_sregU hT m_no [] (by kernel_rfl) ?_
    refine aw_ret (inB_r (tn_r ?_))
    cases h
    exact fin_r
   ·refine aw_skip (inB_n (tn_n ?_))
    refine aw_sreg ?_
    refine awl_u hT m_no [] 6 (by kernel_rfl) ?_
    obtain ⟨s4, hs4, h⟩ := obind h
    refine awl_big (big_slc3 hT (k := 1) k8 hs4 (by kernel_rfl) (by kernel_rfl)) (by kernel_rfl) ?_
    refine awl_u hT m_no [] 1 (by kernel_rfl) ?_
    refine awl_nil ?_
    refine aw_sreg ?_
    refine awl_u hT m_no [] 6 (by kernel_rfl) ?_
    obtain ⟨s5, hs5, h⟩ := obind h
    refine awl_big (big_slc hT (k := 1) k8 hs5) (by kernel_rfl) ?_
    refine awl_u hT m_no [] 3 (by kernel_rfl) ?_
    refine awl_nil ?_
    refine aw_sregU hT m_no [] (by kernel_rfl) ?_
    refine aw_ret ?_
    cases h
    exact fin_r

theorem codec_Reader_Take_rd_ok_c : callable Try.prog 43 := ⟨_, Try.func43, by decide, rfl⟩

def p_codec_Reader_Num_rd_L1 (N : Nat) (r3 : (List Int) × Int × (List Int)) : Nat → Int → Int → Option (Int)
 | 0, _, _ => none
 | k + 1, s5, s6 =>
  letO (decide (s6 < ((r3.2.2.length : Int)))) fun x7 =>
  cond x7 (
   Option.bind (idx r3.2.2 s6) fun e8 =>
   Option.bind (shlO .u64 (U64 e8) (I64 (8 * s6))) fun x9 =>
   p_codec_Reader_Num_rd_L1 N r3 k (bor .u64 s5 x9) (I64 (s6 + 1))) (
   some s5)

def p_codec_Reader_Num_rd (N : Nat) (a0 : Int) (a1 : S_codec_Reader) : Option ((List Int) × Int × Int) :=
 Option.bind (letO (cond (decide (a0 < 1)) true (decide (a0 > 8))) fun x2 =>
 cond x2 (some (-1)) (some a0)) fun p1 =>
 Option.bind (p_codec_Reader_Take_rd N p1 a1) fun r3 =>
 Option.bind (p_codec_Reader_Num_rd_L1 N r3 N 0 0) fun p4 =>
 some ((r3.1, r3.2.1, p4))

theorem codec_Reader_Num_rd_ok {N : Nat} {a0 : Int} {a1 : S_codec_Reader} {r : (List Int) × Int × Int} (h : p_codec_Reader_Num_rd N a0 a1 = some r) : FnM Try.prog 52 [.var (S_codec_Reader.enc a1)] [(.ref 0 [] 0), (j64 a0)] (k64 r.2.2) [.var (.st 3 [(eL 1 k8 r.1), (j64 r.2.1), (eB a1.gmade)])] := by
 unfold p_codec_Reader_Num_rd at h
 refine fnM_of_aw (m := 32) (lo := 1) (rs := [.tmp 4]) hT Try.func52 rfl (by kernel_rfl) rfl ?_
 refine aw_sregU hT m_no [] (by kernel_rfl) ?_
 obtain ⟨p1, h, g1⟩ := obind h
 refine aw_joinT ⟨[en 0 (.ref 0 [] 0), en 1 (j64 p1)], [.var (S_codec_Reader.enc a1)]⟩ ?_ ?_
 ·obtain ⟨x2, hx2, h⟩ := letE h
  refine aw_sregU hT m_no [] (by kernel_rfl) ?_
  refine aw_nms [(13, (eB x2))] (by subst hx2; kernel_rfl) ?_
  refine aw_condH h (by kernel_rfl) (fun _ h => ?_) (fun _ h => ?_)
  ·refine aw_regU hT m_no [] (by kernel_rfl) (tn_n ?_)
   cases h
   exact jr
  ·refine aw_skip (tn_n ?_)
   cases h
   exact jr
 ·have h := g1
  refine aw_sregU hT m_no [] (by kernel_rfl) ?_
  refine aw_seq ?_
  refine aw_sreg ?_
  refine awl_u hT m_no [] 2 (by kernel_rfl) ?_
  obtain ⟨r3, hr3, h⟩ := obind h
  refine awl_big (big_call [0] (codec_Reader_Take_rd_ok hr3) codec_Reader_Take_rd_ok_c) (by kernel_rfl) ?_
  refine awl_u hT m_no [] 2 (by kernel_rfl) ?_
  refine awl_nil ?_
  obtain ⟨p4, h, g4⟩ := obind h
  refine aw_joinTK ⟨[en 5 (k64 p4)], [.var (.st 3 [(eL 1 k8 r3.1), (j64 r3.2.1), (eB a1.gmade)])]⟩ ?_ ?_
  ·refine aw_block (aw_loop (fun k s => ∃ s5 s6, p_codec_Reader_Num_rd_L1 N r3 k s5 s6 = some p4 ∧ JR (Fr.f 32 1) ⟨[en 5 (k64 s5), en 16 (eL 1 k8 r3.2.2), en 17 (j64 ((r3.2.2.length : Int))), en 18 (j64 s6)], [.var (.st 3 [(eL 1 k8 r3.1), (j64 r3.2.1), (eB a1.gmade)])]⟩ s) (fun k s hI => ?_) N _ ⟨_, _, h, jr⟩)
   obtain ⟨s5, s6, h, hj⟩ := hI
   cases k with
   | zero => cases h
   | succ k =>
    refine aw_jr hj ?_
    obtain ⟨x7, hx7, h⟩ := letE h
    refine aw_sregU hT m_no [] (by kernel_rfl) ?_
    refine aw_nms [(19, (eB x7))] (by subst hx7; kernel_rfl) ?_
    refine aw_seq ?_
    refine aw_condH h (by kernel_rfl) (fun _ h => ?_) (fun _ h => ?_)
    ·refine aw_skip (tn_n ?_)
     refine aw_seq ?_
     refine aw_block ?_
     refine aw_sreg ?_
     refine awl_u hT m_no [] 1 (by kernel_rfl) ?_
     obtain ⟨e8, he8, h⟩ := obind h
     refine awl_big (big_idx hT k8 he8) (by kernel_rfl) ?_
     refine awl_u hT m_no [] 3 (by kernel_rfl) ?_
     refine awl_nil ?_
     refine aw_region ?_
     refine awl_u hT m_no [] 5 (by kernel_rfl) ?_
     obtain ⟨x9, hx9, h⟩ := obind h
     refine awl_big (big_shl hT (k' := .i64) hx9 (by kernel_rfl) (by kernel_rfl)) (by kernel_rfl) ?_
     refine awl_u hT m_no [] 2 (by kernel_rfl) ?_
     refine awl_nil (inB_n (tn_n ?_))
     refine aw_regU hT m_no [] (by kernel_rfl) (tn_n ?_)
     exact ⟨k, Nat.lt_succ_self k, _, _, h, jr⟩
    ·refine aw_exit (tn_x (tn_x (inB_e (tn_n ?_))))
     cases h
     exact jr
  ·have h := g4
   refine (tn_n ?_)
   refine aw_sregU hT m_no [] (by kernel_rfl) ?_
   refine aw_ret ?_
   cases h
   exact fin_r

theorem codec_Reader_Num_rd_ok_c : callable Try.prog 52 := ⟨_, Try.func52, by decide, rfl⟩

def p_manifest_decoder_int_srzd (N : Nat) (a0 : Int) (a1 : S_codec_Reader) : Option ((List Int) × Int × Int) :=
 Option.bind (p_codec_Reader_Num_rd N a0 a1) fun r1 =>
 some ((r1.1, r1.2.1, I64 r1.2.2))

theorem manifest_decoder_int_srzd_ok {N : Nat} {a0 : Int} {a1 : S_codec_Reader} {r : (List Int) × Int × Int} (h : p_manifest_decoder_int_srzd N a0 a1 = some r) : FnM Try.prog 53 [.var (S_codec_Reader.enc a1)] [(.st 1 [(.ref 0 [] 0)]), (j64 a0)] (j64 r.2.2) [.var (.st 3 [(eL 1 k8 r.1), (j64 r.2.1), (eB a1.gmade)])] := by
 unfold p_manifest_decoder_int_srzd at h
 refine fnM_of_aw (m := 10) (lo := 1) (rs := [.tmp 4]) hT Try.func53 rfl (by kernel_rfl) rfl ?_
 refine aw_sregU hT m_no [] (by kernel_rfl) ?_
 refine aw_sreg ?_
 refine awl_u hT m_no [] 3 (by kernel_rfl) ?_
 obtain ⟨r1, hr1, h⟩ := obind h
 refine awl_big (big_call [0] (codec_Reader_Num_rd_ok hr1) codec_Reader_Num_rd_ok_c) (by kernel_rfl) ?_
 refine awl_u hT m_no [] 2 (by kernel_rfl) ?_
 refine awl_nil ?_
 refine aw_ret ?_
 cases h
 exact fin_r

theorem manifest_decoder_int_srzd_ok_c : callable Try.prog 53 := ⟨_, Try.func53, by decide, rfl⟩

def p_codec_Reader_Err_r (N : Nat) (a0 : S_codec_Reader) : Option (Int) :=
 Option.bind (p_codec_Reader_none_r N a0) fun r1 =>
 cond r1 (some 1) (some a0.ge)

theorem codec_Reader_Err_r_ok {N : Nat} {a0 : S_codec_Reader} {r : Int} (h : p_codec_Reader_Err_r N a0 = some r) : FnM Try.prog 44 [.var (S_codec_Reader.enc a0)] [(.ref 0 [] 0)] (j64 r) [.var (S_codec_Reader.enc a0)] := by
 unfold p_codec_Reader_Err_r at h
 refine fnM_of_aw (m := 9) (lo := 1) (rs := [.tmp 2]) hT Try.func44 rfl (by kernel_rfl) rfl ?_
 refine aw_sregU hT m_no [] (by kernel_rfl) ?_
 refine aw_seq ?_
 refine aw_sreg ?_
 refine awl_u hT m_no [] 1 (by kernel_rfl) ?_
 obtain ⟨r1, hr1, h⟩ := obind h
 refine awl_big (big_call [0] (codec_Reader_none_r_ok hr1) codec_Reader_none_r_ok_c) (by kernel_rfl) ?_
 refine awl_nil ?_
 refine aw_condH h (by kernel_rfl) (fun _ h => ?_) (fun _ h => ?_)
 ·refine aw_sregU hT m_no [] (by kernel_rfl) ?_
  refine aw_ret (tn_r ?_)
  cases h
  exact fin_r
 ·refine aw_skip (tn_n ?_)
  refine aw_sregU hT m_no [] (by kernel_rfl) ?_
  refine aw_ret ?_
  cases h
  exact fin_r

theorem codec_Reader_Err_r_ok_c : callable Try.prog 44 := ⟨_, Try.func44, by decide, rfl⟩

def p_codec_Reader_End_r (N : Nat) (a0 : S_codec_Reader) : Option (Int) :=
 Option.bind (p_codec_Reader_Err_r N a0) fun r1 =>
 cond (r1 != 0) (
  some r1) (
  letO (decide (((a0.gb.length : Int)) > 0)) fun x2 =>
  cond x2 (some 5) (some 0))

theorem codec_Reader_End_r_ok {N : Nat} {a0 : S_codec_Reader} {r : Int} (h : p_codec_Reader_End_r N a0 = some r) : FnM Try.prog 50 [.var (S_codec_Reader.enc a0)] [(.ref 0 [] 0)] (j64 r) [.var (S_codec_Reader.enc a0)] := by
 unfold p_codec_Reader_End_r at h
 refine fnM_of_aw (m := 15) (lo := 1) (rs := [.tmp 2]) hT Try.func50 rfl (by kernel_rfl) rfl ?_
 refine aw_sregU hT m_no [] (by kernel_rfl) ?_
 refine aw_seq ?_
 refine aw_sreg ?_
 refine awl_u hT m_no [] 1 (by kernel_rfl) ?_
 obtain ⟨r1, hr1, h⟩ := obind h
 refine awl_big (big_call [0] (codec_Reader_Err_r_ok hr1) codec_Reader_Err_r_ok_c) (by kernel_rfl) ?_
 refine awl_u hT m_no [] 1 (by kernel_rfl) ?_
 refine awl_nil ?_
 refine aw_sregU hT m_no [] (by kernel_rfl) ?_
 refine aw_condH h (by kernel_rfl) (fun _ h => ?_) (fun _ h => ?_)
 ·refine aw_sregU hT m_no [] (by kernel_rfl) ?_
  refine aw_ret (tn_r ?_)
  cases h
  exact fin_r
 ·refine aw_skip (tn_n ?_)
  refine aw_seq ?_
  obtain ⟨x2, hx2, h⟩ := letE h
  refine aw_sregU hT m_no [] (by kernel_rfl) ?_
  refine aw_nms [(14, (eB x2))] (by subst hx2; kernel_rfl) ?_
  refine aw_condH h (by kernel_rfl) (fun _ h => ?_) (fun _ h => ?_)
  ·refine aw_sregU hT m_no [] (by kernel_rfl) ?_
   refine aw_ret (tn_r ?_)
   cases h
   exact fin_r
  ·refine aw_skip (tn_n ?_)
   refine aw_sregU hT m_no [] (by kernel_rfl) ?_
   refine aw_ret ?_
   cases h
   exact fin_r

theorem codec_Reader_End_r_ok_c : callable Try.prog 50 := ⟨_, Try.func50, by decide, rfl⟩

def p_manifest_Decode (N : Nat) (a0 : (List Int)) : Option (S_api_Manifest × Int) :=
 Option.bind (p_codec_New N a0) fun r1 =>
 Option.bind (p_codec_Reader_Num_rd N 8 (S_codec_Reader.mk r1 0 true)) fun r2 =>
 Option.bind (p_manifest_decoder_int_srzd N 1 (S_codec_Reader.mk r2.1 r2.2.1 ((S_codec_Reader.mk r1 0 true).gmade))) fun r3 =>
 Option.bind (p_codec_Reader_Num_rd N 4 (S_codec_Reader.mk r3.1 r3.2.1 ((S_codec_Reader.mk r2.1 r2.2.1 ((S_codec_Reader.mk r1 0 true).gmade)).gmade))) fun r4 =>
 Option.bind (slcB 8 0 8) fun _ =>
 Option.bind (p_codec_Reader_Take_rd N 8 (S_codec_Reader.mk r4.1 r4.2.1 ((S_codec_Reader.mk r3.1 r3.2.1 ((S_codec_Reader.mk r2.1 r2.2.1 ((S_codec_Reader.mk r1 0 true).gmade)).gmade)).gmade))) fun r6 =>
 Option.bind (cpV (Vector.replicate 8 0) r6.2.2 0 8) fun v7 =>
 Option.bind (p_codec_Reader_Num_rd N 4 (S_codec_Reader.mk r6.1 r6.2.1 ((S_codec_Reader.mk r4.1 r4.2.1 ((S_codec_Reader.mk r3.1 r3.2.1 ((S_codec_Reader.mk r2.1 r2.2.1 ((S_codec_Reader.mk r1 0 true).gmade)).gmade)).gmade)).gmade))) fun r8 =>
 Option.bind (p_codec_Reader_Num_rd N 4 (S_codec_Reader.mk r8.1 r8.2.1 ((S_codec_Reader.mk r6.1 r6.2.1 ((S_codec_Reader.mk r4.1 r4.2.1 ((S_codec_Reader.mk r3.1 r3.2.1 ((S_codec_Reader.mk r2.1 r2.2.1 ((S_codec_Reader.mk r1 0 true).gmade)).gmade)).gmade)).gmade)).gmade))) fun r9 =>
 Option.bind (p_manifest_decoder_int_srzd N 4 (S_codec_Reader.mk r9.1 r9.2.1 ((S_codec_Reader.mk r8.1 r8.2.1 ((S_codec_Reader.mk r6.1 r6.2.1 ((S_codec_Reader.mk r4.1 r4.2.1 ((S_codec_Reader.mk r3.1 r3.2.1 ((S_codec_Reader.mk r2.1 r2.2.1 ((S_codec_Reader.mk r1 0 true).gmade)).gmade)).gmade)).gmade)).gmade)).gmade))) fun r10 =>
 Option.bind (p_manifest_decoder_int_srzd N 2 (S_codec_Reader.mk r10.1 r10.2.1 ((S_codec_Reader.mk r9.1 r9.2.1 ((S_codec_Reader.mk r8.1 r8.2.1 ((S_codec_Reader.mk r6.1 r6.2.1 ((S_codec_Reader.mk r4.1 r4.2.1 ((S_codec_Reader.mk r3.1 r3.2.1 ((S_codec_Reader.mk r2.1 r2.2.1 ((S_codec_Reader.mk r1 0 true).gmade)).gmade)).gmade)).gmade)).gmade)).gmade)).gmade))) fun r11 =>
 Option.bind (p_codec_Reader_End_r N (S_codec_Reader.mk r11.1 r11.2.1 ((S_codec_Reader.mk r10.1 r10.2.1 ((S_codec_Reader.mk r9.1 r9.2.1 ((S_codec_Reader.mk r8.1 r8.2.1 ((S_codec_Reader.mk r6.1 r6.2.1 ((S_codec_Reader.mk r4.1 r4.2.1 ((S_codec_Reader.mk r3.1 r3.2.1 ((S_codec_Reader.mk r2.1 r2.2.1 ((S_codec_Reader.mk r1 0 true).gmade)).gmade)).gmade)).gmade)).gmade)).gmade)).gmade)).gmade))) fun r12 =>
 cond (r12 != 0) (
  some ((S_api_Manifest.mk 0 0 0 (Vector.replicate 8 0) 0 0 0 0, r12))) (
  Option.bind (p_manifest_Check N (S_api_Manifest.mk r2.2.2 r3.2.2 (U32 r4.2.2) v7 (U32 r8.2.2) (U32 r9.2.2) r10.2.2 r11.2.2)) fun r13 =>
  cond (r13 != 0) (
   some ((S_api_Manifest.mk 0 0 0 (Vector.replicate 8 0) 0 0 0 0, r13))) (
   some ((S_api_Manifest.mk r2.2.2 r3.2.2 (U32 r4.2.2) v7 (U32 r8.2.2) (U32 r9.2.2) r10.2.2 r11.2.2, 0))))

theorem manifest_Decode_ok {N : Nat} {a0 : (List Int)} {r : S_api_Manifest × Int} (h : p_manifest_Decode N a0 = some r) : FnM Try.prog 30 [] [(eL 1 k8 a0)] (.tup [(S_api_Manifest.enc r.1), (j64 r.2)]) [] := by
 unfold p_manifest_Decode at h
 refine fnM_of_aw (m := 57) (lo := 0) (rs := [.cell 2 27, .tmp 3]) hT Try.func30 rfl (by kernel_rfl) rfl ?_
 refine aw_sregU hT m_no [] (by kernel_rfl) ?_
 refine aw_sreg ?_
 refine awl_u hT m_no [] 1 (by kernel_rfl) ?_
 obtain ⟨r1, hr1, h⟩ := obind h
 refine awl_big (big_call [] (codec_New_ok hr1) codec_New_ok_c) (by kernel_rfl) ?_
 refine awl_u hT m_no [] 3 (by kernel_rfl) ?_
 refine awl_nil ?_
 obtain ⟨r2, hr2, h⟩ := obind h
 obtain ⟨r3, hr3, h⟩ := obind h
 obtain ⟨r4, hr4, h⟩ := obind h
 refine aw_seq (aw_drawS2 hT hmo m_no [false] [] [(2, ⟨(k64 r2.2.2), 2, .var (.st 3 [(eL 1 k8 r2.1), (j64 r2.2.1), (eB ((S_codec_Reader.mk r1 0 true).gmade))]), .var (.st 3 [(eO 1 1 k8 r1), (j64 0), (eB true)])⟩), (4, ⟨(j64 r3.2.2), 2, .var (.st 3 [(eL 1 k8 r3.1), (j64 r3.2.1), (eB ((S_codec_Reader.mk r2.1 r2.2.1 ((S_codec_Reader.mk r1 0 true).gmade)).gmade))]), .var (.st 3 [(eL 1 k8 r2.1), (j64 r2.2.1), (eB ((S_codec_Reader.mk r1 0 true).gmade))])⟩), (7, ⟨(k64 r4.2.2), 2, .var (.st 3 [(eL 1 k8 r4.1), (j64 r4.2.1), (eB ((S_codec_Reader.mk r3.1 r3.2.1 ((S_codec_Reader.mk r2.1 r2.2.1 ((S_codec_Reader.mk r1 0 true).gmade)).gmade)).gmade))]), .var (.st 3 [(eL 1 k8 r3.1), (j64 r3.2.1), (eB ((S_codec_Reader.mk r2.1 r2.2.1 ((S_codec_Reader.mk r1 0 true).gmade)).gmade))])⟩), (10, ⟨(.ref 4 [] 0), 4, .var cv_2, .dead⟩)] [[[.var cv_2, .tail (r1.length * 1), .var (.st 3 [(eO 1 1 k8 r1), (j64 0), (eB true)]), .var (.st 1 [(.ref 2 [] 0)]), .dead], [.var cv_2, .tail (r1.length * 1), .var (.st 3 [(eO 1 1 k8 r1), (j64 0), (eB true)]), .var (.st 1 [(.ref 2 [] 0)]), .var cv_2]], [[.var cv_2, .tail (r1.length * 1), .var (.st 3 [(eL 1 k8 r2.1), (j64 r2.2.1), (eB ((S_codec_Reader.mk r1 0 true).gmade))]), .var (.st 1 [(.ref 2 [] 0)]), .dead], [.var cv_2, .tail (r1.length * 1), .var (.st 3 [(eL 1 k8 r2.1), (j64 r2.2.1), (eB ((S_codec_Reader.mk r1 0 true).gmade))]), .var (.st 1 [(.ref 2 [] 0)]), .var cv_2]], [[.var cv_2, .tail (r1.length * 1), .var (.st 3 [(eL 1 k8 r3.1), (j64 r3.2.1), (eB ((S_codec_Reader.mk r2.1 r2.2.1 ((S_codec_Reader.mk r1 0 true).gmade)).gmade))]), .var (.st 1 [(.ref 2 [] 0)]), .dead], [.var cv_2, .tail (r1.length * 1), .var (.st 3 [(eL 1 k8 r3.1), (j64 r3.2.1), (eB ((S_codec_Reader.mk r2.1 r2.2.1 ((S_codec_Reader.mk r1 0 true).gmade)).gmade))]), .var (.st 1 [(.ref 2 [] 0)]), .var cv_2]], [[.var cv_2, .tail (r1.length * 1), .var (.st 3 [(eO 1 1 k8 r1), (j64 0), (eB true)]), .var (.st 1 [(.ref 2 [] 0)]), .dead], [.var cv_2, .tail (r1.length * 1), .var (.st 3 [(eL 1 k8 r4.1), (j64 r4.2.1), (eB ((S_codec_Reader.mk r3.1 r3.2.1 ((S_codec_Reader.mk r2.1 r2.2.1 ((S_codec_Reader.mk r1 0 true).gmade)).gmade)).gmade))]), .var (.st 1 [(.ref 2 [] 0)]), .dead], [.var cv_2, .tail (r1.length * 1), .var (.st 3 [(eL 1 k8 r3.1), (j64 r3.2.1), (eB ((S_codec_Reader.mk r2.1 r2.2.1 ((S_codec_Reader.mk r1 0 true).gmade)).gmade))]), .var (.st 1 [(.ref 2 [] 0)]), .dead], [.var cv_2, .tail (r1.length * 1), .var (.st 3 [(eL 1 k8 r4.1), (j64 r4.2.1), (eB ((S_codec_Reader.mk r3.1 r3.2.1 ((S_codec_Reader.mk r2.1 r2.2.1 ((S_codec_Reader.mk r1 0 true).gmade)).gmade)).gmade))]), .var (.st 1 [(.ref 2 [] 0)]), .dead], [.var cv_2, .tail (r1.length * 1), .var (.st 3 [(eL 1 k8 r2.1), (j64 r2.2.1), (eB ((S_codec_Reader.mk r1 0 true).gmade))]), .var (.st 1 [(.ref 2 [] 0)]), .dead], [.var cv_2, .tail (r1.length * 1), .var (.st 3 [(eL 1 k8 r4.1), (j64 r4.2.1), (eB ((S_codec_Reader.mk r3.1 r3.2.1 ((S_codec_Reader.mk r2.1 r2.2.1 ((S_codec_Reader.mk r1 0 true).gmade)).gmade)).gmade))]), .var (.st 1 [(.ref 2 [] 0)]), .dead], [.var cv_2, .tail (r1.length * 1), .var (.st 3 [(eL 1 k8 r3.1), (j64 r3.2.1), (eB ((S_codec_Reader.mk r2.1 r2.2.1 ((S_codec_Reader.mk r1 0 true).gmade)).gmade))]), .var (.st 1 [(.ref 2 [] 0)]), .dead], [.var cv_2, .tail (r1.length * 1), .var (.st 3 [(eL 1 k8 r4.1), (j64 r4.2.1), (eB ((S_codec_Reader.mk r3.1 r3.2.1 ((S_codec_Reader.mk r2.1 r2.2.1 ((S_codec_Reader.mk r1 0 true).gmade)).gmade)).gmade))]), .var (.st 1 [(.ref 2 [] 0)]), .dead]]] (by kernel_rfl) (by kernel_rfl) (by kernel_rfl) trivial (by kernel_rfl) ⟨⟨big_at (big_call [2] (codec_Reader_Num_rd_ok hr2) codec_Reader_Num_rd_ok_c), big_at (big_call [2] (codec_Reader_Num_rd_ok hr2) codec_Reader_Num_rd_ok_c), trivial⟩, ⟨big_at (big_call [2] (manifest_decoder_int_srzd_ok hr3) manifest_decoder_int_srzd_ok_c), big_at (big_call [2] (manifest_decoder_int_srzd_ok hr3) manifest_decoder_int_srzd_ok_c), trivial⟩, ⟨big_at (big_call [2] (codec_Reader_Num_rd_ok hr4) codec_Reader_Num_rd_ok_c), big_at (big_call [2] (codec_Reader_Num_rd_ok hr4) codec_Reader_Num_rd_ok_c), trivial⟩, ⟨big_allocS hT 4 (by kernel_rfl) (by kernel_rfl) (by kernel_rfl), big_allocS hT 4 (by kernel_rfl) (by kernel_rfl) (by kernel_rfl), big_allocS hT 4 (by kernel_rfl) (by kernel_rfl) (by kernel_rfl), big_allocS hT 4 (by kernel_rfl) (by kernel_rfl) (by kernel_rfl), big_allocS hT 4 (by kernel_rfl) (by kernel_rfl) (by kernel_rfl), big_allocS hT 4 (by kernel_rfl) (by kernel_rfl) (by kernel_rfl), big_allocS hT 4 (by kernel_rfl) (by kernel_rfl) (by kernel_rfl), big_allocS hT 4 (by kernel_rfl) (by kernel_rfl) (by kernel_rfl), trivial⟩, trivial⟩ [] (by kernel_rfl) ?_)
 obtain ⟨s5, hs5, h⟩ := obind h
 obtain ⟨r6, hr6, h⟩ := obind h
 obtain ⟨v7, hv7, h⟩ := obind h
 refine aw_sdrawV hT hmo m_no [(1, (.bsl 4 [3] 3 1 0 8))] [(4, fun _ => ((eL 1 k8 r6.2.2), [.var cv_2, .tail (r1.length * 1), .var (.st 3 [(eL 1 k8 r6.1), (j64 r6.2.1), (eB ((S_codec_Reader.mk r4.1 r4.2.1 ((S_codec_Reader.mk r3.1 r3.2.1 ((S_codec_Reader.mk r2.1 r2.2.1 ((S_codec_Reader.mk r1 0 true).gmade)).gmade)).gmade)).gmade))]), .var (.st 1 [(.ref 2 [] 0)]), .var (.st 15 [(k64 r2.2.2), (j64 r3.2.2), (k32 (U32 r4.2.2)), (eA 8 1 k8 (Vector.replicate 8 0)), (k32 0), (k32 0), (j64 0), (j64 0)])])), (5, fun _ => ((j64 (((min r6.2.2.length 8 : Nat) : Int))), [.var cv_2, .tail (r1.length * 1), .var (.st 3 [(eL 1 k8 r6.1), (j64 r6.2.1), (eB ((S_codec_Reader.mk r4.1 r4.2.1 ((S_codec_Reader.mk r3.1 r3.2.1 ((S_codec_Reader.mk r2.1 r2.2.1 ((S_codec_Reader.mk r1 0 true).gmade)).gmade)).gmade)).gmade))]), .var (.st 1 [(.ref 2 [] 0)]), .var (.st 15 [(k64 r2.2.2), (j64 r3.2.2), (k32 (U32 r4.2.2)), (eA 8 1 k8 v7), (k32 0), (k32 0), (j64 0), (j64 0)])]))] (by kernel_rfl) (by kernel_rfl) (by kernel_rfl) ⟨fun _ => big_slR hT (k := 1) 4 [3] 3 hs5 (by kernel_rfl) (by kernel_rfl) (by decide), trivial⟩ ⟨big_at (big_call [2] (codec_Reader_Take_rd_ok hr6) codec_Reader_Take_rd_ok_c), big_at (big_cpyV hT k8 (id := 4) (path := [3]) (off := 3) (H' := [.var cv_2, .tail (r1.length * 1), .var (.st 3 [(eL 1 k8 r6.1), (j64 r6.2.1), (eB ((S_codec_Reader.mk r4.1 r4.2.1 ((S_codec_Reader.mk r3.1 r3.2.1 ((S_codec_Reader.mk r2.1 r2.2.1 ((S_codec_Reader.mk r1 0 true).gmade)).gmade)).gmade)).gmade))]), .var (.st 1 [(.ref 2 [] 0)]), .var (.st 15 [(k64 r2.2.2), (j64 r3.2.2), (k32 (U32 r4.2.2)), (eA 8 1 k8 v7), (k32 0), (k32 0), (j64 0), (j64 0)])]) hv7 (by kernel_rfl) (by kernel_rfl) (by kernel_rfl)), trivial⟩ ?_
 obtain ⟨r8, hr8, h⟩ := obind h
 obtain ⟨r9, hr9, h⟩ := obind h
 obtain ⟨r10, hr10, h⟩ := obind h
 obtain ⟨r11, hr11, h⟩ := obind h
 refine aw_sdrawV hT hmo m_no [] [(2, fun _ => ((k64 r8.2.2), [.var cv_2, .tail (r1.length * 1), .var (.st 3 [(eL 1 k8 r8.1), (j64 r8.2.1), (eB ((S_codec_Reader.mk r6.1 r6.2.1 ((S_codec_Reader.mk r4.1 r4.2.1 ((S_codec_Reader.mk r3.1 r3.2.1 ((S_codec_Reader.mk r2.1 r2.2.1 ((S_codec_Reader.mk r1 0 true).gmade)).gmade)).gmade)).gmade)).gmade))]), .var (.st 1 [(.ref 2 [] 0)]), .var (.st 15 [(k64 r2.2.2), (j64 r3.2.2), (k32 (U32 r4.2.2)), (eA 8 1 k8 v7), (k32 0), (k32 0), (j64 0), (j64 0)])])), (6, fun _ => ((k64 r9.2.2), [.var cv_2, .tail (r1.length * 1), .var (.st 3 [(eL 1 k8 r9.1), (j64 r9.2.1), (eB ((S_codec_Reader.mk r8.1 r8.2.1 ((S_codec_Reader.mk r6.1 r6.2.1 ((S_codec_Reader.mk r4.1 r4.2.1 ((S_codec_Reader.mk r3.1 r3.2.1 ((S_codec_Reader.mk r2.1 r2.2.1 ((S_codec_Reader.mk r1 0 true).gmade)).gmade)).gmade)).gmade)).gmade)).gmade))]), .var (.st 1 [(.ref 2 [] 0)]), .var (.st 15 [(k64 r2.2.2), (j64 r3.2.2), (k32 (U32 r4.2.2)), (eA 8 1 k8 v7), (k32 0), (k32 0), (j64 0), (j64 0)])])), (9, fun _ => ((j64 r10.2.2), [.var cv_2, .tail (r1.length * 1), .var (.st 3 [(eL 1 k8 r10.1), (j64 r10.2.1), (eB ((S_codec_Reader.mk r9.1 r9.2.1 ((S_codec_Reader.mk r8.1 r8.2.1 ((S_codec_Reader.mk r6.1 r6.2.1 ((S_codec_Reader.mk r4.1 r4.2.1 ((S_codec_Reader.mk r3.1 r3.2.1 ((S_codec_Reader.mk r2.1 r2.2.1 ((S_codec_Reader.mk r1 0 true).gmade)).gmade)).gmade)).gmade)).gmade)).gmade)).gmade))]), .var (.st 1 [(.ref 2 [] 0)]), .var (.st 15 [(k64 r2.2.2), (j64 r3.2.2), (k32 (U32 r4.2.2)), (eA 8 1 k8 v7), (k32 0), (k32 0), (j64 0), (j64 0)])])), (11, fun _ => ((j64 r11.2.2), [.var cv_2, .tail (r1.length * 1), .var (.st 3 [(eL 1 k8 r11.1), (j64 r11.2.1), (eB ((S_codec_Reader.mk r10.1 r10.2.1 ((S_codec_Reader.mk r9.1 r9.2.1 ((S_codec_Reader.mk r8.1 r8.2.1 ((S_codec_Reader.mk r6.1 r6.2.1 ((S_codec_Reader.mk r4.1 r4.2.1 ((S_codec_Reader.mk r3.1 r3.2.1 ((S_codec_Reader.mk r2.1 r2.2.1 ((S_codec_Reader.mk r1 0 true).gmade)).gmade)).gmade)).gmade)).gmade)).gmade)).gmade)).gmade))]), .var (.st 1 [(.ref 2 [] 0)]), .var (.st 15 [(k64 r2.2.2), (j64 r3.2.2), (k32 (U32 r4.2.2)), (eA 8 1 k8 v7), (k32 0), (k32 0), (j64 0), (j64 0)])]))] (by kernel_rfl) (by kernel_rfl) (by kernel_rfl) trivial ⟨big_at (big_call [2] (codec_Reader_Num_rd_ok hr8) codec_Reader_Num_rd_ok_c), big_at (big_call [2] (codec_Reader_Num_rd_ok hr9) codec_Reader_Num_rd_ok_c), big_at (big_call [2] (manifest_decoder_int_srzd_ok hr10) manifest_decoder_int_srzd_ok_c), big_at (big_call [2] (manifest_decoder_int_srzd_ok hr11) manifest_decoder_int_srzd_ok_c), trivial⟩ ?_
 refine aw_seq ?_
 refine aw_sreg ?_
 refine awl_u hT m_no [] 2 (by kernel_rfl) ?_
 obtain ⟨r12, hr12, h⟩ := obind h
 refine awl_big (big_call [2] (codec_Reader_End_r_ok hr12) codec_Reader_End_r_ok_c) (by kernel_rfl) ?_
 refine awl_u hT m_no [] 1 (by kernel_rfl) ?_
 refine awl_nil ?_
 refine aw_sregU hT m_no [] (by kernel_rfl) ?_
 refine aw_condH h (by kernel_rfl) (fun _ h => ?_) (fun _ h => ?_)
 ·refine aw_sregU hT m_no [] (by kernel_rfl) ?_
  refine aw_ret (tn_r ?_)
  cases h
  exact fin_r
 ·refine aw_skip (tn_n ?_)
  refine aw_seq ?_
  refine aw_sreg ?_
  refine awl_u hT m_no [] 1 (by kernel_rfl) ?_
  obtain ⟨r13, hr13, h⟩ := obind h
  refine awl_big (big_call [] (manifest_Check_ok hr13) manifest_Check_ok_c) (by kernel_rfl) ?_
  refine awl_u hT m_no [] 1 (by kernel_rfl) ?_
  refine awl_nil ?_
  refine aw_sregU hT m_no [] (by kernel_rfl) ?_
  refine aw_condH h (by kernel_rfl) (fun _ h => ?_) (fun _ h => ?_)
  ·refine aw_sregU hT m_no [] (by kernel_rfl) ?_
   refine aw_ret (tn_r ?_)
   cases h
   exact fin_r
  ·refine aw_skip (tn_n ?_)
   refine aw_sregU hT m_no [] (by kernel_rfl) ?_
   refine aw_ret ?_
   cases h
   exact fin_r

theorem manifest_Decode_ok_c : callable Try.prog 30 := ⟨_, Try.func30, by decide, rfl⟩

def m_bundle_Peek : Nat → Bool := imL [2]

def p_bundle_Peek (N : Nat) (a0 : (Vector Int 32)) (a1 : (List Int)) : Option (S_api_Manifest × Int) :=
 letO (decide (((a1.length : Int)) < 63)) fun x1 =>
 cond x1 (
  some ((S_api_Manifest.mk 0 0 0 (Vector.replicate 8 0) 0 0 0 0, 4))) (
  Option.bind (p_bytes_HasPrefix N a1 (([85, 77, 66, 49] : List Int))) fun r2 =>
  cond (!r2) (
   some ((S_api_Manifest.mk 0 0 0 (Vector.replicate 8 0) 0 0 0 0, 5))) (
   Option.bind (slcO a1 4 12) fun s3 =>
   Option.bind (vecO 8 s3) fun v4 =>
   Option.bind (p_bundle_Nonce N v4 0) fun r5 =>
   Option.bind (slcO a1 0 47) fun s6 =>
   Option.bind (slcO a1 47 63) fun s7 =>
   Option.bind (p_aead_Open N a0 r5 s6 s7) fun r8 =>
   cond (r8.2 != 0) (
    some ((S_api_Manifest.mk 0 0 0 (Vector.replicate 8 0) 0 0 0 0, r8.2))) (
    Option.bind (slcO a1 12 47) fun s9 =>
    Option.bind (p_manifest_Decode N s9) fun r10 =>
    some ((r10.1, r10.2)))))

theorem bundle_Peek_ok {N : Nat} {a0 : (Vector Int 32)} {a1 : (List Int)} {r : S_api_Manifest × Int} (h : p_bundle_Peek N a0 a1 = some r) : FnM Try.prog 11 [] [(eA 32 1 k8 a0), (eL 1 k8 a1)] (.tup [(S_api_Manifest.enc r.1), (j64 r.2)]) [] := by
 unfold p_bundle_Peek at h
 refine fnM_of_aw (m := 45) (lo := 0) (rs := [.cell 4 27, .tmp 5]) hT Try.func11 rfl (by kernel_rfl) rfl ?_
 refine aw_sregU hT m_bundle_Peek [] (by kernel_rfl) ?_
 refine aw_seq ?_
 refine aw_block ?_
 obtain ⟨x1, hx1, h⟩ := letE h
 refine aw_sregU hT m_bundle_Peek [] (by kernel_rfl) ?_
 refine aw_nms [(9, (eB x1))] (by subst hx1; kernel_rfl) ?_
 refine aw_condH h (by kernel_rfl) (fun _ h => ?_) (fun _ h => ?_)
 ·refine aw_sregU hT m_bundle_Peek [] (by kernel_rfl) ?_
  refine aw_ret (inB_r (tn_r ?_))
  cases h
  exact fin_r
 ·refine aw_sreg ?_
  refine awl_u hT m_bundle_Peek [] 1 (by kernel_rfl) ?_
  refine awl_lit2 hT k8 (k := 1) (t := 47) (e := 5) ([85, 77, 66, 49] : List Int) rfl rfl rfl rfl rfl (by kernel_rfl) rfl rfl rfl (by kernel_rfl) (by kernel_rfl) ?_
  obtain ⟨r2, hr2, h⟩ := obind h
  refine awl_big (big_call [] (bytes_HasPrefix_ok hr2) bytes_HasPrefix_ok_c) (by kernel_rfl) ?_
  refine awl_u hT m_bundle_Peek [] 2 (by kernel_rfl) ?_
  refine awl_nil ?_
  refine aw_condH h (by kernel_rfl) (fun _ h => ?_) (fun _ h => ?_)
  ·refine aw_sregU hT m_bundle_Peek [] (by kernel_rfl) ?_
   refine aw_ret (inB_r (tn_r ?_))
   cases h
   exact fin_r
  ·refine aw_skip (inB_n (tn_n ?_))
   refine aw_sreg ?_
   refine awl_u hT m_bundle_Peek [] 1 (by kernel_rfl) ?_
   obtain ⟨s3, hs3, h⟩ := obind h
   refine awl_big (big_slc hT (k := 1) k8 hs3) (by kernel_rfl) ?_
   obtain ⟨v4, hv4, h⟩ := obind h
   refine awl_big (big_s2a hT k8 s3 v4 hv4 rfl (by kernel_rfl) (by kernel_rfl)) (by kernel_rfl) ?_
   refine awl_u hT m_bundle_Peek [] 3 (by kernel_rfl) ?_
   refine awl_nil ?_
   refine aw_seq ?_
   obtain ⟨r5, hr5, h⟩ := obind h
   obtain ⟨s6, hs6, h⟩ := obind h
   obtain ⟨s7, hs7, h⟩ := obind h
   obtain ⟨r8, hr8, h⟩ := obind h
   refine aw_sdrawV hT hmo m_bundle_Peek [(2, (eA 12 1 k8 r5)), (4, (eL 1 k8 s6)), (6, (eL 1 k8 s7)), (7, (.tup [(eL 1 k8 r8.1), (j64 r8.2)]))] [] (by kernel_rfl) (by kernel_rfl) (by kernel_rfl) ⟨fun _ => big_call0 (bundle_Nonce_ok hr5) bundle_Nonce_ok_c (by kernel_rfl) (by kernel_rfl) (by kernel_rfl), fun _ => big_slc hT (k := 1) k8 hs6, fun _ => big_slc hT (k := 1) k8 hs7, fun _ => big_call0 (aead_Open_ok hr8) aead_Open_ok_c (by kernel_rfl) (by kernel_rfl) (by kernel_rfl), trivial⟩ trivial ?_
   refine aw_sregU hT m_bundle_Peek [] (by kernel_rfl) ?_
   refine aw_condH h (by kernel_rfl) (fun _ h => ?_) (fun _ h => ?_)
   ·refine aw_sregU hT m_bundle_Peek [] (by kernel_rfl) ?_
    refine aw_ret (tn_r ?_)
    cases h
    exact fin_r
   ·refine aw_skip (tn_n ?_)
    refine aw_sreg ?_
    refine awl_u hT m_bundle_Peek [] 1 (by kernel_rfl) ?_
    obtain ⟨s9, hs9, h⟩ := obind h
    refine awl_big (big_slc hT (k := 1) k8 hs9) (by kernel_rfl) ?_
    obtain ⟨r10, hr10, h⟩ := obind h
    refine awl_big (big_call [] (manifest_Decode_ok hr10) manifest_Decode_ok_c) (by kernel_rfl) ?_
    refine awl_u hT m_bundle_Peek [] 4 (by kernel_rfl) ?_
    refine awl_nil ?_
    refine aw_ret ?_
    cases h
    exact fin_r

theorem bundle_Peek_ok_c : callable Try.prog 11 := ⟨_, Try.func11, by decide, rfl⟩

def p_bundle_Open_1 (N : Nat) (a0 : Int) : Option (S_api_Manifest × S_api_Asset × Int) :=
 some ((S_api_Manifest.mk 0 0 0 (Vector.replicate 8 0) 0 0 0 0, S_api_Asset.mk 0 (S_api_Mesh.mk [] [] []) (S_api_Texture.mk 0 []) (S_api_Material.mk 0 (#v[0, 0, 0]) 0) (S_api_Light.mk 0 (#v[0, 0, 0]) (S_api_Point.mk 0 0 0) (S_api_Point.mk 0 0 0) (S_api_Point.mk 0 0 0)), a0))

theorem bundle_Open_1_ok {N : Nat} {a0 : Int} {r : S_api_Manifest × S_api_Asset × Int} (h : p_bundle_Open_1 N a0 = some r) : FnM Try.prog 24 [] [(j64 a0)] (.tup [(S_api_Manifest.enc r.1), (S_api_Asset.enc r.2.1), (j64 r.2.2)]) [] := by
 unfold p_bundle_Open_1 at h
 refine fnM_of_aw (m := 8) (lo := 0) (rs := [.cell 2 27, .cell 3 45, .tmp 4]) hT Try.func24 rfl (by kernel_rfl) rfl ?_
 refine aw_sregU hT m_no [] (by kernel_rfl) ?_
 refine aw_sregU hT m_no [] (by kernel_rfl) ?_
 refine aw_ret ?_
 cases h
 exact fin_r

theorem bundle_Open_1_ok_c : callable Try.prog 24 := ⟨_, Try.func24, by decide, rfl⟩

def m_bundle_chunk_ddrddd : Nat → Bool := imL [6, 7]

def p_bundle_chunk_ddrddd (N : Nat) (a0 : (Vector Int 32)) (a1 : (Vector Int 12)) (a2 : (List Int)) (a3 : Int) (a4 : Int) (a5 : S_codec_Reader) : Option (S_codec_Reader × (List Int) × Int) :=
 Option.bind (p_codec_Reader_Take_rd N 4 a5) fun r1 =>
 letO (decide (((r1.2.2.length : Int)) < 4)) fun x2 =>
 cond x2 (
  some ((S_codec_Reader.mk r1.1 r1.2.1 a5.gmade, [], 4))) (
  Option.bind (p_codec_Put N [] 2 ([U64 a3, U64 a4])) fun r3 =>
  Option.bind (p_bytes_Equal N r1.2.2 r3.1) fun r4 =>
  cond (!r4) (
   some ((S_codec_Reader.mk r1.1 r1.2.1 a5.gmade, [], 7))) (
   Option.bind (p_codec_Reader_Take_rd N (I64 (a4 + 16)) (S_codec_Reader.mk r1.1 r1.2.1 a5.gmade)) fun r5 =>
   Option.bind (p_codec_Reader_Err_r N (S_codec_Reader.mk r5.1 r5.2.1 ((S_codec_Reader.mk r1.1 r1.2.1 a5.gmade).gmade))) fun r6 =>
   cond (r6 != 0) (
    Option.bind (p_codec_Reader_Err_r N ((S_codec_Reader.mk r5.1 r5.2.1 ((S_codec_Reader.mk r1.1 r1.2.1 a5.gmade).gmade)))) fun r7 =>
    some ((((S_codec_Reader.mk r5.1 r5.2.1 ((S_codec_Reader.mk r1.1 r1.2.1 a5.gmade).gmade))), [], r7))) (
    Option.bind (p_slices_Concat_byte_byte N ([r1.2.2, a2])) fun r8 =>
    Option.bind (p_aead_Open N a0 a1 r8 r5.2.2) fun r9 =>
    some (((S_codec_Reader.mk r5.1 r5.2.1 ((S_codec_Reader.mk r1.1 r1.2.1 a5.gmade).gmade)), r9.1, r9.2)))))

theorem bundle_chunk_ddrddd_ok {N : Nat} {a0 : (Vector Int 32)} {a1 : (Vector Int 12)} {a2 : (List Int)} {a3 : Int} {a4 : Int} {a5 : S_codec_Reader} {r : S_codec_Reader × (List Int) × Int} (h : p_bundle_chunk_ddrddd N a0 a1 a2 a3 a4 a5 = some r) : FnM Try.prog 26 [.var (S_codec_Reader.enc a5)] [(eA 32 1 k8 a0), (eA 12 1 k8 a1), (.ref 0 [] 0), (eL 1 k8 a2), (j64 a3), (j64 a4)] (.tup [(eL 1 k8 r.2.1), (j64 r.2.2)]) [.var (S_codec_Reader.enc r.1)] := by
 unfold p_bundle_chunk_ddrddd at h
 refine fnM_of_aw (m := 55) (lo := 1) (rs := [.tmp 12, .tmp 13]) hT Try.func26 rfl (by kernel_rfl) rfl ?_
 refine aw_sregU hT m_bundle_chunk_ddrddd [] (by kernel_rfl) ?_
 refine aw_sreg ?_
 refine awl_u hT m_bundle_chunk_ddrddd [] 1 (by kernel_rfl) ?_
 obtain ⟨r1, hr1, h⟩ := obind h
 refine awl_big (big_call [0] (codec_Reader_Take_rd_ok hr1) codec_Reader_Take_rd_ok_c) (by kernel_rfl) ?_
 refine awl_u hT m_bundle_chunk_ddrddd [] 1 (by kernel_rfl) ?_
 refine awl_nil ?_
 refine aw_seq ?_
 obtain ⟨x2, hx2, h⟩ := letE h
 refine aw_sregU hT m_bundle_chunk_ddrddd [] (by kernel_rfl) ?_
 refine aw_nms [(22, (eB x2))] (by subst hx2; kernel_rfl) ?_
 refine aw_condH h (by kernel_rfl) (fun _ h => ?_) (fun _ h => ?_)
 ·refine aw_sregU hT m_bundle_chunk_ddrddd [] (by kernel_rfl) ?_
  refine aw_ret (tn_r ?_)
  cases h
  exact fin_r
 ·refine aw_skip (tn_n ?_)
  refine aw_seq ?_
  refine aw_sreg ?_
  refine awl_u hT m_bundle_chunk_ddrddd [] 4 (by kernel_rfl) ?_
  refine awl_big (big_row hT (x := (.sl 1 2 [(k64 (U64 a3)), (k64 (U64 a4))]))) (by kernel_rfl) ?_
  obtain ⟨r3, hr3, h⟩ := obind h
  refine awl_big (big_call [] (codec_Put_ok hr3) codec_Put_ok_c) (by kernel_rfl) ?_
  refine awl_u hT m_bundle_chunk_ddrddd [] 5 (by kernel_rfl) ?_
  refine awl_nil ?_
  refine aw_sreg ?_
  refine awl_u hT m_bundle_chunk_ddrddd [] 2 (by kernel_rfl) ?_
  obtain ⟨r4, hr4, h⟩ := obind h
  refine awl_big (big_call [] (bytes_Equal_ok hr4) bytes_Equal_ok_c) (by kernel_rfl) ?_
  refine awl_u hT m_bundle_chunk_ddrddd [] 1 (by kernel_rfl) ?_
  refine awl_nil ?_
  refine aw_condH h (by kernel_rfl) (fun _ h => ?_) (fun _ h => ?_)
  ·refine aw_sregU hT m_bundle_chunk_ddrddd [] (by kernel_rfl) ?_
   refine aw_ret (tn_r ?_)
   cases h
   exact fin_r
  ·refine aw_skip (tn_n ?_)
   refine aw_sreg ?_
   refine awl_u hT m_bundle_chunk_ddrddd [] 3 (by kernel_rfl) ?_
   obtain ⟨r5, hr5, h⟩ := obind h
   refine awl_big (big_call [0] (codec_Reader_Take_rd_ok hr5) codec_Reader_Take_rd_ok_c) (by kernel_rfl) ?_
   refine awl_u hT m_bundle_chunk_ddrddd [] 1 (by kernel_rfl) ?_
   refine awl_nil ?_
   refine aw_seq ?_
   refine aw_sreg ?_
   refine awl_u hT m_bundle_chunk_ddrddd [] 1 (by kernel_rfl) ?_
   obtain ⟨r6, hr6, h⟩ := obind h
   refine awl_big (big_call [0] (codec_Reader_Err_r_ok hr6) codec_Reader_Err_r_ok_c) (by kernel_rfl) ?_
   refine awl_u hT m_bundle_chunk_ddrddd [] 1 (by kernel_rfl) ?_
   refine awl_nil ?_
   refine aw_condH h (by kernel_rfl) (fun _ h => ?_) (fun _ h => ?_)
   ·refine aw_sreg ?_
    refine awl_u hT m_bundle_chunk_ddrddd [] 1 (by kernel_rfl) ?_
    obtain ⟨r7, hr7, h⟩ := obind h
    refine awl_big (big_call [0] (codec_Reader_Err_r_ok hr7) codec_Reader_Err_r_ok_c) (by kernel_rfl) ?_
    refine awl_u hT m_bundle_chunk_ddrddd [] 2 (by kernel_rfl) ?_
    refine awl_nil ?_
    refine aw_ret (tn_r ?_)
    cases h
    exact fin_r
   ·refine aw_skip (tn_n ?_)
    obtain ⟨r8, hr8, h⟩ := obind h
    obtain ⟨r9, hr9, h⟩ := obind h
    refine aw_sdrawV hT hmo m_bundle_chunk_ddrddd [(4, (.sl 1 2 [(eL 1 k8 r1.2.2), (eL 1 k8 a2)])), (7, (.tup [(eL 1 k8 r9.1), (j64 r9.2)]))] [(5, fun _ => ((eO 2 1 k8 r8), [.var (S_codec_Reader.enc ((S_codec_Reader.mk r5.1 r5.2.1 ((S_codec_Reader.mk r1.1 r1.2.1 a5.gmade).gmade)))), .tail (r3.1.length * 1), .tail (r8.length * 1)]))] (by kernel_rfl) (by kernel_rfl) (by kernel_rfl) ⟨fun _ => big_row hT (x := (.sl 1 2 [(eL 1 k8 r1.2.2), (eL 1 k8 a2)])), fun _ => big_call0 (aead_Open_ok hr9) aead_Open_ok_c (by kernel_rfl) (by kernel_rfl) (by kernel_rfl), trivial⟩ ⟨big_at (big_call [] (slices_Concat_byte_byte_ok hr8) slices_Concat_byte_byte_ok_c), trivial⟩ ?_
    refine aw_ret ?_
    cases h
    exact fin_r

theorem bundle_chunk_ddrddd_ok_c : callable Try.prog 26 := ⟨_, Try.func26, by decide, rfl⟩

end Go.UK

