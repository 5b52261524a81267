/- A part of the proof: what the functions of the program compute. -/
import Derived.Test.YtbifjcmhomoppaaGreatH8
namespace Go.UK
open Go Go.Proofs
set_option maxRecDepth 20000
set_option maxHeartbeats 4000000
set_option linter.all false

attribute [local irreducible] adv putPt dropPt setPt brPt litPt cutPt restPt popN unrPt stPt envPt boxPt opPt opP2t ksPt lPt owp awl aw FnM NatFn opS Stab TOK Big
def p_codec_Reader_Num_rd_L1 (N : Nat) (r3 : (List Int) × Int × (List Int)) : Nat → Int → Int → Option (Int)
 | 0, _, _ => none
 | k + 1, s5, s6 =>
  letO (decide (s6 < ((r3.2.2.length : Int)))) fun x7 =>
  cond x7 (
   Option.bind (idx r3.2.2 s6) fun e8 =>
   Option.bind (shlO .u64 (U64 e8) (I64 (8 * s6))) fun x9 =>
   p_codec_Reader_Num_rd_L1 N r3 k (bor .u64 s5 x9) (I64 (s6 + 1))) (
   some s5)

def p_codec_Reader_Num_rd (N : Nat) (a0 : Int) (a1 : S_codec_Reader) : Option ((List Int) × Int × Int) :=
 Option.bind (letO (cond (decide (a0 < 1)) true (decide (a0 > 8))) fun x2 =>
 cond x2 (some (-1)) (some a0)) fun p1 =>
 Option.bind (p_codec_Reader_Take_rd N p1 a1) fun r3 =>
 Option.bind (p_codec_Reader_Num_rd_L1 N r3 N 0 0) fun p4 =>
 some ((r3.1, r3.2.1, p4))

theorem codec_Reader_Num_rd_ok {N : Nat} {a0 : Int} {a1 : S_codec_Reader} {r : (List Int) × Int × Int} (h : p_codec_Reader_Num_rd N a0 a1 = some r) : FnM Tryz.prog 40 [.var (S_codec_Reader.enc a1)] [(.ref 0 [] 0), (j64 a0)] (k64 r.2.2) [.var (.st 3 [(eL 1 k8 r.1), (j64 r.2.1), (eB a1.gmade)])] := by
 unfold p_codec_Reader_Num_rd at h
 refine At.fn m_no hT hmo (m := 32) (lo := 1) (rs := [.tmp 4]) Tryz.func40 rfl rfl h ?_
 refine At.j 1 1 (fun p1 => ⟨[en 0 (.ref 0 [] 0), en 1 (j64 p1)], [.var (S_codec_Reader.enc a1)]⟩) (fun p1 => ?_) fun p1 => ?_
 ·refine lx ?_; intro x2
  refine At.c 6 ?_ ?_
  ·apply rt; exact At.jn 1
  ·apply rt; exact At.jn 0
 ·refine At.b 3 (fun _ e => big_call [0] (codec_Reader_Take_rd_ok e) codec_Reader_Take_rd_ok_c) fun r3 => ?_
  refine At.l 2 (fun p4 => ⟨[en 5 (k64 p4)], [.var (.st 3 [(eL 1 k8 r3.1), (j64 r3.2.1), (eB a1.gmade)])]⟩) (fun p4 J k s => ∃ s5 s6, p_codec_Reader_Num_rd_L1 N r3 k s5 s6 = some p4 ∧ J ⟨[en 5 (k64 s5), en 16 (eL 1 k8 r3.2.2), en 17 (j64 ((r3.2.2.length : Int))), en 18 (j64 s6)], [.var (.st 3 [(eL 1 k8 r3.1), (j64 r3.2.1), (eB a1.gmade)])]⟩ s) N (fun _ h => ⟨_, _, h, jr⟩) (fun p4 k s hI => ?_) fun p4 => ?_
  ·obtain ⟨s5, s6, h, hj⟩ := hI
   cases k with
   | zero => cases h
   | succ k =>
    refine At.jr hj ?_ h
    refine lx ?_; intro x7
    refine At.c 1 ?_ ?_
    ·refine At.b 1 (fun _ e => big_idx hT k8 e) fun e8 => ?_
     refine At.b 8 (fun _ e => big_shl hT (k' := .i64) e (by kernel_rfl) (by kernel_rfl)) fun x9 => ?_
     exact fun h => At.k 4 ⟨_, _, h, jr⟩
    ·apply rt; exact At.x 0
  ·apply rt; exact At.r 2

theorem codec_Reader_Num_rd_ok_c : callable Tryz.prog 40 := ⟨_, Tryz.func40, by decide, rfl⟩

def p_keys_Ring_find_rd (N : Nat) (b1 : (List (Int × S_keys_span))) (a1 : Int) (a2 : (Vector Int 32)) : Option (S_keys_span × Int) :=
 Option.bind (p_keys_Ring_none_r N b1 a2) fun r1 =>
 cond (!(mhas b1 a1)) (
  some ((S_keys_span.mk 0 0, 11))) (
  some ((mgetD b1 a1 (S_keys_span.mk 0 0), 0)))

theorem keys_Ring_find_rd_ok {N : Nat} {b1 : (List (Int × S_keys_span))} {a1 : Int} {a2 : (Vector Int 32)} {r : S_keys_span × Int} (h : p_keys_Ring_find_rd N b1 a1 a2 = some r) : FnM Tryz.prog 38 [.var (.st 33 [(eA 32 1 k8 a2), (.mp 1)]), .mp (eM .i64 S_keys_span.enc b1)] [(.ref 0 [] 0), (j64 a1)] (.tup [(S_keys_span.enc r.1), (j64 r.2)]) [.var (.st 33 [(eA 32 1 k8 a2), (.mp 1)]), .mp (eM .i64 S_keys_span.enc b1)] := by
 unfold p_keys_Ring_find_rd at h
 refine At.fn m_no hT hmo (m := 24) (lo := 2) (rs := [.cell 4 113, .tmp 5]) Tryz.func38 rfl rfl h ?_
 refine At.b 3 (fun _ e => big_call [0, 1] (keys_Ring_none_r_ok e) keys_Ring_none_r_ok_c) fun r1 => ?_
 refine At.o 6 (big_lo2 hT (f := S_keys_span.enc) (z := S_keys_span.mk 0 0) (id := 1) (k := a1) mpt_93 (fun _ _ h => by cases h) (b1 : List (Int × S_keys_span)) (by kernel_rfl) (by kernel_rfl) (by kernel_rfl)) ?_
 refine At.c 8 ?_ ?_
 ·apply rt; exact At.r 3
 ·apply rt; exact At.r 3

theorem keys_Ring_find_rd_ok_c : callable Tryz.prog 38 := ⟨_, Tryz.func38, by decide, rfl⟩

def p_bytes_Equal (N : Nat) (a0 : (List Int)) (a1 : (List Int)) : Option (Bool) :=
 letO (ByteArray.toList (strO a0) == ByteArray.toList (strO a1)) fun x1 =>
 some x1

theorem bytes_Equal_ok {N : Nat} {a0 : (List Int)} {a1 : (List Int)} {r : Bool} (h : p_bytes_Equal N a0 a1 = some r) : FnM Tryz.prog 10 [] [(eL 1 k8 a0), (eL 1 k8 a1)] (eB r) [] := by
 unfold p_bytes_Equal at h
 refine At.fn m_no hT hmo (m := 10) (lo := 0) (rs := [.tmp 4]) Tryz.func10 rfl rfl h ?_
 refine At.o 2 (big_b2s hT a0 (v := (eL 1 k8 a0)) (e := 5) (by kernel_rfl) (by kernel_rfl) (by kernel_rfl)) ?_
 refine At.o 1 (big_b2s hT a1 (v := (eL 1 k8 a1)) (e := 5) (by kernel_rfl) (by kernel_rfl) (by kernel_rfl)) ?_
 refine lx ?_; intro x1
 apply rt; exact At.r 2

theorem bytes_Equal_ok_c : callable Tryz.prog 10 := ⟨_, Tryz.func10, by decide, rfl⟩

def p_bytes_HasPrefix (N : Nat) (a0 : (List Int)) (a1 : (List Int)) : Option (Bool) :=
 Option.bind (letO (decide (((a0.length : Int)) ≥ ((a1.length : Int)))) fun x2 =>
 cond x2 (
  Option.bind (slcO a0 0 ((a1.length : Int))) fun s3 =>
  Option.bind (p_bytes_Equal N s3 a1) fun r4 =>
  some r4) (
  some false)) fun p1 =>
 some p1

theorem bytes_HasPrefix_ok {N : Nat} {a0 : (List Int)} {a1 : (List Int)} {r : Bool} (h : p_bytes_HasPrefix N a0 a1 = some r) : FnM Tryz.prog 103 [] [(eL 1 k8 a0), (eL 1 k8 a1)] (eB r) [] := by
 unfold p_bytes_HasPrefix at h
 refine At.fn m_no hT hmo (m := 18) (lo := 0) (rs := [.tmp 4]) Tryz.func103 rfl rfl h ?_
 refine At.j 1 0 (fun p1 => ⟨[en 4 (eB p1)], []⟩) (fun p1 => ?_) fun p1 => ?_
 ·refine lx ?_; intro x2
  refine At.s 10 6 ?_ ?_
  ·refine At.g [10] 3 ?_
   refine At.b 0 (fun _ e => big_slc hT (k := 1) k8 e) fun s3 => ?_
   refine At.g [10] 1 ?_
   refine At.b 0 (fun _ e => big_call [] (bytes_Equal_ok e) bytes_Equal_ok_c) fun r4 => ?_
   refine At.g [10] 2 ?_
   apply rt; exact At.jn 0
  ·refine At.g [10] 8 ?_
   apply rt; exact At.jn 0
 ·apply rt; exact At.r 0

theorem bytes_HasPrefix_ok_c : callable Tryz.prog 103 := ⟨_, Tryz.func103, by decide, rfl⟩

def m_poly_Same : Nat → Bool := imL [2, 3]

def p_poly_Same_L1 (N : Nat) (a0 : (Vector Int 16)) (a1 : (Vector Int 16)) : Nat → Int → Int → Option (Int)
 | 0, _, _ => none
 | k + 1, s2, s3 =>
  cond (decide (s3 < 16)) (
   Option.bind (idx a0.toList s3) fun e4 =>
   Option.bind (idx a1.toList s3) fun e5 =>
   letO (bor .u8 s2 (bxor .u8 e4 e5)) fun x6 =>
   p_poly_Same_L1 N a0 a1 k x6 (I64 (s3 + 1))) (
   some s2)

def p_poly_Same (N : Nat) (a0 : (Vector Int 16)) (a1 : (Vector Int 16)) : Option (Bool) :=
 Option.bind (p_poly_Same_L1 N a0 a1 N 0 0) fun p1 =>
 some (p1 == 0)

theorem poly_Same_ok {N : Nat} {a0 : (Vector Int 16)} {a1 : (Vector Int 16)} {r : Bool} (h : p_poly_Same N a0 a1 = some r) : FnM Tryz.prog 151 [] [(eA 16 1 k8 a0), (eA 16 1 k8 a1)] (eB r) [] := by
 unfold p_poly_Same at h
 refine At.fn m_poly_Same hT hmo (m := 22) (lo := 0) (rs := [.tmp 4]) Tryz.func151 rfl rfl h ?_
 refine At.l 5 (fun p1 => ⟨[en 5 (k8 p1)], []⟩) (fun p1 J k s => ∃ s2 s3, p_poly_Same_L1 N a0 a1 k s2 s3 = some p1 ∧ J ⟨[en 2 (.im (eA 16 1 k8 a0)), en 3 (.im (eA 16 1 k8 a1)), en 5 (k8 s2), en 7 (j64 s3)], []⟩ s) N (fun _ h => ⟨_, _, h, jr⟩) (fun p1 k s hI => ?_) fun p1 => ?_
 ·obtain ⟨s2, s3, h, hj⟩ := hI
  cases k with
  | zero => cases h
  | succ k =>
   refine At.jr hj ?_ h
   refine At.c 1 ?_ ?_
   ·refine bi fun e4 he4 => ?_
    refine bi fun e5 he5 => ?_
    refine lx ?_; intro x6
    refine At.d 2 (dE1 2 (fun _ => big_adI hT (N := 16) (k := 1) k8 a0 he4) (dE1 5 (fun _ => big_adI hT (N := 16) (k := 1) k8 a1 he5) dE0)) dF0 ?_
    exact fun h => At.k 2 ⟨_, _, h, jr⟩
   ·apply rt; exact At.x 0
 ·apply rt; exact At.r 3

theorem poly_Same_ok_c : callable Tryz.prog 151 := ⟨_, Tryz.func151, by decide, rfl⟩

def m_aead_Open : Nat → Bool := imL [4, 5]

def p_aead_Open (N : Nat) (a0 : (Vector Int 32)) (a1 : (Vector Int 12)) (a2 : (List Int)) (a3 : (List Int)) : Option ((List Int) × Int) :=
 letO (I64 (((a3.length : Int)) - 16)) fun x1 =>
 cond (decide (x1 < 0)) (
  some (([], 4))) (
  letO (decide (((a2.length : Int)) > 16384)) fun x2 =>
  letO (cond x2 true (decide (x1 > 16384))) fun x3 =>
  cond x3 (
   some (([], 3))) (
   Option.bind (slcO a3 0 x1) fun s4 =>
   Option.bind (p_aead_Mac N a0 a1 a2 s4) fun r5 =>
   Option.bind (slcO a3 x1 ((a3.length : Int))) fun s6 =>
   Option.bind (vecO 16 s6) fun v7 =>
   Option.bind (p_poly_Same N r5 v7) fun r8 =>
   cond (!r8) (
    some (([], 6))) (
    Option.bind (p_chacha_Xor N a0 1 a1 ([s4])) fun r9 =>
    some ((r9, 0)))))

theorem aead_Open_ok {N : Nat} {a0 : (Vector Int 32)} {a1 : (Vector Int 12)} {a2 : (List Int)} {a3 : (List Int)} {r : (List Int) × Int} (h : p_aead_Open N a0 a1 a2 a3 = some r) : FnM Tryz.prog 104 [] [(eA 32 1 k8 a0), (eA 12 1 k8 a1), (eL 1 k8 a2), (eL 1 k8 a3)] (.tup [(eL 1 k8 r.1), (j64 r.2)]) [] := by
 unfold p_aead_Open at h
 refine At.fn m_aead_Open hT hmo (m := 46) (lo := 0) (rs := [.tmp 8, .tmp 9]) Tryz.func104 rfl rfl h ?_
 refine lx ?_; intro x1
 refine At.c 11 ?_ ?_
 ·apply rt; exact At.r 2
 ·refine lx ?_; intro x2
  refine lx ?_; intro x3
  refine At.c 8 ?_ ?_
  ·apply rt; exact At.r 2
  ·refine At.b 2 (fun _ e => big_slc hT (k := 1) k8 e) fun s4 => ?_
   refine bi fun r5 hr5 => ?_
   refine bi fun s6 hs6 => ?_
   refine bi fun v7 hv7 => ?_
   refine bi fun r8 hr8 => ?_
   refine At.d 1 (dE2 4 (eA 16 1 k8 r5) (fun _ => big_call0 (aead_Mac_ok hr5) aead_Mac_ok_c (by kernel_rfl) (by kernel_rfl) (by kernel_rfl)) (dE1 7 (fun _ => big_slc hT (k := 1) k8 hs6) (dE1 8 (fun _ => big_s2a hT k8 s6 v7 hv7 rfl (by kernel_rfl) (by kernel_rfl)) (dE2 10 (eB r8) (fun _ => big_call0 (poly_Same_ok hr8) poly_Same_ok_c (by kernel_rfl) (by kernel_rfl) (by kernel_rfl)) dE0)))) dF0 ?_
   refine At.c 0 ?_ ?_
   ·apply rt; exact At.r 2
   ·refine At.o 3 (big_row hT (x := (.sl 1 1 [(eL 1 k8 s4)]))) ?_
    refine At.b 0 (fun _ e => big_call [] (chacha_Xor_ok e) chacha_Xor_ok_c) fun r9 => ?_
    apply rt; exact At.r 2

theorem aead_Open_ok_c : callable Tryz.prog 104 := ⟨_, Tryz.func104, by decide, rfl⟩

def p_manifest_decoder_int_srzd (N : Nat) (a0 : Int) (a1 : S_codec_Reader) : Option ((List Int) × Int × Int) :=
 Option.bind (p_codec_Reader_Num_rd N a0 a1) fun r1 =>
 some ((r1.1, r1.2.1, I64 r1.2.2))

theorem manifest_decoder_int_srzd_ok {N : Nat} {a0 : Int} {a1 : S_codec_Reader} {r : (List Int) × Int × Int} (h : p_manifest_decoder_int_srzd N a0 a1 = some r) : FnM Tryz.prog 152 [.var (S_codec_Reader.enc a1)] [(.st 1 [(.ref 0 [] 0)]), (j64 a0)] (j64 r.2.2) [.var (.st 3 [(eL 1 k8 r.1), (j64 r.2.1), (eB a1.gmade)])] := by
 unfold p_manifest_decoder_int_srzd at h
 refine At.fn m_no hT hmo (m := 10) (lo := 1) (rs := [.tmp 4]) Tryz.func152 rfl rfl h ?_
 refine At.b 5 (fun _ e => big_call [0] (codec_Reader_Num_rd_ok e) codec_Reader_Num_rd_ok_c) fun r1 => ?_
 apply rt; exact At.r 2

theorem manifest_decoder_int_srzd_ok_c : callable Tryz.prog 152 := ⟨_, Tryz.func152, by decide, rfl⟩

def p_codec_Reader_Err_r (N : Nat) (a0 : S_codec_Reader) : Option (Int) :=
 Option.bind (p_codec_Reader_none_r N a0) fun r1 =>
 cond r1 (some 1) (some a0.ge)

theorem codec_Reader_Err_r_ok {N : Nat} {a0 : S_codec_Reader} {r : Int} (h : p_codec_Reader_Err_r N a0 = some r) : FnM Tryz.prog 106 [.var (S_codec_Reader.enc a0)] [(.ref 0 [] 0)] (j64 r) [.var (S_codec_Reader.enc a0)] := by
 unfold p_codec_Reader_Err_r at h
 refine At.fn m_no hT hmo (m := 9) (lo := 1) (rs := [.tmp 2]) Tryz.func106 rfl rfl h ?_
 refine At.b 2 (fun _ e => big_call [0] (codec_Reader_none_r_ok e) codec_Reader_none_r_ok_c) fun r1 => ?_
 refine At.c 0 ?_ ?_
 ·apply rt; exact At.r 1
 ·apply rt; exact At.r 5

theorem codec_Reader_Err_r_ok_c : callable Tryz.prog 106 := ⟨_, Tryz.func106, by decide, rfl⟩

def p_codec_Reader_End_r (N : Nat) (a0 : S_codec_Reader) : Option (Int) :=
 Option.bind (p_codec_Reader_Err_r N a0) fun r1 =>
 cond (r1 != 0) (
  some r1) (
  letO (decide (((a0.gb.length : Int)) > 0)) fun x2 =>
  cond x2 (some 5) (some 0))

theorem codec_Reader_End_r_ok {N : Nat} {a0 : S_codec_Reader} {r : Int} (h : p_codec_Reader_End_r N a0 = some r) : FnM Tryz.prog 111 [.var (S_codec_Reader.enc a0)] [(.ref 0 [] 0)] (j64 r) [.var (S_codec_Reader.enc a0)] := by
 unfold p_codec_Reader_End_r at h
 refine At.fn m_no hT hmo (m := 15) (lo := 1) (rs := [.tmp 2]) Tryz.func111 rfl rfl h ?_
 refine At.b 2 (fun _ e => big_call [0] (codec_Reader_Err_r_ok e) codec_Reader_Err_r_ok_c) fun r1 => ?_
 refine At.c 3 ?_ ?_
 ·apply rt; exact At.r 2
 ·refine lx ?_; intro x2
  refine At.c 6 ?_ ?_
  ·apply rt; exact At.r 1
  ·apply rt; exact At.r 1

theorem codec_Reader_End_r_ok_c : callable Tryz.prog 111 := ⟨_, Tryz.func111, by decide, rfl⟩

def p_manifest_Decode (N : Nat) (a0 : (List Int)) : Option (S_api_Manifest × Int) :=
 Option.bind (p_codec_New N a0) fun r1 =>
 Option.bind (p_codec_Reader_Num_rd N 8 (S_codec_Reader.mk r1 0 true)) fun r2 =>
 Option.bind (p_manifest_decoder_int_srzd N 1 (S_codec_Reader.mk r2.1 r2.2.1 ((S_codec_Reader.mk r1 0 true).gmade))) fun r3 =>
 Option.bind (p_codec_Reader_Num_rd N 4 (S_codec_Reader.mk r3.1 r3.2.1 ((S_codec_Reader.mk r2.1 r2.2.1 ((S_codec_Reader.mk r1 0 true).gmade)).gmade))) fun r4 =>
 Option.bind (slcB 8 0 8) fun _ =>
 Option.bind (p_codec_Reader_Take_rd N 8 (S_codec_Reader.mk r4.1 r4.2.1 ((S_codec_Reader.mk r3.1 r3.2.1 ((S_codec_Reader.mk r2.1 r2.2.1 ((S_codec_Reader.mk r1 0 true).gmade)).gmade)).gmade))) fun r6 =>
 Option.bind (cpV (Vector.replicate 8 0) r6.2.2 0 8) fun v7 =>
 Option.bind (p_codec_Reader_Num_rd N 4 (S_codec_Reader.mk r6.1 r6.2.1 ((S_codec_Reader.mk r4.1 r4.2.1 ((S_codec_Reader.mk r3.1 r3.2.1 ((S_codec_Reader.mk r2.1 r2.2.1 ((S_codec_Reader.mk r1 0 true).gmade)).gmade)).gmade)).gmade))) fun r8 =>
 Option.bind (p_codec_Reader_Num_rd N 4 (S_codec_Reader.mk r8.1 r8.2.1 ((S_codec_Reader.mk r6.1 r6.2.1 ((S_codec_Reader.mk r4.1 r4.2.1 ((S_codec_Reader.mk r3.1 r3.2.1 ((S_codec_Reader.mk r2.1 r2.2.1 ((S_codec_Reader.mk r1 0 true).gmade)).gmade)).gmade)).gmade)).gmade))) fun r9 =>
 Option.bind (p_manifest_decoder_int_srzd N 4 (S_codec_Reader.mk r9.1 r9.2.1 ((S_codec_Reader.mk r8.1 r8.2.1 ((S_codec_Reader.mk r6.1 r6.2.1 ((S_codec_Reader.mk r4.1 r4.2.1 ((S_codec_Reader.mk r3.1 r3.2.1 ((S_codec_Reader.mk r2.1 r2.2.1 ((S_codec_Reader.mk r1 0 true).gmade)).gmade)).gmade)).gmade)).gmade)).gmade))) fun r10 =>
 Option.bind (p_manifest_decoder_int_srzd N 2 (S_codec_Reader.mk r10.1 r10.2.1 ((S_codec_Reader.mk r9.1 r9.2.1 ((S_codec_Reader.mk r8.1 r8.2.1 ((S_codec_Reader.mk r6.1 r6.2.1 ((S_codec_Reader.mk r4.1 r4.2.1 ((S_codec_Reader.mk r3.1 r3.2.1 ((S_codec_Reader.mk r2.1 r2.2.1 ((S_codec_Reader.mk r1 0 true).gmade)).gmade)).gmade)).gmade)).gmade)).gmade)).gmade))) fun r11 =>
 Option.bind (p_codec_Reader_End_r N (S_codec_Reader.mk r11.1 r11.2.1 ((S_codec_Reader.mk r10.1 r10.2.1 ((S_codec_Reader.mk r9.1 r9.2.1 ((S_codec_Reader.mk r8.1 r8.2.1 ((S_codec_Reader.mk r6.1 r6.2.1 ((S_codec_Reader.mk r4.1 r4.2.1 ((S_codec_Reader.mk r3.1 r3.2.1 ((S_codec_Reader.mk r2.1 r2.2.1 ((S_codec_Reader.mk r1 0 true).gmade)).gmade)).gmade)).gmade)).gmade)).gmade)).gmade)).gmade))) fun r12 =>
 cond (r12 != 0) (
  some ((S_api_Manifest.mk 0 0 0 (Vector.replicate 8 0) 0 0 0 0, r12))) (
  Option.bind (p_manifest_Check N (S_api_Manifest.mk r2.2.2 r3.2.2 (U32 r4.2.2) v7 (U32 r8.2.2) (U32 r9.2.2) r10.2.2 r11.2.2)) fun r13 =>
  cond (r13 != 0) (
   some ((S_api_Manifest.mk 0 0 0 (Vector.replicate 8 0) 0 0 0 0, r13))) (
   some ((S_api_Manifest.mk r2.2.2 r3.2.2 (U32 r4.2.2) v7 (U32 r8.2.2) (U32 r9.2.2) r10.2.2 r11.2.2, 0))))

theorem manifest_Decode_ok {N : Nat} {a0 : (List Int)} {r : S_api_Manifest × Int} (h : p_manifest_Decode N a0 = some r) : FnM Tryz.prog 105 [] [(eL 1 k8 a0)] (.tup [(S_api_Manifest.enc r.1), (j64 r.2)]) [] := by
 unfold p_manifest_Decode at h
 refine At.fn m_no hT hmo (m := 57) (lo := 0) (rs := [.cell 2 27, .tmp 3]) Tryz.func105 rfl rfl h ?_
 refine At.b 3 (fun _ e => big_call [] (codec_New_ok e) codec_New_ok_c) fun r1 => ?_
 refine bi fun r2 hr2 => ?_
 refine bi fun r3 hr3 => ?_
 refine bi fun r4 hr4 => ?_
 refine At.d2 3 [false] dC0 (dS1 2 ⟨(k64 r2.2.2), 2, .var (.st 3 [(eL 1 k8 r2.1), (j64 r2.2.1), (eB ((S_codec_Reader.mk r1 0 true).gmade))]), .var (.st 3 [(eO 1 1 k8 r1), (j64 0), (eB true)])⟩ [[.var cv_2, .tail (r1.length * 1), .var (.st 3 [(eO 1 1 k8 r1), (j64 0), (eB true)]), .var (.st 1 [(.ref 2 [] 0)]), .dead], [.var cv_2, .tail (r1.length * 1), .var (.st 3 [(eO 1 1 k8 r1), (j64 0), (eB true)]), .var (.st 1 [(.ref 2 [] 0)]), .var cv_2]] ⟨big_at (big_call [2] (codec_Reader_Num_rd_ok hr2) codec_Reader_Num_rd_ok_c), big_at (big_call [2] (codec_Reader_Num_rd_ok hr2) codec_Reader_Num_rd_ok_c), trivial⟩ (dS1 4 ⟨(j64 r3.2.2), 2, .var (.st 3 [(eL 1 k8 r3.1), (j64 r3.2.1), (eB ((S_codec_Reader.mk r2.1 r2.2.1 ((S_codec_Reader.mk r1 0 true).gmade)).gmade))]), .var (.st 3 [(eL 1 k8 r2.1), (j64 r2.2.1), (eB ((S_codec_Reader.mk r1 0 true).gmade))])⟩ [[.var cv_2, .tail (r1.length * 1), .var (.st 3 [(eL 1 k8 r2.1), (j64 r2.2.1), (eB ((S_codec_Reader.mk r1 0 true).gmade))]), .var (.st 1 [(.ref 2 [] 0)]), .dead], [.var cv_2, .tail (r1.length * 1), .var (.st 3 [(eL 1 k8 r2.1), (j64 r2.2.1), (eB ((S_codec_Reader.mk r1 0 true).gmade))]), .var (.st 1 [(.ref 2 [] 0)]), .var cv_2]] ⟨big_at (big_call [2] (manifest_decoder_int_srzd_ok hr3) manifest_decoder_int_srzd_ok_c), big_at (big_call [2] (manifest_decoder_int_srzd_ok hr3) manifest_decoder_int_srzd_ok_c), trivial⟩ (dS1 7 ⟨(k64 r4.2.2), 2, .var (.st 3 [(eL 1 k8 r4.1), (j64 r4.2.1), (eB ((S_codec_Reader.mk r3.1 r3.2.1 ((S_codec_Reader.mk r2.1 r2.2.1 ((S_codec_Reader.mk r1 0 true).gmade)).gmade)).gmade))]), .var (.st 3 [(eL 1 k8 r3.1), (j64 r3.2.1), (eB ((S_codec_Reader.mk r2.1 r2.2.1 ((S_codec_Reader.mk r1 0 true).gmade)).gmade))])⟩ [[.var cv_2, .tail (r1.length * 1), .var (.st 3 [(eL 1 k8 r3.1), (j64 r3.2.1), (eB ((S_codec_Reader.mk r2.1 r2.2.1 ((S_codec_Reader.mk r1 0 true).gmade)).gmade))]), .var (.st 1 [(.ref 2 [] 0)]), .dead], [.var cv_2, .tail (r1.length * 1), .var (.st 3 [(eL 1 k8 r3.1), (j64 r3.2.1), (eB ((S_codec_Reader.mk r2.1 r2.2.1 ((S_codec_Reader.mk r1 0 true).gmade)).gmade))]), .var (.st 1 [(.ref 2 [] 0)]), .var cv_2]] ⟨big_at (big_call [2] (codec_Reader_Num_rd_ok hr4) codec_Reader_Num_rd_ok_c), big_at (big_call [2] (codec_Reader_Num_rd_ok hr4) codec_Reader_Num_rd_ok_c), trivial⟩ (dS1 10 ⟨(.ref 4 [] 0), 4, .var cv_2, .dead⟩ [[.var cv_2, .tail (r1.length * 1), .var (.st 3 [(eO 1 1 k8 r1), (j64 0), (eB true)]), .var (.st 1 [(.ref 2 [] 0)]), .dead], [.var cv_2, .tail (r1.length * 1), .var (.st 3 [(eL 1 k8 r4.1), (j64 r4.2.1), (eB ((S_codec_Reader.mk r3.1 r3.2.1 ((S_codec_Reader.mk r2.1 r2.2.1 ((S_codec_Reader.mk r1 0 true).gmade)).gmade)).gmade))]), .var (.st 1 [(.ref 2 [] 0)]), .dead], [.var cv_2, .tail (r1.length * 1), .var (.st 3 [(eL 1 k8 r3.1), (j64 r3.2.1), (eB ((S_codec_Reader.mk r2.1 r2.2.1 ((S_codec_Reader.mk r1 0 true).gmade)).gmade))]), .var (.st 1 [(.ref 2 [] 0)]), .dead], [.var cv_2, .tail (r1.length * 1), .var (.st 3 [(eL 1 k8 r4.1), (j64 r4.2.1), (eB ((S_codec_Reader.mk r3.1 r3.2.1 ((S_codec_Reader.mk r2.1 r2.2.1 ((S_codec_Reader.mk r1 0 true).gmade)).gmade)).gmade))]), .var (.st 1 [(.ref 2 [] 0)]), .dead], [.var cv_2, .tail (r1.length * 1), .var (.st 3 [(eL 1 k8 r2.1), (j64 r2.2.1), (eB ((S_codec_Reader.mk r1 0 true).gmade))]), .var (.st 1 [(.ref 2 [] 0)]), .dead], [.var cv_2, .tail (r1.length * 1), .var (.st 3 [(eL 1 k8 r4.1), (j64 r4.2.1), (eB ((S_codec_Reader.mk r3.1 r3.2.1 ((S_codec_Reader.mk r2.1 r2.2.1 ((S_codec_Reader.mk r1 0 true).gmade)).gmade)).gmade))]), .var (.st 1 [(.ref 2 [] 0)]), .dead], [.var cv_2, .tail (r1.length * 1), .var (.st 3 [(eL 1 k8 r3.1), (j64 r3.2.1), (eB ((S_codec_Reader.mk r2.1 r2.2.1 ((S_codec_Reader.mk r1 0 true).gmade)).gmade))]), .var (.st 1 [(.ref 2 [] 0)]), .dead], [.var cv_2, .tail (r1.length * 1), .var (.st 3 [(eL 1 k8 r4.1), (j64 r4.2.1), (eB ((S_codec_Reader.mk r3.1 r3.2.1 ((S_codec_Reader.mk r2.1 r2.2.1 ((S_codec_Reader.mk r1 0 true).gmade)).gmade)).gmade))]), .var (.st 1 [(.ref 2 [] 0)]), .dead]] ⟨big_allocS hT 4 (by kernel_rfl) (by kernel_rfl) (by kernel_rfl), big_allocS hT 4 (by kernel_rfl) (by kernel_rfl) (by kernel_rfl), big_allocS hT 4 (by kernel_rfl) (by kernel_rfl) (by kernel_rfl), big_allocS hT 4 (by kernel_rfl) (by kernel_rfl) (by kernel_rfl), big_allocS hT 4 (by kernel_rfl) (by kernel_rfl) (by kernel_rfl), big_allocS hT 4 (by kernel_rfl) (by kernel_rfl) (by kernel_rfl), big_allocS hT 4 (by kernel_rfl) (by kernel_rfl) (by kernel_rfl), big_allocS hT 4 (by kernel_rfl) (by kernel_rfl) (by kernel_rfl), trivial⟩ dS0)))) ?_
 refine bi fun s5 hs5 => ?_
 refine bi fun r6 hr6 => ?_
 refine bi fun v7 hv7 => ?_
 refine At.d 0 (dE1 1 (fun _ => big_slR hT (k := 1) 4 [3] 3 hs5 (by kernel_rfl) (by kernel_rfl) (by decide)) dE0) (dF1 4 (eL 1 k8 r6.2.2) [.var cv_2, .tail (r1.length * 1), .var (.st 3 [(eL 1 k8 r6.1), (j64 r6.2.1), (eB ((S_codec_Reader.mk r4.1 r4.2.1 ((S_codec_Reader.mk r3.1 r3.2.1 ((S_codec_Reader.mk r2.1 r2.2.1 ((S_codec_Reader.mk r1 0 true).gmade)).gmade)).gmade)).gmade))]), .var (.st 1 [(.ref 2 [] 0)]), .var (.st 15 [(k64 r2.2.2), (j64 r3.2.2), (k32 (U32 r4.2.2)), (eA 8 1 k8 (Vector.replicate 8 0)), (k32 0), (k32 0), (j64 0), (j64 0)])] (big_at (big_call [2] (codec_Reader_Take_rd_ok hr6) codec_Reader_Take_rd_ok_c)) (dF1 5 (j64 (((min r6.2.2.length 8 : Nat) : Int))) [.var cv_2, .tail (r1.length * 1), .var (.st 3 [(eL 1 k8 r6.1), (j64 r6.2.1), (eB ((S_codec_Reader.mk r4.1 r4.2.1 ((S_codec_Reader.mk r3.1 r3.2.1 ((S_codec_Reader.mk r2.1 r2.2.1 ((S_codec_Reader.mk r1 0 true).gmade)).gmade)).gmade)).gmade))]), .var (.st 1 [(.ref 2 [] 0)]), .var (.st 15 [(k64 r2.2.2), (j64 r3.2.2), (k32 (U32 r4.2.2)), (eA 8 1 k8 v7), (k32 0), (k32 0), (j64 0), (j64 0)])] (big_at (big_cpyV hT k8 (id := 4) (path := [3]) (off := 3) (H' := [.var cv_2, .tail (r1.length * 1), .var (.st 3 [(eL 1 k8 r6.1), (j64 r6.2.1), (eB ((S_codec_Reader.mk r4.1 r4.2.1 ((S_codec_Reader.mk r3.1 r3.2.1 ((S_codec_Reader.mk r2.1 r2.2.1 ((S_codec_Reader.mk r1 0 true).gmade)).gmade)).gmade)).gmade))]), .var (.st 1 [(.ref 2 [] 0)]), .var (.st 15 [(k64 r2.2.2), (j64 r3.2.2), (k32 (U32 r4.2.2)), (eA 8 1 k8 v7), (k32 0), (k32 0), (j64 0), (j64 0)])]) hv7 (by kernel_rfl) (by kernel_rfl) (by kernel_rfl))) dF0)) ?_
 refine bi fun r8 hr8 => ?_
 refine bi fun r9 hr9 => ?_
 refine bi fun r10 hr10 => ?_
 refine bi fun r11 hr11 => ?_
 refine At.d 0 dE0 (dF1 2 (k64 r8.2.2) [.var cv_2, .tail (r1.length * 1), .var (.st 3 [(eL 1 k8 r8.1), (j64 r8.2.1), (eB ((S_codec_Reader.mk r6.1 r6.2.1 ((S_codec_Reader.mk r4.1 r4.2.1 ((S_codec_Reader.mk r3.1 r3.2.1 ((S_codec_Reader.mk r2.1 r2.2.1 ((S_codec_Reader.mk r1 0 true).gmade)).gmade)).gmade)).gmade)).gmade))]), .var (.st 1 [(.ref 2 [] 0)]), .var (.st 15 [(k64 r2.2.2), (j64 r3.2.2), (k32 (U32 r4.2.2)), (eA 8 1 k8 v7), (k32 0), (k32 0), (j64 0), (j64 0)])] (big_at (big_call [2] (codec_Reader_Num_rd_ok hr8) codec_Reader_Num_rd_ok_c)) (dF1 6 (k64 r9.2.2) [.var cv_2, .tail (r1.length * 1), .var (.st 3 [(eL 1 k8 r9.1), (j64 r9.2.1), (eB ((S_codec_Reader.mk r8.1 r8.2.1 ((S_codec_Reader.mk r6.1 r6.2.1 ((S_codec_Reader.mk r4.1 r4.2.1 ((S_codec_Reader.mk r3.1 r3.2.1 ((S_codec_Reader.mk r2.1 r2.2.1 ((S_codec_Reader.mk r1 0 true).gmade)).gmade)).gmade)).gmade)).gmade)).gmade))]), .var (.st 1 [(.ref 2 [] 0)]), .var (.st 15 [(k64 r2.2.2), (j64 r3.2.2), (k32 (U32 r4.2.2)), (eA 8 1 k8 v7), (k32 0), (k32 0), (j64 0), (j64 0)])] (big_at (big_call [2] (codec_Reader_Num_rd_ok hr9) codec_Reader_Num_rd_ok_c)) (dF1 9 (j64 r10.2.2) [.var cv_2, .tail (r1.length * 1), .var (.st 3 [(eL 1 k8 r10.1), (j64 r10.2.1), (eB ((S_codec_Reader.mk r9.1 r9.2.1 ((S_codec_Reader.mk r8.1 r8.2.1 ((S_codec_Reader.mk r6.1 r6.2.1 ((S_codec_Reader.mk r4.1 r4.2.1 ((S_codec_Reader.mk r3.1 r3.2.1 ((S_codec_Reader.mk r2.1 r2.2.1 ((S_codec_Reader.mk r1 0 true).gmade)).gmade)).gmade)).gmade)).gmade)).gmade)).gmade))]), .var (.st 1 [(.ref 2 [] 0)]), .var (.st 15 [(k64 r2.2.2), (j64 r3.2.2), (k32 (U32 r4.2.2)), (eA 8 1 k8 v7), (k32 0), (k32 0), (j64 0), (j64 0)])] (big_at (big_call [2] (manifest_decoder_int_srzd_ok hr10) manifest_decoder_int_srzd_ok_c)) (dF1 11 (j64 r11.2.2) [.var cv_2, .tail (r1.length * 1), .var (.st 3 [(eL 1 k8 r11.1), (j64 r11.2.1), (eB ((S_codec_Reader.mk r10.1 r10.2.1 ((S_codec_Reader.mk r9.1 r9.2.1 ((S_codec_Reader.mk r8.1 r8.2.1 ((S_codec_Reader.mk r6.1 r6.2.1 ((S_codec_Reader.mk r4.1 r4.2.1 ((S_codec_Reader.mk r3.1 r3.2.1 ((S_codec_Reader.mk r2.1 r2.2.1 ((S_codec_Reader.mk r1 0 true).gmade)).gmade)).gmade)).gmade)).gmade)).gmade)).gmade)).gmade))]), .var (.st 1 [(.ref 2 [] 0)]), .var (.st 15 [(k64 r2.2.2), (j64 r3.2.2), (k32 (U32 r4.2.2)), (eA 8 1 k8 v7), (k32 0), (k32 0), (j64 0), (j64 0)])] (big_at (big_call [2] (manifest_decoder_int_srzd_ok hr11) manifest_decoder_int_srzd_ok_c)) dF0)))) ?_
 refine At.b 2 (fun _ e => big_call [2] (codec_Reader_End_r_ok e) codec_Reader_End_r_ok_c) fun r12 => ?_
 refine At.c 3 ?_ ?_
 ·apply rt; exact At.r 4
 ·refine At.b 1 (fun _ e => big_call [] (manifest_Check_ok e) manifest_Check_ok_c) fun r13 => ?_
  refine At.c 3 ?_ ?_
  ·apply rt; exact At.r 4
  ·apply rt; exact At.r 3

theorem manifest_Decode_ok_c : callable Tryz.prog 105 := ⟨_, Tryz.func105, by decide, rfl⟩

def m_bundle_Peek : Nat → Bool := imL [2]

def p_bundle_Peek (N : Nat) (a0 : (Vector Int 32)) (a1 : (List Int)) : Option (S_api_Manifest × Int) :=
 letO (decide (((a1.length : Int)) < 63)) fun x1 =>
 cond x1 (
  some ((S_api_Manifest.mk 0 0 0 (Vector.replicate 8 0) 0 0 0 0, 4))) (
  Option.bind (p_bytes_HasPrefix N a1 (([85, 77, 66, 49] : List Int))) fun r2 =>
  cond (!r2) (
   some ((S_api_Manifest.mk 0 0 0 (Vector.replicate 8 0) 0 0 0 0, 5))) (
   Option.bind (slcO a1 4 12) fun s3 =>
   Option.bind (vecO 8 s3) fun v4 =>
   Option.bind (p_bundle_Nonce N v4 0) fun r5 =>
   Option.bind (slcO a1 0 47) fun s6 =>
   Option.bind (slcO a1 47 63) fun s7 =>
   Option.bind (p_aead_Open N a0 r5 s6 s7) fun r8 =>
   cond (r8.2 != 0) (
    some ((S_api_Manifest.mk 0 0 0 (Vector.replicate 8 0) 0 0 0 0, r8.2))) (
    Option.bind (slcO a1 12 47) fun s9 =>
    Option.bind (p_manifest_Decode N s9) fun r10 =>
    some ((r10.1, r10.2)))))

theorem bundle_Peek_ok {N : Nat} {a0 : (Vector Int 32)} {a1 : (List Int)} {r : S_api_Manifest × Int} (h : p_bundle_Peek N a0 a1 = some r) : FnM Tryz.prog 70 [] [(eA 32 1 k8 a0), (eL 1 k8 a1)] (.tup [(S_api_Manifest.enc r.1), (j64 r.2)]) [] := by
 unfold p_bundle_Peek at h
 refine At.fn m_bundle_Peek hT hmo (m := 45) (lo := 0) (rs := [.cell 4 27, .tmp 5]) Tryz.func70 rfl rfl h ?_
 refine lx ?_; intro x1
 refine At.c 7 ?_ ?_
 ·apply rt; exact At.r 3
 ·refine At.l2 hT 1 (d1 := 16) (d2 := 17) (t := 57) (e := 5) k8 (z := 1) ([85, 77, 66, 49] : List Int) rfl rfl rfl ?_
  refine At.b 0 (fun _ e => big_call [] (bytes_HasPrefix_ok e) bytes_HasPrefix_ok_c) fun r2 => ?_
  refine At.c 2 ?_ ?_
  ·apply rt; exact At.r 3
  ·refine At.b 1 (fun _ e => big_slc hT (k := 1) k8 e) fun s3 => ?_
   refine At.b 0 (fun v4 e => big_s2a hT k8 s3 v4 e rfl (by kernel_rfl) (by kernel_rfl)) fun v4 => ?_
   refine bi fun r5 hr5 => ?_
   refine bi fun s6 hs6 => ?_
   refine bi fun s7 hs7 => ?_
   refine bi fun r8 hr8 => ?_
   refine At.d 3 (dE2 2 (eA 12 1 k8 r5) (fun _ => big_call0 (bundle_Nonce_ok hr5) bundle_Nonce_ok_c (by kernel_rfl) (by kernel_rfl) (by kernel_rfl)) (dE1 4 (fun _ => big_slc hT (k := 1) k8 hs6) (dE1 6 (fun _ => big_slc hT (k := 1) k8 hs7) (dE2 7 (.tup [(eL 1 k8 r8.1), (j64 r8.2)]) (fun _ => big_call0 (aead_Open_ok hr8) aead_Open_ok_c (by kernel_rfl) (by kernel_rfl) (by kernel_rfl)) dE0)))) dF0 ?_
   refine At.c 2 ?_ ?_
   ·apply rt; exact At.r 4
   ·refine At.b 1 (fun _ e => big_slc hT (k := 1) k8 e) fun s9 => ?_
    refine At.b 0 (fun _ e => big_call [] (manifest_Decode_ok e) manifest_Decode_ok_c) fun r10 => ?_
    apply rt; exact At.r 4

theorem bundle_Peek_ok_c : callable Tryz.prog 70 := ⟨_, Tryz.func70, by decide, rfl⟩

def p_bundle_Open_1 (N : Nat) (a0 : Int) : Option (S_api_Manifest × S_api_Asset × Int) :=
 some ((S_api_Manifest.mk 0 0 0 (Vector.replicate 8 0) 0 0 0 0, S_api_Asset.mk 0 (S_api_Mesh.mk [] [] []) (S_api_Texture.mk 0 []) (S_api_Material.mk 0 (#v[0, 0, 0]) 0) (S_api_Light.mk 0 (#v[0, 0, 0]) (S_api_Point.mk 0 0 0) (S_api_Point.mk 0 0 0) (S_api_Point.mk 0 0 0)), a0))

theorem bundle_Open_1_ok {N : Nat} {a0 : Int} {r : S_api_Manifest × S_api_Asset × Int} (h : p_bundle_Open_1 N a0 = some r) : FnM Tryz.prog 69 [] [(j64 a0)] (.tup [(S_api_Manifest.enc r.1), (S_api_Asset.enc r.2.1), (j64 r.2.2)]) [] := by
 unfold p_bundle_Open_1 at h
 refine At.fn m_no hT hmo (m := 8) (lo := 0) (rs := [.cell 2 27, .cell 3 45, .tmp 4]) Tryz.func69 rfl rfl h ?_
 apply rt; exact At.r 9

theorem bundle_Open_1_ok_c : callable Tryz.prog 69 := ⟨_, Tryz.func69, by decide, rfl⟩

def m_bundle_chunk_ddrddd : Nat → Bool := imL [6, 7]

def p_bundle_chunk_ddrddd (N : Nat) (a0 : (Vector Int 32)) (a1 : (Vector Int 12)) (a2 : (List Int)) (a3 : Int) (a4 : Int) (a5 : S_codec_Reader) : Option (S_codec_Reader × (List Int) × Int) :=
 Option.bind (p_codec_Reader_Take_rd N 4 a5) fun r1 =>
 letO (decide (((r1.2.2.length : Int)) < 4)) fun x2 =>
 cond x2 (
  some ((S_codec_Reader.mk r1.1 r1.2.1 a5.gmade, [], 4))) (
  Option.bind (p_codec_Put N [] 2 ([U64 a3, U64 a4])) fun r3 =>
  Option.bind (p_bytes_Equal N r1.2.2 r3.1) fun r4 =>
  cond (!r4) (
   some ((S_codec_Reader.mk r1.1 r1.2.1 a5.gmade, [], 7))) (
   Option.bind (p_codec_Reader_Take_rd N (I64 (a4 + 16)) (S_codec_Reader.mk r1.1 r1.2.1 a5.gmade)) fun r5 =>
   Option.bind (p_codec_Reader_Err_r N (S_codec_Reader.mk r5.1 r5.2.1 ((S_codec_Reader.mk r1.1 r1.2.1 a5.gmade).gmade))) fun r6 =>
   cond (r6 != 0) (
    Option.bind (p_codec_Reader_Err_r N ((S_codec_Reader.mk r5.1 r5.2.1 ((S_codec_Reader.mk r1.1 r1.2.1 a5.gmade).gmade)))) fun r7 =>
    some ((((S_codec_Reader.mk r5.1 r5.2.1 ((S_codec_Reader.mk r1.1 r1.2.1 a5.gmade).gmade))), [], r7))) (
    Option.bind (p_slices_Concat_byte_byte N ([r1.2.2, a2])) fun r8 =>
    Option.bind (p_aead_Open N a0 a1 r8 r5.2.2) fun r9 =>
    some (((S_codec_Reader.mk r5.1 r5.2.1 ((S_codec_Reader.mk r1.1 r1.2.1 a5.gmade).gmade)), r9.1, r9.2)))))

theorem bundle_chunk_ddrddd_ok {N : Nat} {a0 : (Vector Int 32)} {a1 : (Vector Int 12)} {a2 : (List Int)} {a3 : Int} {a4 : Int} {a5 : S_codec_Reader} {r : S_codec_Reader × (List Int) × Int} (h : p_bundle_chunk_ddrddd N a0 a1 a2 a3 a4 a5 = some r) : FnM Tryz.prog 71 [.var (S_codec_Reader.enc a5)] [(eA 32 1 k8 a0), (eA 12 1 k8 a1), (.ref 0 [] 0), (eL 1 k8 a2), (j64 a3), (j64 a4)] (.tup [(eL 1 k8 r.2.1), (j64 r.2.2)]) [.var (S_codec_Reader.enc r.1)] := by
 unfold p_bundle_chunk_ddrddd at h
 refine At.fn m_bundle_chunk_ddrddd hT hmo (m := 55) (lo := 1) (rs := [.tmp 12, .tmp 13]) Tryz.func71 rfl rfl h ?_
 refine At.b 5 (fun _ e => big_call [0] (codec_Reader_Take_rd_ok e) codec_Reader_Take_rd_ok_c) fun r1 => ?_
 refine lx ?_; intro x2
 refine At.c 4 ?_ ?_
 ·apply rt; exact At.r 2
 ·refine At.o 4 (big_row hT (x := (.sl 1 2 [(k64 (U64 a3)), (k64 (U64 a4))]))) ?_
  refine At.b 0 (fun _ e => big_call [] (codec_Put_ok e) codec_Put_ok_c) fun r3 => ?_
  refine At.b 7 (fun _ e => big_call [] (bytes_Equal_ok e) bytes_Equal_ok_c) fun r4 => ?_
  refine At.c 1 ?_ ?_
  ·apply rt; exact At.r 2
  ·refine At.b 3 (fun _ e => big_call [0] (codec_Reader_Take_rd_ok e) codec_Reader_Take_rd_ok_c) fun r5 => ?_
   refine At.b 2 (fun _ e => big_call [0] (codec_Reader_Err_r_ok e) codec_Reader_Err_r_ok_c) fun r6 => ?_
   refine At.c 1 ?_ ?_
   ·refine At.b 1 (fun _ e => big_call [0] (codec_Reader_Err_r_ok e) codec_Reader_Err_r_ok_c) fun r7 => ?_
    apply rt; exact At.r 2
   ·refine bi fun r8 hr8 => ?_
    refine bi fun r9 hr9 => ?_
    refine At.d 0 (dE1 4 (fun _ => big_row hT (x := (.sl 1 2 [(eL 1 k8 r1.2.2), (eL 1 k8 a2)]))) (dE2 7 (.tup [(eL 1 k8 r9.1), (j64 r9.2)]) (fun _ => big_call0 (aead_Open_ok hr9) aead_Open_ok_c (by kernel_rfl) (by kernel_rfl) (by kernel_rfl)) dE0)) (dF1 5 (eO 2 1 k8 r8) [.var (S_codec_Reader.enc ((S_codec_Reader.mk r5.1 r5.2.1 ((S_codec_Reader.mk r1.1 r1.2.1 a5.gmade).gmade)))), .tail (r3.1.length * 1), .tail (r8.length * 1)] (big_at (big_call [] (slices_Concat_byte_byte_ok hr8) slices_Concat_byte_byte_ok_c)) dF0) ?_
    apply rt; exact At.r 0

theorem bundle_chunk_ddrddd_ok_c : callable Tryz.prog 71 := ⟨_, Tryz.func71, by decide, rfl⟩

def p_codec_Reader_Left_r (N : Nat) (a0 : S_codec_Reader) : Option (Int) :=
 Option.bind (p_codec_Reader_none_r N a0) fun r1 =>
 letO (cond r1 true (a0.ge != 0)) fun x2 =>
 cond x2 (some 0) (some ((a0.gb.length : Int)))

theorem codec_Reader_Left_r_ok {N : Nat} {a0 : S_codec_Reader} {r : Int} (h : p_codec_Reader_Left_r N a0 = some r) : FnM Tryz.prog 72 [.var (S_codec_Reader.enc a0)] [(.ref 0 [] 0)] (j64 r) [.var (S_codec_Reader.enc a0)] := by
 unfold p_codec_Reader_Left_r at h
 refine At.fn m_no hT hmo (m := 17) (lo := 1) (rs := [.tmp 2]) Tryz.func72 rfl rfl h ?_
 refine At.b 2 (fun _ e => big_call [0] (codec_Reader_none_r_ok e) codec_Reader_none_r_ok_c) fun r1 => ?_
 refine lx ?_; intro x2
 refine At.c 7 ?_ ?_
 ·apply rt; exact At.r 1
 ·apply rt; exact At.r 6

theorem codec_Reader_Left_r_ok_c : callable Tryz.prog 72 := ⟨_, Tryz.func72, by decide, rfl⟩

def p_mesh_decoder_uint_srzd (N : Nat) (a0 : Int) (a1 : S_codec_Reader) : Option ((List Int) × Int × Int) :=
 Option.bind (p_codec_Reader_Num_rd N a0 a1) fun r1 =>
 some ((r1.1, r1.2.1, I64 r1.2.2))

theorem mesh_decoder_uint_srzd_ok {N : Nat} {a0 : Int} {a1 : S_codec_Reader} {r : (List Int) × Int × Int} (h : p_mesh_decoder_uint_srzd N a0 a1 = some r) : FnM Tryz.prog 153 [.var (S_codec_Reader.enc a1)] [(.st 1 [(.ref 0 [] 0)]), (j64 a0)] (j64 r.2.2) [.var (.st 3 [(eL 1 k8 r.1), (j64 r.2.1), (eB a1.gmade)])] := by
 unfold p_mesh_decoder_uint_srzd at h
 refine At.fn m_no hT hmo (m := 10) (lo := 1) (rs := [.tmp 4]) Tryz.func153 rfl rfl h ?_
 refine At.b 5 (fun _ e => big_call [0] (codec_Reader_Num_rd_ok e) codec_Reader_Num_rd_ok_c) fun r1 => ?_
 apply rt; exact At.r 2

theorem mesh_decoder_uint_srzd_ok_c : callable Tryz.prog 153 := ⟨_, Tryz.func153, by decide, rfl⟩

def p_codec_Reader_Int_rd (N : Nat) (a0 : Int) (a1 : S_codec_Reader) : Option ((List Int) × Int × Int) :=
 Option.bind (p_codec_Reader_Num_rd N a0 a1) fun r1 =>
 letO (cond (decide (a0 < 1)) true (decide (a0 > 8))) fun x2 =>
 cond x2 (
  some ((r1.1, r1.2.1, 0))) (
  letO (I64 (64 - (I64 (8 * a0)))) fun x3 =>
  Option.bind (shlO .i64 (I64 r1.2.2) x3) fun x4 =>
  letO (I64 (64 - (I64 (8 * a0)))) fun x5 =>
  Option.bind (shrO .i64 x4 x5) fun x6 =>
  some ((r1.1, r1.2.1, x6)))

theorem codec_Reader_Int_rd_ok {N : Nat} {a0 : Int} {a1 : S_codec_Reader} {r : (List Int) × Int × Int} (h : p_codec_Reader_Int_rd N a0 a1 = some r) : FnM Tryz.prog 157 [.var (S_codec_Reader.enc a1)] [(.ref 0 [] 0), (j64 a0)] (j64 r.2.2) [.var (.st 3 [(eL 1 k8 r.1), (j64 r.2.1), (eB a1.gmade)])] := by
 unfold p_codec_Reader_Int_rd at h
 refine At.fn m_no hT hmo (m := 25) (lo := 1) (rs := [.tmp 4]) Tryz.func157 rfl rfl h ?_
 refine At.b 3 (fun _ e => big_call [0] (codec_Reader_Num_rd_ok e) codec_Reader_Num_rd_ok_c) fun r1 => ?_
 refine lx ?_; intro x2
 refine At.c 7 ?_ ?_
 ·apply rt; exact At.r 1
 ·refine lx ?_; intro x3
  refine At.b 5 (fun _ e => big_shl hT (k' := .i64) e (by kernel_rfl) (by kernel_rfl)) fun x4 => ?_
  refine lx ?_; intro x5
  refine At.b 3 (fun _ e => big_shr hT (k' := .i64) e (by kernel_rfl) (by kernel_rfl)) fun x6 => ?_
  apply rt; exact At.r 1

theorem codec_Reader_Int_rd_ok_c : callable Tryz.prog 157 := ⟨_, Tryz.func157, by decide, rfl⟩

end Go.UK

