/- A part of the proof: what the functions of the program compute. -/
import Derived.Test.YtcaadpceoajapaaC5
namespace Go.UK
open Go Go.Proofs
set_option maxRecDepth 20000
set_option maxHeartbeats 4000000
set_option linter.all false

attribute [local irreducible] owp awl aw FnM NatFn opS Stab TOK Big

/-! umbra/umbraref37.tag -/
def m_umbraref37_tag : Nat → Bool := imL [2]

def p_umbraref37_tag (N : Nat) (a0 : (Vector Int 32)) (a1 : S_api_Receipt) : Option ((Vector Int 32)) :=
  Option.bind (p_umbraref35_Bytes N a0) fun r1 =>
  Option.bind (p_umbraref37_Encode N (S_api_Receipt.mk a1.gLayer a1.gSeq a1.gWho a1.gClock a1.gSum a1.gHead (Vector.replicate 32 0))) fun r2 =>
  Option.bind (p_umbraref35_Sum N r1 r2) fun r3 =>
  some r3

theorem umbraref37_tag_ok {N : Nat} {a0 : (Vector Int 32)} {a1 : S_api_Receipt} {r : (Vector Int 32)} (h : p_umbraref37_tag N a0 a1 = some r) : FnM Try.prog 98 [] [(eA 32 1 k8 a0), (S_api_Receipt.enc a1)] (eA 32 1 k8 r) [] := by
  unfold p_umbraref37_tag at h
  refine fnM_of_aw (m := 12) (lo := 0) (rs := [.cell 4 53]) hT Try.func98 rfl (by kernel_rfl) rfl ?_
  refine aw_sregU hT m_umbraref37_tag [] (by kernel_rfl) ?_
  refine aw_sregU hT m_umbraref37_tag [] (by kernel_rfl) ?_
  obtain ⟨r1, hr1, h⟩ := obind h
  obtain ⟨r2, hr2, h⟩ := obind h
  obtain ⟨r3, hr3, h⟩ := obind h
  refine aw_sdrawV hT hmo m_umbraref37_tag [(1, (eL 1 k8 r1)), (3, (eL 1 k8 r2)), (4, (eA 32 1 k8 r3))] [] (by kernel_rfl) (by kernel_rfl) (by kernel_rfl) ⟨fun _ => big_call0 (umbraref35_Bytes_ok hr1) umbraref35_Bytes_ok_c (by kernel_rfl) (by kernel_rfl) (by kernel_rfl), fun _ => big_call0 (umbraref37_Encode_ok hr2) umbraref37_Encode_ok_c (by kernel_rfl) (by kernel_rfl) (by kernel_rfl), fun _ => big_call0 (umbraref35_Sum_ok hr3) umbraref35_Sum_ok_c (by kernel_rfl) (by kernel_rfl) (by kernel_rfl), trivial⟩ trivial ?_
  refine aw_ret ?_
  cases h
  exact fin_r (by kernel_rfl)

theorem umbraref37_tag_ok_c : callable Try.prog 98 := ⟨_, Try.func98, by decide, rfl⟩

/-! umbra/umbraref37.Issue -/
def m_umbraref37_Issue : Nat → Bool := imL [4]

def p_umbraref37_Issue (N : Nat) (a0 : (Vector Int 32)) (a1 : Int) (a2 : (List S_api_Entry)) (a3 : Int) : Option (S_api_Receipt × Int) :=
  letO (decide (a3 ≥ ((a2.length : Int)))) fun x1 =>
  letO (cond (decide (a3 < 0)) true x1) fun x2 =>
  cond x2 (
    some ((S_api_Receipt.mk 0 0 0 0 (Vector.replicate 32 0) (Vector.replicate 32 0) (Vector.replicate 32 0), 2))) (
    Option.bind (idx a2 a3) fun e3 =>
    cond (e3.gSeq != a3) (
      some ((S_api_Receipt.mk 0 0 0 0 (Vector.replicate 32 0) (Vector.replicate 32 0) (Vector.replicate 32 0), 2))) (
      cond (e3.gErr != 0) (
        some ((S_api_Receipt.mk 0 0 0 0 (Vector.replicate 32 0) (Vector.replicate 32 0) (Vector.replicate 32 0), 5))) (
        Option.bind (slcO a2 0 (I64 (a3 + 1))) fun s4 =>
        Option.bind (p_umbraref32_Head N a1 s4) fun r5 =>
        Option.bind (p_umbraref37_tag N a0 (S_api_Receipt.mk a1 a3 e3.gWho e3.gClock e3.gSum r5 (Vector.replicate 32 0))) fun r6 =>
        some ((S_api_Receipt.mk a1 a3 e3.gWho e3.gClock e3.gSum r5 r6, 0)))))

theorem umbraref37_Issue_ok {N : Nat} {a0 : (Vector Int 32)} {a1 : Int} {a2 : (List S_api_Entry)} {a3 : Int} {r : S_api_Receipt × Int} (h : p_umbraref37_Issue N a0 a1 a2 a3 = some r) : FnM Try.prog 42 [] [(eA 32 1 k8 a0), (j64 a1), (eL 36 S_api_Entry.enc a2), (j64 a3)] (.tup [(S_api_Receipt.enc r.1), (j64 r.2)]) [] := by
  unfold p_umbraref37_Issue at h
  refine fnM_of_aw (m := 54) (lo := 0) (rs := [.cell 8 59, .tmp 9]) hT Try.func42 rfl (by kernel_rfl) rfl ?_
  refine aw_sregU hT m_umbraref37_Issue [] (by kernel_rfl) ?_
  refine aw_seq ?_
  obtain ⟨x1, hx1, h⟩ := letE h
  obtain ⟨x2, hx2, h⟩ := letE h
  refine aw_sregU hT m_umbraref37_Issue [] (by kernel_rfl) ?_
  refine aw_nms [(19, (eB x2))] (by subst hx2 hx1; kernel_rfl) ?_
  refine aw_condH h (by kernel_rfl) (fun _ h => ?_) (fun _ h => ?_)
  · refine aw_sregU hT m_umbraref37_Issue [] (by kernel_rfl) ?_
    refine aw_ret (tn_r ?_)
    cases h
    exact fin_r (by kernel_rfl)
  · refine aw_skip (tn_n ?_)
    refine aw_sreg ?_
    refine awl_u hT m_umbraref37_Issue [] 2 (by kernel_rfl) ?_
    obtain ⟨e3, he3, h⟩ := obind h
    refine awl_big (big_idx hT S_api_Entry.enc he3 (by kernel_rfl) (by kernel_rfl)) (by kernel_rfl) ?_
    refine awl_u hT m_umbraref37_Issue [] 3 (by kernel_rfl) ?_
    refine awl_nil ?_
    refine aw_seq ?_
    refine aw_sregU hT m_umbraref37_Issue [] (by kernel_rfl) ?_
    refine aw_condH h (by kernel_rfl) (fun _ h => ?_) (fun _ h => ?_)
    · refine aw_sregU hT m_umbraref37_Issue [] (by kernel_rfl) ?_
      refine aw_ret (tn_r ?_)
      cases h
      exact fin_r (by kernel_rfl)
    · refine aw_skip (tn_n ?_)
      refine aw_seq ?_
      refine aw_sregU hT m_umbraref37_Issue [] (by kernel_rfl) ?_
      refine aw_condH h (by kernel_rfl) (fun _ h => ?_) (fun _ h => ?_)
      · refine aw_sregU hT m_umbraref37_Issue [] (by kernel_rfl) ?_
        refine aw_ret (tn_r ?_)
        cases h
        exact fin_r (by kernel_rfl)
      · refine aw_skip (tn_n ?_)
        obtain ⟨s4, hs4, h⟩ := obind h
        obtain ⟨r5, hr5, h⟩ := obind h
        refine aw_sdrawV hT hmo m_umbraref37_Issue [(12, (eL 36 S_api_Entry.enc s4)), (13, (eA 32 1 k8 r5))] [] (by kernel_rfl) (by kernel_rfl) (by kernel_rfl) ⟨fun _ => big_slc hT (k := 36) S_api_Entry.enc hs4 (by kernel_rfl) (by kernel_rfl), fun _ => big_call0 (umbraref32_Head_ok hr5) umbraref32_Head_ok_c (by kernel_rfl) (by kernel_rfl) (by kernel_rfl), trivial⟩ trivial ?_
        refine aw_sreg ?_
        refine awl_u hT m_umbraref37_Issue [] 2 (by kernel_rfl) ?_
        obtain ⟨r6, hr6, h⟩ := obind h
        refine awl_big (big_call [] (umbraref37_tag_ok hr6) umbraref37_tag_ok_c (by kernel_rfl) (by kernel_rfl)) (by kernel_rfl) ?_
        refine awl_u hT m_umbraref37_Issue [] 2 (by kernel_rfl) ?_
        refine awl_nil ?_
        refine aw_sregU hT m_umbraref37_Issue [] (by kernel_rfl) ?_
        refine aw_ret ?_
        cases h
        exact fin_r (by kernel_rfl)

theorem umbraref37_Issue_ok_c : callable Try.prog 42 := ⟨_, Try.func42, by decide, rfl⟩

/-! umbra/mac.Same -/
def m_mac_Same : Nat → Bool := imL [2, 3]

def p_mac_Same_L1 (N : Nat) (a0 : (Vector Int 32)) (a1 : (Vector Int 32)) : Nat → Int → Int → Option (Int)
  | 0, _, _ => none
  | k + 1, s2, s3 =>
    cond (decide (s3 < 32)) (
      Option.bind (idx a0.toList s3) fun e4 =>
      Option.bind (idx a1.toList s3) fun e5 =>
      letO (bor .u8 s2 (bxor .u8 e4 e5)) fun x6 =>
      p_mac_Same_L1 N a0 a1 k x6 (I64 (s3 + 1))) (
      some s2)

def p_mac_Same (N : Nat) (a0 : (Vector Int 32)) (a1 : (Vector Int 32)) : Option (Bool) :=
  Option.bind (p_mac_Same_L1 N a0 a1 N 0 0) fun p1 =>
  some (p1 == 0)

theorem mac_Same_ok {N : Nat} {a0 : (Vector Int 32)} {a1 : (Vector Int 32)} {r : Bool} (h : p_mac_Same N a0 a1 = some r) : FnM Try.prog 99 [] [(eA 32 1 k8 a0), (eA 32 1 k8 a1)] (eB r) [] := by
  unfold p_mac_Same at h
  refine fnM_of_aw (m := 22) (lo := 0) (rs := [.tmp 4]) hT Try.func99 rfl (by kernel_rfl) rfl ?_
  refine aw_sregU hT m_mac_Same [] (by kernel_rfl) ?_
  refine aw_sregU hT m_mac_Same [] (by kernel_rfl) ?_
  refine aw_seq ?_
  refine aw_sregU hT m_mac_Same [] (by kernel_rfl) ?_
  obtain ⟨p1, h, g1⟩ := obind h
  refine aw_joinTK ⟨[en 5 (k8 p1)], []⟩ ?_ ?_
  · refine aw_block (aw_loop (fun k s => ∃ s2 s3, p_mac_Same_L1 N a0 a1 k s2 s3 = some p1 ∧ JR (Fr.f 22 0) ⟨[en 2 (.im (eA 32 1 k8 a0)), en 3 (.im (eA 32 1 k8 a1)), en 5 (k8 s2), en 7 (j64 s3)], []⟩ s) (fun k s hI => ?_) N _ ⟨_, _, h, jr (by kernel_rfl)⟩)
    obtain ⟨s2, s3, h, hj⟩ := hI
    cases k with
    | zero => cases h
    | succ k =>
      refine aw_jr hj ?_
      refine aw_sregU hT m_mac_Same [] (by kernel_rfl) ?_
      refine aw_seq ?_
      refine aw_condH h (by kernel_rfl) (fun _ h => ?_) (fun _ h => ?_)
      · refine aw_skip (tn_n ?_)
        refine aw_seq ?_
        refine aw_block ?_
        refine aw_sregU hT m_mac_Same [] (by kernel_rfl) ?_
        obtain ⟨e4, he4, h⟩ := obind h
        obtain ⟨e5, he5, h⟩ := obind h
        obtain ⟨x6, hx6, h⟩ := letE h
        refine aw_drawN hT hmo m_mac_Same [(2, (.im (k8 e4))), (5, (.im (k8 e5)))] [] (by subst hx6; kernel_rfl) (by subst hx6; kernel_rfl) (by kernel_rfl) ⟨fun _ => big_adI hT (N := 32) (k := 1) k8 a0 he4 (by kernel_rfl) (by kernel_rfl), fun _ => big_adI hT (N := 32) (k := 1) k8 a1 he5 (by kernel_rfl) (by kernel_rfl), trivial⟩ trivial [(5, (k8 x6))] (by subst hx6; kernel_rfl) (inB_n (tn_n ?_))
        refine aw_regU hT m_mac_Same [] (by kernel_rfl) (tn_n ?_)
        exact ⟨k, Nat.lt_succ_self k, _, _, h, jr (by kernel_rfl)⟩
      · refine aw_exit (tn_x (tn_x (inB_e (tn_n ?_))))
        cases h
        exact jr (by kernel_rfl)
  · have h := g1
    refine (tn_n ?_)
    refine aw_sregU hT m_mac_Same [] (by kernel_rfl) ?_
    refine aw_ret ?_
    cases h
    exact fin_r (by kernel_rfl)

theorem mac_Same_ok_c : callable Try.prog 99 := ⟨_, Try.func99, by decide, rfl⟩

/-! umbra/receipt.Check -/
def m_receipt_Check : Nat → Bool := imL [2, 3]

def p_receipt_Check (N : Nat) (a0 : (Vector Int 32)) (a1 : S_api_Receipt) : Option (Int) :=
  Option.bind (p_receipt_tag N a0 a1) fun r1 =>
  Option.bind (p_mac_Same N a1.gTag r1) fun r2 =>
  cond (!r2) (some 6) (some 0)

theorem receipt_Check_ok {N : Nat} {a0 : (Vector Int 32)} {a1 : S_api_Receipt} {r : Int} (h : p_receipt_Check N a0 a1 = some r) : FnM Try.prog 43 [] [(eA 32 1 k8 a0), (S_api_Receipt.enc a1)] (j64 r) [] := by
  unfold p_receipt_Check at h
  refine fnM_of_aw (m := 12) (lo := 0) (rs := [.tmp 4]) hT Try.func43 rfl (by kernel_rfl) rfl ?_
  refine aw_sregU hT m_receipt_Check [] (by kernel_rfl) ?_
  refine aw_seq ?_
  obtain ⟨r1, hr1, h⟩ := obind h
  obtain ⟨r2, hr2, h⟩ := obind h
  refine aw_sdrawV hT hmo m_receipt_Check [(4, (eA 32 1 k8 r1)), (5, (eB r2))] [] (by kernel_rfl) (by kernel_rfl) (by kernel_rfl) ⟨fun _ => big_call0 (receipt_tag_ok hr1) receipt_tag_ok_c (by kernel_rfl) (by kernel_rfl) (by kernel_rfl), fun _ => big_call0 (mac_Same_ok hr2) mac_Same_ok_c (by kernel_rfl) (by kernel_rfl) (by kernel_rfl), trivial⟩ trivial ?_
  refine aw_condH h (by kernel_rfl) (fun _ h => ?_) (fun _ h => ?_)
  · refine aw_sregU hT m_receipt_Check [] (by kernel_rfl) ?_
    refine aw_ret (tn_r ?_)
    cases h
    exact fin_r (by kernel_rfl)
  · refine aw_skip (tn_n ?_)
    refine aw_sregU hT m_receipt_Check [] (by kernel_rfl) ?_
    refine aw_ret ?_
    cases h
    exact fin_r (by kernel_rfl)

theorem receipt_Check_ok_c : callable Try.prog 43 := ⟨_, Try.func43, by decide, rfl⟩

/-! umbra/umbraref37.Check -/
def m_umbraref37_Check : Nat → Bool := imL [2, 3]

def p_umbraref37_Check (N : Nat) (a0 : (Vector Int 32)) (a1 : S_api_Receipt) : Option (Int) :=
  Option.bind (p_umbraref37_tag N a0 a1) fun r1 =>
  cond (!((eqV (fun a b => a == b)) r1 a1.gTag)) (some 6) (some 0)

theorem umbraref37_Check_ok {N : Nat} {a0 : (Vector Int 32)} {a1 : S_api_Receipt} {r : Int} (h : p_umbraref37_Check N a0 a1 = some r) : FnM Try.prog 44 [] [(eA 32 1 k8 a0), (S_api_Receipt.enc a1)] (j64 r) [] := by
  unfold p_umbraref37_Check at h
  refine fnM_of_aw (m := 11) (lo := 0) (rs := [.tmp 4]) hT Try.func44 rfl (by kernel_rfl) rfl ?_
  refine aw_sregU hT m_umbraref37_Check [] (by kernel_rfl) ?_
  refine aw_seq ?_
  obtain ⟨r1, hr1, h⟩ := obind h
  refine aw_sdrawV hT hmo m_umbraref37_Check [(2, (eA 32 1 k8 r1)), (5, (eB (!((eqV (fun a b => a == b)) r1 a1.gTag))))] [] (by kernel_rfl) (by kernel_rfl) (by kernel_rfl) ⟨fun _ => big_call0 (umbraref37_tag_ok hr1) umbraref37_tag_ok_c (by kernel_rfl) (by kernel_rfl) (by kernel_rfl), fun _ => big_neq eqT_53 (r1 : (Vector Int 32)) (a1.gTag : (Vector Int 32)) (by kernel_rfl) (by kernel_rfl) (fun _ => rfl) (fun _ => rfl) (by kernel_rfl) (by kernel_rfl), trivial⟩ trivial ?_
  refine aw_condH h (by kernel_rfl) (fun _ h => ?_) (fun _ h => ?_)
  · refine aw_sregU hT m_umbraref37_Check [] (by kernel_rfl) ?_
    refine aw_ret (tn_r ?_)
    cases h
    exact fin_r (by kernel_rfl)
  · refine aw_skip (tn_n ?_)
    refine aw_sregU hT m_umbraref37_Check [] (by kernel_rfl) ?_
    refine aw_ret ?_
    cases h
    exact fin_r (by kernel_rfl)

theorem umbraref37_Check_ok_c : callable Try.prog 44 := ⟨_, Try.func44, by decide, rfl⟩

/-! umbra/receipt.Against -/
def m_receipt_Against : Nat → Bool := imL [5]

def p_receipt_Against (N : Nat) (a0 : Int) (a1 : (List S_api_Entry)) (a2 : S_api_Receipt) : Option (Int) :=
  cond (a2.gLayer != a0) (
    some 13) (
    letO (decide (a2.gSeq ≥ ((a1.length : Int)))) fun x1 =>
    letO (cond (decide (a2.gSeq < 0)) true x1) fun x2 =>
    cond x2 (
      some 11) (
      Option.bind (idx a1 a2.gSeq) fun e3 =>
      cond (e3.gErr != 0) (
        some 20) (
        Option.bind (p_receipt_of N a0 a1 a2.gSeq) fun r4 =>
        cond (!(S_api_Receipt.eq (S_api_Receipt.mk r4.gLayer r4.gSeq r4.gWho r4.gClock r4.gSum r4.gHead a2.gTag) a2)) (some 20) (some 0))))

theorem receipt_Against_ok {N : Nat} {a0 : Int} {a1 : (List S_api_Entry)} {a2 : S_api_Receipt} {r : Int} (h : p_receipt_Against N a0 a1 a2 = some r) : FnM Try.prog 45 [] [(j64 a0), (eL 36 S_api_Entry.enc a1), (S_api_Receipt.enc a2)] (j64 r) [] := by
  unfold p_receipt_Against at h
  refine fnM_of_aw (m := 43) (lo := 0) (rs := [.tmp 6]) hT Try.func45 rfl (by kernel_rfl) rfl ?_
  refine aw_sregU hT m_receipt_Against [] (by kernel_rfl) ?_
  refine aw_seq ?_
  refine aw_block ?_
  refine aw_sregU hT m_receipt_Against [] (by kernel_rfl) ?_
  refine aw_condH h (by kernel_rfl) (fun _ h => ?_) (fun _ h => ?_)
  · refine aw_sregU hT m_receipt_Against [] (by kernel_rfl) ?_
    refine aw_ret (inB_r (tn_r ?_))
    cases h
    exact fin_r (by kernel_rfl)
  · obtain ⟨x1, hx1, h⟩ := letE h
    obtain ⟨x2, hx2, h⟩ := letE h
    refine aw_sregU hT m_receipt_Against [] (by kernel_rfl) ?_
    refine aw_nms [(13, (eB x2))] (by subst hx2 hx1; kernel_rfl) ?_
    refine aw_condH h (by kernel_rfl) (fun _ h => ?_) (fun _ h => ?_)
    · refine aw_sregU hT m_receipt_Against [] (by kernel_rfl) ?_
      refine aw_ret (inB_r (tn_r ?_))
      cases h
      exact fin_r (by kernel_rfl)
    · refine aw_sreg ?_
      refine awl_u hT m_receipt_Against [] 3 (by kernel_rfl) ?_
      obtain ⟨e3, he3, h⟩ := obind h
      refine awl_big (big_idx hT S_api_Entry.enc he3 (by kernel_rfl) (by kernel_rfl)) (by kernel_rfl) ?_
      refine awl_u hT m_receipt_Against [] 4 (by kernel_rfl) ?_
      refine awl_nil ?_
      refine aw_condH h (by kernel_rfl) (fun _ h => ?_) (fun _ h => ?_)
      · refine aw_sregU hT m_receipt_Against [] (by kernel_rfl) ?_
        refine aw_ret (inB_r (tn_r ?_))
        cases h
        exact fin_r (by kernel_rfl)
      · refine aw_skip (inB_n (tn_n ?_))
        refine aw_sreg ?_
        refine awl_u hT m_receipt_Against [] 4 (by kernel_rfl) ?_
        obtain ⟨r4, hr4, h⟩ := obind h
        refine awl_big (big_call [] (receipt_of_ok hr4) receipt_of_ok_c (by kernel_rfl) (by kernel_rfl)) (by kernel_rfl) ?_
        refine awl_u hT m_receipt_Against [] 2 (by kernel_rfl) ?_
        refine awl_nil ?_
        refine aw_sregU hT m_receipt_Against [] (by kernel_rfl) ?_
        refine aw_seq ?_
        refine aw_sreg ?_
        refine awl_u hT m_receipt_Against [] 2 (by kernel_rfl) ?_
        refine awl_big (big_neq eqT_59 (S_api_Receipt.mk r4.gLayer r4.gSeq r4.gWho r4.gClock r4.gSum r4.gHead a2.gTag : S_api_Receipt) (a2 : S_api_Receipt) (by kernel_rfl) (by kernel_rfl) (fun _ => rfl) (fun _ => rfl) (by kernel_rfl) (by kernel_rfl)) (by kernel_rfl) ?_
        refine awl_nil ?_
        refine aw_condH h (by kernel_rfl) (fun _ h => ?_) (fun _ h => ?_)
        · refine aw_sregU hT m_receipt_Against [] (by kernel_rfl) ?_
          refine aw_ret (tn_r ?_)
          cases h
          exact fin_r (by kernel_rfl)
        · refine aw_skip (tn_n ?_)
          refine aw_sregU hT m_receipt_Against [] (by kernel_rfl) ?_
          refine aw_ret ?_
          cases h
          exact fin_r (by kernel_rfl)

theorem receipt_Against_ok_c : callable Try.prog 45 := ⟨_, Try.func45, by decide, rfl⟩

/-! umbra/umbraref37.Against -/
def m_umbraref37_Against : Nat → Bool := imL [5]

def p_umbraref37_Against (N : Nat) (a0 : Int) (a1 : (List S_api_Entry)) (a2 : S_api_Receipt) : Option (Int) :=
  cond (a2.gLayer != a0) (
    some 13) (
    letO (decide (a2.gSeq ≥ ((a1.length : Int)))) fun x1 =>
    letO (cond (decide (a2.gSeq < 0)) true x1) fun x2 =>
    cond x2 (
      some 11) (
      Option.bind (idx a1 a2.gSeq) fun e3 =>
      Option.bind (cond (e3.gSeq != a2.gSeq) (
        some true) (
        cond (e3.gWho != a2.gWho) (
          some true) (
          cond (e3.gClock != a2.gClock) (
            some true) (
            letO (!((eqV (fun a b => a == b)) e3.gSum a2.gSum)) fun x5 =>
            cond x5 (
              some true) (
              cond (e3.gErr != 0) (
                some true) (
                Option.bind (slcO a1 0 (I64 (a2.gSeq + 1))) fun s6 =>
                Option.bind (p_umbraref32_Head N a0 s6) fun r7 =>
                some (!((eqV (fun a b => a == b)) r7 a2.gHead)))))))) fun p4 =>
      cond p4 (some 20) (some 0)))

theorem umbraref37_Against_ok {N : Nat} {a0 : Int} {a1 : (List S_api_Entry)} {a2 : S_api_Receipt} {r : Int} (h : p_umbraref37_Against N a0 a1 a2 = some r) : FnM Try.prog 46 [] [(j64 a0), (eL 36 S_api_Entry.enc a1), (S_api_Receipt.enc a2)] (j64 r) [] := by
  unfold p_umbraref37_Against at h
  refine fnM_of_aw (m := 70) (lo := 0) (rs := [.tmp 6]) hT Try.func46 rfl (by kernel_rfl) rfl ?_
  refine aw_sregU hT m_umbraref37_Against [] (by kernel_rfl) ?_
  refine aw_seq ?_
  refine aw_sregU hT m_umbraref37_Against [] (by kernel_rfl) ?_
  refine aw_condH h (by kernel_rfl) (fun _ h => ?_) (fun _ h => ?_)
  · refine aw_sregU hT m_umbraref37_Against [] (by kernel_rfl) ?_
    refine aw_ret (tn_r ?_)
    cases h
    exact fin_r (by kernel_rfl)
  · refine aw_skip (tn_n ?_)
    refine aw_seq ?_
    obtain ⟨x1, hx1, h⟩ := letE h
    obtain ⟨x2, hx2, h⟩ := letE h
    refine aw_sregU hT m_umbraref37_Against [] (by kernel_rfl) ?_
    refine aw_nms [(21, (eB x2))] (by subst hx2 hx1; kernel_rfl) ?_
    refine aw_condH h (by kernel_rfl) (fun _ h => ?_) (fun _ h => ?_)
    · refine aw_sregU hT m_umbraref37_Against [] (by kernel_rfl) ?_
      refine aw_ret (tn_r ?_)
      cases h
      exact fin_r (by kernel_rfl)
    · refine aw_skip (tn_n ?_)
      refine aw_sreg ?_
      refine awl_u hT m_umbraref37_Against [] 3 (by kernel_rfl) ?_
      obtain ⟨e3, he3, h⟩ := obind h
      refine awl_big (big_idx hT S_api_Entry.enc he3 (by kernel_rfl) (by kernel_rfl)) (by kernel_rfl) ?_
      refine awl_u hT m_umbraref37_Against [] 3 (by kernel_rfl) ?_
      refine awl_nil ?_
      refine aw_seq ?_
      obtain ⟨p4, h, g4⟩ := obind h
      refine aw_joinT ⟨[en 69 (eB p4)], [.var (S_api_Entry.enc e3)]⟩ ?_ ?_
      · refine boolH h (fun hc5 h => ?_) (fun hc5 h => ?_)
        · refine aw_drawM hT hmo m_umbraref37_Against [(5, (.v (.bool true)))] [] (by kernel_rfl) (by kernel_rfl) (by kernel_rfl) ⟨fun _ => big_lit hc5 rfl (plU_big hT (im := false) (by kernel_rfl)), trivial⟩ trivial (tn_n ?_)
          cases h
          exact jr (by kernel_rfl)
        · refine boolH h (fun hc12 h => ?_) (fun hc12 h => ?_)
          · refine aw_drawM hT hmo m_umbraref37_Against [(5, (.v (.bool false))), (12, (.v (.bool true)))] [] (by kernel_rfl) (by kernel_rfl) (by kernel_rfl) ⟨fun _ => big_lit hc5 rfl (plU_big hT (im := false) (by kernel_rfl)), fun _ => big_lit hc12 rfl (plU_big hT (im := false) (by kernel_rfl)), trivial⟩ trivial (tn_n ?_)
            cases h
            exact jr (by kernel_rfl)
          · refine boolH h (fun hc19 h => ?_) (fun hc19 h => ?_)
            · refine aw_drawM hT hmo m_umbraref37_Against [(5, (.v (.bool false))), (12, (.v (.bool false))), (19, (.v (.bool true)))] [] (by kernel_rfl) (by kernel_rfl) (by kernel_rfl) ⟨fun _ => big_lit hc5 rfl (plU_big hT (im := false) (by kernel_rfl)), fun _ => big_lit hc12 rfl (plU_big hT (im := false) (by kernel_rfl)), fun _ => big_lit hc19 rfl (plU_big hT (im := false) (by kernel_rfl)), trivial⟩ trivial (tn_n ?_)
              cases h
              exact jr (by kernel_rfl)
            · obtain ⟨x5, hx5, h⟩ := letE h
              refine boolH h (fun hc26 h => ?_) (fun hc26 h => ?_)
              · refine aw_drawN hT hmo m_umbraref37_Against [(5, (.v (.bool false))), (12, (.v (.bool false))), (19, (.v (.bool false))), (24, (eB (!((eqV (fun a b => a == b)) e3.gSum a2.gSum)))), (26, (.v (.bool true)))] [] (by subst hx5; kernel_rfl) (by subst hx5; kernel_rfl) (by kernel_rfl) ⟨fun _ => big_lit hc5 rfl (plU_big hT (im := false) (by subst hx5; kernel_rfl)), fun _ => big_lit hc12 rfl (plU_big hT (im := false) (by subst hx5; kernel_rfl)), fun _ => big_lit hc19 rfl (plU_big hT (im := false) (by subst hx5; kernel_rfl)), fun _ => big_neq eqT_53 (e3.gSum : (Vector Int 32)) (a2.gSum : (Vector Int 32)) (by kernel_rfl) (by kernel_rfl) (fun _ => rfl) (fun _ => rfl) (by kernel_rfl) (by kernel_rfl), fun _ => big_lit hc26 rfl (plU_big hT (im := false) (by subst hx5; kernel_rfl)), trivial⟩ trivial [] (by subst hx5; kernel_rfl) (tn_n ?_)
                cases h
                exact jr (by kernel_rfl)
              · refine boolH h (fun hc31 h => ?_) (fun hc31 h => ?_)
                · refine aw_drawN hT hmo m_umbraref37_Against [(5, (.v (.bool false))), (12, (.v (.bool false))), (19, (.v (.bool false))), (24, (eB (!((eqV (fun a b => a == b)) e3.gSum a2.gSum)))), (26, (.v (.bool false))), (31, (.v (.bool true)))] [] (by subst hx5; kernel_rfl) (by subst hx5; kernel_rfl) (by kernel_rfl) ⟨fun _ => big_lit hc5 rfl (plU_big hT (im := false) (by subst hx5; kernel_rfl)), fun _ => big_lit hc12 rfl (plU_big hT (im := false) (by subst hx5; kernel_rfl)), fun _ => big_lit hc19 rfl (plU_big hT (im := false) (by subst hx5; kernel_rfl)), fun _ => big_neq eqT_53 (e3.gSum : (Vector Int 32)) (a2.gSum : (Vector Int 32)) (by kernel_rfl) (by kernel_rfl) (fun _ => rfl) (fun _ => rfl) (by kernel_rfl) (by kernel_rfl), fun _ => big_lit hc26 rfl (plU_big hT (im := false) (by subst hx5; kernel_rfl)), fun _ => big_lit hc31 rfl (plU_big hT (im := false) (by subst hx5; kernel_rfl)), trivial⟩ trivial [] (by subst hx5; kernel_rfl) (tn_n ?_)
                  cases h
                  exact jr (by kernel_rfl)
                · obtain ⟨s6, hs6, h⟩ := obind h
                  obtain ⟨r7, hr7, h⟩ := obind h
                  refine aw_drawN hT hmo m_umbraref37_Against [(5, (.v (.bool false))), (12, (.v (.bool false))), (19, (.v (.bool false))), (24, (eB (!((eqV (fun a b => a == b)) e3.gSum a2.gSum)))), (26, (.v (.bool false))), (31, (.v (.bool false))), (37, (eL 36 S_api_Entry.enc s6)), (38, (eA 32 1 k8 r7)), (41, (eB (!((eqV (fun a b => a == b)) r7 a2.gHead))))] [] (by subst hx5; kernel_rfl) (by subst hx5; kernel_rfl) (by kernel_rfl) ⟨fun _ => big_lit hc5 rfl (plU_big hT (im := false) (by subst hx5; kernel_rfl)), fun _ => big_lit hc12 rfl (plU_big hT (im := false) (by subst hx5; kernel_rfl)), fun _ => big_lit hc19 rfl (plU_big hT (im := false) (by subst hx5; kernel_rfl)), fun _ => big_neq eqT_53 (e3.gSum : (Vector Int 32)) (a2.gSum : (Vector Int 32)) (by kernel_rfl) (by kernel_rfl) (fun _ => rfl) (fun _ => rfl) (by kernel_rfl) (by kernel_rfl), fun _ => big_lit hc26 rfl (plU_big hT (im := false) (by subst hx5; kernel_rfl)), fun _ => big_lit hc31 rfl (plU_big hT (im := false) (by subst hx5; kernel_rfl)), fun _ => big_slc hT (k := 36) S_api_Entry.enc hs6 (by subst hx5; kernel_rfl) (by subst hx5; kernel_rfl), fun _ => big_call0 (umbraref32_Head_ok hr7) umbraref32_Head_ok_c (by subst hx5; kernel_rfl) (by subst hx5; kernel_rfl) (by subst hx5; kernel_rfl), fun _ => big_neq eqT_53 (r7 : (Vector Int 32)) (a2.gHead : (Vector Int 32)) (by subst hx5; kernel_rfl) (by subst hx5; kernel_rfl) (fun _ => rfl) (fun _ => rfl) (by subst hx5; kernel_rfl) (by subst hx5; kernel_rfl), trivial⟩ trivial [] (by subst hx5; kernel_rfl) (tn_n ?_)
                  cases h
                  exact jr (by kernel_rfl)
      · have h := g4
        refine aw_condH h (by kernel_rfl) (fun _ h => ?_) (fun _ h => ?_)
        · refine aw_sregU hT m_umbraref37_Against [] (by kernel_rfl) ?_
          refine aw_ret (tn_r ?_)
          cases h
          exact fin_r (by kernel_rfl)
        · refine aw_skip (tn_n ?_)
          refine aw_sregU hT m_umbraref37_Against [] (by kernel_rfl) ?_
          refine aw_ret ?_
          cases h
          exact fin_r (by kernel_rfl)

theorem umbraref37_Against_ok_c : callable Try.prog 46 := ⟨_, Try.func46, by decide, rfl⟩

/-! umbra/umbralaw37.works -/
def p_umbralaw37_works (N : Nat) : Option (Bool) :=
  Option.bind (p_receipt_Issue N ((Vector.replicate 32 0).setIfInBounds 0 1) 2 ([S_api_Entry.mk 0 0 3 0 (Vector.replicate 32 0)]) 0) fun r1 =>
  Option.bind (cond (r1.2 == 0) (
    Option.bind (p_receipt_Against N 2 ([S_api_Entry.mk 0 0 3 0 (Vector.replicate 32 0)]) r1.1) fun r3 =>
    cond (r3 == 0) (
      Option.bind (p_receipt_Against N 2 [] r1.1) fun r4 =>
      cond (r4 == 11) (
        Option.bind (p_receipt_Check N ((Vector.replicate 32 0).setIfInBounds 0 1) r1.1) fun r5 =>
        cond (r5 == 0) (
          Option.bind (p_receipt_Encode N r1.1) fun r6 =>
          letO (((r6.length : Int)) == 124) fun x7 =>
          some x7) (
          some false)) (
        some false)) (
      some false)) (
    some false)) fun p2 =>
  some p2

theorem umbralaw37_works_ok {N : Nat} {r : Bool} (h : p_umbralaw37_works N = some r) : FnM Try.prog 47 [] [] (eB r) [] := by
  unfold p_umbralaw37_works at h
  refine fnM_of_aw (m := 37) (lo := 0) (rs := [.tmp 0]) hT Try.func47 rfl (by kernel_rfl) rfl ?_
  refine aw_sregU hT m_no [] (by kernel_rfl) ?_
  refine aw_sreg ?_
  refine awl_u hT m_no [] 1 (by kernel_rfl) ?_
  refine awl_big (big_row hT (x := (.sl 36 1 [(.st 36 [(j64 0), (k32 0), (j64 3), (j64 0), (eA 32 1 k8 (Vector.replicate 32 0))])])) (by kernel_rfl) (by kernel_rfl)) (by kernel_rfl) ?_
  refine awl_u hT m_no [] 1 (by kernel_rfl) ?_
  refine awl_nil ?_
  refine aw_sreg ?_
  refine awl_u hT m_no [] 2 (by kernel_rfl) ?_
  obtain ⟨r1, hr1, h⟩ := obind h
  refine awl_big (big_call [] (receipt_Issue_ok hr1) receipt_Issue_ok_c (by kernel_rfl) (by kernel_rfl)) (by kernel_rfl) ?_
  refine awl_u hT m_no [] 6 (by kernel_rfl) ?_
  refine awl_nil ?_
  obtain ⟨p2, h, g2⟩ := obind h
  refine aw_joinT ⟨[en 0 (eB p2)], [.var (S_api_Receipt.enc r1.1)]⟩ ?_ ?_
  · refine aw_region ?_
    refine awl_u hT m_no [] 3 (by kernel_rfl) ?_
    refine awl_split 14 h (by kernel_rfl) (fun h => ?_) (fun h => ?_)
    · refine awl_u hT m_no [14] 2 (by kernel_rfl) ?_
      obtain ⟨r3, hr3, h⟩ := obind h
      refine awl_big (big_call [] (receipt_Against_ok hr3) receipt_Against_ok_c (by kernel_rfl) (by kernel_rfl)) (by kernel_rfl) ?_
      refine awl_u hT m_no [14] 3 (by kernel_rfl) ?_
      refine awl_split 20 h (by kernel_rfl) (fun h => ?_) (fun h => ?_)
      · refine awl_u hT m_no [20] 1 (by kernel_rfl) ?_
        obtain ⟨r4, hr4, h⟩ := obind h
        refine awl_big (big_call [] (receipt_Against_ok hr4) receipt_Against_ok_c (by kernel_rfl) (by kernel_rfl)) (by kernel_rfl) ?_
        refine awl_u hT m_no [20] 3 (by kernel_rfl) ?_
        refine awl_split 25 h (by kernel_rfl) (fun h => ?_) (fun h => ?_)
        · refine awl_u hT m_no [25] 2 (by kernel_rfl) ?_
          obtain ⟨r5, hr5, h⟩ := obind h
          refine awl_big (big_call [] (receipt_Check_ok hr5) receipt_Check_ok_c (by kernel_rfl) (by kernel_rfl)) (by kernel_rfl) ?_
          refine awl_u hT m_no [25] 3 (by kernel_rfl) ?_
          refine awl_split 31 h (by kernel_rfl) (fun h => ?_) (fun h => ?_)
          · refine awl_u hT m_no [31] 1 (by kernel_rfl) ?_
            obtain ⟨r6, hr6, h⟩ := obind h
            refine awl_big (big_call [] (receipt_Encode_ok hr6) receipt_Encode_ok_c (by kernel_rfl) (by kernel_rfl)) (by kernel_rfl) ?_
            obtain ⟨x7, hx7, h⟩ := letE h
            refine awl_u hT m_no [31] 4 (by kernel_rfl) ?_
            refine awl_nms [(0, (eB x7))] (by subst hx7; kernel_rfl) ?_
            refine awl_nil (tn_n ?_)
            cases h
            exact jr (by kernel_rfl)
          · refine awl_u hT m_no [31] 6 (by kernel_rfl) ?_
            refine awl_nil (tn_n ?_)
            cases h
            exact jr (by kernel_rfl)
        · refine awl_u hT m_no [25, 31] 12 (by kernel_rfl) ?_
          refine awl_nil (tn_n ?_)
          cases h
          exact jr (by kernel_rfl)
      · refine awl_u hT m_no [20, 25, 31] 17 (by kernel_rfl) ?_
        refine awl_nil (tn_n ?_)
        cases h
        exact jr (by kernel_rfl)
    · refine awl_u hT m_no [14, 20, 25, 31] 23 (by kernel_rfl) ?_
      refine awl_nil (tn_n ?_)
      cases h
      exact jr (by kernel_rfl)
  · have h := g2
    refine aw_ret ?_
    cases h
    exact fin_r (by kernel_rfl)

theorem umbralaw37_works_ok_c : callable Try.prog 47 := ⟨_, Try.func47, by decide, rfl⟩

/-! umbra/umbralaw37.ReceiptIssues -/
def m_umbralaw37_ReceiptIssues : Nat → Bool := imL [3, 5]

def p_umbralaw37_ReceiptIssues (N : Nat) (a0 : S_umbralaw37_Chain) (a1 : Int) (a2 : S_api_Receipt) : Option (Bool) :=
  Option.bind (p_umbralaw37_few N a0.gL) fun r1 =>
  Option.bind (p_receipt_Issue N a0.gKey a0.gLayer r1 a1) fun r2 =>
  Option.bind (p_umbraref37_Issue N a0.gKey a0.gLayer r1 a1) fun r3 =>
  Option.bind (letO (S_api_Receipt.eq r2.1 r3.1) fun x5 =>
  cond x5 (
    cond (r2.2 == r3.2) (
      Option.bind (p_receipt_Check N a0.gKey a2) fun r6 =>
      Option.bind (p_umbraref37_Check N a0.gKey a2) fun r7 =>
      cond (r6 == r7) (
        Option.bind (p_receipt_Against N a0.gLayer r1 a2) fun r8 =>
        Option.bind (p_umbraref37_Against N a0.gLayer r1 a2) fun r9 =>
        cond (r8 == r9) (
          Option.bind (p_umbralaw37_works N ) fun r10 =>
          some r10) (
          some false)) (
        some false)) (
      some false)) (
    some false)) fun p4 =>
  some p4

theorem umbralaw37_ReceiptIssues_ok {N : Nat} {a0 : S_umbralaw37_Chain} {a1 : Int} {a2 : S_api_Receipt} {r : Bool} (h : p_umbralaw37_ReceiptIssues N a0 a1 a2 = some r) : FnM Try.prog 9 [] [(S_umbralaw37_Chain.enc a0), (j64 a1), (S_api_Receipt.enc a2)] (eB r) [] := by
  unfold p_umbralaw37_ReceiptIssues at h
  refine fnM_of_aw (m := 70) (lo := 0) (rs := [.tmp 6]) hT Try.func9 rfl (by kernel_rfl) rfl ?_
  refine aw_sregU hT m_umbralaw37_ReceiptIssues [] (by kernel_rfl) ?_
  refine aw_sreg ?_
  refine awl_u hT m_umbralaw37_ReceiptIssues [] 2 (by kernel_rfl) ?_
  obtain ⟨r1, hr1, h⟩ := obind h
  refine awl_big (big_call [] (umbralaw37_few_ok hr1) umbralaw37_few_ok_c (by kernel_rfl) (by kernel_rfl)) (by kernel_rfl) ?_
  refine awl_u hT m_umbralaw37_ReceiptIssues [] 1 (by kernel_rfl) ?_
  refine awl_nil ?_
  refine aw_sreg ?_
  refine awl_u hT m_umbralaw37_ReceiptIssues [] 6 (by kernel_rfl) ?_
  obtain ⟨r2, hr2, h⟩ := obind h
  refine awl_big (big_call [] (receipt_Issue_ok hr2) receipt_Issue_ok_c (by kernel_rfl) (by kernel_rfl)) (by kernel_rfl) ?_
  refine awl_u hT m_umbralaw37_ReceiptIssues [] 6 (by kernel_rfl) ?_
  refine awl_nil ?_
  refine aw_sreg ?_
  refine awl_u hT m_umbralaw37_ReceiptIssues [] 6 (by kernel_rfl) ?_
  obtain ⟨r3, hr3, h⟩ := obind h
  refine awl_big (big_call [] (umbraref37_Issue_ok hr3) umbraref37_Issue_ok_c (by kernel_rfl) (by kernel_rfl)) (by kernel_rfl) ?_
  refine awl_u hT m_umbralaw37_ReceiptIssues [] 6 (by kernel_rfl) ?_
  refine awl_nil ?_
  obtain ⟨p4, h, g4⟩ := obind h
  refine aw_joinT ⟨[en 6 (eB p4)], [.var (S_api_Receipt.enc r2.1), .var (S_api_Receipt.enc r3.1)]⟩ ?_ ?_
  · obtain ⟨x5, hx5, h⟩ := letE h
    refine boolH h (fun hc3 h => ?_) (fun hc3 h => ?_)
    · refine boolH h (fun hc8 h => ?_) (fun hc8 h => ?_)
      · obtain ⟨r6, hr6, h⟩ := obind h
        obtain ⟨r7, hr7, h⟩ := obind h
        refine boolH h (fun hc19 h => ?_) (fun hc19 h => ?_)
        · obtain ⟨r8, hr8, h⟩ := obind h
          obtain ⟨r9, hr9, h⟩ := obind h
          refine boolH h (fun hc32 h => ?_) (fun hc32 h => ?_)
          · obtain ⟨r10, hr10, h⟩ := obind h
            refine aw_drawN hT hmo m_umbralaw37_ReceiptIssues [(2, (eB (S_api_Receipt.eq r2.1 r3.1))), (3, (.v (.bool true))), (8, (.v (.bool true))), (12, (j64 r6)), (16, (j64 r7)), (19, (.v (.bool true))), (24, (j64 r8)), (29, (j64 r9)), (32, (.v (.bool true))), (33, (eB r10))] [] (by subst hx5; kernel_rfl) (by subst hx5; kernel_rfl) (by kernel_rfl) ⟨fun _ => big_eql eqT_59 (r2.1 : S_api_Receipt) (r3.1 : S_api_Receipt) (by kernel_rfl) (by kernel_rfl) (fun _ => rfl) (fun _ => rfl) (by kernel_rfl) (by kernel_rfl), fun _ => big_lit hc3 rfl (plU_big hT (im := false) (by subst hx5; kernel_rfl)), fun _ => big_lit hc8 rfl (plU_big hT (im := false) (by subst hx5; kernel_rfl)), fun _ => big_call0 (receipt_Check_ok hr6) receipt_Check_ok_c (by subst hx5; kernel_rfl) (by subst hx5; kernel_rfl) (by subst hx5; kernel_rfl), fun _ => big_call0 (umbraref37_Check_ok hr7) umbraref37_Check_ok_c (by subst hx5; kernel_rfl) (by subst hx5; kernel_rfl) (by subst hx5; kernel_rfl), fun _ => big_lit hc19 rfl (plU_big hT (im := false) (by subst hx5; kernel_rfl)), fun _ => big_call0 (receipt_Against_ok hr8) receipt_Against_ok_c (by subst hx5; kernel_rfl) (by subst hx5; kernel_rfl) (by subst hx5; kernel_rfl), fun _ => big_call0 (umbraref37_Against_ok hr9) umbraref37_Against_ok_c (by subst hx5; kernel_rfl) (by subst hx5; kernel_rfl) (by subst hx5; kernel_rfl), fun _ => big_lit hc32 rfl (plU_big hT (im := false) (by subst hx5; kernel_rfl)), fun _ => big_call0 (umbralaw37_works_ok hr10) umbralaw37_works_ok_c (by subst hx5; kernel_rfl) (by subst hx5; kernel_rfl) (by subst hx5; kernel_rfl), trivial⟩ trivial [] (by subst hx5; kernel_rfl) (tn_n ?_)
            cases h
            exact jr (by kernel_rfl)
          · refine aw_drawN hT hmo m_umbralaw37_ReceiptIssues [(2, (eB (S_api_Receipt.eq r2.1 r3.1))), (3, (.v (.bool true))), (8, (.v (.bool true))), (12, (j64 r6)), (16, (j64 r7)), (19, (.v (.bool true))), (24, (j64 r8)), (29, (j64 r9)), (32, (.v (.bool false)))] [] (by subst hx5; kernel_rfl) (by subst hx5; kernel_rfl) (by kernel_rfl) ⟨fun _ => big_eql eqT_59 (r2.1 : S_api_Receipt) (r3.1 : S_api_Receipt) (by kernel_rfl) (by kernel_rfl) (fun _ => rfl) (fun _ => rfl) (by kernel_rfl) (by kernel_rfl), fun _ => big_lit hc3 rfl (plU_big hT (im := false) (by subst hx5; kernel_rfl)), fun _ => big_lit hc8 rfl (plU_big hT (im := false) (by subst hx5; kernel_rfl)), fun _ => big_call0 (receipt_Check_ok hr6) receipt_Check_ok_c (by subst hx5; kernel_rfl) (by subst hx5; kernel_rfl) (by subst hx5; kernel_rfl), fun _ => big_call0 (umbraref37_Check_ok hr7) umbraref37_Check_ok_c (by subst hx5; kernel_rfl) (by subst hx5; kernel_rfl) (by subst hx5; kernel_rfl), fun _ => big_lit hc19 rfl (plU_big hT (im := false) (by subst hx5; kernel_rfl)), fun _ => big_call0 (receipt_Against_ok hr8) receipt_Against_ok_c (by subst hx5; kernel_rfl) (by subst hx5; kernel_rfl) (by subst hx5; kernel_rfl), fun _ => big_call0 (umbraref37_Against_ok hr9) umbraref37_Against_ok_c (by subst hx5; kernel_rfl) (by subst hx5; kernel_rfl) (by subst hx5; kernel_rfl), fun _ => big_lit hc32 rfl (plU_big hT (im := false) (by subst hx5; kernel_rfl)), trivial⟩ trivial [] (by subst hx5; kernel_rfl) (tn_n ?_)
            cases h
            exact jr (by kernel_rfl)
        · refine aw_drawN hT hmo m_umbralaw37_ReceiptIssues [(2, (eB (S_api_Receipt.eq r2.1 r3.1))), (3, (.v (.bool true))), (8, (.v (.bool true))), (12, (j64 r6)), (16, (j64 r7)), (19, (.v (.bool false)))] [] (by subst hx5; kernel_rfl) (by subst hx5; kernel_rfl) (by kernel_rfl) ⟨fun _ => big_eql eqT_59 (r2.1 : S_api_Receipt) (r3.1 : S_api_Receipt) (by kernel_rfl) (by kernel_rfl) (fun _ => rfl) (fun _ => rfl) (by kernel_rfl) (by kernel_rfl), fun _ => big_lit hc3 rfl (plU_big hT (im := false) (by subst hx5; kernel_rfl)), fun _ => big_lit hc8 rfl (plU_big hT (im := false) (by subst hx5; kernel_rfl)), fun _ => big_call0 (receipt_Check_ok hr6) receipt_Check_ok_c (by subst hx5; kernel_rfl) (by subst hx5; kernel_rfl) (by subst hx5; kernel_rfl), fun _ => big_call0 (umbraref37_Check_ok hr7) umbraref37_Check_ok_c (by subst hx5; kernel_rfl) (by subst hx5; kernel_rfl) (by subst hx5; kernel_rfl), fun _ => big_lit hc19 rfl (plU_big hT (im := false) (by subst hx5; kernel_rfl)), trivial⟩ trivial [] (by subst hx5; kernel_rfl) (tn_n ?_)
          cases h
          exact jr (by kernel_rfl)
      · refine aw_drawN hT hmo m_umbralaw37_ReceiptIssues [(2, (eB (S_api_Receipt.eq r2.1 r3.1))), (3, (.v (.bool true))), (8, (.v (.bool false)))] [] (by subst hx5; kernel_rfl) (by subst hx5; kernel_rfl) (by kernel_rfl) ⟨fun _ => big_eql eqT_59 (r2.1 : S_api_Receipt) (r3.1 : S_api_Receipt) (by kernel_rfl) (by kernel_rfl) (fun _ => rfl) (fun _ => rfl) (by kernel_rfl) (by kernel_rfl), fun _ => big_lit hc3 rfl (plU_big hT (im := false) (by subst hx5; kernel_rfl)), fun _ => big_lit hc8 rfl (plU_big hT (im := false) (by subst hx5; kernel_rfl)), trivial⟩ trivial [] (by subst hx5; kernel_rfl) (tn_n ?_)
        cases h
        exact jr (by kernel_rfl)
    · refine aw_drawN hT hmo m_umbralaw37_ReceiptIssues [(2, (eB (S_api_Receipt.eq r2.1 r3.1))), (3, (.v (.bool false)))] [] (by subst hx5; kernel_rfl) (by subst hx5; kernel_rfl) (by kernel_rfl) ⟨fun _ => big_eql eqT_59 (r2.1 : S_api_Receipt) (r3.1 : S_api_Receipt) (by kernel_rfl) (by kernel_rfl) (fun _ => rfl) (fun _ => rfl) (by kernel_rfl) (by kernel_rfl), fun _ => big_lit hc3 rfl (plU_big hT (im := false) (by subst hx5; kernel_rfl)), trivial⟩ trivial [] (by subst hx5; kernel_rfl) (tn_n ?_)
      cases h
      exact jr (by kernel_rfl)
  · have h := g4
    refine aw_ret ?_
    cases h
    exact fin_r (by kernel_rfl)

theorem umbralaw37_ReceiptIssues_ok_c : callable Try.prog 9 := ⟨_, Try.func9, by decide, rfl⟩

/-! umbra/umbralaw37.ReceiptOther -/
def m_umbralaw37_ReceiptOther : Nat → Bool := imL [3]

def p_umbralaw37_ReceiptOther (N : Nat) (a0 : S_umbralaw37_Chain) (a1 : Int) (a2 : Int) : Option (Bool) :=
  Option.bind (p_umbralaw37_few N a0.gL) fun r1 =>
  letO (((r1.length : Int)) == 0) fun x2 =>
  cond x2 (
    Option.bind (p_umbralaw37_works N ) fun r3 =>
    some r3) (
    Option.bind (remO .i64 a1 ((r1.length : Int))) fun x4 =>
    letO (I64 (x4 + ((r1.length : Int)))) fun x5 =>
    Option.bind (remO .i64 x5 ((r1.length : Int))) fun x6 =>
    Option.bind (p_receipt_Issue N a0.gKey a0.gLayer r1 x6) fun r7 =>
    cond (r7.2 != 0) (
      Option.bind (p_umbralaw37_works N ) fun r8 =>
      some r8) (
      Option.bind (p_receipt_Against N a0.gLayer r1 r7.1) fun r9 =>
      cond (r9 != 0) (
        some false) (
        Option.bind (cond ((Int.tmod a2 4) == 0) (
          some ((r7.1.gLayer, r7.1.gWho, U32 (r7.1.gClock + 1), r7.1.gSum, 20))) (
          cond ((Int.tmod a2 4) == 1) (
            some ((r7.1.gLayer, bxor .i64 r7.1.gWho 1, r7.1.gClock, r7.1.gSum, 20))) (
            cond ((Int.tmod a2 4) == 2) (
              Option.bind (inRO (Int.tmod a2 32) 32) fun _ =>
              Option.bind (r7.1.gSum.toList[(Int.tmod a2 32).toNat]?) fun e12 =>
              Option.bind (inRO (Int.tmod a2 32) 32) fun _ =>
              Option.bind (r7.1.gSum.toList[(Int.tmod a2 32).toNat]?) fun e14 =>
              some ((r7.1.gLayer, r7.1.gWho, r7.1.gClock, r7.1.gSum.setIfInBounds ((Int.tmod a2 32).toNat) (bxor .u8 e12 1), 20))) (
              cond ((Int.tmod a2 4) == 3) (
                letO (bxor .i64 r7.1.gLayer 1) fun x15 =>
                some (((bxor .i64 r7.1.gLayer 1), r7.1.gWho, r7.1.gClock, r7.1.gSum, 13))) (
                some ((r7.1.gLayer, r7.1.gWho, r7.1.gClock, r7.1.gSum, 20))))))) fun p10 =>
        Option.bind (Option.bind (p_receipt_Against N a0.gLayer r1 (S_api_Receipt.mk p10.1 r7.1.gSeq p10.2.1 p10.2.2.1 p10.2.2.2.1 r7.1.gHead r7.1.gTag)) fun r17 =>
        cond (r17 == p10.2.2.2.2) (
          Option.bind (p_umbralaw37_works N ) fun r18 =>
          some r18) (
          some false)) fun p16 =>
        some p16)))

theorem umbralaw37_ReceiptOther_ok {N : Nat} {a0 : S_umbralaw37_Chain} {a1 : Int} {a2 : Int} {r : Bool} (h : p_umbralaw37_ReceiptOther N a0 a1 a2 = some r) : FnM Try.prog 10 [] [(S_umbralaw37_Chain.enc a0), (j64 a1), (k8 a2)] (eB r) [] := by
  unfold p_umbralaw37_ReceiptOther at h
  refine fnM_of_aw (m := 87) (lo := 0) (rs := [.tmp 6]) hT Try.func10 rfl (by kernel_rfl) rfl ?_
  refine aw_sregU hT m_umbralaw37_ReceiptOther [] (by kernel_rfl) ?_
  refine aw_sreg ?_
  refine awl_u hT m_umbralaw37_ReceiptOther [] 2 (by kernel_rfl) ?_
  obtain ⟨r1, hr1, h⟩ := obind h
  refine awl_big (big_call [] (umbralaw37_few_ok hr1) umbralaw37_few_ok_c (by kernel_rfl) (by kernel_rfl)) (by kernel_rfl) ?_
  refine awl_u hT m_umbralaw37_ReceiptOther [] 1 (by kernel_rfl) ?_
  refine awl_nil ?_
  refine aw_seq ?_
  obtain ⟨x2, hx2, h⟩ := letE h
  refine aw_sregU hT m_umbralaw37_ReceiptOther [] (by kernel_rfl) ?_
  refine aw_nms [(16, (eB x2))] (by subst hx2; kernel_rfl) ?_
  refine aw_condH h (by kernel_rfl) (fun _ h => ?_) (fun _ h => ?_)
  · refine aw_sreg ?_
    obtain ⟨r3, hr3, h⟩ := obind h
    refine awl_big (big_call [] (umbralaw37_works_ok hr3) umbralaw37_works_ok_c (by kernel_rfl) (by kernel_rfl)) (by kernel_rfl) ?_
    refine awl_u hT m_umbralaw37_ReceiptOther [] 1 (by kernel_rfl) ?_
    refine awl_nil ?_
    refine aw_ret (tn_r ?_)
    cases h
    exact fin_r (by kernel_rfl)
  · refine aw_skip (tn_n ?_)
    refine aw_sreg ?_
    refine awl_u hT m_umbralaw37_ReceiptOther [] 3 (by kernel_rfl) ?_
    obtain ⟨x4, hx4, h⟩ := obind h
    refine awl_big (big_rem hT hx4 (by kernel_rfl) (by kernel_rfl)) (by kernel_rfl) ?_
    obtain ⟨x5, hx5, h⟩ := letE h
    refine awl_u hT m_umbralaw37_ReceiptOther [] 5 (by kernel_rfl) ?_
    refine awl_nms [(24, (j64 x5))] (by subst hx5; kernel_rfl) ?_
    obtain ⟨x6, hx6, h⟩ := obind h
    refine awl_big (big_rem hT hx6 (by kernel_rfl) (by kernel_rfl)) (by kernel_rfl) ?_
    refine awl_u hT m_umbralaw37_ReceiptOther [] 1 (by kernel_rfl) ?_
    refine awl_nil ?_
    refine aw_sreg ?_
    refine awl_u hT m_umbralaw37_ReceiptOther [] 6 (by kernel_rfl) ?_
    obtain ⟨r7, hr7, h⟩ := obind h
    refine awl_big (big_call [] (receipt_Issue_ok hr7) receipt_Issue_ok_c (by kernel_rfl) (by kernel_rfl)) (by kernel_rfl) ?_
    refine awl_u hT m_umbralaw37_ReceiptOther [] 6 (by kernel_rfl) ?_
    refine awl_nil ?_
    refine aw_seq ?_
    refine aw_sregU hT m_umbralaw37_ReceiptOther [] (by kernel_rfl) ?_
    refine aw_condH h (by kernel_rfl) (fun _ h => ?_) (fun _ h => ?_)
    · refine aw_sreg ?_
      obtain ⟨r8, hr8, h⟩ := obind h
      refine awl_big (big_call [] (umbralaw37_works_ok hr8) umbralaw37_works_ok_c (by kernel_rfl) (by kernel_rfl)) (by kernel_rfl) ?_
      refine awl_u hT m_umbralaw37_ReceiptOther [] 1 (by kernel_rfl) ?_
      refine awl_nil ?_
      refine aw_ret (tn_r ?_)
      cases h
      exact fin_r (by kernel_rfl)
    · refine aw_skip (tn_n ?_)
      refine aw_seq ?_
      refine aw_sreg ?_
      refine awl_u hT m_umbralaw37_ReceiptOther [] 4 (by kernel_rfl) ?_
      obtain ⟨r9, hr9, h⟩ := obind h
      refine awl_big (big_call [] (receipt_Against_ok hr9) receipt_Against_ok_c (by kernel_rfl) (by kernel_rfl)) (by kernel_rfl) ?_
      refine awl_u hT m_umbralaw37_ReceiptOther [] 1 (by kernel_rfl) ?_
      refine awl_nil ?_
      refine aw_condH h (by kernel_rfl) (fun _ h => ?_) (fun _ h => ?_)
      · refine aw_sregU hT m_umbralaw37_ReceiptOther [] (by kernel_rfl) ?_
        refine aw_ret (tn_r ?_)
        cases h
        exact fin_r (by kernel_rfl)
      · refine aw_skip (tn_n ?_)
        refine aw_sregU hT m_umbralaw37_ReceiptOther [] (by kernel_rfl) ?_
        obtain ⟨p10, h, g10⟩ := obind h
        refine aw_joinT ⟨[en 3 (.im (S_umbralaw37_Chain.enc a0)), en 7 (eL 36 S_api_Entry.enc r1), en 8 (.ref 0 [] 0), en 10 (j64 p10.2.2.2.2)], [.var (.st 100 [(j64 p10.1), (j64 r7.1.gSeq), (j64 p10.2.1), (k32 p10.2.2.1), (eA 32 1 k8 p10.2.2.2.1), (eA 32 1 k8 r7.1.gHead), (eA 32 1 k8 r7.1.gTag)])]⟩ ?_ ?_
        · refine aw_sregU hT m_umbralaw37_ReceiptOther [] (by kernel_rfl) ?_
          refine aw_block ?_
          refine aw_sregU hT m_umbralaw37_ReceiptOther [] (by kernel_rfl) ?_
          refine aw_condH h (by kernel_rfl) (fun _ h => ?_) (fun _ h => ?_)
          · refine aw_regU hT m_umbralaw37_ReceiptOther [] (by kernel_rfl) (inB_n (tn_n ?_))
            cases h
            exact jr (by kernel_rfl)
          · refine aw_sregU hT m_umbralaw37_ReceiptOther [] (by kernel_rfl) ?_
            refine aw_condH h (by kernel_rfl) (fun _ h => ?_) (fun _ h => ?_)
            · refine aw_regU hT m_umbralaw37_ReceiptOther [] (by kernel_rfl) (inB_n (tn_n ?_))
              cases h
              exact jr (by kernel_rfl)
            · refine aw_sregU hT m_umbralaw37_ReceiptOther [] (by kernel_rfl) ?_
              refine aw_condH h (by kernel_rfl) (fun _ h => ?_) (fun _ h => ?_)
              · refine aw_region ?_
                refine awl_u hT m_umbralaw37_ReceiptOther [] 3 (by kernel_rfl) ?_
                obtain ⟨u11, hu11, h⟩ := obind h
                refine awl_big (big_adR hT (k := 1) 0 [4] 4 hu11 (by kernel_rfl) (by kernel_rfl)) (by kernel_rfl) ?_
                first | refine awl_to ⟨[en 3 (.im (S_umbralaw37_Chain.enc a0)), en 7 (eL 36 S_api_Entry.enc r1), en 8 (.ref 0 [] 0), en 10 (j64 20), en 64 (k8 (Int.tmod a2 32)), en 66 (.ref 0 [4, (Int.tmod a2 32).toNat] (4 + (Int.tmod a2 32).toNat * 1))], [.var (S_api_Receipt.enc r7.1)]⟩ (by kernel_rfl) ?_ | skip
                obtain ⟨e12, he12, h⟩ := obind h
                refine awl_big (big_ldE hT k8 1 he12 (by kernel_rfl) (by kernel_rfl)) (by kernel_rfl) ?_
                refine awl_u hT m_umbralaw37_ReceiptOther [] 2 (by kernel_rfl) ?_
                obtain ⟨u13, hu13, h⟩ := obind h
                refine awl_big (big_adR hT (k := 1) 0 [4] 4 hu13 (by kernel_rfl) (by kernel_rfl)) (by kernel_rfl) ?_
                obtain ⟨e14, he14, h⟩ := obind h
                refine awl_big (big_stV hT k8 1 r7.1.gSum he14 (bxor .u8 e12 1) (by kernel_rfl) (by kernel_rfl) (H' := [.var (.st 100 [(j64 r7.1.gLayer), (j64 r7.1.gSeq), (j64 r7.1.gWho), (k32 r7.1.gClock), (eA 32 1 k8 (r7.1.gSum.setIfInBounds ((Int.tmod a2 32).toNat) (bxor .u8 e12 1))), (eA 32 1 k8 r7.1.gHead), (eA 32 1 k8 r7.1.gTag)])]) (by kernel_rfl)) (by kernel_rfl) ?_
                refine awl_nil (inB_n (tn_n ?_))
                cases h
                exact jr (by kernel_rfl)
              · refine aw_sregU hT m_umbralaw37_ReceiptOther [] (by kernel_rfl) ?_
                refine aw_condH h (by kernel_rfl) (fun _ h => ?_) (fun _ h => ?_)
                · obtain ⟨x15, hx15, h⟩ := letE h
                  refine aw_sregU hT m_umbralaw37_ReceiptOther [] (by kernel_rfl) ?_
                  refine aw_regU hT m_umbralaw37_ReceiptOther [] (by kernel_rfl) (inB_n (tn_n ?_))
                  cases h
                  exact jr (by kernel_rfl)
                · refine aw_skip (inB_n (tn_n ?_))
                  cases h
                  exact jr (by kernel_rfl)
        · have h := g10
          obtain ⟨p16, h, g16⟩ := obind h
          refine aw_joinT ⟨[en 6 (eB p16)], [.var (.st 100 [(j64 p10.1), (j64 r7.1.gSeq), (j64 p10.2.1), (k32 p10.2.2.1), (eA 32 1 k8 p10.2.2.2.1), (eA 32 1 k8 r7.1.gHead), (eA 32 1 k8 r7.1.gTag)])]⟩ ?_ ?_
          · refine aw_region ?_
            refine awl_u hT m_umbralaw37_ReceiptOther [] 4 (by kernel_rfl) ?_
            obtain ⟨r17, hr17, h⟩ := obind h
            refine awl_big (big_call [] (receipt_Against_ok hr17) receipt_Against_ok_c (by kernel_rfl) (by kernel_rfl)) (by kernel_rfl) ?_
            refine awl_u hT m_umbralaw37_ReceiptOther [] 3 (by kernel_rfl) ?_
            refine awl_split 84 h (by kernel_rfl) (fun h => ?_) (fun h => ?_)
            · obtain ⟨r18, hr18, h⟩ := obind h
              refine awl_big (big_call [] (umbralaw37_works_ok hr18) umbralaw37_works_ok_c (by kernel_rfl) (by kernel_rfl)) (by kernel_rfl) ?_
              refine awl_u hT m_umbralaw37_ReceiptOther [84] 2 (by kernel_rfl) ?_
              refine awl_nil (tn_n ?_)
              cases h
              exact jr (by kernel_rfl)
            · refine awl_u hT m_umbralaw37_ReceiptOther [84] 3 (by kernel_rfl) ?_
              refine awl_nil (tn_n ?_)
              cases h
              exact jr (by kernel_rfl)
          · have h := g16
            refine aw_ret ?_
            cases h
            exact fin_r (by kernel_rfl)

theorem umbralaw37_ReceiptOther_ok_c : callable Try.prog 10 := ⟨_, Try.func10, by decide, rfl⟩

end Go.UK
