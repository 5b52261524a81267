/- A part of the proof: what the functions of the program compute. -/
import Derived.Test.YtlalbhcgnnbbmaaDoorWT
namespace Go.UK
open Go Go.Proofs
set_option maxRecDepth 20000
set_option maxHeartbeats 4000000
set_option linter.all false

attribute [local irreducible] owp awl aw FnM NatFn opS Stab TOK Big

/-! umbra/words.Lines -/
def p_words_Lines_L1 (N : Nat) (a0 : ByteArray) : Nat → Nat → (List ByteArray) → Int → Option (Nat × (List ByteArray) × Int)
  | 0, _, _, _ => none
  | k + 1, s2, s3, s4 =>
    cond (decide (s2 < ByteArray.size a0)) (
      cond ((runeAt a0 s2) == 10) (
        Option.bind (slcS a0 s4 ((s2 : Int))) fun s5 =>
        Option.bind (appO 16 s3 (([s5] : List ByteArray))) fun z6 =>
        p_words_Lines_L1 N a0 k (runeNext a0 s2) z6 (I64 (((s2 : Int)) + 1))) (
        p_words_Lines_L1 N a0 k (runeNext a0 s2) s3 s4)) (
      some ((s2, s3, s4)))

def p_words_Lines (N : Nat) (a0 : ByteArray) : Option ((List ByteArray)) :=
  Option.bind (p_words_Lines_L1 N a0 N 0 [] 0) fun p1 =>
  Option.bind (letO ((ByteArray.size a0 : Int)) fun x8 =>
  cond (decide (p1.2.2 < x8)) (
    Option.bind (slcS a0 p1.2.2 ((a0.size : Int))) fun s9 =>
    Option.bind (appO 16 p1.2.1 (([s9] : List ByteArray))) fun z10 =>
    some z10) (
    some p1.2.1)) fun p7 =>
  some p7

theorem words_Lines_ok {N : Nat} {a0 : ByteArray} {r : (List ByteArray)} (h : p_words_Lines N a0 = some r) : FnM Tryd.prog 8 [] [(eS a0)] (eL 1 eS r) [] := by
  unfold p_words_Lines at h
  refine fnM_of_aw (m := 35) (lo := 0) (rs := [.tmp 2]) hT Tryd.func8 rfl (by kernel_rfl) rfl ?_
  refine aw_sregU hT m_no [] (by kernel_rfl) ?_
  refine aw_sregU hT m_no [] (by kernel_rfl) ?_
  refine aw_sregU hT m_no [] (by kernel_rfl) ?_
  refine aw_seq ?_
  refine aw_sreg ?_
  refine awl_u hT m_no [] 1 (by kernel_rfl) ?_
  refine awl_big (big_rng (t := 9) (s := a0) rfl (by kernel_rfl) (by kernel_rfl)) (by kernel_rfl) ?_
  refine awl_nil ?_
  refine aw_own_nil 3 1 (by kernel_rfl) ?_
  obtain ⟨p1, h, g1⟩ := obind h
  refine aw_joinTK ⟨[en 0 (eS a0), en 3 (eO 1 1 eS p1.2.1), en 4 (j64 p1.2.2)], [.mp (.it a0 p1.1), .tail (p1.2.1.length * 1)]⟩ ?_ ?_
  · refine aw_block (aw_loop (fun k s => ∃ s2 s3 s4, p_words_Lines_L1 N a0 k s2 s3 s4 = some p1 ∧ JR (Fr.f 35 0) ⟨[en 0 (eS a0), en 3 (eO 1 1 eS s3), en 4 (j64 s4), en 8 (.it 0)], [.mp (.it a0 s2), .tail (s3.length * 1)]⟩ s) (fun k s hI => ?_) N _ ⟨_, _, _, h, jr (by kernel_rfl)⟩)
    obtain ⟨s2, s3, s4, h, hj⟩ := hI
    cases k with
    | zero => cases h
    | succ k =>
      refine aw_jr hj ?_
      refine aw_sreg ?_
      refine boolH h (fun hc h => ?_) (fun hc h => ?_)
      · refine awl_big (big_nxt1 (s := a0) (p := s2) (id := 0) hc (by kernel_rfl) (by kernel_rfl) (by kernel_rfl)) (by kernel_rfl) ?_
        refine awl_u hT m_no [] 1 (by kernel_rfl) ?_
        refine awl_nil ?_
        refine aw_seq ?_
        refine aw_condB (b := true) (c := true) rfl (by kernel_rfl) ?_
        refine aw_skip (tn_n ?_)
        refine aw_block ?_
        refine aw_sregU hT m_no [] (by kernel_rfl) ?_
        refine aw_sregU hT m_no [] (by kernel_rfl) ?_
        refine aw_condH h (by kernel_rfl) (fun _ h => ?_) (fun _ h => ?_)
        · refine aw_sreg ?_
          refine awl_u hT m_no [] 4 (by kernel_rfl) ?_
          obtain ⟨s5, hs5, h⟩ := obind h
          refine awl_big (big_slS hT hs5 (by kernel_rfl) (by kernel_rfl)) (by kernel_rfl) ?_
          refine awl_big (big_row hT (x := (.sl 1 1 [(eS s5)])) (by kernel_rfl) (by kernel_rfl)) (by kernel_rfl) ?_
          obtain ⟨z6, hz6, h⟩ := obind h
          refine awl_big (big_app hT eS (id := 1) (k := 1) hz6 (by kernel_rfl) (by kernel_rfl)) (by kernel_rfl) ?_
          refine awl_u hT m_no [] 1 (by kernel_rfl) ?_
          refine awl_nil ?_
          refine aw_regU hT m_no [] (by kernel_rfl) (inB_n (tn_n ?_))
          exact ⟨k, Nat.lt_succ_self k, _, _, _, h, jr (by kernel_rfl)⟩
        · refine aw_skip (inB_n (tn_n ?_))
          exact ⟨k, Nat.lt_succ_self k, _, _, _, h, jr (by kernel_rfl)⟩
      · refine awl_big (big_nxt0 (s := a0) (p := s2) (id := 0) hc (by kernel_rfl) (by kernel_rfl) (by kernel_rfl)) (by kernel_rfl) ?_
        refine awl_u hT m_no [] 1 (by kernel_rfl) ?_
        refine awl_nil ?_
        refine aw_seq ?_
        refine aw_condB (b := false) (c := false) rfl (by kernel_rfl) ?_
        refine aw_exit (tn_x (tn_x (inB_e (tn_n ?_))))
        cases h
        exact jr (by kernel_rfl)
  · have h := g1
    refine (tn_n ?_)
    obtain ⟨p7, h, g7⟩ := obind h
    refine aw_joinT ⟨[en 3 (eO 1 1 eS p7)], [.mp (.it a0 p1.1), .tail (p7.length * 1)]⟩ ?_ ?_
    · obtain ⟨x8, hx8, h⟩ := letE h
      refine aw_sregU hT m_no [] (by kernel_rfl) ?_
      refine aw_nms [(27, (eB (decide (p1.2.2 < x8))))] (by subst hx8; kernel_rfl) ?_
      refine aw_condH h (by kernel_rfl) (fun _ h => ?_) (fun _ h => ?_)
      · refine aw_region ?_
        refine awl_u hT m_no [] 3 (by kernel_rfl) ?_
        obtain ⟨s9, hs9, h⟩ := obind h
        refine awl_big (big_slS hT hs9 (by kernel_rfl) (by kernel_rfl)) (by kernel_rfl) ?_
        refine awl_big (big_row hT (x := (.sl 1 1 [(eS s9)])) (by kernel_rfl) (by kernel_rfl)) (by kernel_rfl) ?_
        obtain ⟨z10, hz10, h⟩ := obind h
        refine awl_big (big_app hT eS (id := 1) (k := 1) hz10 (by kernel_rfl) (by kernel_rfl)) (by kernel_rfl) ?_
        refine awl_u hT m_no [] 1 (by kernel_rfl) ?_
        refine awl_nil (tn_n ?_)
        cases h
        exact jr (by kernel_rfl)
      · refine aw_skip (tn_n ?_)
        cases h
        exact jr (by kernel_rfl)
    · have h := g7
      refine aw_sregU hT m_no [] (by kernel_rfl) ?_
      refine aw_ret ?_
      cases h
      exact fin_r (by kernel_rfl)

theorem words_Lines_ok_c : callable Tryd.prog 8 := ⟨_, Tryd.func8, by decide, rfl⟩

def split_ren : Go.Shelf.Ren := ⟨fun | 221 => 46 | 268 => 58 | 138 => 59 | 143 => 60 | 195 => 71 | 197 => 72 | 218 => 73 | 219 => 74 | 260 => 85 | 217 => 86 | 225 => 87 | 224 => 88 | 267 => 89 | 266 => 101 | 314 => 102 | n => n, fun | 9 => 9 | 3 => 3 | 31 => 22 | 4 => 4 | 0 => 0 | 105 => 130 | 21 => 21 | 5 => 5 | 46 => 70 | 119 => 156 | 139 => 159 | 138 => 158 | 146 => 160 | 51 => 51 | n => n, fun | 1 => 0 | 3 => 2 | 4 => 3 | n => n⟩
theorem split : Lays.n221 Tryd.prog split_ren where
  mixed := by kernel_rfl
  f138 := Tryd.func59.trans (congrArg some (by kernel_rfl))
  f143 := Tryd.func60.trans (congrArg some (by kernel_rfl))
  f195 := Tryd.func71.trans (congrArg some (by kernel_rfl))
  f197 := Tryd.func72.trans (congrArg some (by kernel_rfl))
  f217 := Tryd.func86.trans (congrArg some (by kernel_rfl))
  f218 := Tryd.func73.trans (congrArg some (by kernel_rfl))
  f219 := Tryd.func74.trans (congrArg some (by kernel_rfl))
  f221 := Tryd.func46.trans (congrArg some (by kernel_rfl))
  f224 := Tryd.func88.trans (congrArg some (by kernel_rfl))
  f225 := Tryd.func87.trans (congrArg some (by kernel_rfl))
  f260 := Tryd.func85.trans (congrArg some (by kernel_rfl))
  f266 := Tryd.func101.trans (congrArg some (by kernel_rfl))
  f267 := Tryd.func89.trans (congrArg some (by kernel_rfl))
  f268 := Tryd.func58.trans (congrArg some (by kernel_rfl))
  f314 := Tryd.func102.trans (congrArg some (by kernel_rfl))
  t0 := Tryd.underlying0
  a0 := Tryd.isAgg0
  z0 := Tryd.sizeOf0
  v0 := Tryd.zeroValue0
  t3 := Tryd.underlying3
  a3 := Tryd.isAgg3
  z3 := Tryd.sizeOf3
  v3 := Tryd.zeroValue3
  t4 := Tryd.underlying4
  a4 := Tryd.isAgg4
  z4 := Tryd.sizeOf4
  v4 := Tryd.zeroValue4
  t5 := Tryd.underlying5
  a5 := Tryd.isAgg5
  z5 := Tryd.sizeOf5
  v5 := Tryd.zeroValue5
  t9 := Tryd.underlying9
  a9 := Tryd.isAgg9
  z9 := Tryd.sizeOf9
  v9 := Tryd.zeroValue9
  t21 := Tryd.underlying21
  a21 := Tryd.isAgg21
  z21 := Tryd.sizeOf21
  v21 := Tryd.zeroValue21
  t31 := Tryd.underlying22
  a31 := Tryd.isAgg22
  z31 := Tryd.sizeOf22
  v31 := Tryd.zeroValue22
  t46 := Tryd.underlying70
  a46 := Tryd.isAgg70
  z46 := Tryd.sizeOf70
  v46 := Tryd.zeroValue70
  t51 := Tryd.underlying51
  a51 := Tryd.isAgg51
  z51 := Tryd.sizeOf51
  v51 := Tryd.zeroValue51
  t105 := Tryd.underlying130
  a105 := Tryd.isAgg130
  z105 := Tryd.sizeOf130
  v105 := Tryd.zeroValue130
  t119 := Tryd.underlying156
  a119 := Tryd.isAgg156
  z119 := Tryd.sizeOf156
  t138 := Tryd.underlying158
  a138 := Tryd.isAgg158
  z138 := Tryd.sizeOf158
  v138 := Tryd.zeroValue158
  t139 := Tryd.underlying159
  a139 := Tryd.isAgg159
  z139 := Tryd.sizeOf159
  v139 := Tryd.zeroValue159
  t146 := Tryd.underlying160
  a146 := Tryd.isAgg160
  z146 := Tryd.sizeOf160
  v146 := Tryd.zeroValue160
  g1 := by kernel_rfl
  g3 := by kernel_rfl
  g4 := by kernel_rfl

def index_ren : Go.Shelf.Ren := ⟨fun | 143 => 60 | 219 => 74 | 217 => 86 | 225 => 87 | 224 => 88 | 267 => 89 | 266 => 101 | 314 => 102 | n => n, fun | 9 => 9 | 3 => 3 | 4 => 4 | 5 => 5 | 46 => 70 | 146 => 160 | 51 => 51 | n => n, fun | 1 => 0 | n => n⟩
theorem index : Lays.n143 Tryd.prog index_ren where
  mixed := by kernel_rfl
  f143 := Tryd.func60.trans (congrArg some (by kernel_rfl))
  f217 := Tryd.func86.trans (congrArg some (by kernel_rfl))
  f219 := Tryd.func74.trans (congrArg some (by kernel_rfl))
  f224 := Tryd.func88.trans (congrArg some (by kernel_rfl))
  f225 := Tryd.func87.trans (congrArg some (by kernel_rfl))
  f266 := Tryd.func101.trans (congrArg some (by kernel_rfl))
  f267 := Tryd.func89.trans (congrArg some (by kernel_rfl))
  f314 := Tryd.func102.trans (congrArg some (by kernel_rfl))
  t3 := Tryd.underlying3
  a3 := Tryd.isAgg3
  z3 := Tryd.sizeOf3
  v3 := Tryd.zeroValue3
  t4 := Tryd.underlying4
  a4 := Tryd.isAgg4
  z4 := Tryd.sizeOf4
  v4 := Tryd.zeroValue4
  t5 := Tryd.underlying5
  a5 := Tryd.isAgg5
  z5 := Tryd.sizeOf5
  v5 := Tryd.zeroValue5
  t9 := Tryd.underlying9
  a9 := Tryd.isAgg9
  z9 := Tryd.sizeOf9
  v9 := Tryd.zeroValue9
  t46 := Tryd.underlying70
  a46 := Tryd.isAgg70
  z46 := Tryd.sizeOf70
  v46 := Tryd.zeroValue70
  t51 := Tryd.underlying51
  a51 := Tryd.isAgg51
  z51 := Tryd.sizeOf51
  v51 := Tryd.zeroValue51
  t146 := Tryd.underlying160
  a146 := Tryd.isAgg160
  z146 := Tryd.sizeOf160
  v146 := Tryd.zeroValue160
  g1 := by kernel_rfl

def count_ren : Go.Shelf.Ren := ⟨fun | 138 => 59 | 195 => 71 | 218 => 73 | 143 => 60 | 219 => 74 | 217 => 86 | 225 => 87 | 224 => 88 | 267 => 89 | 266 => 101 | 314 => 102 | n => n, fun | 9 => 9 | 3 => 3 | 4 => 4 | 5 => 5 | 0 => 0 | 46 => 70 | 146 => 160 | 51 => 51 | n => n, fun | 1 => 0 | n => n⟩
theorem count : Lays.n138 Tryd.prog count_ren where
  mixed := by kernel_rfl
  f138 := Tryd.func59.trans (congrArg some (by kernel_rfl))
  f143 := Tryd.func60.trans (congrArg some (by kernel_rfl))
  f195 := Tryd.func71.trans (congrArg some (by kernel_rfl))
  f217 := Tryd.func86.trans (congrArg some (by kernel_rfl))
  f218 := Tryd.func73.trans (congrArg some (by kernel_rfl))
  f219 := Tryd.func74.trans (congrArg some (by kernel_rfl))
  f224 := Tryd.func88.trans (congrArg some (by kernel_rfl))
  f225 := Tryd.func87.trans (congrArg some (by kernel_rfl))
  f266 := Tryd.func101.trans (congrArg some (by kernel_rfl))
  f267 := Tryd.func89.trans (congrArg some (by kernel_rfl))
  f314 := Tryd.func102.trans (congrArg some (by kernel_rfl))
  t0 := Tryd.underlying0
  a0 := Tryd.isAgg0
  z0 := Tryd.sizeOf0
  v0 := Tryd.zeroValue0
  t3 := Tryd.underlying3
  a3 := Tryd.isAgg3
  z3 := Tryd.sizeOf3
  v3 := Tryd.zeroValue3
  t4 := Tryd.underlying4
  a4 := Tryd.isAgg4
  z4 := Tryd.sizeOf4
  v4 := Tryd.zeroValue4
  t5 := Tryd.underlying5
  a5 := Tryd.isAgg5
  z5 := Tryd.sizeOf5
  v5 := Tryd.zeroValue5
  t9 := Tryd.underlying9
  a9 := Tryd.isAgg9
  z9 := Tryd.sizeOf9
  v9 := Tryd.zeroValue9
  t46 := Tryd.underlying70
  a46 := Tryd.isAgg70
  z46 := Tryd.sizeOf70
  v46 := Tryd.zeroValue70
  t51 := Tryd.underlying51
  a51 := Tryd.isAgg51
  z51 := Tryd.sizeOf51
  v51 := Tryd.zeroValue51
  t146 := Tryd.underlying160
  a146 := Tryd.isAgg160
  z146 := Tryd.sizeOf160
  v146 := Tryd.zeroValue160
  g1 := by kernel_rfl

theorem lib46 {s sep : ByteArray} {r : List ByteArray} (h : splitO s sep = some r) : FnM Tryd.prog 46 [] [eS s, eS sep, j64 0, j64 (-1)] (eL 1 eS r) [] := split_fn split { split with } { split with } (by kernel_rfl) rfl h
theorem lib46_c : callable Tryd.prog 46 := ⟨_, Tryd.func46, by decide, rfl⟩

/-! strings.Split -/
def p_strings_Split (N : Nat) (a0 : ByteArray) (a1 : ByteArray) : Option ((List ByteArray)) :=
  Option.bind (splitO a0 a1) fun r1 =>
  some r1

theorem strings_Split_ok {N : Nat} {a0 : ByteArray} {a1 : ByteArray} {r : (List ByteArray)} (h : p_strings_Split N a0 a1 = some r) : FnM Tryd.prog 31 [] [(eS a0), (eS a1)] (eL 1 eS r) [] := by
  unfold p_strings_Split at h
  refine fnM_of_aw (m := 8) (lo := 0) (rs := [.tmp 4]) hT Tryd.func31 rfl (by kernel_rfl) rfl ?_
  refine aw_sregU hT m_no [] (by kernel_rfl) ?_
  refine aw_sreg ?_
  refine awl_u hT m_no [] 2 (by kernel_rfl) ?_
  obtain ⟨r1, hr1, h⟩ := obind h
  refine awl_big (big_call [] (lib46 hr1) lib46_c (by kernel_rfl) (by kernel_rfl)) (by kernel_rfl) ?_
  refine awl_u hT m_no [] 1 (by kernel_rfl) ?_
  refine awl_nil ?_
  refine aw_ret ?_
  cases h
  exact fin_r (by kernel_rfl)

theorem strings_Split_ok_c : callable Tryd.prog 31 := ⟨_, Tryd.func31, by decide, rfl⟩

/-! (*umbra/words.taker).word -/
def p_words_taker_word_r (N : Nat) (a0 : S_words_taker) : Option ((List ByteArray) × Bool × ByteArray) :=
  letO (((a0.gl.length : Int)) == 0) fun x1 =>
  cond x1 (
    some ((a0.gl, true, ByteArray.mk #[]))) (
    Option.bind (idx a0.gl 0) fun e2 =>
    Option.bind (slcO a0.gl 1 ((a0.gl.length : Int))) fun s3 =>
    some ((s3, a0.gbad, e2)))

theorem words_taker_word_r_ok {N : Nat} {a0 : S_words_taker} {r : (List ByteArray) × Bool × ByteArray} (h : p_words_taker_word_r N a0 = some r) : FnM Tryd.prog 32 [.var (S_words_taker.enc a0)] [(.ref 0 [] 0)] (eS r.2.2) [.var (.st 2 [(eL 1 eS r.1), (eB r.2.1)])] := by
  unfold p_words_taker_word_r at h
  refine fnM_of_aw (m := 28) (lo := 1) (rs := [.tmp 2]) hT Tryd.func32 rfl (by kernel_rfl) rfl ?_
  refine aw_sregU hT m_no [] (by kernel_rfl) ?_
  refine aw_seq ?_
  obtain ⟨x1, hx1, h⟩ := letE h
  refine aw_sregU hT m_no [] (by kernel_rfl) ?_
  refine aw_nms [(9, (eB x1))] (by subst hx1; kernel_rfl) ?_
  refine aw_condH h (by kernel_rfl) (fun _ h => ?_) (fun _ h => ?_)
  · refine aw_sregU hT m_no [] (by kernel_rfl) ?_
    refine aw_sregU hT m_no [] (by kernel_rfl) ?_
    refine aw_ret (tn_r ?_)
    cases h
    exact fin_r (by kernel_rfl)
  · refine aw_skip (tn_n ?_)
    refine aw_sreg ?_
    refine awl_u hT m_no [] 4 (by kernel_rfl) ?_
    obtain ⟨e2, he2, h⟩ := obind h
    refine awl_big (big_idx hT eS he2 (by kernel_rfl) (by kernel_rfl)) (by kernel_rfl) ?_
    refine awl_u hT m_no [] 2 (by kernel_rfl) ?_
    refine awl_nil ?_
    refine aw_sreg ?_
    refine awl_u hT m_no [] 5 (by kernel_rfl) ?_
    obtain ⟨s3, hs3, h⟩ := obind h
    refine awl_big (big_slc hT (k := 1) eS hs3 (by kernel_rfl) (by kernel_rfl)) (by kernel_rfl) ?_
    refine awl_u hT m_no [] 3 (by kernel_rfl) ?_
    refine awl_nil ?_
    refine aw_sregU hT m_no [] (by kernel_rfl) ?_
    refine aw_ret ?_
    cases h
    exact fin_r (by kernel_rfl)

theorem words_taker_word_r_ok_c : callable Tryd.prog 32 := ⟨_, Tryd.func32, by decide, rfl⟩

/-! umbra/words.names -/
def p_words_names (N : Nat) : Option ((List ByteArray)) :=
  some ([ByteArray.mk #[], ByteArray.mk #[108, 111, 97, 100], str_1, ByteArray.mk #[112, 117, 116], ByteArray.mk #[116, 97, 107, 101], str_2, str_3, str_4, str_5, str_6, ByteArray.mk #[116, 105, 99, 107]])

theorem words_names_ok {N : Nat} {r : (List ByteArray)} (h : p_words_names N = some r) : FnM Tryd.prog 27 [] [] (eL 1 eS r) [] := by
  unfold p_words_names at h
  refine fnM_of_aw (m := 2) (lo := 0) (rs := [.tmp 0]) hT Tryd.func27 rfl (by kernel_rfl) rfl ?_
  refine aw_sregU hT m_no [] (by kernel_rfl) ?_
  refine aw_sreg ?_
  refine awl_big (big_row hT (x := (.sl 1 11 [(eS (ByteArray.mk #[])), (eS (ByteArray.mk #[108, 111, 97, 100])), (eS str_1), (eS (ByteArray.mk #[112, 117, 116])), (eS (ByteArray.mk #[116, 97, 107, 101])), (eS str_2), (eS str_3), (eS str_4), (eS str_5), (eS str_6), (eS (ByteArray.mk #[116, 105, 99, 107]))])) (by kernel_rfl) (by kernel_rfl)) (by kernel_rfl) ?_
  refine awl_u hT m_no [] 1 (by kernel_rfl) ?_
  refine awl_nil ?_
  refine aw_ret ?_
  cases h
  exact fin_r (by kernel_rfl)

theorem words_names_ok_c : callable Tryd.prog 27 := ⟨_, Tryd.func27, by decide, rfl⟩

def parse_ren : Go.Shelf.Ren := ⟨fun | 174 => 62 | 247 => 75 | 245 => 76 | 287 => 90 | 279 => 91 | 280 => 92 | 281 => 93 | 282 => 94 | 321 => 103 | 322 => 104 | 316 => 105 | 171 => 44 | 205 => 106 | 243 => 57 | 246 => 70 | 283 => 81 | 284 => 82 | 285 => 83 | 286 => 84 | 129 => 97 | 317 => 96 | 318 => 98 | 319 => 99 | 320 => 100 | 337 => 107 | 338 => 108 | n => n, fun | 9 => 9 | 3 => 3 | 2 => 2 | 75 => 100 | 85 => 120 | 4 => 4 | 167 => 144 | 5 => 5 | 53 => 44 | 175 => 145 | 46 => 70 | 168 => 147 | 37 => 24 | 0 => 0 | 210 => 165 | 21 => 21 | 127 => 117 | 145 => 170 | 143 => 168 | 171 => 138 | 173 => 141 | 212 => 152 | 51 => 51 | 20 => 20 | 213 => 153 | 232 => 171 | 233 => 172 | 80 => 82 | n => n, fun | 15 => 4 | 16 => 5 | 17 => 1 | 18 => 6 | 19 => 7 | n => n⟩
theorem parse : LaysC.n174 Tryd.prog parse_ren where
  mixed := by kernel_rfl
  f129 := Tryd.func97.trans (congrArg some (by kernel_rfl))
  f171 := Tryd.func44.trans (congrArg some (by kernel_rfl))
  f174 := Tryd.func62.trans (congrArg some (by kernel_rfl))
  f205 := Tryd.func106.trans (congrArg some (by kernel_rfl))
  f243 := Tryd.func57.trans (congrArg some (by kernel_rfl))
  f245 := Tryd.func76.trans (congrArg some (by kernel_rfl))
  f246 := Tryd.func70.trans (congrArg some (by kernel_rfl))
  f247 := Tryd.func75.trans (congrArg some (by kernel_rfl))
  f279 := Tryd.func91.trans (congrArg some (by kernel_rfl))
  f280 := Tryd.func92.trans (congrArg some (by kernel_rfl))
  f281 := Tryd.func93.trans (congrArg some (by kernel_rfl))
  f282 := Tryd.func94.trans (congrArg some (by kernel_rfl))
  f283 := Tryd.func81.trans (congrArg some (by kernel_rfl))
  f284 := Tryd.func82.trans (congrArg some (by kernel_rfl))
  f285 := Tryd.func83.trans (congrArg some (by kernel_rfl))
  f286 := Tryd.func84.trans (congrArg some (by kernel_rfl))
  f287 := Tryd.func90.trans (congrArg some (by kernel_rfl))
  f316 := Tryd.func105.trans (congrArg some (by kernel_rfl))
  f317 := Tryd.func96.trans (congrArg some (by kernel_rfl))
  f318 := Tryd.func98.trans (congrArg some (by kernel_rfl))
  f319 := Tryd.func99.trans (congrArg some (by kernel_rfl))
  f320 := Tryd.func100.trans (congrArg some (by kernel_rfl))
  f321 := Tryd.func103.trans (congrArg some (by kernel_rfl))
  f322 := Tryd.func104.trans (congrArg some (by kernel_rfl))
  f337 := Tryd.func107.trans (congrArg some (by kernel_rfl))
  f338 := Tryd.func108.trans (congrArg some (by kernel_rfl))
  t0 := Tryd.underlying0
  a0 := Tryd.isAgg0
  z0 := Tryd.sizeOf0
  v0 := Tryd.zeroValue0
  t2 := Tryd.underlying2
  a2 := Tryd.isAgg2
  z2 := Tryd.sizeOf2
  v2 := Tryd.zeroValue2
  t3 := Tryd.underlying3
  a3 := Tryd.isAgg3
  z3 := Tryd.sizeOf3
  v3 := Tryd.zeroValue3
  t4 := Tryd.underlying4
  a4 := Tryd.isAgg4
  z4 := Tryd.sizeOf4
  v4 := Tryd.zeroValue4
  t5 := Tryd.underlying5
  a5 := Tryd.isAgg5
  z5 := Tryd.sizeOf5
  v5 := Tryd.zeroValue5
  t9 := Tryd.underlying9
  a9 := Tryd.isAgg9
  z9 := Tryd.sizeOf9
  v9 := Tryd.zeroValue9
  t20 := Tryd.underlying20
  a20 := Tryd.isAgg20
  z20 := Tryd.sizeOf20
  v20 := Tryd.zeroValue20
  t21 := Tryd.underlying21
  a21 := Tryd.isAgg21
  z21 := Tryd.sizeOf21
  v21 := Tryd.zeroValue21
  t37 := Tryd.underlying24
  a37 := Tryd.isAgg24
  z37 := Tryd.sizeOf24
  v37 := Tryd.zeroValue24
  t46 := Tryd.underlying70
  a46 := Tryd.isAgg70
  z46 := Tryd.sizeOf70
  v46 := Tryd.zeroValue70
  t51 := Tryd.underlying51
  a51 := Tryd.isAgg51
  z51 := Tryd.sizeOf51
  v51 := Tryd.zeroValue51
  t53 := Tryd.underlying44
  a53 := Tryd.isAgg44
  z53 := Tryd.sizeOf44
  v53 := Tryd.zeroValue44
  t75 := Tryd.underlying100
  a75 := Tryd.isAgg100
  z75 := Tryd.sizeOf100
  v75 := Tryd.zeroValue100
  t85 := Tryd.underlying120
  a85 := Tryd.isAgg120
  z85 := Tryd.sizeOf120
  v85 := Tryd.zeroValue120
  t127 := Tryd.underlying117
  a127 := Tryd.isAgg117
  z127 := Tryd.sizeOf117
  v127 := Tryd.zeroValue117
  t143 := Tryd.underlying168
  a143 := Tryd.isAgg168
  z143 := Tryd.sizeOf168
  v143 := Tryd.zeroValue168
  t145 := Tryd.underlying170
  a145 := Tryd.isAgg170
  z145 := Tryd.sizeOf170
  v145 := Tryd.zeroValue170
  t167 := Tryd.underlying144
  a167 := Tryd.isAgg144
  z167 := Tryd.sizeOf144
  v167 := Tryd.zeroValue144
  t168 := Tryd.underlying147
  a168 := Tryd.isAgg147
  z168 := Tryd.sizeOf147
  v168 := Tryd.zeroValue147
  t171 := Tryd.underlying138
  a171 := Tryd.isAgg138
  z171 := Tryd.sizeOf138
  v171 := Tryd.zeroValue138
  t173 := Tryd.underlying141
  a173 := Tryd.isAgg141
  z173 := Tryd.sizeOf141
  v173 := Tryd.zeroValue141
  t175 := Tryd.underlying145
  a175 := Tryd.isAgg145
  z175 := Tryd.sizeOf145
  v175 := Tryd.zeroValue145
  t210 := Tryd.underlying165
  a210 := Tryd.isAgg165
  z210 := Tryd.sizeOf165
  v210 := Tryd.zeroValue165
  t212 := Tryd.underlying152
  a212 := Tryd.isAgg152
  z212 := Tryd.sizeOf152
  v212 := Tryd.zeroValue152
  t213 := Tryd.underlying153
  a213 := Tryd.isAgg153
  z213 := Tryd.sizeOf153
  t232 := Tryd.underlying171
  a232 := Tryd.isAgg171
  z232 := Tryd.sizeOf171
  v232 := Tryd.zeroValue171
  t233 := Tryd.underlying172
  a233 := Tryd.isAgg172
  z233 := Tryd.sizeOf172
  v233 := Tryd.zeroValue172
  g15 := by kernel_rfl
  g16 := by kernel_rfl
  g17 := by kernel_rfl
  g18 := by kernel_rfl
  g19 := by kernel_rfl
  t80 := Tryd.underlying82
  a80 := Tryd.isAgg82
  z80 := Tryd.sizeOf82
  v80 := Tryd.zeroValue82
  i0 := by kernel_rfl
  i2 := by kernel_rfl
  i3 := by kernel_rfl
  i4 := by kernel_rfl
  i5 := by kernel_rfl
  i9 := by kernel_rfl
  i20 := by kernel_rfl
  i21 := by kernel_rfl
  i37 := by kernel_rfl
  i46 := by kernel_rfl
  i51 := by kernel_rfl
  i53 := by kernel_rfl
  i75 := by kernel_rfl
  i80 := by kernel_rfl
  i85 := by kernel_rfl
  i127 := by kernel_rfl
  i143 := by kernel_rfl
  i145 := by kernel_rfl
  i167 := by kernel_rfl
  i168 := by kernel_rfl
  i171 := by kernel_rfl
  i173 := by kernel_rfl
  i175 := by kernel_rfl
  i210 := by kernel_rfl
  i212 := by kernel_rfl
  i232 := by kernel_rfl
  i233 := by kernel_rfl
  m15 := by kernel_rfl
  m16 := by kernel_rfl
  m17 := by kernel_rfl
  m18 := by kernel_rfl
  m19 := by kernel_rfl
  c0 := by kernel_rfl
  c2 := by kernel_rfl
  c3 := by kernel_rfl
  c4 := by kernel_rfl
  c5 := by kernel_rfl
  c9 := by kernel_rfl
  c20 := by kernel_rfl
  c21 := by kernel_rfl
  c37 := by kernel_rfl
  c46 := by kernel_rfl
  c51 := by kernel_rfl
  c53 := by kernel_rfl
  c75 := by kernel_rfl
  c80 := by kernel_rfl
  c85 := by kernel_rfl
  c127 := by kernel_rfl
  c143 := by kernel_rfl
  c145 := by kernel_rfl
  c167 := by kernel_rfl
  c168 := by kernel_rfl
  c171 := by kernel_rfl
  c173 := by kernel_rfl
  c175 := by kernel_rfl
  c210 := by kernel_rfl
  c212 := by kernel_rfl
  c213 := by kernel_rfl
  c232 := by kernel_rfl
  c233 := by kernel_rfl

theorem lib62 {s : ByteArray} {v : Int} (h : parseO s = some v) : FnM Tryd.prog 62 [] [eS s, j64 10, j64 64] (.tup [j64 v, .v .nilIface]) [] := parse_fn parse rfl h
theorem lib62_c : callable Tryd.prog 62 := ⟨_, Tryd.func62, by decide, rfl⟩

def fmt_ren : Go.Shelf.Ren := ⟨fun | 173 => 63 | 246 => 70 | 283 => 81 | 284 => 82 | 285 => 83 | 286 => 84 | 129 => 97 | 317 => 96 | 318 => 98 | 319 => 99 | 320 => 100 | 337 => 107 | 338 => 108 | n => n, fun | 2 => 2 | 3 => 3 | 9 => 9 | 4 => 4 | 171 => 138 | 0 => 0 | 53 => 44 | 37 => 24 | 5 => 5 | 173 => 141 | 212 => 152 | 51 => 51 | 20 => 20 | 213 => 153 | 46 => 70 | 232 => 171 | 233 => 172 | n => n, fun | 17 => 1 | 18 => 6 | 19 => 7 | n => n⟩
theorem fmt : Lays.n173 Tryd.prog fmt_ren where
  mixed := by kernel_rfl
  f129 := Tryd.func97.trans (congrArg some (by kernel_rfl))
  f173 := Tryd.func63.trans (congrArg some (by kernel_rfl))
  f246 := Tryd.func70.trans (congrArg some (by kernel_rfl))
  f283 := Tryd.func81.trans (congrArg some (by kernel_rfl))
  f284 := Tryd.func82.trans (congrArg some (by kernel_rfl))
  f285 := Tryd.func83.trans (congrArg some (by kernel_rfl))
  f286 := Tryd.func84.trans (congrArg some (by kernel_rfl))
  f317 := Tryd.func96.trans (congrArg some (by kernel_rfl))
  f318 := Tryd.func98.trans (congrArg some (by kernel_rfl))
  f319 := Tryd.func99.trans (congrArg some (by kernel_rfl))
  f320 := Tryd.func100.trans (congrArg some (by kernel_rfl))
  f337 := Tryd.func107.trans (congrArg some (by kernel_rfl))
  f338 := Tryd.func108.trans (congrArg some (by kernel_rfl))
  t0 := Tryd.underlying0
  a0 := Tryd.isAgg0
  z0 := Tryd.sizeOf0
  v0 := Tryd.zeroValue0
  t2 := Tryd.underlying2
  a2 := Tryd.isAgg2
  z2 := Tryd.sizeOf2
  v2 := Tryd.zeroValue2
  t3 := Tryd.underlying3
  a3 := Tryd.isAgg3
  z3 := Tryd.sizeOf3
  v3 := Tryd.zeroValue3
  t4 := Tryd.underlying4
  a4 := Tryd.isAgg4
  z4 := Tryd.sizeOf4
  v4 := Tryd.zeroValue4
  t5 := Tryd.underlying5
  a5 := Tryd.isAgg5
  z5 := Tryd.sizeOf5
  v5 := Tryd.zeroValue5
  t9 := Tryd.underlying9
  a9 := Tryd.isAgg9
  z9 := Tryd.sizeOf9
  v9 := Tryd.zeroValue9
  t20 := Tryd.underlying20
  a20 := Tryd.isAgg20
  z20 := Tryd.sizeOf20
  v20 := Tryd.zeroValue20
  t37 := Tryd.underlying24
  a37 := Tryd.isAgg24
  z37 := Tryd.sizeOf24
  v37 := Tryd.zeroValue24
  t46 := Tryd.underlying70
  a46 := Tryd.isAgg70
  z46 := Tryd.sizeOf70
  v46 := Tryd.zeroValue70
  t51 := Tryd.underlying51
  a51 := Tryd.isAgg51
  z51 := Tryd.sizeOf51
  v51 := Tryd.zeroValue51
  t53 := Tryd.underlying44
  a53 := Tryd.isAgg44
  z53 := Tryd.sizeOf44
  v53 := Tryd.zeroValue44
  t171 := Tryd.underlying138
  a171 := Tryd.isAgg138
  z171 := Tryd.sizeOf138
  v171 := Tryd.zeroValue138
  t173 := Tryd.underlying141
  a173 := Tryd.isAgg141
  z173 := Tryd.sizeOf141
  v173 := Tryd.zeroValue141
  t212 := Tryd.underlying152
  a212 := Tryd.isAgg152
  z212 := Tryd.sizeOf152
  v212 := Tryd.zeroValue152
  t213 := Tryd.underlying153
  a213 := Tryd.isAgg153
  z213 := Tryd.sizeOf153
  t232 := Tryd.underlying171
  a232 := Tryd.isAgg171
  z232 := Tryd.sizeOf171
  v232 := Tryd.zeroValue171
  t233 := Tryd.underlying172
  a233 := Tryd.isAgg172
  z233 := Tryd.sizeOf172
  v233 := Tryd.zeroValue172
  g17 := by kernel_rfl
  g18 := by kernel_rfl
  g19 := by kernel_rfl

theorem lib63 {i : Int} {r : ByteArray} (h : fmtO i = some r) : FnM Tryd.prog 63 [] [j64 i, j64 10] (eS r) [] := fmt_fn fmt rfl h
theorem lib63_c : callable Tryd.prog 63 := ⟨_, Tryd.func63, by decide, rfl⟩

/-! umbra/words.number -/
def p_words_number (N : Nat) (a0 : ByteArray) : Option (Int × Bool) :=
  Option.bind (parseO a0) fun r1 =>
  Option.bind (fmtO r1) fun r2 =>
  letO (!(ByteArray.toList r2 == ByteArray.toList a0)) fun x3 =>
  letO (decide (r1 > 4611686018427387904)) fun x4 =>
  letO (decide (r1 < (-4611686018427387904))) fun x5 =>
  letO (cond (cond x3 true x4) true x5) fun x6 =>
  cond x6 (some ((0, false))) (some ((r1, true)))

theorem words_number_ok {N : Nat} {a0 : ByteArray} {r : Int × Bool} (h : p_words_number N a0 = some r) : FnM Tryd.prog 49 [] [(eS a0)] (.tup [(j64 r.1), (eB r.2)]) [] := by
  unfold p_words_number at h
  refine fnM_of_aw (m := 28) (lo := 0) (rs := [.tmp 2, .tmp 3]) hT Tryd.func49 rfl (by kernel_rfl) rfl ?_
  refine aw_sregU hT m_no [] (by kernel_rfl) ?_
  refine aw_sreg ?_
  refine awl_u hT m_no [] 1 (by kernel_rfl) ?_
  obtain ⟨r1, hr1, h⟩ := obind h
  refine awl_big (big_call [] (lib62 hr1) lib62_c (by kernel_rfl) (by kernel_rfl)) (by kernel_rfl) ?_
  refine awl_u hT m_no [] 5 (by kernel_rfl) ?_
  refine awl_nil ?_
  refine aw_seq ?_
  refine aw_sreg ?_
  refine awl_u hT m_no [] 1 (by kernel_rfl) ?_
  refine awl_big (big_nil (t := 100) (by kernel_rfl) rfl rfl .neq false (by decide) (by kernel_rfl)) (by kernel_rfl) ?_
  refine awl_u hT m_no [13] 2 (by kernel_rfl) ?_
  obtain ⟨r2, hr2, h⟩ := obind h
  refine awl_big (big_call [] (lib63 hr2) lib63_c (by kernel_rfl) (by kernel_rfl)) (by kernel_rfl) ?_
  obtain ⟨x3, hx3, h⟩ := letE h
  obtain ⟨x4, hx4, h⟩ := letE h
  obtain ⟨x5, hx5, h⟩ := letE h
  obtain ⟨x6, hx6, h⟩ := letE h
  refine awl_u hT m_no [13] 11 (by kernel_rfl) ?_
  refine awl_nms [(26, (eB x6))] (by subst hx6 hx5 hx4 hx3; kernel_rfl) ?_
  refine awl_nil ?_
  refine aw_condH h (by kernel_rfl) (fun _ h => ?_) (fun _ h => ?_)
  · refine aw_sregU hT m_no [] (by kernel_rfl) ?_
    refine aw_ret (tn_r ?_)
    cases h
    exact fin_r (by kernel_rfl)
  · refine aw_skip (tn_n ?_)
    refine aw_sregU hT m_no [] (by kernel_rfl) ?_
    refine aw_ret ?_
    cases h
    exact fin_r (by kernel_rfl)

theorem words_number_ok_c : callable Tryd.prog 49 := ⟨_, Tryd.func49, by decide, rfl⟩

/-! (*umbra/words.taker).int -/
def p_words_taker_int_rdd (N : Nat) (a0 : Int) (a1 : Int) (a2 : S_words_taker) : Option ((List ByteArray) × Bool × Int) :=
  Option.bind (p_words_taker_word_r N a2) fun r1 =>
  Option.bind (p_words_number N r1.2.2) fun r2 =>
  letO (cond (!r2.2) true (decide (r2.1 < a0))) fun x3 =>
  letO (cond x3 true (decide (r2.1 > a1))) fun x4 =>
  cond x4 (some ((r1.1, true, 0))) (some ((r1.1, r1.2.1, r2.1)))

theorem words_taker_int_rdd_ok {N : Nat} {a0 : Int} {a1 : Int} {a2 : S_words_taker} {r : (List ByteArray) × Bool × Int} (h : p_words_taker_int_rdd N a0 a1 a2 = some r) : FnM Tryd.prog 38 [.var (S_words_taker.enc a2)] [(.ref 0 [] 0), (j64 a0), (j64 a1)] (j64 r.2.2) [.var (.st 2 [(eL 1 eS r.1), (eB r.2.1)])] := by
  unfold p_words_taker_int_rdd at h
  refine fnM_of_aw (m := 31) (lo := 1) (rs := [.tmp 6]) hT Tryd.func38 rfl (by kernel_rfl) rfl ?_
  refine aw_sregU hT m_no [] (by kernel_rfl) ?_
  refine aw_sreg ?_
  refine awl_u hT m_no [] 1 (by kernel_rfl) ?_
  obtain ⟨r1, hr1, h⟩ := obind h
  refine awl_big (big_call [0] (words_taker_word_r_ok hr1) words_taker_word_r_ok_c (by kernel_rfl) (by kernel_rfl)) (by kernel_rfl) ?_
  obtain ⟨r2, hr2, h⟩ := obind h
  refine awl_big (big_call [] (words_number_ok hr2) words_number_ok_c (by kernel_rfl) (by kernel_rfl)) (by kernel_rfl) ?_
  refine awl_u hT m_no [] 5 (by kernel_rfl) ?_
  refine awl_nil ?_
  refine aw_seq ?_
  obtain ⟨x3, hx3, h⟩ := letE h
  obtain ⟨x4, hx4, h⟩ := letE h
  refine aw_sregU hT m_no [] (by kernel_rfl) ?_
  refine aw_nms [(26, (eB x4))] (by subst hx4 hx3; kernel_rfl) ?_
  refine aw_condH h (by kernel_rfl) (fun _ h => ?_) (fun _ h => ?_)
  · refine aw_sregU hT m_no [] (by kernel_rfl) ?_
    refine aw_sregU hT m_no [] (by kernel_rfl) ?_
    refine aw_ret (tn_r ?_)
    cases h
    exact fin_r (by kernel_rfl)
  · refine aw_skip (tn_n ?_)
    refine aw_sregU hT m_no [] (by kernel_rfl) ?_
    refine aw_ret ?_
    cases h
    exact fin_r (by kernel_rfl)

theorem words_taker_int_rdd_ok_c : callable Tryd.prog 38 := ⟨_, Tryd.func38, by decide, rfl⟩

/-! (*umbra/words.taker).four -/
def p_words_taker_four_r (N : Nat) (a0 : S_words_taker) : Option ((List ByteArray) × Bool × Int) :=
  Option.bind (p_words_taker_int_rdd N 0 4294967295 a0) fun r1 =>
  some ((r1.1, r1.2.1, r1.2.2))

theorem words_taker_four_r_ok {N : Nat} {a0 : S_words_taker} {r : (List ByteArray) × Bool × Int} (h : p_words_taker_four_r N a0 = some r) : FnM Tryd.prog 33 [.var (S_words_taker.enc a0)] [(.ref 0 [] 0)] (j64 r.2.2) [.var (.st 2 [(eL 1 eS r.1), (eB r.2.1)])] := by
  unfold p_words_taker_four_r at h
  refine fnM_of_aw (m := 5) (lo := 1) (rs := [.tmp 2]) hT Tryd.func33 rfl (by kernel_rfl) rfl ?_
  refine aw_sregU hT m_no [] (by kernel_rfl) ?_
  refine aw_sreg ?_
  refine awl_u hT m_no [] 1 (by kernel_rfl) ?_
  obtain ⟨r1, hr1, h⟩ := obind h
  refine awl_big (big_call [0] (words_taker_int_rdd_ok hr1) words_taker_int_rdd_ok_c (by kernel_rfl) (by kernel_rfl)) (by kernel_rfl) ?_
  refine awl_u hT m_no [] 1 (by kernel_rfl) ?_
  refine awl_nil ?_
  refine aw_ret ?_
  cases h
  exact fin_r (by kernel_rfl)

theorem words_taker_four_r_ok_c : callable Tryd.prog 33 := ⟨_, Tryd.func33, by decide, rfl⟩

/-! umbra/words.digit -/
def p_words_digit (N : Nat) (a0 : Int) : Option (Int) :=
  letO (cond (decide (a0 ≥ 48)) (decide (a0 ≤ 57)) false) fun x1 =>
  cond x1 (
    some (I64 (I32 (a0 - 48)))) (
    letO (cond (decide (a0 ≥ 97)) (decide (a0 ≤ 102)) false) fun x2 =>
    cond x2 (
      letO (I64 ((I64 (I32 (a0 - 97))) + 10)) fun x3 =>
      some x3) (
      some (-1)))

theorem words_digit_ok {N : Nat} {a0 : Int} {r : Int} (h : p_words_digit N a0 = some r) : FnM Tryd.prog 24 [] [(j32 a0)] (j64 r) [] := by
  unfold p_words_digit at h
  refine fnM_of_aw (m := 24) (lo := 0) (rs := [.tmp 2]) hT Tryd.func24 rfl (by kernel_rfl) rfl ?_
  refine aw_sregU hT m_no [] (by kernel_rfl) ?_
  refine aw_seq ?_
  refine aw_block ?_
  obtain ⟨x1, hx1, h⟩ := letE h
  refine aw_sregU hT m_no [] (by kernel_rfl) ?_
  refine aw_nms [(3, (eB x1))] (by subst hx1; kernel_rfl) ?_
  refine aw_condH h (by kernel_rfl) (fun _ h => ?_) (fun _ h => ?_)
  · refine aw_sregU hT m_no [] (by kernel_rfl) ?_
    refine aw_ret (inB_r (tn_r ?_))
    cases h
    exact fin_r (by kernel_rfl)
  · obtain ⟨x2, hx2, h⟩ := letE h
    refine aw_sregU hT m_no [] (by kernel_rfl) ?_
    refine aw_nms [(13, (eB x2))] (by subst hx2; kernel_rfl) ?_
    refine aw_condH h (by kernel_rfl) (fun _ h => ?_) (fun _ h => ?_)
    · obtain ⟨x3, hx3, h⟩ := letE h
      refine aw_sregU hT m_no [] (by kernel_rfl) ?_
      refine aw_nms [(2, (j64 x3))] (by subst hx3; kernel_rfl) ?_
      refine aw_ret (inB_r (tn_r ?_))
      cases h
      exact fin_r (by kernel_rfl)
    · refine aw_skip (inB_n (tn_n ?_))
      refine aw_sregU hT m_no [] (by kernel_rfl) ?_
      refine aw_ret ?_
      cases h
      exact fin_r (by kernel_rfl)

theorem words_digit_ok_c : callable Tryd.prog 24 := ⟨_, Tryd.func24, by decide, rfl⟩

/-! umbra/words.Bytes -/
def p_words_Bytes_L1 (N : Nat) (a0 : ByteArray) : Nat → (List Int) → Nat → Int → Option (Sum ((List Int) × Nat) ((List Int) × Int))
  | 0, _, _, _ => none
  | k + 1, s9, s10, s11 =>
    cond (decide (s10 < ByteArray.size a0)) (
      Option.bind (p_words_digit N (runeAt a0 s10)) fun r12 =>
      cond (decide (r12 < 0)) (
        some (Sum.inr (([], 5)))) (
        letO (Int.tmod ((s10 : Int)) 2) fun x13 =>
        cond (x13 == 0) (
          p_words_Bytes_L1 N a0 k s9 (runeNext a0 s10) r12) (
          letO (bor .i64 (shl .i64 s11 4) r12) fun x15 =>
          Option.bind (appO 1 s9 (([U8 x15] : List Int))) fun z16 =>
          p_words_Bytes_L1 N a0 k z16 (runeNext a0 s10) s11))) (
      some (Sum.inl ((s9, s10))))

def p_words_Bytes (N : Nat) (a0 : ByteArray) : Option ((List Int) × Int) :=
  letO (ByteArray.toList a0 == ByteArray.toList (ByteArray.mk #[45])) fun x1 =>
  cond x1 (
    some (([], 0))) (
    letO ((ByteArray.size a0 : Int)) fun x2 =>
    letO ((ByteArray.size a0 : Int)) fun x3 =>
    letO (cond (x2 == 0) true ((Int.tmod x3 2) == 1)) fun x4 =>
    cond x4 (
      some (([], 5))) (
      letO ((ByteArray.size a0 : Int)) fun x6 =>
      Option.bind (mkO 1 (I64 (Int.tdiv x6 2))) fun _ =>
      Option.bind (p_words_Bytes_L1 N a0 N [] 0 0) fun o => sumC o (fun p8 =>
        some ((p8.1, 0))) (fun r => some r)))

theorem words_Bytes_ok {N : Nat} {a0 : ByteArray} {r : (List Int) × Int} (h : p_words_Bytes N a0 = some r) : FnM Tryd.prog 10 [] [(eS a0)] (.tup [(eL 1 k8 r.1), (j64 r.2)]) [] := by
  unfold p_words_Bytes at h
  refine fnM_of_aw (m := 47) (lo := 0) (rs := [.tmp 2, .tmp 3]) hT Tryd.func10 rfl (by kernel_rfl) rfl ?_
  refine aw_sregU hT m_no [] (by kernel_rfl) ?_
  refine aw_seq ?_
  obtain ⟨x1, hx1, h⟩ := letE h
  refine aw_sregU hT m_no [] (by kernel_rfl) ?_
  refine aw_nms [(10, (eB x1))] (by subst hx1; kernel_rfl) ?_
  refine aw_condH h (by kernel_rfl) (fun _ h => ?_) (fun _ h => ?_)
  · refine aw_sregU hT m_no [] (by kernel_rfl) ?_
    refine aw_ret (tn_r ?_)
    cases h
    exact fin_r (by kernel_rfl)
  · refine aw_skip (tn_n ?_)
    refine aw_seq ?_
    obtain ⟨x2, hx2, h⟩ := letE h
    obtain ⟨x3, hx3, h⟩ := letE h
    obtain ⟨x4, hx4, h⟩ := letE h
    refine aw_sregU hT m_no [] (by kernel_rfl) ?_
    refine aw_nms [(19, (eB x4))] (by subst hx4 hx3 hx2; kernel_rfl) ?_
    refine aw_condH h (by kernel_rfl) (fun _ h => ?_) (fun _ h => ?_)
    · refine aw_sregU hT m_no [] (by kernel_rfl) ?_
      refine aw_ret (tn_r ?_)
      cases h
      exact fin_r (by kernel_rfl)
    · refine aw_skip (tn_n ?_)
      refine aw_sreg ?_
      obtain ⟨x6, hx6, h⟩ := letE h
      refine awl_u hT m_no [] 3 (by kernel_rfl) ?_
      refine awl_nms [(22, (j64 (I64 (Int.tdiv x6 2))))] (by subst hx6; kernel_rfl) ?_
      obtain ⟨u7, hu7, h⟩ := obind h
      refine awl_big (big_mk0 hT k8 (k := 1) (z := (.v (.int .u8 0))) (kd := .int .u8) hu7 (by kernel_rfl) (by kernel_rfl)) (by kernel_rfl) ?_
      refine awl_u hT m_no [] 1 (by kernel_rfl) ?_
      refine awl_nil ?_
      refine aw_sregU hT m_no [] (by kernel_rfl) ?_
      refine aw_seq ?_
      refine aw_sreg ?_
      refine awl_u hT m_no [] 1 (by kernel_rfl) ?_
      refine awl_big (big_rng (t := 9) (s := a0) rfl (by kernel_rfl) (by kernel_rfl)) (by kernel_rfl) ?_
      refine awl_nil ?_
      obtain ⟨op8, h, g8⟩ := obind h
      refine aw_joinSK (fun p8 => ⟨[en 4 (eO 0 1 k8 p8.1)], [.tail (p8.1.length * 1), .mp (.it a0 p8.2)]⟩) g8 ?_ (fun p8 h => ?_)
      · refine aw_block (aw_loop (fun k s => ∃ s9 s10 s11, p_words_Bytes_L1 N a0 k s9 s10 s11 = some op8 ∧ JR (Fr.f 47 0) ⟨[en 4 (eO 0 1 k8 s9), en 5 (j64 s11), en 25 (.it 1)], [.tail (s9.length * 1), .mp (.it a0 s10)]⟩ s) (fun k s hI => ?_) N _ ⟨_, _, _, h, jr (by kernel_rfl)⟩)
        obtain ⟨s9, s10, s11, h, hj⟩ := hI
        cases k with
        | zero => cases h
        | succ k =>
          refine aw_jr hj ?_
          refine aw_sreg ?_
          refine boolH h (fun hc h => ?_) (fun hc h => ?_)
          · refine awl_big (big_nxt1 (s := a0) (p := s10) (id := 1) hc (by kernel_rfl) (by kernel_rfl) (by kernel_rfl)) (by kernel_rfl) ?_
            refine awl_u hT m_no [] 1 (by kernel_rfl) ?_
            refine awl_nil ?_
            refine aw_seq ?_
            refine aw_condB (b := true) (c := true) rfl (by kernel_rfl) ?_
            refine aw_skip (tn_n ?_)
            refine aw_block ?_
            refine aw_sregU hT m_no [] (by kernel_rfl) ?_
            refine aw_sreg ?_
            refine awl_u hT m_no [] 1 (by kernel_rfl) ?_
            obtain ⟨r12, hr12, h⟩ := obind h
            refine awl_big (big_call [] (words_digit_ok hr12) words_digit_ok_c (by kernel_rfl) (by kernel_rfl)) (by kernel_rfl) ?_
            refine awl_u hT m_no [] 1 (by kernel_rfl) ?_
            refine awl_nil ?_
            refine aw_seq ?_
            refine aw_sregU hT m_no [] (by kernel_rfl) ?_
            refine aw_condH h (by kernel_rfl) (fun _ h => ?_) (fun _ h => ?_)
            · refine aw_sregU hT m_no [] (by kernel_rfl) ?_
              cases h
              have h := g8
              refine aw_ret (tn_r (inB_r (tn_r (inB_r (tn_r (tn_r ?_))))))
              obtain rfl := sum_e h
              exact fin_r (by kernel_rfl)
            · refine aw_skip (tn_n ?_)
              refine aw_seq ?_
              obtain ⟨x13, hx13, h⟩ := letE h
              refine aw_sregU hT m_no [] (by kernel_rfl) ?_
              refine aw_nms [(36, (eB (x13 == 0)))] (by subst hx13; kernel_rfl) ?_
              refine aw_condH h (by kernel_rfl) (fun _ h => ?_) (fun _ h => ?_)
              · refine aw_sregU hT m_no [] (by kernel_rfl) ?_
                refine aw_exit (tn_x (inB_e (tn_n ?_)))
                exact ⟨k, Nat.lt_succ_self k, _, _, _, h, jr (by kernel_rfl)⟩
              · refine aw_skip (tn_n ?_)
                refine aw_region ?_
                obtain ⟨x15, hx15, h⟩ := letE h
                refine awl_u hT m_no [] 6 (by kernel_rfl) ?_
                refine awl_nms [(43, (k8 (U8 x15)))] (by subst hx15; kernel_rfl) ?_
                refine awl_big (big_row hT (x := (.sl 1 1 [(k8 (U8 x15))])) (by kernel_rfl) (by kernel_rfl)) (by kernel_rfl) ?_
                obtain ⟨z16, hz16, h⟩ := obind h
                refine awl_big (big_app hT k8 (id := 0) (k := 1) hz16 (by kernel_rfl) (by kernel_rfl)) (by kernel_rfl) ?_
                refine awl_u hT m_no [] 1 (by kernel_rfl) ?_
                refine awl_nil (inB_n (tn_n ?_))
                exact ⟨k, Nat.lt_succ_self k, _, _, _, h, jr (by kernel_rfl)⟩
          · refine awl_big (big_nxt0 (s := a0) (p := s10) (id := 1) hc (by kernel_rfl) (by kernel_rfl) (by kernel_rfl)) (by kernel_rfl) ?_
            refine awl_u hT m_no [] 1 (by kernel_rfl) ?_
            refine awl_nil ?_
            refine aw_seq ?_
            refine aw_condB (b := false) (c := false) rfl (by kernel_rfl) ?_
            refine aw_exit (tn_x (tn_x (inB_e (tn_n ?_))))
            cases h
            exact ⟨_, rfl, jr (by kernel_rfl)⟩
      · refine (tn_n ?_)
        refine aw_sregU hT m_no [] (by kernel_rfl) ?_
        refine aw_ret ?_
        cases h
        exact fin_r (by kernel_rfl)

theorem words_Bytes_ok_c : callable Tryd.prog 10 := ⟨_, Tryd.func10, by decide, rfl⟩

end Go.UK
