/- A part of the proof: what the functions of the program compute. -/
import Derived.Test.YtbifjcmhomoppaaGreatPT
namespace Go.UK
open Go Go.Proofs
set_option maxRecDepth 20000
set_option maxHeartbeats 40000000
set_option linter.all false

attribute [local irreducible] adv putPt dropPt setPt brPt litPt cutPt restPt popN stPt envPt boxPt opPt opP2t ksPt lPt owp awl aw FnM NatFn opS Stab TOK Big
theorem mpt_93 : MpT Tryz.prog tbl 93 .i64 ⟨2, 16, (S_keys_span.enc (S_keys_span.mk 0 0)), .st [(0, 3), (1, 3)]⟩ := ⟨⟨3, 113, rfl, rfl, rfl⟩⟩

def m_keys_New : Nat → Bool := imL [1]

def p_keys_New (N : Nat) (a0 : (Vector Int 32)) : Option (Unit) :=
 some (())

theorem keys_New_ok {N a0 r} (h : p_keys_New N a0 = some r) : FnM Tryz.prog 14 [] [(eA 32 1 k8 a0)] (.ref 1 [] 0) [.mp (eM .i64 S_keys_span.enc []), .var (.st 33 [(eA 32 1 k8 a0), (.mp 0)])] := by
 unfold p_keys_New at h
 refine At.f m_keys_New hT hmo Tryz.func14 rfl h ?_
 refine At.o 3 (big_mkm .i64 S_keys_span.enc (by kernel_rfl) (by kernel_rfl)) ?_
 apply rt; exact At.r 3

def p_keys_Ring_none_r (N : Nat) (b1 : (List (Int × S_keys_span))) (a1 : (Vector Int 32)) : Option (Unit) :=
 some (())

theorem keys_Ring_none_r_ok {N b1 a1 r} (h : p_keys_Ring_none_r N b1 a1 = some r) : FnM Tryz.prog 36 [.var (.st 33 [(eA 32 1 k8 a1), (.mp 1)]), .mp (eM .i64 S_keys_span.enc b1)] [(.ref 0 [] 0)] (eB false) [.var (.st 33 [(eA 32 1 k8 a1), (.mp 1)]), .mp (eM .i64 S_keys_span.enc b1)] := by
 unfold p_keys_Ring_none_r at h
 refine At.f m_no hT hmo Tryz.func36 rfl h ?_
 refine At.o 2 (big_eqp hT (t := 68) (x := (.ref 0 [] 0)) (b := true) (by kernel_rfl) rfl rfl (by kernel_rfl)) ?_
 refine At.g [5] 5 ?_
 refine At.o 0 (big_eqm (t := 93) (kt := 3) (et := 113) (x := (.mp 1)) (b := true) (by kernel_rfl) rfl rfl (by kernel_rfl)) ?_
 refine At.g [5] 2 ?_
 apply rt; exact At.r 0

def cloneA_ren : Go.Shelf.Ren := ⟨fun | 5 => 48 | 7 => 80 | n => n, fun | 23 => 93 | 25 => 3 | 3 => 113 | 4 => 4 | 20 => 20 | n => n, fun | n => n⟩
theorem cloneA : SlLaysW.n5 Tryz.prog cloneA_ren where
 mixed := by kernel_rfl
 f5 := ⟨"maps.Clone[map[int]umbra/keys.span,int,umbra/keys.span]", by decide, Tryz.func48.trans (congrArg some (by kernel_rfl))⟩
 f7 := Tryz.func80.trans (congrArg some (by kernel_rfl))
 t4 := Tryz.underlying4
 a4 := Tryz.isAgg4
 z4 := Tryz.sizeOf4
 v4 := Tryz.zeroValue4
 t20 := Tryz.underlying20
 a20 := Tryz.isAgg20
 z20 := Tryz.sizeOf20
 v20 := Tryz.zeroValue20
 t23 := Tryz.underlying93
 a23 := Tryz.isAgg93
 z23 := Tryz.sizeOf93
 v23 := Tryz.zeroValue93

theorem clone_48 (l : List (Int × S_keys_span)) : FnM Tryz.prog 48 [.mp (eM .i64 S_keys_span.enc l)] [.mp 0] (.mp 1) [.mp (eM .i64 S_keys_span.enc l), .mp (eM .i64 S_keys_span.enc l)] := clone_fn cloneA rfl l
theorem clone_48_c : callable Tryz.prog 48 := ⟨_, Tryz.func48, by decide, rfl⟩

def p_keys_Ring_Copy_r (N : Nat) (b1 : (List (Int × S_keys_span))) (a1 : (Vector Int 32)) : Option (Unit) :=
 Option.bind (p_keys_Ring_none_r N b1 a1) fun r1 =>
 some (())

theorem keys_Ring_Copy_r_ok {N b1 a1 r} (h : p_keys_Ring_Copy_r N b1 a1 = some r) : FnM Tryz.prog 26 [.var (.st 33 [(eA 32 1 k8 a1), (.mp 1)]), .mp (eM .i64 S_keys_span.enc b1)] [(.ref 0 [] 0)] (.ref 3 [] 0) [.var (.st 33 [(eA 32 1 k8 a1), (.mp 1)]), .mp (eM .i64 S_keys_span.enc b1), .mp (eM .i64 S_keys_span.enc b1), .var (.st 33 [(eA 32 1 k8 a1), (.mp 2)])] := by
 unfold p_keys_Ring_Copy_r at h
 refine At.f m_no hT hmo Tryz.func26 rfl h ?_
 refine At.b 2 (fun _ e => big_C [0, 1] (keys_Ring_none_r_ok e)) fun r1 => ?_
 refine At.d 1 dE0 (dF 8 (.mp 2) [] [.mp (eM .i64 S_keys_span.enc b1)] (big_at (big_call [1] (clone_48 b1) clone_48_c)) dF0) ?_
 apply rt; exact At.r 0

def p_keys_between (N : Nat) (a0 : Int) : Option (Bool) :=
 letO (cond (decide (a0 ≥ 1)) (decide (a0 ≤ 65535)) false) fun x1 =>
 some x1

theorem keys_between_ok {N a0 r} (h : p_keys_between N a0 = some r) : FnM Tryz.prog 29 [] [(j64 a0)] (eB r) [] := by
 unfold p_keys_between at h
 refine At.f m_no hT hmo Tryz.func29 rfl h ?_
 refine lx ?_; intro x1
 apply rt; exact At.r 8

def p_keys_Ring_Add_rd (N : Nat) (b1 : (List (Int × S_keys_span))) (a1 : Int) (a2 : (Vector Int 32)) : Option ((List (Int × S_keys_span)) × Int) :=
 Option.bind (p_keys_Ring_none_r N b1 a2) fun r1 =>
 Option.bind (p_keys_between N a1) fun r2 =>
 cond (!r2) (
  some ((b1, 2))) (
  cond (mhas b1 a1) (some ((b1, 10))) (some ((mput b1 a1 (S_keys_span.mk 1 1), 0))))

theorem keys_Ring_Add_rd_ok {N b1 a1 a2 r} (h : p_keys_Ring_Add_rd N b1 a1 a2 = some r) : FnM Tryz.prog 15 [.var (.st 33 [(eA 32 1 k8 a2), (.mp 1)]), .mp (eM .i64 S_keys_span.enc b1)] [(.ref 0 [] 0), (j64 a1)] (j64 r.2) [.var (.st 33 [(eA 32 1 k8 a2), (.mp 1)]), .mp (eM .i64 S_keys_span.enc r.1)] := by
 unfold p_keys_Ring_Add_rd at h
 refine At.f m_no hT hmo Tryz.func15 rfl h ?_
 refine At.b 2 (fun _ e => big_C [0, 1] (keys_Ring_none_r_ok e)) fun r1 => ?_
 refine At.b 3 (fun _ e => big_C [] (keys_between_ok e)) fun r2 => ?_
 refine At.c 2 ?_ ?_
 ·apply rt; exact At.r 1
 ·refine At.o 5 (big_lo2 hT (f := S_keys_span.enc) (z := S_keys_span.mk 0 0) (id := 1) (k := a1) mpt_93 (fun _ _ h => by cases h) (b1 : List (Int × S_keys_span)) (by kernel_rfl) (by kernel_rfl) (by kernel_rfl)) ?_
  refine At.c 7 ?_ ?_
  ·apply rt; exact At.r 1
  ·refine At.o 6 (big_mpu (f := S_keys_span.enc) (id := 1) (k := a1) (v := (S_keys_span.mk 1 1)) mpt_93 (fun _ => rfl) (b1 : List (Int × S_keys_span)) (by kernel_rfl) (by kernel_rfl) (by kernel_rfl)) ?_
   apply rt; exact At.r 1

def p_keys_Ring_find_rd (N : Nat) (b1 : (List (Int × S_keys_span))) (a1 : Int) (a2 : (Vector Int 32)) : Option (S_keys_span × Int) :=
 Option.bind (p_keys_Ring_none_r N b1 a2) fun r1 =>
 cond (!(mhas b1 a1)) (
  some ((S_keys_span.mk 0 0, 11))) (
  some ((mgetD b1 a1 (S_keys_span.mk 0 0), 0)))

theorem keys_Ring_find_rd_ok {N b1 a1 a2 r} (h : p_keys_Ring_find_rd N b1 a1 a2 = some r) : FnM Tryz.prog 38 [.var (.st 33 [(eA 32 1 k8 a2), (.mp 1)]), .mp (eM .i64 S_keys_span.enc b1)] [(.ref 0 [] 0), (j64 a1)] (.tup [(S_keys_span.enc r.1), (j64 r.2)]) [.var (.st 33 [(eA 32 1 k8 a2), (.mp 1)]), .mp (eM .i64 S_keys_span.enc b1)] := by
 unfold p_keys_Ring_find_rd at h
 refine At.f m_no hT hmo Tryz.func38 rfl h ?_
 refine At.b 3 (fun _ e => big_C [0, 1] (keys_Ring_none_r_ok e)) fun r1 => ?_
 refine At.o 6 (big_lo2 hT (f := S_keys_span.enc) (z := S_keys_span.mk 0 0) (id := 1) (k := a1) mpt_93 (fun _ _ h => by cases h) (b1 : List (Int × S_keys_span)) (by kernel_rfl) (by kernel_rfl) (by kernel_rfl)) ?_
 refine At.c 8 ?_ ?_
 ·apply rt; exact At.r 3
 ·apply rt; exact At.r 3

def p_keys_Ring_Rotate_rd (N : Nat) (b1 : (List (Int × S_keys_span))) (a1 : Int) (a2 : (Vector Int 32)) : Option ((List (Int × S_keys_span)) × Int × Int) :=
 Option.bind (p_keys_Ring_find_rd N b1 a1 a2) fun r1 =>
 cond (r1.2 != 0) (
  some ((b1, 0, r1.2))) (
  cond (r1.1.gto == 65535) (
   some ((b1, 0, 3))) (
   some ((mput b1 a1 (S_keys_span.mk r1.1.gfrom (I64 (r1.1.gto + 1))), I64 (r1.1.gto + 1), 0))))

theorem keys_Ring_Rotate_rd_ok {N b1 a1 a2 r} (h : p_keys_Ring_Rotate_rd N b1 a1 a2 = some r) : FnM Tryz.prog 17 [.var (.st 33 [(eA 32 1 k8 a2), (.mp 1)]), .mp (eM .i64 S_keys_span.enc b1)] [(.ref 0 [] 0), (j64 a1)] (.tup [(j64 r.2.1), (j64 r.2.2)]) [.var (.st 33 [(eA 32 1 k8 a2), (.mp 1)]), .mp (eM .i64 S_keys_span.enc r.1)] := by
 unfold p_keys_Ring_Rotate_rd at h
 refine At.f m_no hT hmo Tryz.func17 rfl h ?_
 refine At.b 4 (fun _ e => big_C [0, 1] (keys_Ring_find_rd_ok e)) fun r1 => ?_
 refine At.c 8 ?_ ?_
 ·apply rt; exact At.r 3
 ·refine At.c 3 ?_ ?_
  ·apply rt; exact At.r 2
  ·refine At.d 5 dE0 (dF 6 (.v (.bool false)) [(1, .mp (eM .i64 S_keys_span.enc (mput b1 a1 (S_keys_span.mk r1.1.gfrom (I64 (r1.1.gto + 1))))))] [] (big_at (big_mpu (f := S_keys_span.enc) (id := 1) (k := a1) (v := (S_keys_span.mk r1.1.gfrom (I64 (r1.1.gto + 1)))) mpt_93 (fun _ => rfl) (b1 : List (Int × S_keys_span)) (by kernel_rfl) (by kernel_rfl) (by kernel_rfl))) dF0) ?_
   apply rt; exact At.r 4

def p_umbraref36_Ring_Find_rd_L1 (N : Nat) (b1 : (List S_umbraref36_Span)) (a1 : Int) : Nat → Int → Option (Sum (Unit) (Int))
 | 0, _ => none
 | k + 1, s2 =>
  letO (decide (s2 < ((b1.length : Int)))) fun x3 =>
  cond x3 (
   Option.bind (inRO s2 b1.length) fun _ =>
   Option.bind (b1[s2.toNat]?) fun e5 =>
   cond (e5.gId == a1) (
    some (Sum.inr s2)) (
    p_umbraref36_Ring_Find_rd_L1 N b1 a1 k (I64 (s2 + 1)))) (
   some (Sum.inl (())))

def p_umbraref36_Ring_Find_rd (N : Nat) (b1 : (List S_umbraref36_Span)) (a1 : Int) (a2 : (Vector Int 32)) : Option (Int) :=
 Option.bind (p_umbraref36_Ring_Find_rd_L1 N b1 a1 N 0) fun o => sumC o (fun p1 =>
  some (-1)) (fun r => some r)

theorem umbraref36_Ring_Find_rd_ok {N b1 a1 a2 r} (h : p_umbraref36_Ring_Find_rd N b1 a1 a2 = some r) : FnM Tryz.prog 37 [.var (.st 33 [(eA 32 1 k8 a2), (.gro 1 3 b1.length .all)]), .gro 3 (List.map S_umbraref36_Span.enc b1)] [(.ref 0 [] 0), (j64 a1)] (j64 r) [.var (.st 33 [(eA 32 1 k8 a2), (.gro 1 3 b1.length .all)]), .gro 3 (List.map S_umbraref36_Span.enc b1)] := by
 unfold p_umbraref36_Ring_Find_rd at h
 refine At.f m_no hT hmo Tryz.func37 rfl h ?_
 refine At.LS 2 [] 2 (fun p1 => ([], [], [])) (fun op1 J k => ∃ s2, p_umbraref36_Ring_Find_rd_L1 N b1 a1 k s2 = some op1 ∧ J [0, 1] 2 [(5, (j64 s2))] [] []) N (fun _ h => ⟨_, h, jr⟩) (fun op1 g1 k s hI => ?_) fun p1 => ?_
 ·obtain ⟨s2, h, hj⟩ := hI
  cases k with
  | zero => cases h
  | succ k =>
   refine At.jr hj ?_ h
   refine lx ?_; intro x3
   refine At.c 7 ?_ ?_
   ·refine At.b 5 (fun _ e => big_gad hT (id := 1) (k := 3) (es := List.map S_umbraref36_Span.enc b1) e (by kernel_rfl) (by kernel_rfl) (by kernel_rfl) (List.length_map _)) fun u4 => ?_
    refine At.b 1 (fun _ e => big_gld hT S_umbraref36_Span.enc [0] e (by kernel_rfl) (by kernel_rfl)) fun e5 => ?_
    refine At.c 2 ?_ ?_
    ·intro e; apply rtS1 g1 e; exact At.r 2
    ·exact fun h => At.k 3 ⟨_, h, jr⟩
   ·apply rt; exact At.xs 0
 ·apply rt; exact At.r 1

def p_umbraref36_Ring_Add_rd_L1 (N : Nat) (b1 : (List S_umbraref36_Span)) (a1 : Int) : Nat → (List S_umbraref36_Span) → Bool → Int → Option ((List S_umbraref36_Span) × Bool)
 | 0, _, _, _ => none
 | k + 1, s4, s5, s6 =>
  letO (decide (s6 < ((b1.length : Int)))) fun x7 =>
  cond x7 (
   Option.bind (Option.bind (cond (!s5) (
    Option.bind (inRO s6 b1.length) fun _ =>
    Option.bind (b1[s6.toNat]?) fun e11 =>
    some (decide (e11.gId > a1))) (
    some false)) fun p9 =>
   cond p9 (
    Option.bind (appO 24 s4 (([S_umbraref36_Span.mk a1 1 1] : List S_umbraref36_Span))) fun z12 =>
    some ((z12, true))) (
    some ((s4, s5)))) fun p8 =>
   Option.bind (inRO s6 b1.length) fun _ =>
   Option.bind (b1[s6.toNat]?) fun e14 =>
   Option.bind (appO 24 p8.1 (([e14] : List S_umbraref36_Span))) fun z15 =>
   p_umbraref36_Ring_Add_rd_L1 N b1 a1 k z15 p8.2 (I64 (s6 + 1))) (
   some ((s4, s5)))

def p_umbraref36_Ring_Add_rd (N : Nat) (b1 : (List S_umbraref36_Span)) (a1 : Int) (a2 : (Vector Int 32)) : Option (Sum (Int) ((List S_umbraref36_Span) × Int)) :=
 letO (cond (decide (a1 < 1)) true (decide (a1 > 65535))) fun x1 =>
 cond x1 (
  some (Sum.inl 2)) (
  Option.bind (p_umbraref36_Ring_Find_rd N b1 a1 a2) fun r2 =>
  cond (decide (r2 ≥ 0)) (
   some (Sum.inl 10)) (
   Option.bind (p_umbraref36_Ring_Add_rd_L1 N b1 a1 N [] false 0) fun p3 =>
   Option.bind (cond (!p3.2) (
    Option.bind (appO 24 p3.1 (([S_umbraref36_Span.mk a1 1 1] : List S_umbraref36_Span))) fun z17 =>
    some z17) (
    some p3.1)) fun p16 =>
   some (Sum.inr ((p16, 0)))))

theorem umbraref36_Ring_Add_rd_ok {N b1 a1 a2 r} (h : p_umbraref36_Ring_Add_rd N b1 a1 a2 = some r) : FnM Tryz.prog 16 [.var (.st 33 [(eA 32 1 k8 a2), (.gro 1 3 b1.length .all)]), .gro 3 (List.map S_umbraref36_Span.enc b1)] [(.ref 0 [] 0), (j64 a1)] (selS r (fun r => (j64 r)) (fun r => (j64 r.2))) (selS r (fun r => [.var (.st 33 [(eA 32 1 k8 a2), (.gro 1 3 b1.length .all)]), .gro 3 (List.map S_umbraref36_Span.enc b1)]) (fun r => [.var (.st 33 [(eA 32 1 k8 a2), (.gro 2 3 r.1.length .all)]), .gro 3 (List.map S_umbraref36_Span.enc b1), .gro 3 (List.map S_umbraref36_Span.enc r.1)])) := by
 unfold p_umbraref36_Ring_Add_rd at h
 refine At.f m_no hT hmo Tryz.func16 rfl h ?_
 refine lx ?_; intro x1
 refine At.c 7 ?_ ?_
 ·apply rt; exact At.r 1
 ·refine At.b 2 (fun _ e => big_C [0, 1] (umbraref36_Ring_Find_rd_ok e)) fun r2 => ?_
  refine At.c 1 ?_ ?_
  ·apply rt; exact At.r 1
  ·refine At.gron 3 5 3 ?_
   refine At.L 0 [0, 1] 3 (fun p3 => ([(5, (.gro 2 3 p3.1.length .all)), (6, (eB p3.2))], [(2, .gro 3 (List.map S_umbraref36_Span.enc p3.1))], [])) (fun p3 J k => ∃ s4 s5 s6, p_umbraref36_Ring_Add_rd_L1 N b1 a1 k s4 s5 s6 = some p3 ∧ J [0, 1] 3 [(5, (.gro 2 3 s4.length .all)), (6, (eB s5)), (7, (j64 s6))] [(2, .gro 3 (List.map S_umbraref36_Span.enc s4))] []) N (fun _ h => ⟨_, _, _, h, jr⟩) (fun p3 k s hI => ?_) fun p3 => ?_
   ·obtain ⟨s4, s5, s6, h, hj⟩ := hI
    cases k with
    | zero => cases h
    | succ k =>
     refine At.jr hj ?_ h
     refine lx ?_; intro x7
     refine At.c 7 ?_ ?_
     ·refine At.J 0 1 [0, 1, 7] 3 (fun p8 => ([(5, (.gro 2 3 p8.1.length .all)), (6, (eB p8.2))], [(2, .gro 3 (List.map S_umbraref36_Span.enc p8.1))], [])) (fun p8 => ?_) fun p8 => ?_
      ·refine At.J 0 0 [0, 1, 5, 6, 7] 3 (fun p9 => ([(40, (eB p9))], [], [])) (fun p9 => ?_) fun p9 => ?_
       ·refine At.s 29 3 ?_ ?_
        ·refine At.g [29] 5 ?_
         refine At.b 0 (fun _ e => big_gad hT (id := 1) (k := 3) (es := List.map S_umbraref36_Span.enc b1) e (by kernel_rfl) (by kernel_rfl) (by kernel_rfl) (List.length_map _)) fun u10 => ?_
         refine At.g [29] 1 ?_
         refine At.b 0 (fun _ e => big_gld hT S_umbraref36_Span.enc [0] e (by kernel_rfl) (by kernel_rfl)) fun e11 => ?_
         refine At.g [29] 3 ?_
         apply rt; exact At.jn 0
        ·refine At.g [29] 11 ?_
         apply rt; exact At.jn 0
       ·refine At.c 0 ?_ ?_
        ·refine At.o 3 (big_row hT (x := (.sl 3 1 [(.st 3 [(j64 a1), (j64 1), (j64 1)])]))) ?_
         refine At.b 0 (fun z12 e => big_gapp' hT S_umbraref36_Span.enc (id := 2) (k := 3) e (by kernel_rfl) (by kernel_rfl) (H' := [.var (.st 33 [(eA 32 1 k8 a2), (.gro 1 3 b1.length .all)]), .gro 3 (List.map S_umbraref36_Span.enc b1), .gro 3 (List.map S_umbraref36_Span.enc z12)]) (by kernel_rfl)) fun z12 => ?_
         apply rt; exact At.jn 2
        ·apply rt; exact At.jn 0
      ·refine At.b 6 (fun _ e => big_gad hT (id := 1) (k := 3) (es := List.map S_umbraref36_Span.enc b1) e (by kernel_rfl) (by kernel_rfl) (by kernel_rfl) (List.length_map _)) fun u13 => ?_
       refine At.b 0 (fun _ e => big_gld hT S_umbraref36_Span.enc [] e (by kernel_rfl) (by kernel_rfl)) fun e14 => ?_
       refine At.o 0 (big_row hT (x := (.sl 3 1 [(S_umbraref36_Span.enc e14)]))) ?_
       refine At.b 0 (fun z15 e => big_gapp' hT S_umbraref36_Span.enc (id := 2) (k := 3) e (by kernel_rfl) (by kernel_rfl) (H' := [.var (.st 33 [(eA 32 1 k8 a2), (.gro 1 3 b1.length .all)]), .gro 3 (List.map S_umbraref36_Span.enc b1), .gro 3 (List.map S_umbraref36_Span.enc z15)]) (by kernel_rfl)) fun z15 => ?_
       exact fun h => At.k 4 ⟨_, _, _, h, jr⟩
     ·apply rt; exact At.x 0
   ·refine At.J 0 1 [0] 3 (fun p16 => ([(5, (.gro 2 3 p16.length .all))], [(2, .gro 3 (List.map S_umbraref36_Span.enc p16))], [])) (fun p16 => ?_) fun p16 => ?_
    ·refine At.c 2 ?_ ?_
     ·refine At.o 3 (big_row hT (x := (.sl 3 1 [(.st 3 [(j64 a1), (j64 1), (j64 1)])]))) ?_
      refine At.b 0 (fun z17 e => big_gapp' hT S_umbraref36_Span.enc (id := 2) (k := 3) e (by kernel_rfl) (by kernel_rfl) (H' := [.var (.st 33 [(eA 32 1 k8 a2), (.gro 1 3 b1.length .all)]), .gro 3 (List.map S_umbraref36_Span.enc b1), .gro 3 (List.map S_umbraref36_Span.enc z17)]) (by kernel_rfl)) fun z17 => ?_
      apply rt; exact At.jn 1
     ·apply rt; exact At.jn 0
    ·apply rt; exact At.r 6

theorem umbraref36_Ring_Add_rd_ok_0 {N b1 a1 a2 r} (h : p_umbraref36_Ring_Add_rd N b1 a1 a2 = some (Sum.inl r)) : FnM Tryz.prog 16 [.var (.st 33 [(eA 32 1 k8 a2), (.gro 1 3 b1.length .all)]), .gro 3 (List.map S_umbraref36_Span.enc b1)] [(.ref 0 [] 0), (j64 a1)] (j64 r) [.var (.st 33 [(eA 32 1 k8 a2), (.gro 1 3 b1.length .all)]), .gro 3 (List.map S_umbraref36_Span.enc b1)] := umbraref36_Ring_Add_rd_ok h

theorem umbraref36_Ring_Add_rd_ok_1 {N b1 a1 a2 r} (h : p_umbraref36_Ring_Add_rd N b1 a1 a2 = some (Sum.inr r)) : FnM Tryz.prog 16 [.var (.st 33 [(eA 32 1 k8 a2), (.gro 1 3 b1.length .all)]), .gro 3 (List.map S_umbraref36_Span.enc b1)] [(.ref 0 [] 0), (j64 a1)] (j64 r.2) [.var (.st 33 [(eA 32 1 k8 a2), (.gro 2 3 r.1.length .all)]), .gro 3 (List.map S_umbraref36_Span.enc b1), .gro 3 (List.map S_umbraref36_Span.enc r.1)] := umbraref36_Ring_Add_rd_ok h

def p_keys_Ring_none_isdcz (N : Nat) (a0 : (Vector Int 32)) : Option (Unit) :=
 some (())

theorem keys_Ring_none_isdcz_ok {N a0 r} (h : p_keys_Ring_none_isdcz N a0 = some r) : FnM Tryz.prog 36 [] [(.im (.st 33 [(eA 32 1 k8 a0), (.v (.map none))]))] (eB true) [] := by
 unfold p_keys_Ring_none_isdcz at h
 refine At.f m_no hT hmo Tryz.func36 rfl h ?_
 refine At.o 2 (big_eqp hT (t := 68) (x := (.im (.st 33 [(eA 32 1 k8 a0), (.v (.map none))]))) (b := true) (by kernel_rfl) rfl rfl (by kernel_rfl)) ?_
 refine At.g [5] 5 ?_
 refine At.o 0 (big_eqm (t := 93) (kt := 3) (et := 113) (x := (.v (.map none))) (b := false) (by kernel_rfl) rfl rfl (by kernel_rfl)) ?_
 refine At.g [5] 2 ?_
 apply rt; exact At.r 0

def p_keys_Ring_Add_isdczd (N : Nat) (a0 : (Vector Int 32)) (a1 : Int) : Option (Int) :=
 Option.bind (p_keys_Ring_none_isdcz N a0) fun r1 =>
 some 1

theorem keys_Ring_Add_isdczd_ok {N a0 a1 r} (h : p_keys_Ring_Add_isdczd N a0 a1 = some r) : FnM Tryz.prog 15 [] [(.im (.st 33 [(eA 32 1 k8 a0), (.v (.map none))])), (j64 a1)] (j64 r) [] := by
 unfold p_keys_Ring_Add_isdczd at h
 refine At.f m_no hT hmo Tryz.func15 rfl h ?_
 refine At.b 2 (fun _ e => big_C [] (keys_Ring_none_isdcz_ok e)) fun r1 => ?_
 apply rt; exact At.r 3

def p_umbraref36_Ring_Rotate_rd (N : Nat) (b1 : (List S_umbraref36_Span)) (a1 : Int) (a2 : (Vector Int 32)) : Option ((List S_umbraref36_Span) × Int × Int) :=
 Option.bind (p_umbraref36_Ring_Find_rd N b1 a1 a2) fun r1 =>
 cond (decide (r1 < 0)) (
  some ((b1, 0, 11))) (
  Option.bind (inRO r1 b1.length) fun _ =>
  Option.bind (b1[r1.toNat]?) fun e3 =>
  letO (decide (e3.gTo ≥ 65535)) fun x4 =>
  cond x4 (
   some ((b1, 0, 3))) (
   Option.bind (inRO r1 b1.length) fun _ =>
   Option.bind (b1[r1.toNat]?) fun e6 =>
   Option.bind (inRO r1 b1.length) fun _ =>
   Option.bind (updO b1 r1.toNat (fun (e : S_umbraref36_Span) => S_umbraref36_Span.mk e.gId e.gFrom (I64 (e6.gTo + 1)))) fun z8 =>
   Option.bind (inRO r1 z8.length) fun _ =>
   Option.bind (z8[r1.toNat]?) fun e10 =>
   some ((z8, e10.gTo, 0))))

theorem umbraref36_Ring_Rotate_rd_ok {N b1 a1 a2 r} (h : p_umbraref36_Ring_Rotate_rd N b1 a1 a2 = some r) : FnM Tryz.prog 18 [.var (.st 33 [(eA 32 1 k8 a2), (.gro 1 3 b1.length .all)]), .gro 3 (List.map S_umbraref36_Span.enc b1)] [(.ref 0 [] 0), (j64 a1)] (.tup [(j64 r.2.1), (j64 r.2.2)]) [.var (.st 33 [(eA 32 1 k8 a2), (.gro 1 3 r.1.length .all)]), .gro 3 (List.map S_umbraref36_Span.enc r.1)] := by
 unfold p_umbraref36_Ring_Rotate_rd at h
 refine At.f m_no hT hmo Tryz.func18 rfl h ?_
 refine At.b 4 (fun _ e => big_C [0, 1] (umbraref36_Ring_Find_rd_ok e)) fun r1 => ?_
 refine At.c 3 ?_ ?_
 ·apply rt; exact At.r 2
 ·refine At.b 5 (fun _ e => big_gad hT (id := 1) (k := 3) (es := List.map S_umbraref36_Span.enc b1) e (by kernel_rfl) (by kernel_rfl) (by kernel_rfl) (List.length_map _)) fun u2 => ?_
  refine At.b 1 (fun _ e => big_gld hT S_umbraref36_Span.enc [2] e (by kernel_rfl) (by kernel_rfl)) fun e3 => ?_
  refine lx ?_; intro x4
  refine At.c 1 ?_ ?_
  ·apply rt; exact At.r 2
  ·refine At.b 5 (fun _ e => big_gad hT (id := 1) (k := 3) (es := List.map S_umbraref36_Span.enc b1) e (by kernel_rfl) (by kernel_rfl) (by kernel_rfl) (List.length_map _)) fun u5 => ?_
   refine At.b 1 (fun _ e => big_gld hT S_umbraref36_Span.enc [2] e (by kernel_rfl) (by kernel_rfl)) fun e6 => ?_
   refine At.b 1 (fun _ e => big_gad hT (id := 1) (k := 3) (es := List.map S_umbraref36_Span.enc b1) e (by kernel_rfl) (by kernel_rfl) (by kernel_rfl) (List.length_map _)) fun u7 => ?_
   refine bi fun z8 hz8 => ?_
   refine At.o 1 (big_gstu hT S_umbraref36_Span.enc [2] (k := 3) (fun (e : S_umbraref36_Span) => S_umbraref36_Span.mk e.gId e.gFrom (I64 (e6.gTo + 1))) hz8 (by kernel_rfl) (fun _ => by kernel_rfl) (by kernel_rfl) (H' := [.var (.st 33 [(eA 32 1 k8 a2), (.gro 1 3 b1.length .all)]), .gro 3 (List.map S_umbraref36_Span.enc z8)]) (by kernel_rfl)) ?_
   refine At.gl 0 [31] [0] 1 b1.length z8.length (updO_t hz8).2 ?_
   refine At.b 5 (fun _ e => big_gad hT (id := 1) (k := 3) (es := List.map S_umbraref36_Span.enc z8) e (by kernel_rfl) (by kernel_rfl) (by kernel_rfl) (List.length_map _)) fun u9 => ?_
   refine At.b 1 (fun _ e => big_gld hT S_umbraref36_Span.enc [2] e (by kernel_rfl) (by kernel_rfl)) fun e10 => ?_
   apply rt; exact At.r 2

def p_keys_Ring_Retire_rdd (N : Nat) (b1 : (List (Int × S_keys_span))) (a1 : Int) (a2 : Int) (a3 : (Vector Int 32)) : Option ((List (Int × S_keys_span)) × Int) :=
 Option.bind (p_keys_Ring_find_rd N b1 a1 a3) fun r1 =>
 cond (r1.2 != 0) (
  some ((b1, r1.2))) (
  letO (decide (a2 < r1.1.gfrom)) fun x2 =>
  letO (cond x2 true (decide (a2 ≥ r1.1.gto))) fun x3 =>
  cond x3 (
   some ((b1, 2))) (
   some ((mput b1 a1 (S_keys_span.mk (I64 (a2 + 1)) r1.1.gto), 0))))

theorem keys_Ring_Retire_rdd_ok {N b1 a1 a2 a3 r} (h : p_keys_Ring_Retire_rdd N b1 a1 a2 a3 = some r) : FnM Tryz.prog 19 [.var (.st 33 [(eA 32 1 k8 a3), (.mp 1)]), .mp (eM .i64 S_keys_span.enc b1)] [(.ref 0 [] 0), (j64 a1), (j64 a2)] (j64 r.2) [.var (.st 33 [(eA 32 1 k8 a3), (.mp 1)]), .mp (eM .i64 S_keys_span.enc r.1)] := by
 unfold p_keys_Ring_Retire_rdd at h
 refine At.f m_no hT hmo Tryz.func19 rfl h ?_
 refine At.b 3 (fun _ e => big_C [0, 1] (keys_Ring_find_rd_ok e)) fun r1 => ?_
 refine At.c 8 ?_ ?_
 ·apply rt; exact At.r 2
 ·refine lx ?_; intro x2
  refine lx ?_; intro x3
  refine At.c 10 ?_ ?_
  ·apply rt; exact At.r 1
  ·refine At.d 4 dE0 (dF 6 (.v (.bool false)) [(1, .mp (eM .i64 S_keys_span.enc (mput b1 a1 (S_keys_span.mk (I64 (a2 + 1)) r1.1.gto))))] [] (big_at (big_mpu (f := S_keys_span.enc) (id := 1) (k := a1) (v := (S_keys_span.mk (I64 (a2 + 1)) r1.1.gto)) mpt_93 (fun _ => rfl) (b1 : List (Int × S_keys_span)) (by kernel_rfl) (by kernel_rfl) (by kernel_rfl))) dF0) ?_
   apply rt; exact At.r 1

def p_umbraref36_Ring_Retire_rdd (N : Nat) (b1 : (List S_umbraref36_Span)) (a1 : Int) (a2 : Int) (a3 : (Vector Int 32)) : Option ((List S_umbraref36_Span) × Int) :=
 Option.bind (p_umbraref36_Ring_Find_rd N b1 a1 a3) fun r1 =>
 cond (decide (r1 < 0)) (
  some ((b1, 11))) (
  Option.bind (Option.bind (inRO r1 b1.length) fun _ =>
  Option.bind (b1[r1.toNat]?) fun e4 =>
  cond (decide (a2 < e4.gFrom)) (
   some true) (
   Option.bind (inRO r1 b1.length) fun _ =>
   Option.bind (b1[r1.toNat]?) fun e6 =>
   some (decide (a2 ≥ e6.gTo)))) fun p2 =>
  cond p2 (
   some ((b1, 2))) (
   Option.bind (inRO r1 b1.length) fun _ =>
   Option.bind (updO b1 r1.toNat (fun (e : S_umbraref36_Span) => S_umbraref36_Span.mk e.gId (I64 (a2 + 1)) e.gTo)) fun z8 =>
   some ((z8, 0))))

theorem umbraref36_Ring_Retire_rdd_ok {N b1 a1 a2 a3 r} (h : p_umbraref36_Ring_Retire_rdd N b1 a1 a2 a3 = some r) : FnM Tryz.prog 20 [.var (.st 33 [(eA 32 1 k8 a3), (.gro 1 3 b1.length .all)]), .gro 3 (List.map S_umbraref36_Span.enc b1)] [(.ref 0 [] 0), (j64 a1), (j64 a2)] (j64 r.2) [.var (.st 33 [(eA 32 1 k8 a3), (.gro 1 3 r.1.length .all)]), .gro 3 (List.map S_umbraref36_Span.enc r.1)] := by
 unfold p_umbraref36_Ring_Retire_rdd at h
 refine At.f m_no hT hmo Tryz.func20 rfl h ?_
 refine At.b 3 (fun _ e => big_C [0, 1] (umbraref36_Ring_Find_rd_ok e)) fun r1 => ?_
 refine At.c 3 ?_ ?_
 ·apply rt; exact At.r 1
 ·refine At.J 0 0 [0, 2, 7] 2 (fun p2 => ([(34, (eB p2))], [], [])) (fun p2 => ?_) fun p2 => ?_
  ·refine At.b 6 (fun _ e => big_gad hT (id := 1) (k := 3) (es := List.map S_umbraref36_Span.enc b1) e (by kernel_rfl) (by kernel_rfl) (by kernel_rfl) (List.length_map _)) fun u3 => ?_
   refine At.b 1 (fun _ e => big_gld hT S_umbraref36_Span.enc [1] e (by kernel_rfl) (by kernel_rfl)) fun e4 => ?_
   refine At.s 23 2 ?_ ?_
   ·refine At.g [23] 11 ?_
    apply rt; exact At.jn 0
   ·refine At.g [23] 6 ?_
    refine At.b 0 (fun _ e => big_gad hT (id := 1) (k := 3) (es := List.map S_umbraref36_Span.enc b1) e (by kernel_rfl) (by kernel_rfl) (by kernel_rfl) (List.length_map _)) fun u5 => ?_
    refine At.g [23] 1 ?_
    refine At.b 0 (fun _ e => big_gld hT S_umbraref36_Span.enc [2] e (by kernel_rfl) (by kernel_rfl)) fun e6 => ?_
    refine At.g [23] 2 ?_
    apply rt; exact At.jn 0
  ·refine At.c 0 ?_ ?_
   ·apply rt; exact At.r 1
   ·refine At.b 7 (fun _ e => big_gad hT (id := 1) (k := 3) (es := List.map S_umbraref36_Span.enc b1) e (by kernel_rfl) (by kernel_rfl) (by kernel_rfl) (List.length_map _)) fun u7 => ?_
    refine bi fun z8 hz8 => ?_
    refine At.o 1 (big_gstu hT S_umbraref36_Span.enc [1] (k := 3) (fun (e : S_umbraref36_Span) => S_umbraref36_Span.mk e.gId (I64 (a2 + 1)) e.gTo) hz8 (by kernel_rfl) (fun _ => by kernel_rfl) (by kernel_rfl) (H' := [.var (.st 33 [(eA 32 1 k8 a3), (.gro 1 3 b1.length .all)]), .gro 3 (List.map S_umbraref36_Span.enc z8)]) (by kernel_rfl)) ?_
    refine At.gl 0 [43] [0] 1 b1.length z8.length (updO_t hz8).2 ?_
    apply rt; exact At.r 1

def p_keys_Ring_none_c (N : Nat) : Option (Unit) :=
 some (())

theorem keys_Ring_none_c_ok {N r} (h : p_keys_Ring_none_c N = some r) : FnM Tryz.prog 36 [] [(.v (.pointer none))] (eB true) [] := by
 unfold p_keys_Ring_none_c at h
 refine At.f m_no hT hmo Tryz.func36 rfl h ?_
 refine At.o 2 (big_eqp hT (t := 68) (x := (.v (.pointer none))) (b := false) (by kernel_rfl) rfl rfl (by kernel_rfl)) ?_
 refine At.g [5] 8 ?_
 apply rt; exact At.r 0

def p_keys_Ring_find_cd (N : Nat) (a0 : Int) : Option (S_keys_span × Int) :=
 Option.bind (p_keys_Ring_none_c N ) fun r1 =>
 some ((S_keys_span.mk 0 0, 1))

theorem keys_Ring_find_cd_ok {N a0 r} (h : p_keys_Ring_find_cd N a0 = some r) : FnM Tryz.prog 38 [] [(.v (.pointer none)), (j64 a0)] (.tup [(S_keys_span.enc r.1), (j64 r.2)]) [] := by
 unfold p_keys_Ring_find_cd at h
 refine At.f m_no hT hmo Tryz.func38 rfl h ?_
 refine At.b 3 (fun _ e => big_C [] (keys_Ring_none_c_ok e)) fun r1 => ?_
 apply rt; exact At.r 4

def p_keys_Ring_Retire_cdd (N : Nat) (a0 : Int) (a1 : Int) : Option (Int) :=
 Option.bind (p_keys_Ring_find_cd N a0) fun r1 =>
 cond (r1.2 != 0) (
  some r1.2) (
  letO (decide (a1 < r1.1.gfrom)) fun x2 =>
  letO (cond x2 true (decide (a1 ≥ r1.1.gto))) fun x3 =>
  cond x3 (some 2) (none))

theorem keys_Ring_Retire_cdd_ok {N a0 a1 r} (h : p_keys_Ring_Retire_cdd N a0 a1 = some r) : FnM Tryz.prog 19 [] [(.v (.pointer none)), (j64 a0), (j64 a1)] (j64 r) [] := by
 unfold p_keys_Ring_Retire_cdd at h
 refine At.f m_no hT hmo Tryz.func19 rfl h ?_
 refine At.b 3 (fun _ e => big_C [] (keys_Ring_find_cd_ok e)) fun r1 => ?_
 refine At.c 8 ?_ ?_
 ·apply rt; exact At.r 2
 ·refine lx ?_; intro x2
  refine lx ?_; intro x3
  refine At.c 10 ?_ ?_
  ·apply rt; exact At.r 1
  ·exact nn

def keysA_ren : Go.Shelf.Ren := ⟨fun | 7 => 50 | 10 => 83 | n => n, fun | 23 => 93 | 26 => 3 | 3 => 113 | 28 => 133 | 0 => 0 | 27 => 132 | 33 => 103 | 4 => 4 | n => n, fun | n => n⟩
theorem keysA : SlLaysZI.n7 Tryz.prog keysA_ren where
 mixed := by kernel_rfl
 f7 := ⟨"maps.Keys[map[int]umbra/keys.span,int,umbra/keys.span]", by decide, Tryz.func50.trans (congrArg some (by kernel_rfl))⟩
 f10 := ⟨"maps.Keys[map[int]umbra/keys.span,int,umbra/keys.span]$1", by decide, Tryz.func83.trans (congrArg some (by kernel_rfl))⟩
 t0 := Tryz.underlying0
 a0 := Tryz.isAgg0
 z0 := Tryz.sizeOf0
 v0 := Tryz.zeroValue0
 t4 := Tryz.underlying4
 a4 := Tryz.isAgg4
 z4 := Tryz.sizeOf4
 v4 := Tryz.zeroValue4
 t23 := Tryz.underlying93
 a23 := Tryz.isAgg93
 z23 := Tryz.sizeOf93
 v23 := Tryz.zeroValue93
 t26 := Tryz.underlying3
 a26 := Tryz.isAgg3
 z26 := Tryz.sizeOf3
 v26 := Tryz.zeroValue3
 t27 := Tryz.underlying132
 a27 := Tryz.isAgg132
 z27 := Tryz.sizeOf132
 v27 := Tryz.zeroValue132
 t28 := Tryz.underlying133
 a28 := Tryz.isAgg133
 z28 := Tryz.sizeOf133
 v28 := Tryz.zeroValue133
 t33 := Tryz.underlying103
 a33 := Tryz.isAgg103
 z33 := Tryz.sizeOf103
 v33 := Tryz.zeroValue103
def sortedA_ren : Go.Shelf.Ren := ⟨fun | 6 => 49 | 8 => 81 | 9 => 82 | 11 => 122 | 13 => 124 | 12 => 123 | 23 => 174 | 24 => 175 | 14 => 165 | 15 => 166 | 16 => 167 | 17 => 168 | 18 => 169 | 19 => 170 | 20 => 171 | 21 => 172 | 22 => 173 | 25 => 200 | 26 => 201 | 27 => 202 | 28 => 203 | 29 => 204 | 30 => 205 | 31 => 224 | n => n, fun | 26 => 3 | 28 => 133 | 24 => 97 | 0 => 0 | 3 => 3 | 37 => 108 | 48 => 24 | 50 => 23 | 4 => 4 | 40 => 243 | 39 => 242 | 45 => 248 | 5 => 5 | 9 => 9 | 51 => 278 | 55 => 282 | 57 => 305 | 58 => 80 | 33 => 103 | n => n, fun | n => n⟩
theorem sortedA : SlLaysZI.n6 Tryz.prog sortedA_ren where
 mixed := by kernel_rfl
 f6 := ⟨"slices.Sorted[int]", by decide, Tryz.func49.trans (congrArg some (by kernel_rfl))⟩
 f8 := ⟨"slices.Collect[int]", by decide, Tryz.func81.trans (congrArg some (by kernel_rfl))⟩
 f11 := ⟨"slices.AppendSeq[[]int,int]", by decide, Tryz.func122.trans (congrArg some (by kernel_rfl))⟩
 t0 := Tryz.underlying0
 a0 := Tryz.isAgg0
 z0 := Tryz.sizeOf0
 v0 := Tryz.zeroValue0
 t24 := Tryz.underlying97
 a24 := Tryz.isAgg97
 z24 := Tryz.sizeOf97
 v24 := Tryz.zeroValue97
 t26 := Tryz.underlying3
 a26 := Tryz.isAgg3
 z26 := Tryz.sizeOf3
 v26 := Tryz.zeroValue3
 t28 := Tryz.underlying133
 a28 := Tryz.isAgg133
 z28 := Tryz.sizeOf133
 v28 := Tryz.zeroValue133
 i26 := by kernel_rfl
def sortA_ren : Go.Shelf.Ren := ⟨fun | 5 => 82 | 8 => 124 | 7 => 123 | 19 => 174 | 20 => 175 | 10 => 165 | 11 => 166 | 12 => 167 | 13 => 168 | 14 => 169 | 15 => 170 | 16 => 171 | 17 => 172 | 18 => 173 | 30 => 200 | 31 => 201 | 32 => 202 | 33 => 203 | 34 => 204 | 35 => 205 | 40 => 224 | n => n, fun | 23 => 97 | 25 => 3 | 3 => 3 | 32 => 108 | 22 => 97 | 0 => 0 | 44 => 24 | 46 => 23 | 4 => 4 | 36 => 243 | 35 => 242 | 41 => 248 | 5 => 5 | 9 => 9 | 53 => 278 | 57 => 282 | 63 => 305 | 64 => 80 | n => n, fun | n => n⟩
theorem sortA : SlLaysM.n5 Tryz.prog sortA_ren where
 mixed := by kernel_rfl
 f5 := ⟨"slices.Sort[[]int,int]", by decide, Tryz.func82.trans (congrArg some (by kernel_rfl))⟩
 f7 := ⟨"slices.pdqsortOrdered[int]", by decide, Tryz.func123.trans (congrArg some (by kernel_rfl))⟩
 f8 := Tryz.func124.trans (congrArg some (by kernel_rfl))
 f10 := ⟨"slices.insertionSortOrdered[int]", by decide, Tryz.func165.trans (congrArg some (by kernel_rfl))⟩
 f11 := ⟨"slices.heapSortOrdered[int]", by decide, Tryz.func166.trans (congrArg some (by kernel_rfl))⟩
 f12 := ⟨"slices.breakPatternsOrdered[int]", by decide, Tryz.func167.trans (congrArg some (by kernel_rfl))⟩
 f13 := ⟨"slices.choosePivotOrdered[int]", by decide, Tryz.func168.trans (congrArg some (by kernel_rfl))⟩
 f14 := ⟨"slices.reverseRangeOrdered[int]", by decide, Tryz.func169.trans (congrArg some (by kernel_rfl))⟩
 f15 := ⟨"slices.partialInsertionSortOrdered[int]", by decide, Tryz.func170.trans (congrArg some (by kernel_rfl))⟩
 f16 := ⟨"cmp.Less[int]", by decide, Tryz.func171.trans (congrArg some (by kernel_rfl))⟩
 f17 := ⟨"slices.partitionEqualOrdered[int]", by decide, Tryz.func172.trans (congrArg some (by kernel_rfl))⟩
 f18 := ⟨"slices.partitionOrdered[int]", by decide, Tryz.func173.trans (congrArg some (by kernel_rfl))⟩
 f19 := Tryz.func174.trans (congrArg some (by kernel_rfl))
 f20 := Tryz.func175.trans (congrArg some (by kernel_rfl))
 f30 := ⟨"slices.siftDownOrdered[int]", by decide, Tryz.func200.trans (congrArg some (by kernel_rfl))⟩
 f31 := Tryz.func201.trans (congrArg some (by kernel_rfl))
 f32 := Tryz.func202.trans (congrArg some (by kernel_rfl))
 f33 := ⟨"slices.medianAdjacentOrdered[int]", by decide, Tryz.func203.trans (congrArg some (by kernel_rfl))⟩
 f34 := ⟨"slices.medianOrdered[int]", by decide, Tryz.func204.trans (congrArg some (by kernel_rfl))⟩
 f35 := ⟨"cmp.isNaN[int]", by decide, Tryz.func205.trans (congrArg some (by kernel_rfl))⟩
 f40 := ⟨"slices.order2Ordered[int]", by decide, Tryz.func224.trans (congrArg some (by kernel_rfl))⟩
 t0 := Tryz.underlying0
 a0 := Tryz.isAgg0
 z0 := Tryz.sizeOf0
 v0 := Tryz.zeroValue0
 t3 := Tryz.underlying3
 a3 := Tryz.isAgg3
 z3 := Tryz.sizeOf3
 v3 := Tryz.zeroValue3
 t4 := Tryz.underlying4
 a4 := Tryz.isAgg4
 z4 := Tryz.sizeOf4
 v4 := Tryz.zeroValue4
 t5 := Tryz.underlying5
 a5 := Tryz.isAgg5
 z5 := Tryz.sizeOf5
 v5 := Tryz.zeroValue5
 t9 := Tryz.underlying9
 a9 := Tryz.isAgg9
 z9 := Tryz.sizeOf9
 v9 := Tryz.zeroValue9
 t22 := Tryz.underlying97
 a22 := Tryz.isAgg97
 z22 := Tryz.sizeOf97
 v22 := Tryz.zeroValue97
 t23 := Tryz.underlying97
 a23 := Tryz.isAgg97
 z23 := Tryz.sizeOf97
 v23 := Tryz.zeroValue97
 t25 := Tryz.underlying3
 a25 := Tryz.isAgg3
 z25 := Tryz.sizeOf3
 v25 := Tryz.zeroValue3
 t32 := Tryz.underlying108
 a32 := Tryz.isAgg108
 z32 := Tryz.sizeOf108
 v32 := Tryz.zeroValue108
 t35 := Tryz.underlying242
 a35 := Tryz.isAgg242
 z35 := Tryz.sizeOf242
 v35 := Tryz.zeroValue242
 t36 := Tryz.underlying243
 a36 := Tryz.isAgg243
 z36 := Tryz.sizeOf243
 v36 := Tryz.zeroValue243
 t41 := Tryz.underlying248
 a41 := Tryz.isAgg248
 z41 := Tryz.sizeOf248
 v41 := Tryz.zeroValue248
 t44 := Tryz.underlying24
 a44 := Tryz.isAgg24
 z44 := Tryz.sizeOf24
 v44 := Tryz.zeroValue24
 t46 := Tryz.underlying23
 a46 := Tryz.isAgg23
 z46 := Tryz.sizeOf23
 v46 := Tryz.zeroValue23
 t53 := Tryz.underlying278
 a53 := Tryz.isAgg278
 z53 := Tryz.sizeOf278
 v53 := Tryz.zeroValue278
 t57 := Tryz.underlying282
 a57 := Tryz.isAgg282
 z57 := Tryz.sizeOf282
 v57 := Tryz.zeroValue282
 t63 := Tryz.underlying305
 a63 := Tryz.isAgg305
 z63 := Tryz.sizeOf305
 v63 := Tryz.zeroValue305
 t64 := Tryz.underlying80
 a64 := Tryz.isAgg80
 z64 := Tryz.sizeOf80
 v64 := Tryz.zeroValue80
theorem sortsA (m : Nat) : AnyZI.SortsIn Tryz.prog sortedA_ren Fence.wide m :=
 ⟨fun blk off cap ss W hH hblk hsz => callsIn_wide.2 (AnyM.slices_Sort_int sortA blk off cap ss W hH hblk hsz), fun p cap W => callsIn_wide.2 (AnyM.slices_Sort_int_none sortA p cap W)⟩

theorem keys_50 (l : List (Int × S_keys_span)) : FnM Tryz.prog 50 [.mp (eM .i64 S_keys_span.enc l)] [.mp 0] (.fn (.func 83) [] [.ref 1 [] 0]) [.mp (eM .i64 S_keys_span.enc l), .var (.mp 0)] := keys_fn keysA rfl rfl l
theorem keys_50_c : callable Tryz.prog 50 := ⟨_, Tryz.func50, by decide, rfl⟩

theorem sorted_49 {l : List (Int × S_keys_span)} {r : List Int} (h : sortO l = some r) : FnM Tryz.prog 49 [.mp (eM .i64 S_keys_span.enc l), .var (.mp 0)] [.fn (.func 83) [] [.ref 1 [] 0]] (eL 1 j64 r) [.mp (eM .i64 S_keys_span.enc l), .var (.mp 0)] :=
 sorted_fn sortedA { keysA with } sortsA rfl rfl (enters_of Tryz.func82 (by kernel_rfl) rfl) (enters_of Tryz.func83 (by kernel_rfl) rfl) h
theorem sorted_49_c : callable Tryz.prog 49 := ⟨_, Tryz.func49, by decide, rfl⟩

def p_keys_Ring_Ids_r (N : Nat) (b1 : (List (Int × S_keys_span))) (a1 : (Vector Int 32)) : Option ((List Int)) :=
 Option.bind (p_keys_Ring_none_r N b1 a1) fun r1 =>
 Option.bind (sortO b1) fun r2 =>
 some r2

theorem keys_Ring_Ids_r_ok {N b1 a1 r} (h : p_keys_Ring_Ids_r N b1 a1 = some r) : FnM Tryz.prog 27 [.var (.st 33 [(eA 32 1 k8 a1), (.mp 1)]), .mp (eM .i64 S_keys_span.enc b1)] [(.ref 0 [] 0)] (eL 1 j64 r) [.var (.st 33 [(eA 32 1 k8 a1), (.mp 1)]), .mp (eM .i64 S_keys_span.enc b1)] := by
 unfold p_keys_Ring_Ids_r at h
 refine At.f m_no hT hmo Tryz.func27 rfl h ?_
 refine At.b 2 (fun _ e => big_C [0, 1] (keys_Ring_none_r_ok e)) fun r1 => ?_
 refine At.o 5 (big_call [1] (keys_50 b1) keys_50_c) ?_
 refine At.b 0 (fun _ e => big_call [1, 2] (sorted_49 e) sorted_49_c) fun r2 => ?_
 apply rt; exact At.r 1

def p_keys_Ring_Span_rd (N : Nat) (b1 : (List (Int × S_keys_span))) (a1 : Int) (a2 : (Vector Int 32)) : Option (Int × Int × Int) :=
 Option.bind (p_keys_Ring_find_rd N b1 a1 a2) fun r1 =>
 some ((r1.1.gfrom, r1.1.gto, r1.2))

theorem keys_Ring_Span_rd_ok {N b1 a1 a2 r} (h : p_keys_Ring_Span_rd N b1 a1 a2 = some r) : FnM Tryz.prog 24 [.var (.st 33 [(eA 32 1 k8 a2), (.mp 1)]), .mp (eM .i64 S_keys_span.enc b1)] [(.ref 0 [] 0), (j64 a1)] (.tup [(j64 r.1), (j64 r.2.1), (j64 r.2.2)]) [.var (.st 33 [(eA 32 1 k8 a2), (.mp 1)]), .mp (eM .i64 S_keys_span.enc b1)] := by
 unfold p_keys_Ring_Span_rd at h
 refine At.f m_no hT hmo Tryz.func24 rfl h ?_
 refine At.b 5 (fun _ e => big_C [0, 1] (keys_Ring_find_rd_ok e)) fun r1 => ?_
 refine At.d 6 dE0 dF0 ?_
 apply rt; exact At.r 0

def p_keys_Ring_Open_isdczd (N : Nat) (a0 : (Vector Int 32)) (a1 : (List Int)) : Option (Int × S_api_Manifest × S_api_Asset × Int) :=
 Option.bind (p_keys_Ring_none_isdcz N a0) fun r1 =>
 some ((0, S_api_Manifest.mk 0 0 0 (Vector.replicate 8 0) 0 0 0 0, S_api_Asset.mk 0 (S_api_Mesh.mk [] [] []) (S_api_Texture.mk 0 []) (S_api_Material.mk 0 (#v[0, 0, 0]) 0) (S_api_Light.mk 0 (#v[0, 0, 0]) (S_api_Point.mk 0 0 0) (S_api_Point.mk 0 0 0) (S_api_Point.mk 0 0 0)), 1))

theorem keys_Ring_Open_isdczd_ok {N a0 a1 r} (h : p_keys_Ring_Open_isdczd N a0 a1 = some r) : FnM Tryz.prog 21 [] [(.im (.st 33 [(eA 32 1 k8 a0), (.v (.map none))])), (eL 1 k8 a1)] (.tup [(j64 r.1), (S_api_Manifest.enc r.2.1), (S_api_Asset.enc r.2.2.1), (j64 r.2.2.2)]) [] := by
 unfold p_keys_Ring_Open_isdczd at h
 refine At.f m_no hT hmo Tryz.func21 rfl h ?_
 refine At.b 5 (fun _ e => big_C [] (keys_Ring_none_isdcz_ok e)) fun r1 => ?_
 refine At.d 2 dE0 dF0 ?_
 apply rt; exact At.r 0

def p_keys_Ring_Copy_c (N : Nat) : Option (Unit) :=
 Option.bind (p_keys_Ring_none_c N ) fun r1 =>
 some (())

theorem keys_Ring_Copy_c_ok {N r} (h : p_keys_Ring_Copy_c N = some r) : FnM Tryz.prog 26 [] [(.v (.pointer none))] (.v (.pointer none)) [] := by
 unfold p_keys_Ring_Copy_c at h
 refine At.f m_no hT hmo Tryz.func26 rfl h ?_
 refine At.b 2 (fun _ e => big_C [] (keys_Ring_none_c_ok e)) fun r1 => ?_
 apply rt; exact At.r 2

def p_keys_Ring_Ids_isdcz (N : Nat) (a0 : (Vector Int 32)) : Option ((List Int)) :=
 Option.bind (p_keys_Ring_none_isdcz N a0) fun r1 =>
 some []

theorem keys_Ring_Ids_isdcz_ok {N a0 r} (h : p_keys_Ring_Ids_isdcz N a0 = some r) : FnM Tryz.prog 27 [] [(.im (.st 33 [(eA 32 1 k8 a0), (.v (.map none))]))] (eL 1 j64 r) [] := by
 unfold p_keys_Ring_Ids_isdcz at h
 refine At.f m_no hT hmo Tryz.func27 rfl h ?_
 refine At.b 2 (fun _ e => big_C [] (keys_Ring_none_isdcz_ok e)) fun r1 => ?_
 apply rt; exact At.r 2

def p_umbralaw36_mat (N : Nat) : Option (S_api_Asset) :=
 some (S_api_Asset.mk 3 (S_api_Mesh.mk [] [] []) (S_api_Texture.mk 0 []) (S_api_Material.mk 0 (#v[0, 0, 0]) 0) (S_api_Light.mk 0 (#v[0, 0, 0]) (S_api_Point.mk 0 0 0) (S_api_Point.mk 0 0 0) (S_api_Point.mk 0 0 0)))

theorem umbralaw36_mat_ok {N r} (h : p_umbralaw36_mat N = some r) : FnM Tryz.prog 35 [] [] (S_api_Asset.enc r) [] := by
 unfold p_umbralaw36_mat at h
 refine At.f m_no hT hmo Tryz.func35 rfl h ?_
 apply rt; exact At.r 3

end Go.UK

