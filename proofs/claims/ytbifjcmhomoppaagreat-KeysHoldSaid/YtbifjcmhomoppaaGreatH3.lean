/- A part of the proof: what the functions of the program compute. -/
import Derived.Test.YtbifjcmhomoppaaGreatH2
namespace Go.UK
open Go Go.Proofs
set_option maxRecDepth 20000
set_option maxHeartbeats 4000000
set_option linter.all false

attribute [local irreducible] adv putPt dropPt setPt brPt litPt cutPt restPt popN unrPt stPt envPt boxPt opPt opP2t ksPt lPt owp awl aw FnM NatFn opS Stab TOK Big
def p_slices_Index_int_int_L1 (N : Nat) (a0 : (List Int)) (a1 : Int) : Nat → Int → Option (Sum (Unit) (Int))
 | 0, _ => none
 | k + 1, s2 =>
  letO (decide (s2 < ((a0.length : Int)))) fun x3 =>
  cond x3 (
   Option.bind (idx a0 s2) fun e4 =>
   cond (a1 == e4) (
    some (Sum.inr s2)) (
    p_slices_Index_int_int_L1 N a0 a1 k (I64 (s2 + 1)))) (
   some (Sum.inl (())))

def p_slices_Index_int_int (N : Nat) (a0 : (List Int)) (a1 : Int) : Option (Int) :=
 Option.bind (p_slices_Index_int_int_L1 N a0 a1 N 0) fun o => sumC o (fun p1 =>
  some (-1)) (fun r => some r)

theorem slices_Index_int_int_ok {N : Nat} {a0 : (List Int)} {a1 : Int} {r : Int} (h : p_slices_Index_int_int N a0 a1 = some r) : FnM Tryz.prog 220 [] [(eL 1 j64 a0), (j64 a1)] (j64 r) [] := by
 unfold p_slices_Index_int_int at h
 refine At.fn m_no hT hmo (m := 19) (lo := 0) (rs := [.tmp 4]) Tryz.func220 rfl rfl h ?_
 refine At.ls 4 (fun p1 => ⟨[], []⟩) (fun op1 J k s => ∃ s2, p_slices_Index_int_int_L1 N a0 a1 k s2 = some op1 ∧ J ⟨[en 0 (eL 1 j64 a0), en 1 (j64 a1), en 7 (j64 ((a0.length : Int))), en 8 (j64 s2)], []⟩ s) N (fun _ h => ⟨_, h, jr⟩) (fun op1 g1 k s hI => ?_) fun p1 => ?_
 ·obtain ⟨s2, h, hj⟩ := hI
  cases k with
  | zero => cases h
  | succ k =>
   refine At.jr hj ?_ h
   refine lx ?_; intro x3
   refine At.c 1 ?_ ?_
   ·refine At.b 5 (fun _ e => big_idx hT j64 e) fun e4 => ?_
    refine At.c 2 ?_ ?_
    ·rintro ⟨⟩
     obtain rfl := sum_e g1
     exact At.r 2
    ·exact fun h => At.k 2 ⟨_, h, jr⟩
   ·apply rt; exact At.xs 0
 ·apply rt; exact At.r 1

theorem slices_Index_int_int_ok_c : callable Tryz.prog 220 := ⟨_, Tryz.func220, by decide, rfl⟩

def p_slices_Contains_int_int (N : Nat) (a0 : (List Int)) (a1 : Int) : Option (Bool) :=
 Option.bind (p_slices_Index_int_int N a0 a1) fun r1 =>
 some (decide (r1 ≥ 0))

theorem slices_Contains_int_int_ok {N : Nat} {a0 : (List Int)} {a1 : Int} {r : Bool} (h : p_slices_Contains_int_int N a0 a1 = some r) : FnM Tryz.prog 192 [] [(eL 1 j64 a0), (j64 a1)] (eB r) [] := by
 unfold p_slices_Contains_int_int at h
 refine At.fn m_no hT hmo (m := 9) (lo := 0) (rs := [.tmp 4]) Tryz.func192 rfl rfl h ?_
 refine At.b 3 (fun _ e => big_call [] (slices_Index_int_int_ok e) slices_Index_int_int_ok_c) fun r1 => ?_
 apply rt; exact At.r 2

theorem slices_Contains_int_int_ok_c : callable Tryz.prog 192 := ⟨_, Tryz.func192, by decide, rfl⟩

def m_texture_Check : Nat → Bool := imL [1]

def p_texture_Check_L1 (N : Nat) (x5 : Int) (a0 : S_api_Texture) : Nat → Int → Option (Sum (Unit) (Int))
 | 0, _ => none
 | k + 1, s7 =>
  cond (decide (s7 < x5)) (
   Option.bind (idx a0.gTexels s7) fun e8 =>
   Option.bind (Option.bind (inRO 0 3) fun _ =>
   Option.bind (e8.toList[(Int.toNat 0)]?) fun e11 =>
   Option.bind (inRO 1 3) fun _ =>
   Option.bind (e8.toList[(Int.toNat 1)]?) fun e13 =>
   Option.bind (inRO 2 3) fun _ =>
   Option.bind (e8.toList[(Int.toNat 2)]?) fun e15 =>
   letO (decide ((imin (imin e11 e13) e15) < 0)) fun x16 =>
   cond x16 (
    some true) (
    Option.bind (inRO 0 3) fun _ =>
    Option.bind (e8.toList[(Int.toNat 0)]?) fun e18 =>
    Option.bind (inRO 1 3) fun _ =>
    Option.bind (e8.toList[(Int.toNat 1)]?) fun e20 =>
    Option.bind (inRO 2 3) fun _ =>
    Option.bind (e8.toList[(Int.toNat 2)]?) fun e22 =>
    letO (decide ((imax (imax e18 e20) e22) > 255)) fun x23 =>
    some x23)) fun p9 =>
   cond p9 (some (Sum.inr 5)) (p_texture_Check_L1 N x5 a0 k (I64 (s7 + 1)))) (
   some (Sum.inl (())))

def p_texture_Check (N : Nat) (a0 : S_api_Texture) : Option (Int) :=
 Option.bind (p_slices_Contains_int_int N ([1, 2, 4, 8, 16]) a0.gSide) fun r1 =>
 letO ((a0.gTexels.length : Int)) fun x2 =>
 letO (I64 (a0.gSide * a0.gSide)) fun x3 =>
 letO (cond (!r1) true (x2 != x3)) fun x4 =>
 cond x4 (
  some 5) (
  letO ((a0.gTexels.length : Int)) fun x5 =>
  Option.bind (p_texture_Check_L1 N x5 a0 N 0) fun o => sumC o (fun p6 =>
   some 0) (fun r => some r))

theorem texture_Check_ok {N : Nat} {a0 : S_api_Texture} {r : Int} (h : p_texture_Check N a0 = some r) : FnM Tryz.prog 156 [] [(S_api_Texture.enc a0)] (j64 r) [] := by
 unfold p_texture_Check at h
 refine At.fn m_texture_Check hT hmo (m := 47) (lo := 0) (rs := [.tmp 2]) Tryz.func156 rfl rfl h ?_
 refine At.o 2 (big_row hT (x := (.sl 1 5 [(j64 1), (j64 2), (j64 4), (j64 8), (j64 16)]))) ?_
 refine At.b 2 (fun _ e => big_call [] (slices_Contains_int_int_ok e) slices_Contains_int_int_ok_c) fun r1 => ?_
 refine lx ?_; intro x2
 refine lx ?_; intro x3
 refine lx ?_; intro x4
 refine At.c 12 ?_ ?_
 ·apply rt; exact At.r 1
 ·refine lx ?_; intro x5
  refine At.ls 4 (fun p6 => ⟨[], []⟩) (fun op6 J k s => ∃ s7, p_texture_Check_L1 N x5 a0 k s7 = some op6 ∧ J ⟨[en 22 (eL 3 (eA 3 1 j64) a0.gTexels), en 23 (j64 x5), en 24 (j64 s7)], []⟩ s) N (fun _ h => ⟨_, h, jr⟩) (fun op6 g6 k s hI => ?_) fun p6 => ?_
  ·obtain ⟨s7, h, hj⟩ := hI
   cases k with
   | zero => cases h
   | succ k =>
    refine At.jr hj ?_ h
    refine At.c 1 ?_ ?_
    ·refine At.b 0 (fun _ e => big_idx hT (eA 3 1 j64) e) fun e8 => ?_
     refine At.j 3 0 (fun p9 => ⟨[en 22 (eL 3 (eA 3 1 j64) a0.gTexels), en 23 (j64 x5), en 24 (j64 s7), en 45 (eB p9)], [.var (eA 3 1 j64 e8)]⟩) (fun p9 => ?_) fun p9 => ?_
     ·refine At.b 0 (fun _ e => big_adR hT (k := 1) 0 [] 0 e) fun u10 => ?_
      refine At.b 0 (fun _ e => big_ldE hT j64 0 e) fun e11 => ?_
      refine At.b 0 (fun _ e => big_adR hT (k := 1) 0 [] 0 e) fun u12 => ?_
      refine At.b 0 (fun _ e => big_ldE hT j64 0 e) fun e13 => ?_
      refine At.b 0 (fun _ e => big_adR hT (k := 1) 0 [] 0 e) fun u14 => ?_
      refine At.b 0 (fun _ e => big_ldE hT j64 0 e) fun e15 => ?_
      refine At.o 0 (big_min3 (k := .i64) (i := e11) (j := e13) (l := e15) (by kernel_rfl) (by kernel_rfl)) ?_
      refine lx ?_; intro x16
      refine At.s 36 2 ?_ ?_
      ·refine At.g [36] 9 ?_
       apply rt; exact At.jn 0
      ·refine At.b 0 (fun _ e => big_adR hT (k := 1) 0 [] 0 e) fun u17 => ?_
       refine At.b 0 (fun _ e => big_ldE hT j64 0 e) fun e18 => ?_
       refine At.b 0 (fun _ e => big_adR hT (k := 1) 0 [] 0 e) fun u19 => ?_
       refine At.b 0 (fun _ e => big_ldE hT j64 0 e) fun e20 => ?_
       refine At.b 0 (fun _ e => big_adR hT (k := 1) 0 [] 0 e) fun u21 => ?_
       refine At.b 0 (fun _ e => big_ldE hT j64 0 e) fun e22 => ?_
       refine At.o 0 (big_max3 (k := .i64) (i := e18) (j := e20) (l := e22) (by kernel_rfl) (by kernel_rfl)) ?_
       refine lx ?_; intro x23
       refine At.g [36] 2 ?_
       apply rt; exact At.jn 0
     ·refine At.c 0 ?_ ?_
      ·rintro ⟨⟩
       obtain rfl := sum_e g6
       exact At.r 1
      ·exact fun h => At.k 2 ⟨_, h, jr⟩
    ·apply rt; exact At.xs 0
  ·apply rt; exact At.r 1

theorem texture_Check_ok_c : callable Tryz.prog 156 := ⟨_, Tryz.func156, by decide, rfl⟩

def p_asset_outside_1_di (N : Nat) (a0 : Int) (a1 : Int) : Option (Bool) :=
 letO (cond (decide (a0 < 0)) true (decide (a0 > a1))) fun x1 =>
 some x1

theorem asset_outside_1_di_ok {N : Nat} {a0 : Int} {a1 : Int} {r : Bool} (h : p_asset_outside_1_di N a0 a1 = some r) : FnM Tryz.prog 226 [] [(j64 a0), (.im (j64 a1))] (eB r) [] := by
 unfold p_asset_outside_1_di at h
 refine At.fn m_no hT hmo (m := 11) (lo := 0) (rs := [.tmp 3]) Tryz.func226 rfl rfl h ?_
 refine lx ?_; intro x1
 apply rt; exact At.r 9

theorem asset_outside_1_di_ok_c : callable Tryz.prog 226 := ⟨_, Tryz.func226, by decide, rfl⟩

def p_slices_IndexFunc_int_int_outside_1_L1 (N : Nat) (a0 : (List Int)) (a1 : Int) : Nat → Int → Option (Sum (Unit) (Int))
 | 0, _ => none
 | k + 1, s2 =>
  letO (decide (s2 < ((a0.length : Int)))) fun x3 =>
  cond x3 (
   Option.bind (idx a0 s2) fun e4 =>
   Option.bind (p_asset_outside_1_di N e4 a1) fun r5 =>
   cond r5 (
    some (Sum.inr s2)) (
    p_slices_IndexFunc_int_int_outside_1_L1 N a0 a1 k (I64 (s2 + 1)))) (
   some (Sum.inl (())))

def p_slices_IndexFunc_int_int_outside_1 (N : Nat) (a0 : (List Int)) (a1 : Int) : Option (Int) :=
 Option.bind (p_slices_IndexFunc_int_int_outside_1_L1 N a0 a1 N 0) fun o => sumC o (fun p1 =>
  some (-1)) (fun r => some r)

theorem slices_IndexFunc_int_int_outside_1_ok {N : Nat} {a0 : (List Int)} {a1 : Int} {r : Int} (h : p_slices_IndexFunc_int_int_outside_1 N a0 a1 = some r) : FnM Tryz.prog 233 [] [(eL 1 j64 a0), (.fn (.func 226) [] [(.im (j64 a1))])] (j64 r) [] := by
 unfold p_slices_IndexFunc_int_int_outside_1 at h
 refine At.fn m_no hT hmo (m := 19) (lo := 0) (rs := [.tmp 4]) Tryz.func233 rfl rfl h ?_
 refine At.ls 4 (fun p1 => ⟨[], []⟩) (fun op1 J k s => ∃ s2, p_slices_IndexFunc_int_int_outside_1_L1 N a0 a1 k s2 = some op1 ∧ J ⟨[en 0 (eL 1 j64 a0), en 1 (.fn (.func 226) [] [(.im (j64 a1))]), en 7 (j64 ((a0.length : Int))), en 8 (j64 s2)], []⟩ s) N (fun _ h => ⟨_, h, jr⟩) (fun op1 g1 k s hI => ?_) fun p1 => ?_
 ·obtain ⟨s2, h, hj⟩ := hI
  cases k with
  | zero => cases h
  | succ k =>
   refine At.jr hj ?_ h
   refine lx ?_; intro x3
   refine At.c 1 ?_ ?_
   ·refine At.b 5 (fun _ e => big_idx hT j64 e) fun e4 => ?_
    refine At.b 1 (fun _ e => big_call [] (asset_outside_1_di_ok e) asset_outside_1_di_ok_c) fun r5 => ?_
    refine At.c 0 ?_ ?_
    ·rintro ⟨⟩
     obtain rfl := sum_e g1
     exact At.r 2
    ·exact fun h => At.k 2 ⟨_, h, jr⟩
   ·apply rt; exact At.xs 0
 ·apply rt; exact At.r 1

theorem slices_IndexFunc_int_int_outside_1_ok_c : callable Tryz.prog 233 := ⟨_, Tryz.func233, by decide, rfl⟩

def p_slices_ContainsFunc_int_int_outside_1 (N : Nat) (a0 : (List Int)) (a1 : Int) : Option (Bool) :=
 Option.bind (p_slices_IndexFunc_int_int_outside_1 N a0 a1) fun r1 =>
 some (decide (r1 ≥ 0))

theorem slices_ContainsFunc_int_int_outside_1_ok {N : Nat} {a0 : (List Int)} {a1 : Int} {r : Bool} (h : p_slices_ContainsFunc_int_int_outside_1 N a0 a1 = some r) : FnM Tryz.prog 225 [] [(eL 1 j64 a0), (.fn (.func 226) [] [(.im (j64 a1))])] (eB r) [] := by
 unfold p_slices_ContainsFunc_int_int_outside_1 at h
 refine At.fn m_no hT hmo (m := 9) (lo := 0) (rs := [.tmp 4]) Tryz.func225 rfl rfl h ?_
 refine At.b 3 (fun _ e => big_call [] (slices_IndexFunc_int_int_outside_1_ok e) slices_IndexFunc_int_int_outside_1_ok_c) fun r1 => ?_
 apply rt; exact At.r 2

theorem slices_ContainsFunc_int_int_outside_1_ok_c : callable Tryz.prog 225 := ⟨_, Tryz.func225, by decide, rfl⟩

def m_asset_outside : Nat → Bool := imL [2]

def p_asset_outside (N : Nat) (a0 : Int) (a1 : (List Int)) : Option (Bool) :=
 Option.bind (p_slices_ContainsFunc_int_int_outside_1 N a1 a0) fun r1 =>
 some r1

theorem asset_outside_ok {N : Nat} {a0 : Int} {a1 : (List Int)} {r : Bool} (h : p_asset_outside N a0 a1 = some r) : FnM Tryz.prog 206 [] [(j64 a0), (eL 1 j64 a1)] (eB r) [] := by
 unfold p_asset_outside at h
 refine At.fn m_asset_outside hT hmo (m := 8) (lo := 0) (rs := [.tmp 4]) Tryz.func206 rfl rfl h ?_
 refine At.o 3 (big_mkf (x := (.fn (.func 226) [] [(.im (j64 a0))])) (by kernel_rfl) (by kernel_rfl)) ?_
 refine At.b 0 (fun _ e => big_call [] (slices_ContainsFunc_int_int_outside_1_ok e) slices_ContainsFunc_int_int_outside_1_ok_c) fun r1 => ?_
 apply rt; exact At.r 1

theorem asset_outside_ok_c : callable Tryz.prog 206 := ⟨_, Tryz.func206, by decide, rfl⟩

def m_asset_Material : Nat → Bool := imL [1]

def p_asset_Material (N : Nat) (a0 : S_api_Material) : Option (Int) :=
 Option.bind (Option.bind (p_asset_outside N 4 ([a0.gKind])) fun r2 =>
 cond r2 (
  some true) (
  Option.bind (idx a0.gColor.toList 0) fun e3 =>
  Option.bind (idx a0.gColor.toList 1) fun e4 =>
  Option.bind (idx a0.gColor.toList 2) fun e5 =>
  Option.bind (p_asset_outside N 65535 ([e3, e4, e5, a0.gRough])) fun r6 =>
  some r6)) fun p1 =>
 cond p1 (some 5) (some 0)

theorem asset_Material_ok {N : Nat} {a0 : S_api_Material} {r : Int} (h : p_asset_Material N a0 = some r) : FnM Tryz.prog 176 [] [(S_api_Material.enc a0)] (j64 r) [] := by
 unfold p_asset_Material at h
 refine At.fn m_asset_Material hT hmo (m := 22) (lo := 0) (rs := [.tmp 2]) Tryz.func176 rfl rfl h ?_
 refine At.j 2 0 (fun p1 => ⟨[en 21 (eB p1)], []⟩) (fun p1 => ?_) fun p1 => ?_
 ·refine At.o 2 (big_row hT (x := (.sl 1 1 [(j64 a0.gKind)]))) ?_
  refine At.b 0 (fun _ e => big_call [] (asset_outside_ok e) asset_outside_ok_c) fun r2 => ?_
  refine At.s 7 1 ?_ ?_
  ·refine At.g [7] 14 ?_
   apply rt; exact At.jn 0
  ·refine At.g [7] 1 ?_
   refine At.b 0 (fun _ e => big_adI hT (N := 3) (k := 1) j64 a0.gColor e) fun e3 => ?_
   refine At.g [7] 2 ?_
   refine At.b 0 (fun _ e => big_adI hT (N := 3) (k := 1) j64 a0.gColor e) fun e4 => ?_
   refine At.g [7] 2 ?_
   refine At.b 0 (fun _ e => big_adI hT (N := 3) (k := 1) j64 a0.gColor e) fun e5 => ?_
   refine At.g [7] 3 ?_
   refine At.o 0 (big_row hT (x := (.sl 1 4 [(j64 e3), (j64 e4), (j64 e5), (j64 a0.gRough)]))) ?_
   refine At.b 0 (fun _ e => big_call [] (asset_outside_ok e) asset_outside_ok_c) fun r6 => ?_
   refine At.g [7] 1 ?_
   apply rt; exact At.jn 0
 ·refine At.c 0 ?_ ?_
  ·apply rt; exact At.r 1
  ·apply rt; exact At.r 1

theorem asset_Material_ok_c : callable Tryz.prog 176 := ⟨_, Tryz.func176, by decide, rfl⟩

def m_asset_Light_1 : Nat → Bool := imL [1]

def p_asset_Light_1 (N : Nat) (a0 : S_api_Point) : Option (Bool) :=
 Option.bind (letO (decide ((imax (imax a0.gX a0.gY) a0.gZ) > 4096)) fun x2 =>
 cond x2 (
  some true) (
  letO (decide ((imin (imin a0.gX a0.gY) a0.gZ) < (-4096))) fun x3 =>
  some x3)) fun p1 =>
 some p1

theorem asset_Light_1_ok {N : Nat} {a0 : S_api_Point} {r : Bool} (h : p_asset_Light_1 N a0 = some r) : FnM Tryz.prog 207 [] [(S_api_Point.enc a0)] (eB r) [] := by
 unfold p_asset_Light_1 at h
 refine At.fn m_asset_Light_1 hT hmo (m := 21) (lo := 0) (rs := [.tmp 2]) Tryz.func207 rfl rfl h ?_
 refine At.j 2 0 (fun p1 => ⟨[en 2 (eB p1)], []⟩) (fun p1 => ?_) fun p1 => ?_
 ·refine At.o 6 (big_max3 (k := .i64) (i := a0.gX) (j := a0.gY) (l := a0.gZ) (by kernel_rfl) (by kernel_rfl)) ?_
  refine lx ?_; intro x2
  refine At.s 11 2 ?_ ?_
  ·refine At.g [11] 10 ?_
   apply rt; exact At.jn 0
  ·refine At.g [11] 6 ?_
   refine At.o 0 (big_min3 (k := .i64) (i := a0.gX) (j := a0.gY) (l := a0.gZ) (by kernel_rfl) (by kernel_rfl)) ?_
   refine lx ?_; intro x3
   refine At.g [11] 3 ?_
   apply rt; exact At.jn 0
 ·apply rt; exact At.r 0

theorem asset_Light_1_ok_c : callable Tryz.prog 207 := ⟨_, Tryz.func207, by decide, rfl⟩

def m_asset_Light : Nat → Bool := imL [1]

def p_asset_Light (N : Nat) (a0 : S_api_Light) : Option (Int) :=
 Option.bind (Option.bind (p_asset_outside N 2 ([a0.gKind])) fun r2 =>
 cond r2 (
  some true) (
  Option.bind (slcO a0.gColor.toList 0 3) fun s3 =>
  Option.bind (p_asset_outside N 1048576 s3) fun r4 =>
  some r4)) fun p1 =>
 cond p1 (
  some 5) (
  Option.bind (Option.bind (p_asset_Light_1 N a0.gAt) fun r6 =>
  cond r6 (
   some true) (
   Option.bind (p_asset_Light_1 N a0.gU) fun r7 =>
   cond r7 (
    some true) (
    Option.bind (p_asset_Light_1 N a0.gV) fun r8 =>
    some r8))) fun p5 =>
  cond p5 (
   some 8) (
   Option.bind (cond (a0.gKind == 2) (
    cond (!(S_api_Point.eq a0.gAt (S_api_Point.mk 0 0 0))) (
     some (Sum.inr 5)) (
     Option.bind (letO (!(S_api_Point.eq a0.gU (S_api_Point.mk 0 0 0))) fun x11 =>
     cond x11 (
      some true) (
      some (!(S_api_Point.eq a0.gV (S_api_Point.mk 0 0 0))))) fun p10 =>
     cond p10 (some (Sum.inr 5)) (some (Sum.inl (()))))) (
    cond (a0.gKind == 0) (
     Option.bind (letO (!(S_api_Point.eq a0.gU (S_api_Point.mk 0 0 0))) fun x13 =>
     cond x13 (
      some true) (
      some (!(S_api_Point.eq a0.gV (S_api_Point.mk 0 0 0))))) fun p12 =>
     cond p12 (some (Sum.inr 5)) (some (Sum.inl (())))) (
     some (Sum.inl (()))))) fun o => sumC o (fun p9 =>
    some 0) (fun r => some r)))

theorem asset_Light_ok {N : Nat} {a0 : S_api_Light} {r : Int} (h : p_asset_Light N a0 = some r) : FnM Tryz.prog 177 [] [(S_api_Light.enc a0)] (j64 r) [] := by
 unfold p_asset_Light at h
 refine At.fn m_asset_Light hT hmo (m := 53) (lo := 0) (rs := [.tmp 2]) Tryz.func177 rfl rfl h ?_
 refine At.j 6 0 (fun p1 => ⟨[en 1 (.im (S_api_Light.enc a0)), en 3 (.fn (.func 207) [] []), en 4 (.ref 0 [] 0), en 6 (eB p1)], [.var (.st 3 [(j64 0), (j64 0), (j64 0)])]⟩) (fun p1 => ?_) fun p1 => ?_
 ·refine At.o 2 (big_row hT (x := (.sl 1 1 [(j64 a0.gKind)]))) ?_
  refine At.b 0 (fun _ e => big_call [] (asset_outside_ok e) asset_outside_ok_c) fun r2 => ?_
  refine At.s 11 1 ?_ ?_
  ·refine At.g [11] 5 ?_
   apply rt; exact At.jn 0
  ·refine At.g [11] 1 ?_
   refine At.b 0 (fun _ e => big_slI hT (N := 3) (k := 1) j64 a0.gColor e) fun s3 => ?_
   refine At.b 0 (fun _ e => big_call [] (asset_outside_ok e) asset_outside_ok_c) fun r4 => ?_
   refine At.g [11] 2 ?_
   apply rt; exact At.jn 0
 ·refine At.c 0 ?_ ?_
  ·apply rt; exact At.r 1
  ·refine At.j 0 0 (fun p5 => ⟨[en 1 (.im (S_api_Light.enc a0)), en 4 (.ref 0 [] 0), en 16 (eB p5)], [.var (.st 3 [(j64 0), (j64 0), (j64 0)])]⟩) (fun p5 => ?_) fun p5 => ?_
   ·refine At.b 3 (fun _ e => big_call [] (asset_Light_1_ok e) asset_Light_1_ok_c) fun r6 => ?_
    refine At.s 21 1 ?_ ?_
    ·refine At.g [21, 27] 12 ?_
     apply rt; exact At.jn 0
    ·refine At.g [21] 3 ?_
     refine At.b 0 (fun _ e => big_call [] (asset_Light_1_ok e) asset_Light_1_ok_c) fun r7 => ?_
     refine At.g [21] 2 ?_
     refine At.s 27 0 ?_ ?_
     ·refine At.g [27] 6 ?_
      apply rt; exact At.jn 0
     ·refine At.g [27] 3 ?_
      refine At.b 0 (fun _ e => big_call [] (asset_Light_1_ok e) asset_Light_1_ok_c) fun r8 => ?_
      refine At.g [27] 2 ?_
      apply rt; exact At.jn 0
   ·refine At.c 0 ?_ ?_
    ·apply rt; exact At.r 1
    ·refine At.js 0 1 (fun p9 => ⟨[], [.var (.st 3 [(j64 0), (j64 0), (j64 0)])]⟩) (fun op9 g9 => ?_) fun p9 => ?_
     ·refine At.c 4 ?_ ?_
      ·refine At.o 3 (big_neq eqT_41 (a0.gAt : S_api_Point) (S_api_Point.mk 0 0 0 : S_api_Point) (by kernel_rfl) (by kernel_rfl) (fun _ => rfl) (fun _ => rfl) (by kernel_rfl) (by kernel_rfl)) ?_
       refine At.c 0 ?_ ?_
       ·rintro ⟨⟩
        obtain rfl := sum_e g9
        exact At.r 1
       ·refine At.j 0 0 (fun p10 => ⟨[en 52 (eB p10)], [.var (.st 3 [(j64 0), (j64 0), (j64 0)])]⟩) (fun p10 => ?_) fun p10 => ?_
        ·refine At.o 3 (big_neq eqT_41 (a0.gU : S_api_Point) (S_api_Point.mk 0 0 0 : S_api_Point) (by kernel_rfl) (by kernel_rfl) (fun _ => rfl) (fun _ => rfl) (by kernel_rfl) (by kernel_rfl)) ?_
         refine lx ?_; intro x11
         refine At.s 47 1 ?_ ?_
         ·refine At.g [47] 5 ?_
          apply rt; exact At.jn 0
         ·refine At.g [47] 3 ?_
          refine At.o 0 (big_neq eqT_41 (a0.gV : S_api_Point) (S_api_Point.mk 0 0 0 : S_api_Point) (by kernel_rfl) (by kernel_rfl) (fun _ => rfl) (fun _ => rfl) (by kernel_rfl) (by kernel_rfl)) ?_
          refine At.g [47] 1 ?_
          apply rt; exact At.jn 0
        ·refine At.c 0 ?_ ?_
         ·rintro ⟨⟩
          obtain rfl := sum_e g9
          exact At.r 1
         ·apply rt; exact At.jsn 0
      ·refine At.c 2 ?_ ?_
       ·refine At.j 0 0 (fun p12 => ⟨[en 52 (eB p12)], [.var (.st 3 [(j64 0), (j64 0), (j64 0)])]⟩) (fun p12 => ?_) fun p12 => ?_
        ·refine At.o 3 (big_neq eqT_41 (a0.gU : S_api_Point) (S_api_Point.mk 0 0 0 : S_api_Point) (by kernel_rfl) (by kernel_rfl) (fun _ => rfl) (fun _ => rfl) (by kernel_rfl) (by kernel_rfl)) ?_
         refine lx ?_; intro x13
         refine At.s 47 1 ?_ ?_
         ·refine At.g [47] 5 ?_
          apply rt; exact At.jn 0
         ·refine At.g [47] 3 ?_
          refine At.o 0 (big_neq eqT_41 (a0.gV : S_api_Point) (S_api_Point.mk 0 0 0 : S_api_Point) (by kernel_rfl) (by kernel_rfl) (fun _ => rfl) (fun _ => rfl) (by kernel_rfl) (by kernel_rfl)) ?_
          refine At.g [47] 1 ?_
          apply rt; exact At.jn 0
        ·refine At.c 0 ?_ ?_
         ·rintro ⟨⟩
          obtain rfl := sum_e g9
          exact At.r 1
         ·apply rt; exact At.jsn 0
       ·apply rt; exact At.jsn 0
     ·apply rt; exact At.r 1

theorem asset_Light_ok_c : callable Tryz.prog 177 := ⟨_, Tryz.func177, by decide, rfl⟩

def m_asset_own : Nat → Bool := imL [1]

def p_asset_own (N : Nat) (a0 : S_api_Asset) : Option (Int) :=
 cond (a0.gKind == 1) (
  Option.bind (p_mesh_Check N a0.gMesh) fun r1 =>
  some r1) (
  cond (a0.gKind == 2) (
   Option.bind (p_texture_Check N a0.gTexture) fun r2 =>
   some r2) (
   cond (a0.gKind == 3) (
    Option.bind (p_asset_Material N a0.gMaterial) fun r3 =>
    some r3) (
    cond (a0.gKind == 4) (
     Option.bind (p_asset_Light N a0.gLight) fun r4 =>
     some r4) (
     some 12))))

theorem asset_own_ok {N : Nat} {a0 : S_api_Asset} {r : Int} (h : p_asset_own N a0 = some r) : FnM Tryz.prog 125 [] [(S_api_Asset.enc a0)] (j64 r) [] := by
 unfold p_asset_own at h
 refine At.fn m_asset_own hT hmo (m := 25) (lo := 0) (rs := [.tmp 2]) Tryz.func125 rfl rfl h ?_
 refine At.c 6 ?_ ?_
 ·refine At.b 2 (fun _ e => big_call [] (mesh_Check_ok e) mesh_Check_ok_c) fun r1 => ?_
  apply rt; exact At.r 1
 ·refine At.c 2 ?_ ?_
  ·refine At.b 2 (fun _ e => big_call [] (texture_Check_ok e) texture_Check_ok_c) fun r2 => ?_
   apply rt; exact At.r 1
  ·refine At.c 2 ?_ ?_
   ·refine At.b 2 (fun _ e => big_call [] (asset_Material_ok e) asset_Material_ok_c) fun r3 => ?_
    apply rt; exact At.r 1
   ·refine At.c 2 ?_ ?_
    ·refine At.b 2 (fun _ e => big_call [] (asset_Light_ok e) asset_Light_ok_c) fun r4 => ?_
     apply rt; exact At.r 1
    ·apply rt; exact At.r 1

theorem asset_own_ok_c : callable Tryz.prog 125 := ⟨_, Tryz.func125, by decide, rfl⟩

def p_asset_bare (N : Nat) (a0 : S_api_Asset) : Option (S_api_Asset) :=
 Option.bind (cond (a0.gKind == 1) (
  some (([], [], [], a0.gTexture.gSide, a0.gTexture.gTexels, a0.gMaterial.gKind, a0.gMaterial.gColor, a0.gMaterial.gRough, a0.gLight.gKind, a0.gLight.gColor, a0.gLight.gAt.gX, a0.gLight.gAt.gY, a0.gLight.gAt.gZ, a0.gLight.gU.gX, a0.gLight.gU.gY, a0.gLight.gU.gZ, a0.gLight.gV.gX, a0.gLight.gV.gY, a0.gLight.gV.gZ))) (
  cond (a0.gKind == 2) (
   some ((a0.gMesh.gVerts, a0.gMesh.gUvs, a0.gMesh.gTris, 0, [], a0.gMaterial.gKind, a0.gMaterial.gColor, a0.gMaterial.gRough, a0.gLight.gKind, a0.gLight.gColor, a0.gLight.gAt.gX, a0.gLight.gAt.gY, a0.gLight.gAt.gZ, a0.gLight.gU.gX, a0.gLight.gU.gY, a0.gLight.gU.gZ, a0.gLight.gV.gX, a0.gLight.gV.gY, a0.gLight.gV.gZ))) (
   cond (a0.gKind == 3) (
    some ((a0.gMesh.gVerts, a0.gMesh.gUvs, a0.gMesh.gTris, a0.gTexture.gSide, a0.gTexture.gTexels, 0, #v[0, 0, 0], 0, a0.gLight.gKind, a0.gLight.gColor, a0.gLight.gAt.gX, a0.gLight.gAt.gY, a0.gLight.gAt.gZ, a0.gLight.gU.gX, a0.gLight.gU.gY, a0.gLight.gU.gZ, a0.gLight.gV.gX, a0.gLight.gV.gY, a0.gLight.gV.gZ))) (
    cond (a0.gKind == 4) (
     some ((a0.gMesh.gVerts, a0.gMesh.gUvs, a0.gMesh.gTris, a0.gTexture.gSide, a0.gTexture.gTexels, a0.gMaterial.gKind, a0.gMaterial.gColor, a0.gMaterial.gRough, 0, #v[0, 0, 0], 0, 0, 0, 0, 0, 0, 0, 0, 0))) (
     some ((a0.gMesh.gVerts, a0.gMesh.gUvs, a0.gMesh.gTris, a0.gTexture.gSide, a0.gTexture.gTexels, a0.gMaterial.gKind, a0.gMaterial.gColor, a0.gMaterial.gRough, a0.gLight.gKind, a0.gLight.gColor, a0.gLight.gAt.gX, a0.gLight.gAt.gY, a0.gLight.gAt.gZ, a0.gLight.gU.gX, a0.gLight.gU.gY, a0.gLight.gU.gZ, a0.gLight.gV.gX, a0.gLight.gV.gY, a0.gLight.gV.gZ))))))) fun p1 =>
 some (S_api_Asset.mk a0.gKind (S_api_Mesh.mk p1.1 p1.2.1 p1.2.2.1) (S_api_Texture.mk p1.2.2.2.1 p1.2.2.2.2.1) (S_api_Material.mk p1.2.2.2.2.2.1 p1.2.2.2.2.2.2.1 p1.2.2.2.2.2.2.2.1) (S_api_Light.mk p1.2.2.2.2.2.2.2.2.1 p1.2.2.2.2.2.2.2.2.2.1 (S_api_Point.mk p1.2.2.2.2.2.2.2.2.2.2.1 p1.2.2.2.2.2.2.2.2.2.2.2.1 p1.2.2.2.2.2.2.2.2.2.2.2.2.1) (S_api_Point.mk p1.2.2.2.2.2.2.2.2.2.2.2.2.2.1 p1.2.2.2.2.2.2.2.2.2.2.2.2.2.2.1 p1.2.2.2.2.2.2.2.2.2.2.2.2.2.2.2.1) (S_api_Point.mk p1.2.2.2.2.2.2.2.2.2.2.2.2.2.2.2.2.1 p1.2.2.2.2.2.2.2.2.2.2.2.2.2.2.2.2.2.1 p1.2.2.2.2.2.2.2.2.2.2.2.2.2.2.2.2.2.2)))

theorem asset_bare_ok {N : Nat} {a0 : S_api_Asset} {r : S_api_Asset} (h : p_asset_bare N a0 = some r) : FnM Tryz.prog 126 [] [(S_api_Asset.enc a0)] (S_api_Asset.enc r) [] := by
 unfold p_asset_bare at h
 refine At.fn m_no hT hmo (m := 22) (lo := 0) (rs := [.cell 2 45]) Tryz.func126 rfl rfl h ?_
 refine At.j 2 1 (fun p1 => ⟨[en 1 (.ref 0 [] 0), en 2 (.ref 1 [] 0)], [.var (.st 24 [(j64 a0.gKind), (.st 3 [(eL 3 S_api_Point.enc p1.1), (eL 2 (eA 2 1 j64) p1.2.1), (eL 3 (eA 3 1 j64) p1.2.2.1)]), (.st 2 [(j64 p1.2.2.2.1), (eL 3 (eA 3 1 j64) p1.2.2.2.2.1)]), (.st 5 [(j64 p1.2.2.2.2.2.1), (eA 3 1 j64 p1.2.2.2.2.2.2.1), (j64 p1.2.2.2.2.2.2.2.1)]), (.st 13 [(j64 p1.2.2.2.2.2.2.2.2.1), (eA 3 1 j64 p1.2.2.2.2.2.2.2.2.2.1), (.st 3 [(j64 p1.2.2.2.2.2.2.2.2.2.2.1), (j64 p1.2.2.2.2.2.2.2.2.2.2.2.1), (j64 p1.2.2.2.2.2.2.2.2.2.2.2.2.1)]), (.st 3 [(j64 p1.2.2.2.2.2.2.2.2.2.2.2.2.2.1), (j64 p1.2.2.2.2.2.2.2.2.2.2.2.2.2.2.1), (j64 p1.2.2.2.2.2.2.2.2.2.2.2.2.2.2.2.1)]), (.st 3 [(j64 p1.2.2.2.2.2.2.2.2.2.2.2.2.2.2.2.2.1), (j64 p1.2.2.2.2.2.2.2.2.2.2.2.2.2.2.2.2.2.1), (j64 p1.2.2.2.2.2.2.2.2.2.2.2.2.2.2.2.2.2.2)])])]), .var cv_4]⟩) (fun p1 => ?_) fun p1 => ?_
 ·refine At.c 4 ?_ ?_
  ·apply rt; exact At.jn 3
  ·refine At.c 2 ?_ ?_
   ·apply rt; exact At.jn 3
   ·refine At.c 2 ?_ ?_
    ·apply rt; exact At.jn 3
    ·refine At.c 2 ?_ ?_
     ·apply rt; exact At.jn 3
     ·apply rt; exact At.jn 0
 ·apply rt; exact At.r 2

theorem asset_bare_ok_c : callable Tryz.prog 126 := ⟨_, Tryz.func126, by decide, rfl⟩

def p_asset_alike_api_Point_L1 (N : Nat) (a0 : (List S_api_Point)) (a1 : (List S_api_Point)) : Nat → Int → Option (Sum (Unit) (Bool))
 | 0, _ => none
 | k + 1, s3 =>
  letO (decide (s3 < ((a0.length : Int)))) fun x4 =>
  cond x4 (
   Option.bind (idx a0 s3) fun e5 =>
   Option.bind (idx a1 s3) fun e6 =>
   cond (!(S_api_Point.eq e5 e6)) (
    some (Sum.inr false)) (
    p_asset_alike_api_Point_L1 N a0 a1 k (I64 (s3 + 1)))) (
   some (Sum.inl (())))

def p_asset_alike_api_Point (N : Nat) (a0 : (List S_api_Point)) (a1 : (List S_api_Point)) : Option (Bool) :=
 letO (((a0.length : Int)) != ((a1.length : Int))) fun x1 =>
 cond x1 (
  some false) (
  Option.bind (p_asset_alike_api_Point_L1 N a0 a1 N 0) fun o => sumC o (fun p2 =>
   some true) (fun r => some r))

theorem asset_alike_api_Point_ok {N : Nat} {a0 : (List S_api_Point)} {a1 : (List S_api_Point)} {r : Bool} (h : p_asset_alike_api_Point N a0 a1 = some r) : FnM Tryz.prog 45 [] [(eL 3 S_api_Point.enc a0), (eL 3 S_api_Point.enc a1)] (eB r) [] := by
 unfold p_asset_alike_api_Point at h
 refine At.fn m_no hT hmo (m := 26) (lo := 0) (rs := [.tmp 4]) Tryz.func45 rfl rfl h ?_
 refine lx ?_; intro x1
 refine At.c 6 ?_ ?_
 ·apply rt; exact At.r 1
 ·refine At.ls 3 (fun p2 => ⟨[], []⟩) (fun op2 J k s => ∃ s3, p_asset_alike_api_Point_L1 N a0 a1 k s3 = some op2 ∧ J ⟨[en 0 (eL 3 S_api_Point.enc a0), en 1 (eL 3 S_api_Point.enc a1), en 12 (j64 ((a0.length : Int))), en 13 (j64 s3)], []⟩ s) N (fun _ h => ⟨_, h, jr⟩) (fun op2 g2 k s hI => ?_) fun p2 => ?_
  ·obtain ⟨s3, h, hj⟩ := hI
   cases k with
   | zero => cases h
   | succ k =>
    refine At.jr hj ?_ h
    refine lx ?_; intro x4
    refine At.c 1 ?_ ?_
    ·refine bi fun e5 he5 => ?_
     refine bi fun e6 he6 => ?_
     refine At.d 2 (dE1 2 (fun _ => big_idx hT S_api_Point.enc he5) (dE1 6 (fun _ => big_idx hT S_api_Point.enc he6) (dE1 8 (fun _ => big_neq eqT_41 (e5 : S_api_Point) (e6 : S_api_Point) (by kernel_rfl) (by kernel_rfl) (fun _ => rfl) (fun _ => rfl) (by kernel_rfl) (by kernel_rfl)) dE0))) dF0 ?_
     refine At.c 0 ?_ ?_
     ·rintro ⟨⟩
      obtain rfl := sum_e g2
      exact At.r 1
     ·exact fun h => At.k 2 ⟨_, h, jr⟩
    ·apply rt; exact At.xs 0
  ·apply rt; exact At.r 1

theorem asset_alike_api_Point_ok_c : callable Tryz.prog 45 := ⟨_, Tryz.func45, by decide, rfl⟩

def p_asset_alike_2_int_L1 (N : Nat) (a0 : (List (Vector Int 2))) (a1 : (List (Vector Int 2))) : Nat → Int → Option (Sum (Unit) (Bool))
 | 0, _ => none
 | k + 1, s3 =>
  letO (decide (s3 < ((a0.length : Int)))) fun x4 =>
  cond x4 (
   Option.bind (idx a0 s3) fun e5 =>
   Option.bind (idx a1 s3) fun e6 =>
   cond (!((eqV (fun a b => a == b)) e5 e6)) (
    some (Sum.inr false)) (
    p_asset_alike_2_int_L1 N a0 a1 k (I64 (s3 + 1)))) (
   some (Sum.inl (())))

def p_asset_alike_2_int (N : Nat) (a0 : (List (Vector Int 2))) (a1 : (List (Vector Int 2))) : Option (Bool) :=
 letO (((a0.length : Int)) != ((a1.length : Int))) fun x1 =>
 cond x1 (
  some false) (
  Option.bind (p_asset_alike_2_int_L1 N a0 a1 N 0) fun o => sumC o (fun p2 =>
   some true) (fun r => some r))

theorem asset_alike_2_int_ok {N : Nat} {a0 : (List (Vector Int 2))} {a1 : (List (Vector Int 2))} {r : Bool} (h : p_asset_alike_2_int N a0 a1 = some r) : FnM Tryz.prog 46 [] [(eL 2 (eA 2 1 j64) a0), (eL 2 (eA 2 1 j64) a1)] (eB r) [] := by
 unfold p_asset_alike_2_int at h
 refine At.fn m_no hT hmo (m := 26) (lo := 0) (rs := [.tmp 4]) Tryz.func46 rfl rfl h ?_
 refine lx ?_; intro x1
 refine At.c 6 ?_ ?_
 ·apply rt; exact At.r 1
 ·refine At.ls 3 (fun p2 => ⟨[], []⟩) (fun op2 J k s => ∃ s3, p_asset_alike_2_int_L1 N a0 a1 k s3 = some op2 ∧ J ⟨[en 0 (eL 2 (eA 2 1 j64) a0), en 1 (eL 2 (eA 2 1 j64) a1), en 12 (j64 ((a0.length : Int))), en 13 (j64 s3)], []⟩ s) N (fun _ h => ⟨_, h, jr⟩) (fun op2 g2 k s hI => ?_) fun p2 => ?_
  ·obtain ⟨s3, h, hj⟩ := hI
   cases k with
   | zero => cases h
   | succ k =>
    refine At.jr hj ?_ h
    refine lx ?_; intro x4
    refine At.c 1 ?_ ?_
    ·refine bi fun e5 he5 => ?_
     refine bi fun e6 he6 => ?_
     refine At.d 2 (dE1 2 (fun _ => big_idx hT (eA 2 1 j64) he5) (dE1 6 (fun _ => big_idx hT (eA 2 1 j64) he6) (dE1 8 (fun _ => big_neq eqT_128 (e5 : (Vector Int 2)) (e6 : (Vector Int 2)) (by kernel_rfl) (by kernel_rfl) (fun _ => rfl) (fun _ => rfl) (by kernel_rfl) (by kernel_rfl)) dE0))) dF0 ?_
     refine At.c 0 ?_ ?_
     ·rintro ⟨⟩
      obtain rfl := sum_e g2
      exact At.r 1
     ·exact fun h => At.k 2 ⟨_, h, jr⟩
    ·apply rt; exact At.xs 0
  ·apply rt; exact At.r 1

theorem asset_alike_2_int_ok_c : callable Tryz.prog 46 := ⟨_, Tryz.func46, by decide, rfl⟩

def p_asset_alike_3_int_L1 (N : Nat) (a0 : (List (Vector Int 3))) (a1 : (List (Vector Int 3))) : Nat → Int → Option (Sum (Unit) (Bool))
 | 0, _ => none
 | k + 1, s3 =>
  letO (decide (s3 < ((a0.length : Int)))) fun x4 =>
  cond x4 (
   Option.bind (idx a0 s3) fun e5 =>
   Option.bind (idx a1 s3) fun e6 =>
   cond (!((eqV (fun a b => a == b)) e5 e6)) (
    some (Sum.inr false)) (
    p_asset_alike_3_int_L1 N a0 a1 k (I64 (s3 + 1)))) (
   some (Sum.inl (())))

def p_asset_alike_3_int (N : Nat) (a0 : (List (Vector Int 3))) (a1 : (List (Vector Int 3))) : Option (Bool) :=
 letO (((a0.length : Int)) != ((a1.length : Int))) fun x1 =>
 cond x1 (
  some false) (
  Option.bind (p_asset_alike_3_int_L1 N a0 a1 N 0) fun o => sumC o (fun p2 =>
   some true) (fun r => some r))

theorem asset_alike_3_int_ok {N : Nat} {a0 : (List (Vector Int 3))} {a1 : (List (Vector Int 3))} {r : Bool} (h : p_asset_alike_3_int N a0 a1 = some r) : FnM Tryz.prog 47 [] [(eL 3 (eA 3 1 j64) a0), (eL 3 (eA 3 1 j64) a1)] (eB r) [] := by
 unfold p_asset_alike_3_int at h
 refine At.fn m_no hT hmo (m := 26) (lo := 0) (rs := [.tmp 4]) Tryz.func47 rfl rfl h ?_
 refine lx ?_; intro x1
 refine At.c 6 ?_ ?_
 ·apply rt; exact At.r 1
 ·refine At.ls 3 (fun p2 => ⟨[], []⟩) (fun op2 J k s => ∃ s3, p_asset_alike_3_int_L1 N a0 a1 k s3 = some op2 ∧ J ⟨[en 0 (eL 3 (eA 3 1 j64) a0), en 1 (eL 3 (eA 3 1 j64) a1), en 12 (j64 ((a0.length : Int))), en 13 (j64 s3)], []⟩ s) N (fun _ h => ⟨_, h, jr⟩) (fun op2 g2 k s hI => ?_) fun p2 => ?_
  ·obtain ⟨s3, h, hj⟩ := hI
   cases k with
   | zero => cases h
   | succ k =>
    refine At.jr hj ?_ h
    refine lx ?_; intro x4
    refine At.c 1 ?_ ?_
    ·refine bi fun e5 he5 => ?_
     refine bi fun e6 he6 => ?_
     refine At.d 2 (dE1 2 (fun _ => big_idx hT (eA 3 1 j64) he5) (dE1 6 (fun _ => big_idx hT (eA 3 1 j64) he6) (dE1 8 (fun _ => big_neq eqT_37 (e5 : (Vector Int 3)) (e6 : (Vector Int 3)) (by kernel_rfl) (by kernel_rfl) (fun _ => rfl) (fun _ => rfl) (by kernel_rfl) (by kernel_rfl)) dE0))) dF0 ?_
     refine At.c 0 ?_ ?_
     ·rintro ⟨⟩
      obtain rfl := sum_e g2
      exact At.r 1
     ·exact fun h => At.k 2 ⟨_, h, jr⟩
    ·apply rt; exact At.xs 0
  ·apply rt; exact At.r 1

theorem asset_alike_3_int_ok_c : callable Tryz.prog 47 := ⟨_, Tryz.func47, by decide, rfl⟩

def m_asset_Same : Nat → Bool := imL [2, 3]

def p_asset_Same (N : Nat) (a0 : S_api_Asset) (a1 : S_api_Asset) : Option (Bool) :=
 Option.bind (cond (a0.gKind != a1.gKind) (
  some true) (
  letO (!(S_api_Material.eq a0.gMaterial a1.gMaterial)) fun x2 =>
  cond x2 (
   some true) (
   letO (!(S_api_Light.eq a0.gLight a1.gLight)) fun x3 =>
   letO (a0.gTexture.gSide != a1.gTexture.gSide) fun x4 =>
   some (cond x3 true x4)))) fun p1 =>
 cond p1 (
  some false) (
  Option.bind (Option.bind (p_asset_alike_api_Point N a0.gMesh.gVerts a1.gMesh.gVerts) fun r6 =>
  cond r6 (
   Option.bind (p_asset_alike_2_int N a0.gMesh.gUvs a1.gMesh.gUvs) fun r7 =>
   cond r7 (
    Option.bind (p_asset_alike_3_int N a0.gMesh.gTris a1.gMesh.gTris) fun r8 =>
    cond r8 (
     Option.bind (p_asset_alike_3_int N a0.gTexture.gTexels a1.gTexture.gTexels) fun r9 =>
     some r9) (
     some false)) (
    some false)) (
   some false)) fun p5 =>
  some p5)

theorem asset_Same_ok {N : Nat} {a0 : S_api_Asset} {a1 : S_api_Asset} {r : Bool} (h : p_asset_Same N a0 a1 = some r) : FnM Tryz.prog 25 [] [(S_api_Asset.enc a0), (S_api_Asset.enc a1)] (eB r) [] := by
 unfold p_asset_Same at h
 refine At.fn m_asset_Same hT hmo (m := 67) (lo := 0) (rs := [.tmp 4]) Tryz.func25 rfl rfl h ?_
 refine At.j 3 0 (fun p1 => ⟨[en 2 (.im (S_api_Asset.enc a0)), en 3 (.im (S_api_Asset.enc a1)), en 32 (eB p1)], []⟩) (fun p1 => ?_) fun p1 => ?_
 ·refine At.s 10 6 ?_ ?_
  ·refine At.g [10, 17, 24] 22 ?_
   apply rt; exact At.jn 0
  ·refine At.g [10] 4 ?_
   refine At.o 0 (big_neq eqT_39 (a0.gMaterial : S_api_Material) (a1.gMaterial : S_api_Material) (by kernel_rfl) (by kernel_rfl) (fun _ => rfl) (fun _ => rfl) (by kernel_rfl) (by kernel_rfl)) ?_
   refine lx ?_; intro x2
   refine At.g [10] 2 ?_
   refine At.s 17 0 ?_ ?_
   ·refine At.g [17, 24] 15 ?_
    apply rt; exact At.jn 0
   ·refine At.g [17] 4 ?_
    refine At.o 0 (big_neq eqT_43 (a0.gLight : S_api_Light) (a1.gLight : S_api_Light) (by kernel_rfl) (by kernel_rfl) (fun _ => rfl) (fun _ => rfl) (by kernel_rfl) (by kernel_rfl)) ?_
    refine lx ?_; intro x3
    refine lx ?_; intro x4
    refine At.g [17] 10 ?_
    apply rt; exact At.jn 0
 ·refine At.c 0 ?_ ?_
  ·apply rt; exact At.r 1
  ·refine At.j 0 0 (fun p5 => ⟨[en 4 (eB p5)], []⟩) (fun p5 => ?_) fun p5 => ?_
   ·refine At.b 6 (fun _ e => big_call [] (asset_alike_api_Point_ok e) asset_alike_api_Point_ok_c) fun r6 => ?_
    refine At.s 40 1 ?_ ?_
    ·refine At.g [40] 6 ?_
     refine At.b 0 (fun _ e => big_call [] (asset_alike_2_int_ok e) asset_alike_2_int_ok_c) fun r7 => ?_
     refine At.g [40] 2 ?_
     refine At.s 49 0 ?_ ?_
     ·refine At.g [49] 6 ?_
      refine At.b 0 (fun _ e => big_call [] (asset_alike_3_int_ok e) asset_alike_3_int_ok_c) fun r8 => ?_
      refine At.g [49] 2 ?_
      refine At.s 58 0 ?_ ?_
      ·refine At.g [58] 6 ?_
       refine At.b 0 (fun _ e => big_call [] (asset_alike_3_int_ok e) asset_alike_3_int_ok_c) fun r9 => ?_
       refine At.g [58] 2 ?_
       apply rt; exact At.jn 0
      ·refine At.g [58] 9 ?_
       apply rt; exact At.jn 0
     ·refine At.g [49, 58] 18 ?_
      apply rt; exact At.jn 0
    ·refine At.g [40, 49, 58] 27 ?_
     apply rt; exact At.jn 0
   ·apply rt; exact At.r 0

theorem asset_Same_ok_c : callable Tryz.prog 25 := ⟨_, Tryz.func25, by decide, rfl⟩

def p_codec_Signed_L1 (N : Nat) (a2 : (List Int)) (a1 : Int) : Nat → (List Int) → Int → Option (Sum ((List Int)) ((List Int) × Int))
 | 0, _, _ => none
 | k + 1, s3, s4 =>
  letO (decide (s4 < ((a2.length : Int)))) fun x5 =>
  cond x5 (
   Option.bind (idx a2 s4) fun e6 =>
   letO (I64 (64 - (I64 (8 * a1)))) fun x7 =>
   Option.bind (shlO .i64 e6 x7) fun x8 =>
   letO (I64 (64 - (I64 (8 * a1)))) fun x9 =>
   Option.bind (shrO .i64 x8 x9) fun x10 =>
   cond (x10 != e6) (
    some (Sum.inr (([], 3)))) (
    letO (I64 (64 - (I64 (8 * a1)))) fun x11 =>
    Option.bind (shlO .u64 (U64 e6) x11) fun x12 =>
    letO (I64 (64 - (I64 (8 * a1)))) fun x13 =>
    Option.bind (shrO .u64 x12 x13) fun x14 =>
    Option.bind (appO 8 s3 (([x14] : List Int))) fun z15 =>
    p_codec_Signed_L1 N a2 a1 k z15 (I64 (s4 + 1)))) (
   some (Sum.inl s3))

def p_codec_Signed (N : Nat) (a0 : (List Int)) (a1 : Int) (a2 : (List Int)) : Option ((List Int) × Int) :=
 letO (cond (decide (a1 < 1)) true (decide (a1 > 8))) fun x1 =>
 cond x1 (
  some (([], 2))) (
  Option.bind (p_codec_Signed_L1 N a2 a1 N [] 0) fun o => sumC o (fun p2 =>
   Option.bind (p_codec_Put N a0 a1 p2) fun r16 =>
   some ((r16.1, r16.2))) (fun r => some r))

theorem codec_Signed_ok {N : Nat} {a0 : (List Int)} {a1 : Int} {a2 : (List Int)} {r : (List Int) × Int} (h : p_codec_Signed N a0 a1 a2 = some r) : FnM Tryz.prog 130 [] [(eL 1 k8 a0), (j64 a1), (eL 1 j64 a2)] (.tup [(eO 0 1 k8 r.1), (j64 r.2)]) [.tail (r.1.length * 1)] := by
 unfold p_codec_Signed at h
 refine At.fn m_no hT hmo (m := 56) (lo := 0) (rs := [.tmp 6, .tmp 7]) Tryz.func130 rfl rfl h ?_
 refine lx ?_; intro x1
 refine At.c 8 ?_ ?_
 ·refine At.ownn 2 6 1 ?_
  apply rt; exact At.r 0
 ·refine At.ownn 4 8 1 ?_
  refine At.ls 0 (fun p2 => ⟨[en 0 (eL 1 k8 a0), en 1 (j64 a1), en 8 (eO 0 1 k64 p2)], [.tail (p2.length * 1)]⟩) (fun op2 J k s => ∃ s3 s4, p_codec_Signed_L1 N a2 a1 k s3 s4 = some op2 ∧ J ⟨[en 0 (eL 1 k8 a0), en 1 (j64 a1), en 8 (eO 0 1 k64 s3), en 18 (eL 1 j64 a2), en 19 (j64 ((a2.length : Int))), en 20 (j64 s4)], [.tail (s3.length * 1)]⟩ s) N (fun _ h => ⟨_, _, h, jr⟩) (fun op2 g2 k s hI => ?_) fun p2 => ?_
  ·obtain ⟨s3, s4, h, hj⟩ := hI
   cases k with
   | zero => cases h
   | succ k =>
    refine At.jr hj ?_ h
    refine lx ?_; intro x5
    refine At.c 1 ?_ ?_
    ·refine At.b 0 (fun _ e => big_idx hT j64 e) fun e6 => ?_
     refine lx ?_; intro x7
     refine At.b 6 (fun _ e => big_shl hT (k' := .i64) e (by kernel_rfl) (by kernel_rfl)) fun x8 => ?_
     refine lx ?_; intro x9
     refine At.b 3 (fun _ e => big_shr hT (k' := .i64) e (by kernel_rfl) (by kernel_rfl)) fun x10 => ?_
     refine At.c 4 ?_ ?_
     ·refine At.ownn 2 6 1 ?_
      refine At.sw 0 1 0 ?_
      rintro ⟨⟩
      obtain rfl := sum_e g2
      exact At.r 0
     ·refine lx ?_; intro x11
      refine At.b 6 (fun _ e => big_shl hT (k' := .i64) e (by kernel_rfl) (by kernel_rfl)) fun x12 => ?_
      refine lx ?_; intro x13
      refine At.b 3 (fun _ e => big_shr hT (k' := .i64) e (by kernel_rfl) (by kernel_rfl)) fun x14 => ?_
      refine At.o 0 (big_row hT (x := (.sl 1 1 [(k64 x14)]))) ?_
      refine At.b 0 (fun _ e => big_app hT k64 (id := 0) (k := 1) e) fun z15 => ?_
      exact fun h => At.k 3 ⟨_, _, h, jr⟩
    ·apply rt; exact At.xs 0
  ·refine At.b 3 (fun _ e => big_call [] (codec_Put_ok e) codec_Put_ok_c) fun r16 => ?_
   refine At.sw 4 1 0 ?_
   apply rt; exact At.r 0

theorem codec_Signed_ok_c : callable Tryz.prog 130 := ⟨_, Tryz.func130, by decide, rfl⟩

end Go.UK

