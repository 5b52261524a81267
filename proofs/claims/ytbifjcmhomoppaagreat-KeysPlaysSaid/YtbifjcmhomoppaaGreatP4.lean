/- A part of the proof: what the functions of the program compute. -/
import Derived.Test.YtbifjcmhomoppaaGreatP3
namespace Go.UK
open Go Go.Proofs
set_option maxRecDepth 20000
set_option maxHeartbeats 40000000
set_option linter.all false

attribute [local irreducible] adv putPt dropPt setPt brPt litPt cutPt restPt popN stPt envPt boxPt opPt opP2t ksPt lPt owp awl aw FnM NatFn opS Stab TOK Big
def m_asset_Light_1 : Nat → Bool := imL [1]

def p_asset_Light_1 (N : Nat) (a0 : S_api_Point) : Option (Bool) :=
 Option.bind (letO (decide ((imax (imax a0.gX a0.gY) a0.gZ) > 4096)) fun x2 =>
 cond x2 (
  some true) (
  letO (decide ((imin (imin a0.gX a0.gY) a0.gZ) < (-4096))) fun x3 =>
  some x3)) fun p1 =>
 some p1

theorem asset_Light_1_ok {N a0 r} (h : p_asset_Light_1 N a0 = some r) : FnM Tryz.prog 207 [] [(S_api_Point.enc a0)] (eB r) [] := by
 unfold p_asset_Light_1 at h
 refine At.f m_asset_Light_1 hT hmo Tryz.func207 rfl h ?_
 refine At.J 2 0 [] 0 (fun p1 => ([(2, (eB p1))], [], [])) (fun p1 => ?_) fun p1 => ?_
 ·refine At.o 6 (big_max3 (k := .i64) (i := a0.gX) (j := a0.gY) (l := a0.gZ) (by kernel_rfl) (by kernel_rfl)) ?_
  refine lx ?_; intro x2
  refine At.s 11 2 ?_ ?_
  ·refine At.g [11] 10 ?_
   apply rt; exact At.jn 0
  ·refine At.g [11] 6 ?_
   refine At.o 0 (big_min3 (k := .i64) (i := a0.gX) (j := a0.gY) (l := a0.gZ) (by kernel_rfl) (by kernel_rfl)) ?_
   refine lx ?_; intro x3
   refine At.g [11] 3 ?_
   apply rt; exact At.jn 0
 ·apply rt; exact At.r 0

def m_asset_Light : Nat → Bool := imL [1]

def p_asset_Light (N : Nat) (a0 : S_api_Light) : Option (Int) :=
 Option.bind (Option.bind (p_asset_outside N 2 ([a0.gKind])) fun r2 =>
 cond r2 (
  some true) (
  Option.bind (slcO a0.gColor.toList 0 3) fun s3 =>
  Option.bind (p_asset_outside N 1048576 s3) fun r4 =>
  some r4)) fun p1 =>
 cond p1 (
  some 5) (
  Option.bind (Option.bind (p_asset_Light_1 N a0.gAt) fun r6 =>
  cond r6 (
   some true) (
   Option.bind (p_asset_Light_1 N a0.gU) fun r7 =>
   cond r7 (
    some true) (
    Option.bind (p_asset_Light_1 N a0.gV) fun r8 =>
    some r8))) fun p5 =>
  cond p5 (
   some 8) (
   Option.bind (cond (a0.gKind == 2) (
    cond (!(S_api_Point.eq a0.gAt (S_api_Point.mk 0 0 0))) (
     some (Sum.inr 5)) (
     Option.bind (letO (!(S_api_Point.eq a0.gU (S_api_Point.mk 0 0 0))) fun x11 =>
     cond x11 (
      some true) (
      some (!(S_api_Point.eq a0.gV (S_api_Point.mk 0 0 0))))) fun p10 =>
     cond p10 (some (Sum.inr 5)) (some (Sum.inl (()))))) (
    cond (a0.gKind == 0) (
     Option.bind (letO (!(S_api_Point.eq a0.gU (S_api_Point.mk 0 0 0))) fun x13 =>
     cond x13 (
      some true) (
      some (!(S_api_Point.eq a0.gV (S_api_Point.mk 0 0 0))))) fun p12 =>
     cond p12 (some (Sum.inr 5)) (some (Sum.inl (())))) (
     some (Sum.inl (()))))) fun o => sumC o (fun p9 =>
    some 0) (fun r => some r)))

theorem asset_Light_ok {N a0 r} (h : p_asset_Light N a0 = some r) : FnM Tryz.prog 177 [] [(S_api_Light.enc a0)] (j64 r) [] := by
 unfold p_asset_Light at h
 refine At.f m_asset_Light hT hmo Tryz.func177 rfl h ?_
 refine At.J 6 0 [1, 3, 4] 1 (fun p1 => ([(6, (eB p1))], [], [])) (fun p1 => ?_) fun p1 => ?_
 ·refine At.o 2 (big_row hT (x := (.sl 1 1 [(j64 a0.gKind)]))) ?_
  refine At.b 0 (fun _ e => big_C [] (asset_outside_ok e)) fun r2 => ?_
  refine At.s 11 1 ?_ ?_
  ·refine At.g [11] 5 ?_
   apply rt; exact At.jn 0
  ·refine At.g [11] 1 ?_
   refine At.b 0 (fun _ e => big_slI hT (N := 3) (k := 1) j64 a0.gColor e) fun s3 => ?_
   refine At.b 0 (fun _ e => big_C [] (asset_outside_ok e)) fun r4 => ?_
   refine At.g [11] 2 ?_
   apply rt; exact At.jn 0
 ·refine At.c 0 ?_ ?_
  ·apply rt; exact At.r 1
  ·refine At.J 0 0 [1, 4] 1 (fun p5 => ([(16, (eB p5))], [], [])) (fun p5 => ?_) fun p5 => ?_
   ·refine At.b 3 (fun _ e => big_C [] (asset_Light_1_ok e)) fun r6 => ?_
    refine At.s 21 1 ?_ ?_
    ·refine At.g [21, 27] 12 ?_
     apply rt; exact At.jn 0
    ·refine At.g [21] 3 ?_
     refine At.b 0 (fun _ e => big_C [] (asset_Light_1_ok e)) fun r7 => ?_
     refine At.g [21] 2 ?_
     refine At.s 27 0 ?_ ?_
     ·refine At.g [27] 6 ?_
      apply rt; exact At.jn 0
     ·refine At.g [27] 3 ?_
      refine At.b 0 (fun _ e => big_C [] (asset_Light_1_ok e)) fun r8 => ?_
      refine At.g [27] 2 ?_
      apply rt; exact At.jn 0
   ·refine At.c 0 ?_ ?_
    ·apply rt; exact At.r 1
    ·refine At.JS 0 1 [] 1 (fun p9 => ([], [], [])) (fun op9 g9 => ?_) fun p9 => ?_
     ·refine At.c 4 ?_ ?_
      ·refine At.o 3 (big_neq eqT_41 (a0.gAt : S_api_Point) (S_api_Point.mk 0 0 0 : S_api_Point) (by kernel_rfl) (by kernel_rfl) (fun _ => rfl) (fun _ => rfl) (by kernel_rfl) (by kernel_rfl)) ?_
       refine At.c 0 ?_ ?_
       ·intro e; apply rtS1 g9 e; exact At.r 1
       ·refine At.J 0 0 [] 1 (fun p10 => ([(52, (eB p10))], [], [])) (fun p10 => ?_) fun p10 => ?_
        ·refine At.o 3 (big_neq eqT_41 (a0.gU : S_api_Point) (S_api_Point.mk 0 0 0 : S_api_Point) (by kernel_rfl) (by kernel_rfl) (fun _ => rfl) (fun _ => rfl) (by kernel_rfl) (by kernel_rfl)) ?_
         refine lx ?_; intro x11
         refine At.s 47 1 ?_ ?_
         ·refine At.g [47] 5 ?_
          apply rt; exact At.jn 0
         ·refine At.g [47] 3 ?_
          refine At.o 0 (big_neq eqT_41 (a0.gV : S_api_Point) (S_api_Point.mk 0 0 0 : S_api_Point) (by kernel_rfl) (by kernel_rfl) (fun _ => rfl) (fun _ => rfl) (by kernel_rfl) (by kernel_rfl)) ?_
          refine At.g [47] 1 ?_
          apply rt; exact At.jn 0
        ·refine At.c 0 ?_ ?_
         ·intro e; apply rtS1 g9 e; exact At.r 1
         ·apply rt; exact At.jsn 0
      ·refine At.c 2 ?_ ?_
       ·refine At.J 0 0 [] 1 (fun p12 => ([(52, (eB p12))], [], [])) (fun p12 => ?_) fun p12 => ?_
        ·refine At.o 3 (big_neq eqT_41 (a0.gU : S_api_Point) (S_api_Point.mk 0 0 0 : S_api_Point) (by kernel_rfl) (by kernel_rfl) (fun _ => rfl) (fun _ => rfl) (by kernel_rfl) (by kernel_rfl)) ?_
         refine lx ?_; intro x13
         refine At.s 47 1 ?_ ?_
         ·refine At.g [47] 5 ?_
          apply rt; exact At.jn 0
         ·refine At.g [47] 3 ?_
          refine At.o 0 (big_neq eqT_41 (a0.gV : S_api_Point) (S_api_Point.mk 0 0 0 : S_api_Point) (by kernel_rfl) (by kernel_rfl) (fun _ => rfl) (fun _ => rfl) (by kernel_rfl) (by kernel_rfl)) ?_
          refine At.g [47] 1 ?_
          apply rt; exact At.jn 0
        ·refine At.c 0 ?_ ?_
         ·intro e; apply rtS1 g9 e; exact At.r 1
         ·apply rt; exact At.jsn 0
       ·apply rt; exact At.jsn 0
     ·apply rt; exact At.r 1

def m_asset_own : Nat → Bool := imL [1]

def p_asset_own (N : Nat) (a0 : S_api_Asset) : Option (Int) :=
 cond (a0.gKind == 1) (
  Option.bind (p_mesh_Check N a0.gMesh) fun r1 =>
  some r1) (
  cond (a0.gKind == 2) (
   Option.bind (p_texture_Check N a0.gTexture) fun r2 =>
   some r2) (
   cond (a0.gKind == 3) (
    Option.bind (p_asset_Material N a0.gMaterial) fun r3 =>
    some r3) (
    cond (a0.gKind == 4) (
     Option.bind (p_asset_Light N a0.gLight) fun r4 =>
     some r4) (
     some 12))))

theorem asset_own_ok {N a0 r} (h : p_asset_own N a0 = some r) : FnM Tryz.prog 125 [] [(S_api_Asset.enc a0)] (j64 r) [] := by
 unfold p_asset_own at h
 refine At.f m_asset_own hT hmo Tryz.func125 rfl h ?_
 refine At.c 6 ?_ ?_
 ·refine At.b 2 (fun _ e => big_C [] (mesh_Check_ok e)) fun r1 => ?_
  apply rt; exact At.r 1
 ·refine At.c 2 ?_ ?_
  ·refine At.b 2 (fun _ e => big_C [] (texture_Check_ok e)) fun r2 => ?_
   apply rt; exact At.r 1
  ·refine At.c 2 ?_ ?_
   ·refine At.b 2 (fun _ e => big_C [] (asset_Material_ok e)) fun r3 => ?_
    apply rt; exact At.r 1
   ·refine At.c 2 ?_ ?_
    ·refine At.b 2 (fun _ e => big_C [] (asset_Light_ok e)) fun r4 => ?_
     apply rt; exact At.r 1
    ·apply rt; exact At.r 1

def p_asset_bare (N : Nat) (a0 : S_api_Asset) : Option (S_api_Asset) :=
 Option.bind (cond (a0.gKind == 1) (
  some (([], [], [], a0.gTexture.gSide, a0.gTexture.gTexels, a0.gMaterial.gKind, a0.gMaterial.gColor, a0.gMaterial.gRough, a0.gLight.gKind, a0.gLight.gColor, a0.gLight.gAt.gX, a0.gLight.gAt.gY, a0.gLight.gAt.gZ, a0.gLight.gU.gX, a0.gLight.gU.gY, a0.gLight.gU.gZ, a0.gLight.gV.gX, a0.gLight.gV.gY, a0.gLight.gV.gZ))) (
  cond (a0.gKind == 2) (
   some ((a0.gMesh.gVerts, a0.gMesh.gUvs, a0.gMesh.gTris, 0, [], a0.gMaterial.gKind, a0.gMaterial.gColor, a0.gMaterial.gRough, a0.gLight.gKind, a0.gLight.gColor, a0.gLight.gAt.gX, a0.gLight.gAt.gY, a0.gLight.gAt.gZ, a0.gLight.gU.gX, a0.gLight.gU.gY, a0.gLight.gU.gZ, a0.gLight.gV.gX, a0.gLight.gV.gY, a0.gLight.gV.gZ))) (
   cond (a0.gKind == 3) (
    some ((a0.gMesh.gVerts, a0.gMesh.gUvs, a0.gMesh.gTris, a0.gTexture.gSide, a0.gTexture.gTexels, 0, #v[0, 0, 0], 0, a0.gLight.gKind, a0.gLight.gColor, a0.gLight.gAt.gX, a0.gLight.gAt.gY, a0.gLight.gAt.gZ, a0.gLight.gU.gX, a0.gLight.gU.gY, a0.gLight.gU.gZ, a0.gLight.gV.gX, a0.gLight.gV.gY, a0.gLight.gV.gZ))) (
    cond (a0.gKind == 4) (
     some ((a0.gMesh.gVerts, a0.gMesh.gUvs, a0.gMesh.gTris, a0.gTexture.gSide, a0.gTexture.gTexels, a0.gMaterial.gKind, a0.gMaterial.gColor, a0.gMaterial.gRough, 0, #v[0, 0, 0], 0, 0, 0, 0, 0, 0, 0, 0, 0))) (
     some ((a0.gMesh.gVerts, a0.gMesh.gUvs, a0.gMesh.gTris, a0.gTexture.gSide, a0.gTexture.gTexels, a0.gMaterial.gKind, a0.gMaterial.gColor, a0.gMaterial.gRough, a0.gLight.gKind, a0.gLight.gColor, a0.gLight.gAt.gX, a0.gLight.gAt.gY, a0.gLight.gAt.gZ, a0.gLight.gU.gX, a0.gLight.gU.gY, a0.gLight.gU.gZ, a0.gLight.gV.gX, a0.gLight.gV.gY, a0.gLight.gV.gZ))))))) fun p1 =>
 some (S_api_Asset.mk a0.gKind (S_api_Mesh.mk p1.1 p1.2.1 p1.2.2.1) (S_api_Texture.mk p1.2.2.2.1 p1.2.2.2.2.1) (S_api_Material.mk p1.2.2.2.2.2.1 p1.2.2.2.2.2.2.1 p1.2.2.2.2.2.2.2.1) (S_api_Light.mk p1.2.2.2.2.2.2.2.2.1 p1.2.2.2.2.2.2.2.2.2.1 (S_api_Point.mk p1.2.2.2.2.2.2.2.2.2.2.1 p1.2.2.2.2.2.2.2.2.2.2.2.1 p1.2.2.2.2.2.2.2.2.2.2.2.2.1) (S_api_Point.mk p1.2.2.2.2.2.2.2.2.2.2.2.2.2.1 p1.2.2.2.2.2.2.2.2.2.2.2.2.2.2.1 p1.2.2.2.2.2.2.2.2.2.2.2.2.2.2.2.1) (S_api_Point.mk p1.2.2.2.2.2.2.2.2.2.2.2.2.2.2.2.2.1 p1.2.2.2.2.2.2.2.2.2.2.2.2.2.2.2.2.2.1 p1.2.2.2.2.2.2.2.2.2.2.2.2.2.2.2.2.2.2)))

theorem asset_bare_ok {N a0 r} (h : p_asset_bare N a0 = some r) : FnM Tryz.prog 126 [] [(S_api_Asset.enc a0)] (S_api_Asset.enc r) [] := by
 unfold p_asset_bare at h
 refine At.f m_no hT hmo Tryz.func126 rfl h ?_
 refine At.J 2 1 [1, 2] 2 (fun p1 => ([], [(0, .var (.st 24 [(j64 a0.gKind), (.st 3 [(eL 3 S_api_Point.enc p1.1), (eL 2 (eA 2 1 j64) p1.2.1), (eL 3 (eA 3 1 j64) p1.2.2.1)]), (.st 2 [(j64 p1.2.2.2.1), (eL 3 (eA 3 1 j64) p1.2.2.2.2.1)]), (.st 5 [(j64 p1.2.2.2.2.2.1), (eA 3 1 j64 p1.2.2.2.2.2.2.1), (j64 p1.2.2.2.2.2.2.2.1)]), (.st 13 [(j64 p1.2.2.2.2.2.2.2.2.1), (eA 3 1 j64 p1.2.2.2.2.2.2.2.2.2.1), (.st 3 [(j64 p1.2.2.2.2.2.2.2.2.2.2.1), (j64 p1.2.2.2.2.2.2.2.2.2.2.2.1), (j64 p1.2.2.2.2.2.2.2.2.2.2.2.2.1)]), (.st 3 [(j64 p1.2.2.2.2.2.2.2.2.2.2.2.2.2.1), (j64 p1.2.2.2.2.2.2.2.2.2.2.2.2.2.2.1), (j64 p1.2.2.2.2.2.2.2.2.2.2.2.2.2.2.2.1)]), (.st 3 [(j64 p1.2.2.2.2.2.2.2.2.2.2.2.2.2.2.2.2.1), (j64 p1.2.2.2.2.2.2.2.2.2.2.2.2.2.2.2.2.2.1), (j64 p1.2.2.2.2.2.2.2.2.2.2.2.2.2.2.2.2.2.2)])])]))], [])) (fun p1 => ?_) fun p1 => ?_
 ·refine At.c 4 ?_ ?_
  ·apply rt; exact At.jn 3
  ·refine At.c 2 ?_ ?_
   ·apply rt; exact At.jn 3
   ·refine At.c 2 ?_ ?_
    ·apply rt; exact At.jn 3
    ·refine At.c 2 ?_ ?_
     ·apply rt; exact At.jn 3
     ·apply rt; exact At.jn 0
 ·apply rt; exact At.r 2

def p_asset_alike_api_Point_L1 (N : Nat) (a0 : (List S_api_Point)) (a1 : (List S_api_Point)) : Nat → Int → Option (Sum (Unit) (Bool))
 | 0, _ => none
 | k + 1, s3 =>
  letO (decide (s3 < ((a0.length : Int)))) fun x4 =>
  cond x4 (
   Option.bind (idx a0 s3) fun e5 =>
   Option.bind (idx a1 s3) fun e6 =>
   cond (!(S_api_Point.eq e5 e6)) (
    some (Sum.inr false)) (
    p_asset_alike_api_Point_L1 N a0 a1 k (I64 (s3 + 1)))) (
   some (Sum.inl (())))

def p_asset_alike_api_Point (N : Nat) (a0 : (List S_api_Point)) (a1 : (List S_api_Point)) : Option (Bool) :=
 letO (((a0.length : Int)) != ((a1.length : Int))) fun x1 =>
 cond x1 (
  some false) (
  Option.bind (p_asset_alike_api_Point_L1 N a0 a1 N 0) fun o => sumC o (fun p2 =>
   some true) (fun r => some r))

theorem asset_alike_api_Point_ok {N a0 a1 r} (h : p_asset_alike_api_Point N a0 a1 = some r) : FnM Tryz.prog 45 [] [(eL 3 S_api_Point.enc a0), (eL 3 S_api_Point.enc a1)] (eB r) [] := by
 unfold p_asset_alike_api_Point at h
 refine At.f m_no hT hmo Tryz.func45 rfl h ?_
 refine lx ?_; intro x1
 refine At.c 6 ?_ ?_
 ·apply rt; exact At.r 1
 ·refine At.LS 3 [] 0 (fun p2 => ([], [], [])) (fun op2 J k => ∃ s3, p_asset_alike_api_Point_L1 N a0 a1 k s3 = some op2 ∧ J [0, 1, 12] 0 [(13, (j64 s3))] [] []) N (fun _ h => ⟨_, h, jr⟩) (fun op2 g2 k s hI => ?_) fun p2 => ?_
  ·obtain ⟨s3, h, hj⟩ := hI
   cases k with
   | zero => cases h
   | succ k =>
    refine At.jr hj ?_ h
    refine lx ?_; intro x4
    refine At.c 1 ?_ ?_
    ·refine bi fun e5 he5 => ?_
     refine bi fun e6 he6 => ?_
     refine At.d 2 (dE1 2 (fun _ => big_idx hT S_api_Point.enc he5) (dE1 6 (fun _ => big_idx hT S_api_Point.enc he6) (dE1 8 (fun _ => big_neq eqT_41 (e5 : S_api_Point) (e6 : S_api_Point) (by kernel_rfl) (by kernel_rfl) (fun _ => rfl) (fun _ => rfl) (by kernel_rfl) (by kernel_rfl)) dE0))) dF0 ?_
     refine At.c 0 ?_ ?_
     ·intro e; apply rtS1 g2 e; exact At.r 1
     ·exact fun h => At.k 2 ⟨_, h, jr⟩
    ·apply rt; exact At.xs 0
  ·apply rt; exact At.r 1

def p_asset_alike_2_int_L1 (N : Nat) (a0 : (List (Vector Int 2))) (a1 : (List (Vector Int 2))) : Nat → Int → Option (Sum (Unit) (Bool))
 | 0, _ => none
 | k + 1, s3 =>
  letO (decide (s3 < ((a0.length : Int)))) fun x4 =>
  cond x4 (
   Option.bind (idx a0 s3) fun e5 =>
   Option.bind (idx a1 s3) fun e6 =>
   cond (!((eqV (fun a b => a == b)) e5 e6)) (
    some (Sum.inr false)) (
    p_asset_alike_2_int_L1 N a0 a1 k (I64 (s3 + 1)))) (
   some (Sum.inl (())))

def p_asset_alike_2_int (N : Nat) (a0 : (List (Vector Int 2))) (a1 : (List (Vector Int 2))) : Option (Bool) :=
 letO (((a0.length : Int)) != ((a1.length : Int))) fun x1 =>
 cond x1 (
  some false) (
  Option.bind (p_asset_alike_2_int_L1 N a0 a1 N 0) fun o => sumC o (fun p2 =>
   some true) (fun r => some r))

theorem asset_alike_2_int_ok {N a0 a1 r} (h : p_asset_alike_2_int N a0 a1 = some r) : FnM Tryz.prog 46 [] [(eL 2 (eA 2 1 j64) a0), (eL 2 (eA 2 1 j64) a1)] (eB r) [] := by
 unfold p_asset_alike_2_int at h
 refine At.f m_no hT hmo Tryz.func46 rfl h ?_
 refine lx ?_; intro x1
 refine At.c 6 ?_ ?_
 ·apply rt; exact At.r 1
 ·refine At.LS 3 [] 0 (fun p2 => ([], [], [])) (fun op2 J k => ∃ s3, p_asset_alike_2_int_L1 N a0 a1 k s3 = some op2 ∧ J [0, 1, 12] 0 [(13, (j64 s3))] [] []) N (fun _ h => ⟨_, h, jr⟩) (fun op2 g2 k s hI => ?_) fun p2 => ?_
  ·obtain ⟨s3, h, hj⟩ := hI
   cases k with
   | zero => cases h
   | succ k =>
    refine At.jr hj ?_ h
    refine lx ?_; intro x4
    refine At.c 1 ?_ ?_
    ·refine bi fun e5 he5 => ?_
     refine bi fun e6 he6 => ?_
     refine At.d 2 (dE1 2 (fun _ => big_idx hT (eA 2 1 j64) he5) (dE1 6 (fun _ => big_idx hT (eA 2 1 j64) he6) (dE1 8 (fun _ => big_neq eqT_128 (e5 : (Vector Int 2)) (e6 : (Vector Int 2)) (by kernel_rfl) (by kernel_rfl) (fun _ => rfl) (fun _ => rfl) (by kernel_rfl) (by kernel_rfl)) dE0))) dF0 ?_
     refine At.c 0 ?_ ?_
     ·intro e; apply rtS1 g2 e; exact At.r 1
     ·exact fun h => At.k 2 ⟨_, h, jr⟩
    ·apply rt; exact At.xs 0
  ·apply rt; exact At.r 1

def p_asset_alike_3_int_L1 (N : Nat) (a0 : (List (Vector Int 3))) (a1 : (List (Vector Int 3))) : Nat → Int → Option (Sum (Unit) (Bool))
 | 0, _ => none
 | k + 1, s3 =>
  letO (decide (s3 < ((a0.length : Int)))) fun x4 =>
  cond x4 (
   Option.bind (idx a0 s3) fun e5 =>
   Option.bind (idx a1 s3) fun e6 =>
   cond (!((eqV (fun a b => a == b)) e5 e6)) (
    some (Sum.inr false)) (
    p_asset_alike_3_int_L1 N a0 a1 k (I64 (s3 + 1)))) (
   some (Sum.inl (())))

def p_asset_alike_3_int (N : Nat) (a0 : (List (Vector Int 3))) (a1 : (List (Vector Int 3))) : Option (Bool) :=
 letO (((a0.length : Int)) != ((a1.length : Int))) fun x1 =>
 cond x1 (
  some false) (
  Option.bind (p_asset_alike_3_int_L1 N a0 a1 N 0) fun o => sumC o (fun p2 =>
   some true) (fun r => some r))

theorem asset_alike_3_int_ok {N a0 a1 r} (h : p_asset_alike_3_int N a0 a1 = some r) : FnM Tryz.prog 47 [] [(eL 3 (eA 3 1 j64) a0), (eL 3 (eA 3 1 j64) a1)] (eB r) [] := by
 unfold p_asset_alike_3_int at h
 refine At.f m_no hT hmo Tryz.func47 rfl h ?_
 refine lx ?_; intro x1
 refine At.c 6 ?_ ?_
 ·apply rt; exact At.r 1
 ·refine At.LS 3 [] 0 (fun p2 => ([], [], [])) (fun op2 J k => ∃ s3, p_asset_alike_3_int_L1 N a0 a1 k s3 = some op2 ∧ J [0, 1, 12] 0 [(13, (j64 s3))] [] []) N (fun _ h => ⟨_, h, jr⟩) (fun op2 g2 k s hI => ?_) fun p2 => ?_
  ·obtain ⟨s3, h, hj⟩ := hI
   cases k with
   | zero => cases h
   | succ k =>
    refine At.jr hj ?_ h
    refine lx ?_; intro x4
    refine At.c 1 ?_ ?_
    ·refine bi fun e5 he5 => ?_
     refine bi fun e6 he6 => ?_
     refine At.d 2 (dE1 2 (fun _ => big_idx hT (eA 3 1 j64) he5) (dE1 6 (fun _ => big_idx hT (eA 3 1 j64) he6) (dE1 8 (fun _ => big_neq eqT_37 (e5 : (Vector Int 3)) (e6 : (Vector Int 3)) (by kernel_rfl) (by kernel_rfl) (fun _ => rfl) (fun _ => rfl) (by kernel_rfl) (by kernel_rfl)) dE0))) dF0 ?_
     refine At.c 0 ?_ ?_
     ·intro e; apply rtS1 g2 e; exact At.r 1
     ·exact fun h => At.k 2 ⟨_, h, jr⟩
    ·apply rt; exact At.xs 0
  ·apply rt; exact At.r 1

def m_asset_Same : Nat → Bool := imL [2, 3]

def p_asset_Same (N : Nat) (a0 : S_api_Asset) (a1 : S_api_Asset) : Option (Bool) :=
 Option.bind (cond (a0.gKind != a1.gKind) (
  some true) (
  letO (!(S_api_Material.eq a0.gMaterial a1.gMaterial)) fun x2 =>
  cond x2 (
   some true) (
   letO (!(S_api_Light.eq a0.gLight a1.gLight)) fun x3 =>
   letO (a0.gTexture.gSide != a1.gTexture.gSide) fun x4 =>
   some (cond x3 true x4)))) fun p1 =>
 cond p1 (
  some false) (
  Option.bind (Option.bind (p_asset_alike_api_Point N a0.gMesh.gVerts a1.gMesh.gVerts) fun r6 =>
  cond r6 (
   Option.bind (p_asset_alike_2_int N a0.gMesh.gUvs a1.gMesh.gUvs) fun r7 =>
   cond r7 (
    Option.bind (p_asset_alike_3_int N a0.gMesh.gTris a1.gMesh.gTris) fun r8 =>
    cond r8 (
     Option.bind (p_asset_alike_3_int N a0.gTexture.gTexels a1.gTexture.gTexels) fun r9 =>
     some r9) (
     some false)) (
    some false)) (
   some false)) fun p5 =>
  some p5)

theorem asset_Same_ok {N a0 a1 r} (h : p_asset_Same N a0 a1 = some r) : FnM Tryz.prog 25 [] [(S_api_Asset.enc a0), (S_api_Asset.enc a1)] (eB r) [] := by
 unfold p_asset_Same at h
 refine At.f m_asset_Same hT hmo Tryz.func25 rfl h ?_
 refine At.J 3 0 [2, 3] 0 (fun p1 => ([(32, (eB p1))], [], [])) (fun p1 => ?_) fun p1 => ?_
 ·refine At.s 10 6 ?_ ?_
  ·refine At.g [10, 17, 24] 22 ?_
   apply rt; exact At.jn 0
  ·refine At.g [10] 4 ?_
   refine At.o 0 (big_neq eqT_39 (a0.gMaterial : S_api_Material) (a1.gMaterial : S_api_Material) (by kernel_rfl) (by kernel_rfl) (fun _ => rfl) (fun _ => rfl) (by kernel_rfl) (by kernel_rfl)) ?_
   refine lx ?_; intro x2
   refine At.g [10] 2 ?_
   refine At.s 17 0 ?_ ?_
   ·refine At.g [17, 24] 15 ?_
    apply rt; exact At.jn 0
   ·refine At.g [17] 4 ?_
    refine At.o 0 (big_neq eqT_43 (a0.gLight : S_api_Light) (a1.gLight : S_api_Light) (by kernel_rfl) (by kernel_rfl) (fun _ => rfl) (fun _ => rfl) (by kernel_rfl) (by kernel_rfl)) ?_
    refine lx ?_; intro x3
    refine lx ?_; intro x4
    refine At.g [17] 10 ?_
    apply rt; exact At.jn 0
 ·refine At.c 0 ?_ ?_
  ·apply rt; exact At.r 1
  ·refine At.J 0 0 [] 0 (fun p5 => ([(4, (eB p5))], [], [])) (fun p5 => ?_) fun p5 => ?_
   ·refine At.b 6 (fun _ e => big_C [] (asset_alike_api_Point_ok e)) fun r6 => ?_
    refine At.s 40 1 ?_ ?_
    ·refine At.g [40] 6 ?_
     refine At.b 0 (fun _ e => big_C [] (asset_alike_2_int_ok e)) fun r7 => ?_
     refine At.g [40] 2 ?_
     refine At.s 49 0 ?_ ?_
     ·refine At.g [49] 6 ?_
      refine At.b 0 (fun _ e => big_C [] (asset_alike_3_int_ok e)) fun r8 => ?_
      refine At.g [49] 2 ?_
      refine At.s 58 0 ?_ ?_
      ·refine At.g [58] 6 ?_
       refine At.b 0 (fun _ e => big_C [] (asset_alike_3_int_ok e)) fun r9 => ?_
       refine At.g [58] 2 ?_
       apply rt; exact At.jn 0
      ·refine At.g [58] 9 ?_
       apply rt; exact At.jn 0
     ·refine At.g [49, 58] 18 ?_
      apply rt; exact At.jn 0
    ·refine At.g [40, 49, 58] 27 ?_
     apply rt; exact At.jn 0
   ·apply rt; exact At.r 0

def p_codec_Signed_L1 (N : Nat) (a2 : (List Int)) (a1 : Int) : Nat → (List Int) → Int → Option (Sum ((List Int)) ((List Int) × Int))
 | 0, _, _ => none
 | k + 1, s3, s4 =>
  letO (decide (s4 < ((a2.length : Int)))) fun x5 =>
  cond x5 (
   Option.bind (idx a2 s4) fun e6 =>
   letO (I64 (64 - (I64 (8 * a1)))) fun x7 =>
   Option.bind (shlO .i64 e6 x7) fun x8 =>
   letO (I64 (64 - (I64 (8 * a1)))) fun x9 =>
   Option.bind (shrO .i64 x8 x9) fun x10 =>
   cond (x10 != e6) (
    some (Sum.inr (([], 3)))) (
    letO (I64 (64 - (I64 (8 * a1)))) fun x11 =>
    Option.bind (shlO .u64 (U64 e6) x11) fun x12 =>
    letO (I64 (64 - (I64 (8 * a1)))) fun x13 =>
    Option.bind (shrO .u64 x12 x13) fun x14 =>
    Option.bind (appO 8 s3 (([x14] : List Int))) fun z15 =>
    p_codec_Signed_L1 N a2 a1 k z15 (I64 (s4 + 1)))) (
   some (Sum.inl s3))

def p_codec_Signed (N : Nat) (a0 : (List Int)) (a1 : Int) (a2 : (List Int)) : Option ((List Int) × Int) :=
 letO (cond (decide (a1 < 1)) true (decide (a1 > 8))) fun x1 =>
 cond x1 (
  some (([], 2))) (
  Option.bind (p_codec_Signed_L1 N a2 a1 N [] 0) fun o => sumC o (fun p2 =>
   Option.bind (p_codec_Put N a0 a1 p2) fun r16 =>
   some ((r16.1, r16.2))) (fun r => some r))

theorem codec_Signed_ok {N a0 a1 a2 r} (h : p_codec_Signed N a0 a1 a2 = some r) : FnM Tryz.prog 130 [] [(eL 1 k8 a0), (j64 a1), (eL 1 j64 a2)] (.tup [(eO 0 1 k8 r.1), (j64 r.2)]) [.tail (r.1.length * 1)] := by
 unfold p_codec_Signed at h
 refine At.f m_no hT hmo Tryz.func130 rfl h ?_
 refine lx ?_; intro x1
 refine At.c 8 ?_ ?_
 ·refine At.ownn 2 6 1 ?_
  apply rt; exact At.r 0
 ·refine At.ownn 4 8 1 ?_
  refine At.LS 0 [0, 1] 1 (fun p2 => ([(8, (eO 0 1 k64 p2))], [(0, .tail (p2.length * 1))], [])) (fun op2 J k => ∃ s3 s4, p_codec_Signed_L1 N a2 a1 k s3 s4 = some op2 ∧ J [0, 1, 18, 19] 1 [(8, (eO 0 1 k64 s3)), (20, (j64 s4))] [(0, .tail (s3.length * 1))] []) N (fun _ h => ⟨_, _, h, jr⟩) (fun op2 g2 k s hI => ?_) fun p2 => ?_
  ·obtain ⟨s3, s4, h, hj⟩ := hI
   cases k with
   | zero => cases h
   | succ k =>
    refine At.jr hj ?_ h
    refine lx ?_; intro x5
    refine At.c 1 ?_ ?_
    ·refine At.b 0 (fun _ e => big_idx hT j64 e) fun e6 => ?_
     refine lx ?_; intro x7
     refine At.b 6 (fun _ e => big_shl hT (k' := .i64) e (by kernel_rfl) (by kernel_rfl)) fun x8 => ?_
     refine lx ?_; intro x9
     refine At.b 3 (fun _ e => big_shr hT (k' := .i64) e (by kernel_rfl) (by kernel_rfl)) fun x10 => ?_
     refine At.c 4 ?_ ?_
     ·refine At.ownn 2 6 1 ?_
      refine At.sw 0 1 0 ?_
      intro e; apply rtS1 g2 e; exact At.r 0
     ·refine lx ?_; intro x11
      refine At.b 6 (fun _ e => big_shl hT (k' := .i64) e (by kernel_rfl) (by kernel_rfl)) fun x12 => ?_
      refine lx ?_; intro x13
      refine At.b 3 (fun _ e => big_shr hT (k' := .i64) e (by kernel_rfl) (by kernel_rfl)) fun x14 => ?_
      refine At.o 0 (big_row hT (x := (.sl 1 1 [(k64 x14)]))) ?_
      refine At.b 0 (fun _ e => big_app hT k64 (id := 0) (k := 1) e) fun z15 => ?_
      exact fun h => At.k 3 ⟨_, _, h, jr⟩
    ·apply rt; exact At.xs 0
  ·refine At.b 3 (fun _ e => big_C [] (codec_Put_ok e)) fun r16 => ?_
   refine At.sw 4 1 0 ?_
   apply rt; exact At.r 0

def m_mesh_Encode : Nat → Bool := imL [1]

def p_mesh_Encode_L1 (N : Nat) (x4 : Int) (a0 : S_api_Mesh) : Nat → (List Int) → Int → Option ((List Int))
 | 0, _, _ => none
 | k + 1, s6, s7 =>
  cond (decide (s7 < x4)) (
   Option.bind (idx a0.gVerts s7) fun e8 =>
   Option.bind (p_codec_Signed N s6 2 ([e8.gX, e8.gY, e8.gZ])) fun r9 =>
   p_mesh_Encode_L1 N x4 a0 k r9.1 (I64 (s7 + 1))) (
   some s6)

def p_mesh_Encode_L2 (N : Nat) (a0 : S_api_Mesh) : Nat → (List Int) → Int → Option ((List Int))
 | 0, _, _ => none
 | k + 1, s11, s12 =>
  letO (decide (s12 < ((a0.gUvs.length : Int)))) fun x13 =>
  cond x13 (
   Option.bind (idx a0.gUvs s12) fun e14 =>
   Option.bind (inRO 0 2) fun _ =>
   Option.bind (e14.toList[(Int.toNat 0)]?) fun e16 =>
   Option.bind (inRO 1 2) fun _ =>
   Option.bind (e14.toList[(Int.toNat 1)]?) fun e18 =>
   Option.bind (p_codec_Put N s11 2 ([U64 e16, U64 e18])) fun r19 =>
   p_mesh_Encode_L2 N a0 k r19.1 (I64 (s12 + 1))) (
   some s11)

def p_mesh_Encode_L3 (N : Nat) (x20 : Int) (a0 : S_api_Mesh) : Nat → (List Int) → Int → Option ((List Int))
 | 0, _, _ => none
 | k + 1, s22, s23 =>
  cond (decide (s23 < x20)) (
   Option.bind (idx a0.gTris s23) fun e24 =>
   Option.bind (inRO 0 3) fun _ =>
   Option.bind (e24.toList[(Int.toNat 0)]?) fun e26 =>
   Option.bind (inRO 1 3) fun _ =>
   Option.bind (e24.toList[(Int.toNat 1)]?) fun e28 =>
   Option.bind (inRO 2 3) fun _ =>
   Option.bind (e24.toList[(Int.toNat 2)]?) fun e30 =>
   Option.bind (appO 1 s22 (([U8 e26, U8 e28, U8 e30] : List Int))) fun z31 =>
   p_mesh_Encode_L3 N x20 a0 k z31 (I64 (s23 + 1))) (
   some s22)

def p_mesh_Encode (N : Nat) (a0 : S_api_Mesh) : Option ((List Int) × Int) :=
 Option.bind (p_mesh_Check N a0) fun r1 =>
 cond (r1 != 0) (
  some (([], r1))) (
  letO ((a0.gVerts.length : Int)) fun x2 =>
  letO ((a0.gTris.length : Int)) fun x3 =>
  letO ((a0.gVerts.length : Int)) fun x4 =>
  Option.bind (p_mesh_Encode_L1 N x4 a0 N (([U8 x2, U8 x3] : List Int)) 0) fun p5 =>
  Option.bind (p_mesh_Encode_L2 N a0 N p5 0) fun p10 =>
  letO ((a0.gTris.length : Int)) fun x20 =>
  Option.bind (p_mesh_Encode_L3 N x20 a0 N p10 0) fun p21 =>
  some ((p21, 0)))

theorem mesh_Encode_ok {N a0 r} (h : p_mesh_Encode N a0 = some r) : FnM Tryz.prog 128 [] [(S_api_Mesh.enc a0)] (.tup [(eL 1 k8 r.1), (j64 r.2)]) [] := by
 unfold p_mesh_Encode at h
 refine At.f m_mesh_Encode hT hmo Tryz.func128 rfl h ?_
 refine At.b 4 (fun _ e => big_C [] (mesh_Check_ok e)) fun r1 => ?_
 refine At.c 3 ?_ ?_
 ·apply rt; exact At.r 3
 ·refine lx ?_; intro x2
  refine lx ?_; intro x3
  refine At.o 8 (big_rowO hT k8 (k := 1) ([U8 x2, U8 x3] : List Int) (by kernel_rfl) (by kernel_rfl)) ?_
  refine lx ?_; intro x4
  refine At.L 5 [1] 1 (fun p5 => ([(5, (eO 0 1 k8 p5))], [(0, .tail (p5.length * 1))], [])) (fun p5 J k => ∃ s6 s7, p_mesh_Encode_L1 N x4 a0 k s6 s7 = some p5 ∧ J [1, 27, 28] 1 [(5, (eO 0 1 k8 s6)), (29, (j64 s7))] [(0, .tail (s6.length * 1))] []) N (fun _ h => ⟨_, _, h, jr⟩) (fun p5 k s hI => ?_) fun p5 => ?_
  ·obtain ⟨s6, s7, h, hj⟩ := hI
   cases k with
   | zero => cases h
   | succ k =>
    refine At.jr hj ?_ h
    refine At.c 1 ?_ ?_
    ·refine At.b 0 (fun _ e => big_idx hT S_api_Point.enc e) fun e8 => ?_
     refine At.o 10 (big_row hT (x := (.sl 1 3 [(j64 e8.gX), (j64 e8.gY), (j64 e8.gZ)]))) ?_
     refine At.b 0 (fun _ e => big_C [] (codec_Signed_ok e)) fun r9 => ?_
     exact fun h => At.k 6 ⟨_, _, h, (jr_sw 2 0 (by kernel_rfl) jr)⟩
    ·apply rt; exact At.x 0
  ·refine At.L 4 [1] 1 (fun p10 => ([(5, (eO 0 1 k8 p10))], [(0, .tail (p10.length * 1))], [])) (fun p10 J k => ∃ s11 s12, p_mesh_Encode_L2 N a0 k s11 s12 = some p10 ∧ J [1, 47, 48] 1 [(5, (eO 0 1 k8 s11)), (49, (j64 s12))] [(0, .tail (s11.length * 1))] []) N (fun _ h => ⟨_, _, h, jr⟩) (fun p10 k s hI => ?_) fun p10 => ?_
   ·obtain ⟨s11, s12, h, hj⟩ := hI
    cases k with
    | zero => cases h
    | succ k =>
     refine At.jr hj ?_ h
     refine lx ?_; intro x13
     refine At.c 1 ?_ ?_
     ·refine At.b 0 (fun _ e => big_idx hT (eA 2 1 j64) e) fun e14 => ?_
      refine At.b 4 (fun _ e => big_adR hT (k := 1) 1 [] 0 e) fun u15 => ?_
      refine At.b 0 (fun _ e => big_ldE hT j64 0 e) fun e16 => ?_
      refine At.b 1 (fun _ e => big_adR hT (k := 1) 1 [] 0 e) fun u17 => ?_
      refine At.b 0 (fun _ e => big_ldE hT j64 0 e) fun e18 => ?_
      refine At.o 1 (big_row hT (x := (.sl 1 2 [(k64 (U64 e16)), (k64 (U64 e18))]))) ?_
      refine At.b 0 (fun _ e => big_C [] (codec_Put_ok e)) fun r19 => ?_
      exact fun h => At.k 6 ⟨_, _, h, (jr_sw 2 0 (by kernel_rfl) jr)⟩
     ·apply rt; exact At.x 0
   ·refine lx ?_; intro x20
    refine At.L 4 [] 1 (fun p21 => ([(5, (eO 0 1 k8 p21))], [(0, .tail (p21.length * 1))], [])) (fun p21 J k => ∃ s22 s23, p_mesh_Encode_L3 N x20 a0 k s22 s23 = some p21 ∧ J [67, 68] 1 [(5, (eO 0 1 k8 s22)), (69, (j64 s23))] [(0, .tail (s22.length * 1))] []) N (fun _ h => ⟨_, _, h, jr⟩) (fun p21 k s hI => ?_) fun p21 => ?_
    ·obtain ⟨s22, s23, h, hj⟩ := hI
     cases k with
     | zero => cases h
     | succ k =>
      refine At.jr hj ?_ h
      refine At.c 1 ?_ ?_
      ·refine At.b 0 (fun _ e => big_idx hT (eA 3 1 j64) e) fun e24 => ?_
       refine At.b 4 (fun _ e => big_adR hT (k := 1) 1 [] 0 e) fun u25 => ?_
       refine At.b 0 (fun _ e => big_ldE hT j64 0 e) fun e26 => ?_
       refine At.b 1 (fun _ e => big_adR hT (k := 1) 1 [] 0 e) fun u27 => ?_
       refine At.b 0 (fun _ e => big_ldE hT j64 0 e) fun e28 => ?_
       refine At.b 1 (fun _ e => big_adR hT (k := 1) 1 [] 0 e) fun u29 => ?_
       refine At.b 0 (fun _ e => big_ldE hT j64 0 e) fun e30 => ?_
       refine At.o 1 (big_row hT (x := (.sl 1 3 [(k8 (U8 e26)), (k8 (U8 e28)), (k8 (U8 e30))]))) ?_
       refine At.b 0 (fun _ e => big_app hT k8 (id := 0) (k := 1) e) fun z31 => ?_
       exact fun h => At.k 3 ⟨_, _, h, jr⟩
      ·apply rt; exact At.x 0
    ·apply rt; exact At.r 3

def m_texture_Encode : Nat → Bool := imL [1]

def p_texture_Encode_L1 (N : Nat) (x2 : Int) (a0 : S_api_Texture) : Nat → (List Int) → Int → Option ((List Int))
 | 0, _, _ => none
 | k + 1, s4, s5 =>
  cond (decide (s5 < x2)) (
   Option.bind (idx a0.gTexels s5) fun e6 =>
   Option.bind (inRO 0 3) fun _ =>
   Option.bind (e6.toList[(Int.toNat 0)]?) fun e8 =>
   Option.bind (inRO 1 3) fun _ =>
   Option.bind (e6.toList[(Int.toNat 1)]?) fun e10 =>
   Option.bind (inRO 2 3) fun _ =>
   Option.bind (e6.toList[(Int.toNat 2)]?) fun e12 =>
   Option.bind (appO 1 s4 (([U8 e8, U8 e10, U8 e12] : List Int))) fun z13 =>
   p_texture_Encode_L1 N x2 a0 k z13 (I64 (s5 + 1))) (
   some s4)

def p_texture_Encode (N : Nat) (a0 : S_api_Texture) : Option ((List Int) × Int) :=
 Option.bind (p_texture_Check N a0) fun r1 =>
 cond (r1 != 0) (
  some (([], r1))) (
  letO ((a0.gTexels.length : Int)) fun x2 =>
  Option.bind (p_texture_Encode_L1 N x2 a0 N (([U8 a0.gSide] : List Int)) 0) fun p3 =>
  some ((p3, 0)))

theorem texture_Encode_ok {N a0 r} (h : p_texture_Encode N a0 = some r) : FnM Tryz.prog 129 [] [(S_api_Texture.enc a0)] (.tup [(eL 1 k8 r.1), (j64 r.2)]) [] := by
 unfold p_texture_Encode at h
 refine At.f m_texture_Encode hT hmo Tryz.func129 rfl h ?_
 refine At.b 4 (fun _ e => big_C [] (texture_Check_ok e)) fun r1 => ?_
 refine At.c 3 ?_ ?_
 ·apply rt; exact At.r 3
 ·refine At.o 3 (big_rowO hT k8 (k := 1) ([U8 a0.gSide] : List Int) (by kernel_rfl) (by kernel_rfl)) ?_
  refine lx ?_; intro x2
  refine At.L 5 [] 1 (fun p3 => ([(5, (eO 0 1 k8 p3))], [(0, .tail (p3.length * 1))], [])) (fun p3 J k => ∃ s4 s5, p_texture_Encode_L1 N x2 a0 k s4 s5 = some p3 ∧ J [18, 19] 1 [(5, (eO 0 1 k8 s4)), (20, (j64 s5))] [(0, .tail (s4.length * 1))] []) N (fun _ h => ⟨_, _, h, jr⟩) (fun p3 k s hI => ?_) fun p3 => ?_
  ·obtain ⟨s4, s5, h, hj⟩ := hI
   cases k with
   | zero => cases h
   | succ k =>
    refine At.jr hj ?_ h
    refine At.c 1 ?_ ?_
    ·refine At.b 0 (fun _ e => big_idx hT (eA 3 1 j64) e) fun e6 => ?_
     refine At.b 4 (fun _ e => big_adR hT (k := 1) 1 [] 0 e) fun u7 => ?_
     refine At.b 0 (fun _ e => big_ldE hT j64 0 e) fun e8 => ?_
     refine At.b 1 (fun _ e => big_adR hT (k := 1) 1 [] 0 e) fun u9 => ?_
     refine At.b 0 (fun _ e => big_ldE hT j64 0 e) fun e10 => ?_
     refine At.b 1 (fun _ e => big_adR hT (k := 1) 1 [] 0 e) fun u11 => ?_
     refine At.b 0 (fun _ e => big_ldE hT j64 0 e) fun e12 => ?_
     refine At.o 1 (big_row hT (x := (.sl 1 3 [(k8 (U8 e8)), (k8 (U8 e10)), (k8 (U8 e12))]))) ?_
     refine At.b 0 (fun _ e => big_app hT k8 (id := 0) (k := 1) e) fun z13 => ?_
     exact fun h => At.k 3 ⟨_, _, h, jr⟩
    ·apply rt; exact At.x 0
  ·apply rt; exact At.r 3

def m_asset_encode : Nat → Bool := imL [1]

def p_asset_encode_L1 (N : Nat) (e4 : Int) (e6 : Int) (e8 : Int) (a0 : S_api_Asset) : Nat → (List Int) → Int → Option ((List Int))
 | 0, _, _ => none
 | k + 1, s10, s11 =>
  cond (decide (s11 < 4)) (
   Option.bind (idx ([e4, e6, e8, a0.gMaterial.gRough]) s11) fun e12 =>
   Option.bind (p_codec_Put N s10 2 ([U64 e12])) fun r13 =>
   p_asset_encode_L1 N e4 e6 e8 a0 k r13.1 (I64 (s11 + 1))) (
   some s10)

def p_asset_encode_L2 (N : Nat) (a0 : S_api_Asset) : Nat → (List Int) → Int → Option ((List Int))
 | 0, _, _ => none
 | k + 1, s22, s23 =>
  cond (decide (s23 < 3)) (
   Option.bind (idx ([a0.gLight.gAt, a0.gLight.gU, a0.gLight.gV]) s23) fun e24 =>
   Option.bind (p_codec_Signed N s22 2 ([e24.gX, e24.gY, e24.gZ])) fun r25 =>
   p_asset_encode_L2 N a0 k r25.1 (I64 (s23 + 1))) (
   some s22)

def p_asset_encode (N : Nat) (a0 : S_api_Asset) : Option ((List Int)) :=
 cond (a0.gKind == 1) (
  Option.bind (p_mesh_Encode N a0.gMesh) fun r1 =>
  some r1.1) (
  cond (a0.gKind == 2) (
   Option.bind (p_texture_Encode N a0.gTexture) fun r2 =>
   some r2.1) (
   cond (a0.gKind == 3) (
    Option.bind (inRO 0 3) fun _ =>
    Option.bind (a0.gMaterial.gColor.toList[(Int.toNat 0)]?) fun e4 =>
    Option.bind (inRO 1 3) fun _ =>
    Option.bind (a0.gMaterial.gColor.toList[(Int.toNat 1)]?) fun e6 =>
    Option.bind (inRO 2 3) fun _ =>
    Option.bind (a0.gMaterial.gColor.toList[(Int.toNat 2)]?) fun e8 =>
    Option.bind (p_asset_encode_L1 N e4 e6 e8 a0 N ([U8 a0.gMaterial.gKind]) 0) fun p9 =>
    some p9) (
    Option.bind (inRO 0 3) fun _ =>
    Option.bind (a0.gLight.gColor.toList[(Int.toNat 0)]?) fun e15 =>
    Option.bind (inRO 1 3) fun _ =>
    Option.bind (a0.gLight.gColor.toList[(Int.toNat 1)]?) fun e17 =>
    Option.bind (inRO 2 3) fun _ =>
    Option.bind (a0.gLight.gColor.toList[(Int.toNat 2)]?) fun e19 =>
    Option.bind (p_codec_Put N ([U8 a0.gLight.gKind]) 4 ([U64 e15, U64 e17, U64 e19])) fun r20 =>
    Option.bind (p_asset_encode_L2 N a0 N r20.1 0) fun p21 =>
    some p21)))

theorem asset_encode_ok {N a0 r} (h : p_asset_encode N a0 = some r) : FnM Tryz.prog 85 [] [(S_api_Asset.enc a0)] (eL 1 k8 r) [] := by
 unfold p_asset_encode at h
 refine At.f m_asset_encode hT hmo Tryz.func85 rfl h ?_
 refine At.c 6 ?_ ?_
 ·refine At.b 2 (fun _ e => big_C [] (mesh_Encode_ok e)) fun r1 => ?_
  apply rt; exact At.r 7
 ·refine At.c 2 ?_ ?_
  ·refine At.b 2 (fun _ e => big_C [] (texture_Encode_ok e)) fun r2 => ?_
   apply rt; exact At.r 7
  ·refine At.c 2 ?_ ?_
   ·refine At.o 7 (big_row hT (x := (.sl 1 1 [(k8 (U8 a0.gMaterial.gKind))]))) ?_
    refine At.b 2 (fun _ e => big_adR hT (k := 1) 0 [1] 1 e) fun u3 => ?_
    refine At.b 0 (fun _ e => big_ldE hT j64 1 e) fun e4 => ?_
    refine At.b 1 (fun _ e => big_adR hT (k := 1) 0 [1] 1 e) fun u5 => ?_
    refine At.b 0 (fun _ e => big_ldE hT j64 1 e) fun e6 => ?_
    refine At.b 1 (fun _ e => big_adR hT (k := 1) 0 [1] 1 e) fun u7 => ?_
    refine At.b 0 (fun _ e => big_ldE hT j64 1 e) fun e8 => ?_
    refine At.o 2 (big_row hT (x := (.sl 1 4 [(j64 e4), (j64 e6), (j64 e8), (j64 a0.gMaterial.gRough)]))) ?_
    refine At.L 2 [] 1 (fun p9 => ([(8, (eL 1 k8 p9))], [], [])) (fun p9 J k => ∃ s10 s11, p_asset_encode_L1 N e4 e6 e8 a0 k s10 s11 = some p9 ∧ J [55, 56] 1 [(8, (eL 1 k8 s10)), (57, (j64 s11))] [] []) N (fun _ h => ⟨_, _, h, jr⟩) (fun p9 k s hI => ?_) fun p9 => ?_
    ·obtain ⟨s10, s11, h, hj⟩ := hI
     cases k with
     | zero => cases h
     | succ k =>
      refine At.jr hj ?_ h
      refine At.c 1 ?_ ?_
      ·refine At.b 0 (fun _ e => big_idx hT j64 e) fun e12 => ?_
       refine At.o 5 (big_row hT (x := (.sl 1 1 [(k64 (U64 e12))]))) ?_
       refine At.b 0 (fun _ e => big_C [] (codec_Put_ok e)) fun r13 => ?_
       exact fun h => At.k 6 ⟨_, _, h, jr⟩
      ·apply rt; exact At.x 0
    ·apply rt; exact At.r 2
   ·refine At.o 7 (big_row hT (x := (.sl 1 1 [(k8 (U8 a0.gLight.gKind))]))) ?_
    refine At.b 1 (fun _ e => big_adR hT (k := 1) 0 [1] 1 e) fun u14 => ?_
    refine At.b 0 (fun _ e => big_ldE hT j64 1 e) fun e15 => ?_
    refine At.b 2 (fun _ e => big_adR hT (k := 1) 0 [1] 1 e) fun u16 => ?_
    refine At.b 0 (fun _ e => big_ldE hT j64 1 e) fun e17 => ?_
    refine At.b 2 (fun _ e => big_adR hT (k := 1) 0 [1] 1 e) fun u18 => ?_
    refine At.b 0 (fun _ e => big_ldE hT j64 1 e) fun e19 => ?_
    refine At.o 1 (big_row hT (x := (.sl 1 3 [(k64 (U64 e15)), (k64 (U64 e17)), (k64 (U64 e19))]))) ?_
    refine At.b 0 (fun _ e => big_C [] (codec_Put_ok e)) fun r20 => ?_
    refine At.o 11 (big_row hT (x := (.sl 3 3 [(S_api_Point.enc a0.gLight.gAt), (S_api_Point.enc a0.gLight.gU), (S_api_Point.enc a0.gLight.gV)]))) ?_
    refine At.L 2 [] 2 (fun p21 => ([(12, (eO 1 1 k8 p21))], [(1, .tail (p21.length * 1))], [])) (fun p21 J k => ∃ s22 s23, p_asset_encode_L2 N a0 k s22 s23 = some p21 ∧ J [100, 101] 2 [(12, (eO 1 1 k8 s22)), (102, (j64 s23))] [(1, .tail (s22.length * 1))] []) N (fun _ h => ⟨_, _, h, jr⟩) (fun p21 k s hI => ?_) fun p21 => ?_
    ·obtain ⟨s22, s23, h, hj⟩ := hI
     cases k with
     | zero => cases h
     | succ k =>
      refine At.jr hj ?_ h
      refine At.c 1 ?_ ?_
      ·refine At.b 0 (fun _ e => big_idx hT S_api_Point.enc e) fun e24 => ?_
       refine At.o 10 (big_row hT (x := (.sl 1 3 [(j64 e24.gX), (j64 e24.gY), (j64 e24.gZ)]))) ?_
       refine At.b 0 (fun _ e => big_C [] (codec_Signed_ok e)) fun r25 => ?_
       exact fun h => At.k 6 ⟨_, _, h, (jr_sw 3 1 (by kernel_rfl) jr)⟩
      ·apply rt; exact At.x 0
    ·apply rt; exact At.r 2

end Go.UK

