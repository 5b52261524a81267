/- A part of the proof: what the functions of the program compute. -/
import Derived.Test.YtcaadpceoajapaaLib7
import Derived.Test.YtcaadpceoajapaaChecked
namespace Go.UK
open Go Go.Proofs
set_option maxRecDepth 20000
set_option maxHeartbeats 4000000
set_option linter.all false

structure S_api_Vec where
  gX : Int
  gY : Int
  gZ : Int

def S_api_Vec.enc (s : S_api_Vec) : AV := .st 3 [(j64 s.gX), (j64 s.gY), (j64 s.gZ)]

structure S_api_Sample where
  gColor : S_api_Vec
  gAlpha : Int
  gDepth : Int
  gNormal : S_api_Vec
  gObj : Int

def S_api_Sample.enc (s : S_api_Sample) : AV := .st 9 [(S_api_Vec.enc s.gColor), (j64 s.gAlpha), (j64 s.gDepth), (S_api_Vec.enc s.gNormal), (j64 s.gObj)]

structure S_api_Point where
  gX : Int
  gY : Int
  gZ : Int

def S_api_Point.enc (s : S_api_Point) : AV := .st 3 [(j64 s.gX), (j64 s.gY), (j64 s.gZ)]

structure S_api_Tri where
  gP : (Vector S_api_Point 3)
  gUv : (Vector (Vector Int 2) 3)
  gMat : Int
  gTex : Int
  gObj : Int
  gMask : Int

def S_api_Tri.enc (s : S_api_Tri) : AV := .st 19 [(eA 9 3 S_api_Point.enc s.gP), (eA 6 2 (eA 2 1 j64) s.gUv), (j64 s.gMat), (j64 s.gTex), (j64 s.gObj), (k8 s.gMask)]

structure S_api_Material where
  gKind : Int
  gColor : (Vector Int 3)
  gRough : Int

def S_api_Material.enc (s : S_api_Material) : AV := .st 5 [(j64 s.gKind), (eA 3 1 j64 s.gColor), (j64 s.gRough)]

structure S_api_Texture where
  gSide : Int
  gTexels : (List (Vector Int 3))

def S_api_Texture.enc (s : S_api_Texture) : AV := .st 2 [(j64 s.gSide), (eL 3 (eA 3 1 j64) s.gTexels)]

structure S_api_Light where
  gKind : Int
  gColor : (Vector Int 3)
  gAt : S_api_Point
  gU : S_api_Point
  gV : S_api_Point

def S_api_Light.enc (s : S_api_Light) : AV := .st 13 [(j64 s.gKind), (eA 3 1 j64 s.gColor), (S_api_Point.enc s.gAt), (S_api_Point.enc s.gU), (S_api_Point.enc s.gV)]

structure S_api_Scene where
  gTris : (List S_api_Tri)
  gMats : (List S_api_Material)
  gTexs : (List S_api_Texture)
  gLights : (List S_api_Light)
  gIds : (List Int)
  gLabels : (List Int)
  gLabel : Int
  gFrom : Int
  gTo : Int

def S_api_Scene.enc (s : S_api_Scene) : AV := .st 9 [(eL 19 S_api_Tri.enc s.gTris), (eL 5 S_api_Material.enc s.gMats), (eL 2 S_api_Texture.enc s.gTexs), (eL 13 S_api_Light.enc s.gLights), (eL 1 k64 s.gIds), (eL 1 k32 s.gLabels), (k32 s.gLabel), (k32 s.gFrom), (k32 s.gTo)]

structure S_api_Wide where
  gHi : Int
  gLo : Int

def S_api_Wide.enc (s : S_api_Wide) : AV := .st 2 [(j64 s.gHi), (k64 s.gLo)]

structure S_api_Image where
  gW : Int
  gH : Int
  gBeauty : (List (Vector Int 3))
  gAlpha : (List Int)
  gDepth : (List Int)
  gNormal : (List (Vector Int 3))
  gAsset : (List Int)
  gLabel : (List Int)

def S_api_Image.enc (s : S_api_Image) : AV := .st 8 [(j64 s.gW), (j64 s.gH), (eL 3 (eA 3 1 j64) s.gBeauty), (eL 1 j64 s.gAlpha), (eL 1 j64 s.gDepth), (eL 3 (eA 3 1 j64) s.gNormal), (eL 1 j64 s.gAsset), (eL 1 j64 s.gLabel)]

def tbl : TypeId → Option TI
  | 2 => some ⟨1, 8, (.v (.int .i64 0)), .int .i64⟩
  | 3 => some ⟨1, 8, (.v (.int .i64 0)), .int .i64⟩
  | 4 => some ⟨1, 1, (.v (.bool false)), .bool⟩
  | 5 => some ⟨1, 1, (.v (.int .u8 0)), .int .u8⟩
  | 9 => some ⟨1, 16, (.v (.string (ByteArray.mk #[]))), .str⟩
  | 23 => some ⟨1, 8, (.v (.int .i64 0)), .int .i64⟩
  | 31 => some ⟨1, 24, (.v (.slice none 0 0)), .sl 3⟩
  | 47 => some ⟨1, 8, (.v (.int .i64 0)), .int .i64⟩
  | 50 => some ⟨2, 16, (.arr 2 1 (List.replicate 2 (.v (.int .i64 0)))), .arr 2 3⟩
  | 57 => some ⟨1, 4, (.v (.int .u32 0)), .int .u32⟩
  | 71 => some ⟨1, 24, (.v (.slice none 0 0)), .sl 140⟩
  | 73 => some ⟨8, 160, (.st 8 [(.v (.int .i64 0)), (.v (.int .i64 0)), (.v (.slice none 0 0)), (.v (.slice none 0 0)), (.v (.slice none 0 0)), (.v (.slice none 0 0)), (.v (.slice none 0 0)), (.v (.slice none 0 0))]), .st [(0, 3), (1, 3), (2, 71), (3, 31), (4, 31), (5, 71), (6, 31), (7, 31)]⟩
  | 81 => some ⟨1, 24, (.v (.slice none 0 0)), .sl 169⟩
  | 82 => some ⟨1, 24, (.v (.slice none 0 0)), .sl 291⟩
  | 83 => some ⟨1, 24, (.v (.slice none 0 0)), .sl 293⟩
  | 84 => some ⟨1, 24, (.v (.slice none 0 0)), .sl 164⟩
  | 85 => some ⟨1, 24, (.v (.slice none 0 0)), .sl 295⟩
  | 86 => some ⟨1, 24, (.v (.slice none 0 0)), .sl 144⟩
  | 87 => some ⟨1, 24, (.v (.slice none 0 0)), .sl 57⟩
  | 89 => some ⟨9, 160, (.st 9 [(.v (.slice none 0 0)), (.v (.slice none 0 0)), (.v (.slice none 0 0)), (.v (.slice none 0 0)), (.v (.slice none 0 0)), (.v (.slice none 0 0)), (.v (.int .u32 0)), (.v (.int .u32 0)), (.v (.int .u32 0))]), .st [(0, 82), (1, 83), (2, 84), (3, 85), (4, 86), (5, 87), (6, 57), (7, 57), (8, 57)]⟩
  | 140 => some ⟨3, 24, (.arr 3 1 (List.replicate 3 (.v (.int .i64 0)))), .arr 3 3⟩
  | 144 => some ⟨1, 8, (.v (.int .u64 0)), .int .u64⟩
  | 164 => some ⟨2, 32, (.st 2 [(.v (.int .i64 0)), (.v (.slice none 0 0))]), .st [(0, 3), (1, 71)]⟩
  | 167 => some ⟨3, 24, (.st 3 [(.v (.int .i64 0)), (.v (.int .i64 0)), (.v (.int .i64 0))]), .st [(0, 47), (1, 47), (2, 47)]⟩
  | 169 => some ⟨9, 72, (.st 9 [(.st 3 [(.v (.int .i64 0)), (.v (.int .i64 0)), (.v (.int .i64 0))]), (.v (.int .i64 0)), (.v (.int .i64 0)), (.st 3 [(.v (.int .i64 0)), (.v (.int .i64 0)), (.v (.int .i64 0))]), (.v (.int .i64 0))]), .st [(0, 167), (3, 3), (4, 47), (5, 167), (8, 3)]⟩
  | 188 => some ⟨1, 8, (.v (.int .u64 0)), .int .u64⟩
  | 189 => some ⟨1, 24, (.v (.slice none 0 0)), .sl 47⟩
  | 192 => some ⟨2, 16, (.st 2 [(.v (.int .i64 0)), (.v (.int .u64 0))]), .st [(0, 2), (1, 144)]⟩
  | 211 => some ⟨1, 24, (.v (.slice none 0 0)), .sl 167⟩
  | 258 => some ⟨1, 24, (.v (.slice none 0 0)), .sl 192⟩
  | 287 => some ⟨3, 24, (.st 3 [(.v (.int .i64 0)), (.v (.int .i64 0)), (.v (.int .i64 0))]), .st [(0, 3), (1, 3), (2, 3)]⟩
  | 288 => some ⟨9, 72, (.arr 9 3 (List.replicate 3 (.st 3 [(.v (.int .i64 0)), (.v (.int .i64 0)), (.v (.int .i64 0))]))), .arr 3 287⟩
  | 289 => some ⟨6, 48, (.arr 6 2 (List.replicate 3 (.arr 2 1 (List.replicate 2 (.v (.int .i64 0)))))), .arr 3 50⟩
  | 291 => some ⟨19, 152, (.st 19 [(.arr 9 3 (List.replicate 3 (.st 3 [(.v (.int .i64 0)), (.v (.int .i64 0)), (.v (.int .i64 0))]))), (.arr 6 2 (List.replicate 3 (.arr 2 1 (List.replicate 2 (.v (.int .i64 0)))))), (.v (.int .i64 0)), (.v (.int .i64 0)), (.v (.int .i64 0)), (.v (.int .u8 0))]), .st [(0, 288), (9, 289), (15, 3), (16, 3), (17, 3), (18, 5)]⟩
  | 293 => some ⟨5, 40, (.st 5 [(.v (.int .i64 0)), (.arr 3 1 (List.replicate 3 (.v (.int .i64 0)))), (.v (.int .i64 0))]), .st [(0, 3), (1, 140), (4, 3)]⟩
  | 295 => some ⟨13, 104, (.st 13 [(.v (.int .i64 0)), (.arr 3 1 (List.replicate 3 (.v (.int .i64 0)))), (.st 3 [(.v (.int .i64 0)), (.v (.int .i64 0)), (.v (.int .i64 0))]), (.st 3 [(.v (.int .i64 0)), (.v (.int .i64 0)), (.v (.int .i64 0))]), (.st 3 [(.v (.int .i64 0)), (.v (.int .i64 0)), (.v (.int .i64 0))])]), .st [(0, 3), (1, 140), (4, 287), (7, 287), (10, 287)]⟩
  | _ => none

theorem hT : TOK Try.prog tbl := by
  intro t i h
  unfold tbl at h
  split at h
  · cases h; exact ⟨⟨_, _, rfl, rfl, rfl, rfl, rfl, rfl⟩, ⟨_, rfl, rfl⟩, rfl⟩
  · cases h; exact ⟨⟨_, _, rfl, rfl, rfl, rfl, rfl, rfl⟩, ⟨_, rfl, rfl⟩, rfl⟩
  · cases h; exact ⟨⟨_, _, rfl, rfl, rfl, rfl, rfl, rfl⟩, ⟨_, rfl, rfl⟩, rfl⟩
  · cases h; exact ⟨⟨_, _, rfl, rfl, rfl, rfl, rfl, rfl⟩, ⟨_, rfl, rfl⟩, rfl⟩
  · cases h; exact ⟨⟨_, _, rfl, rfl, rfl, rfl, rfl, rfl⟩, ⟨_, rfl, rfl⟩, rfl⟩
  · cases h; exact ⟨⟨_, _, rfl, rfl, rfl, rfl, rfl, rfl⟩, ⟨_, rfl, rfl⟩, rfl⟩
  · cases h; exact ⟨⟨_, _, rfl, rfl, rfl, rfl, rfl, rfl⟩, ⟨_, rfl, rfl⟩, rfl⟩
  · cases h; exact ⟨⟨_, _, rfl, rfl, rfl, rfl, rfl, rfl⟩, ⟨_, rfl, rfl⟩, rfl⟩
  · cases h; exact ⟨⟨_, _, rfl, rfl, rfl, rfl, rfl, rfl⟩, ⟨_, rfl, rfl⟩, rfl⟩
  · cases h; exact ⟨⟨_, _, rfl, rfl, rfl, rfl, rfl, rfl⟩, ⟨_, rfl, rfl⟩, rfl⟩
  · cases h; exact ⟨⟨_, _, rfl, rfl, rfl, rfl, rfl, rfl⟩, ⟨_, rfl, rfl⟩, rfl⟩
  · cases h; exact ⟨⟨_, _, rfl, rfl, rfl, rfl, rfl, rfl⟩, ⟨_, rfl, ⟨_, rfl, rfl⟩⟩, rfl⟩
  · cases h; exact ⟨⟨_, _, rfl, rfl, rfl, rfl, rfl, rfl⟩, ⟨_, rfl, rfl⟩, rfl⟩
  · cases h; exact ⟨⟨_, _, rfl, rfl, rfl, rfl, rfl, rfl⟩, ⟨_, rfl, rfl⟩, rfl⟩
  · cases h; exact ⟨⟨_, _, rfl, rfl, rfl, rfl, rfl, rfl⟩, ⟨_, rfl, rfl⟩, rfl⟩
  · cases h; exact ⟨⟨_, _, rfl, rfl, rfl, rfl, rfl, rfl⟩, ⟨_, rfl, rfl⟩, rfl⟩
  · cases h; exact ⟨⟨_, _, rfl, rfl, rfl, rfl, rfl, rfl⟩, ⟨_, rfl, rfl⟩, rfl⟩
  · cases h; exact ⟨⟨_, _, rfl, rfl, rfl, rfl, rfl, rfl⟩, ⟨_, rfl, rfl⟩, rfl⟩
  · cases h; exact ⟨⟨_, _, rfl, rfl, rfl, rfl, rfl, rfl⟩, ⟨_, rfl, rfl⟩, rfl⟩
  · cases h; exact ⟨⟨_, _, rfl, rfl, rfl, rfl, rfl, rfl⟩, ⟨_, rfl, ⟨_, rfl, rfl⟩⟩, rfl⟩
  · cases h; exact ⟨⟨_, _, rfl, rfl, rfl, rfl, rfl, rfl⟩, ⟨_, rfl, rfl⟩, rfl⟩
  · cases h; exact ⟨⟨_, _, rfl, rfl, rfl, rfl, rfl, rfl⟩, ⟨_, rfl, rfl⟩, rfl⟩
  · cases h; exact ⟨⟨_, _, rfl, rfl, rfl, rfl, rfl, rfl⟩, ⟨_, rfl, ⟨_, rfl, rfl⟩⟩, rfl⟩
  · cases h; exact ⟨⟨_, _, rfl, rfl, rfl, rfl, rfl, rfl⟩, ⟨_, rfl, ⟨_, rfl, rfl⟩⟩, rfl⟩
  · cases h; exact ⟨⟨_, _, rfl, rfl, rfl, rfl, rfl, rfl⟩, ⟨_, rfl, ⟨_, rfl, rfl⟩⟩, rfl⟩
  · cases h; exact ⟨⟨_, _, rfl, rfl, rfl, rfl, rfl, rfl⟩, ⟨_, rfl, rfl⟩, rfl⟩
  · cases h; exact ⟨⟨_, _, rfl, rfl, rfl, rfl, rfl, rfl⟩, ⟨_, rfl, rfl⟩, rfl⟩
  · cases h; exact ⟨⟨_, _, rfl, rfl, rfl, rfl, rfl, rfl⟩, ⟨_, rfl, ⟨_, rfl, rfl⟩⟩, rfl⟩
  · cases h; exact ⟨⟨_, _, rfl, rfl, rfl, rfl, rfl, rfl⟩, ⟨_, rfl, rfl⟩, rfl⟩
  · cases h; exact ⟨⟨_, _, rfl, rfl, rfl, rfl, rfl, rfl⟩, ⟨_, rfl, rfl⟩, rfl⟩
  · cases h; exact ⟨⟨_, _, rfl, rfl, rfl, rfl, rfl, rfl⟩, ⟨_, rfl, ⟨_, rfl, rfl⟩⟩, rfl⟩
  · cases h; exact ⟨⟨_, _, rfl, rfl, rfl, rfl, rfl, rfl⟩, ⟨_, rfl, rfl⟩, rfl⟩
  · cases h; exact ⟨⟨_, _, rfl, rfl, rfl, rfl, rfl, rfl⟩, ⟨_, rfl, rfl⟩, rfl⟩
  · cases h; exact ⟨⟨_, _, rfl, rfl, rfl, rfl, rfl, rfl⟩, ⟨_, rfl, ⟨_, rfl, rfl⟩⟩, rfl⟩
  · cases h; exact ⟨⟨_, _, rfl, rfl, rfl, rfl, rfl, rfl⟩, ⟨_, rfl, ⟨_, rfl, rfl⟩⟩, rfl⟩
  · cases h; exact ⟨⟨_, _, rfl, rfl, rfl, rfl, rfl, rfl⟩, ⟨_, rfl, ⟨_, rfl, rfl⟩⟩, rfl⟩
  · cases h

theorem hmo : Try.prog.follows .mixedOrders = true := by rfl

theorem tt3 : tbl 3 = some ⟨1, 8, (.v (.int .i64 0)), .int .i64⟩ := rfl

theorem tt47 : tbl 47 = some ⟨1, 8, (.v (.int .i64 0)), .int .i64⟩ := rfl

theorem tt140 : tbl 140 = some ⟨3, 24, (.arr 3 1 (List.replicate 3 (.v (.int .i64 0)))), .arr 3 3⟩ := rfl

theorem tt167 : tbl 167 = some ⟨3, 24, (.st 3 [(.v (.int .i64 0)), (.v (.int .i64 0)), (.v (.int .i64 0))]), .st [(0, 47), (1, 47), (2, 47)]⟩ := rfl

theorem eqT_47 : EqT Try.prog 47 (α := Int) j64 (fun a b => a == b) 1 :=
  eqT_int Try.underlying47

def S_api_Vec.eq (a b : S_api_Vec) : Bool := (fun a b => a == b) a.gX b.gX && ((fun a b => a == b) a.gY b.gY && ((fun a b => a == b) a.gZ b.gZ && true))
theorem eqT_167 : EqT Try.prog 167 (α := S_api_Vec) S_api_Vec.enc S_api_Vec.eq 2 :=
  eqT_struct (N := 3) Try.underlying167 (by kernel_rfl) (fun _ => rfl) (fun a b => eqF_cons hT a.gX b.gX (by decide) rfl tt47 rfl (fun _ => rfl) (fun _ => rfl) (fun _ => rfl) eqT_47 (by decide) (eqF_cons hT a.gY b.gY (by decide) rfl tt47 rfl (fun _ => rfl) (fun _ => rfl) (fun _ => rfl) eqT_47 (by decide) (eqF_cons hT a.gZ b.gZ (by decide) rfl tt47 rfl (fun _ => rfl) (fun _ => rfl) (fun _ => rfl) eqT_47 (by decide) (eqF_nil))))

theorem eqT_3 : EqT Try.prog 3 (α := Int) j64 (fun a b => a == b) 1 :=
  eqT_int Try.underlying3

theorem eqT_140 : EqT Try.prog 140 (α := (Vector Int 3)) (eA 3 1 j64) (eqV (fun a b => a == b)) 2 :=
  eqT_array (M := 3) hT tt3 Try.underlying140 (by kernel_rfl) (fun _ => rfl) rfl (fun _ => rfl) (fun _ => rfl) eqT_3

def str_0 : ByteArray := (ByteArray.mk (List.toArray (List.append (List.append [0, 1, 2, 2, 3, 3, 3, 3, 4, 4, 4, 4, 4, 4, 4, 4, 5, 5, 5, 5, 5, 5, 5, 5, 5, 5, 5, 5, 5, 5, 5, 5, 6, 6, 6, 6, 6, 6, 6, 6, 6, 6, 6, 6, 6, 6, 6, 6, 6, 6, 6, 6, 6, 6, 6, 6, 6, 6, 6, 6, 6, 6, 6, 6] [7, 7, 7, 7, 7, 7, 7, 7, 7, 7, 7, 7, 7, 7, 7, 7, 7, 7, 7, 7, 7, 7, 7, 7, 7, 7, 7, 7, 7, 7, 7, 7, 7, 7, 7, 7, 7, 7, 7, 7, 7, 7, 7, 7, 7, 7, 7, 7, 7, 7, 7, 7, 7, 7, 7, 7, 7, 7, 7, 7, 7, 7, 7, 7]) (List.append [8, 8, 8, 8, 8, 8, 8, 8, 8, 8, 8, 8, 8, 8, 8, 8, 8, 8, 8, 8, 8, 8, 8, 8, 8, 8, 8, 8, 8, 8, 8, 8, 8, 8, 8, 8, 8, 8, 8, 8, 8, 8, 8, 8, 8, 8, 8, 8, 8, 8, 8, 8, 8, 8, 8, 8, 8, 8, 8, 8, 8, 8, 8, 8] [8, 8, 8, 8, 8, 8, 8, 8, 8, 8, 8, 8, 8, 8, 8, 8, 8, 8, 8, 8, 8, 8, 8, 8, 8, 8, 8, 8, 8, 8, 8, 8, 8, 8, 8, 8, 8, 8, 8, 8, 8, 8, 8, 8, 8, 8, 8, 8, 8, 8, 8, 8, 8, 8, 8, 8, 8, 8, 8, 8, 8, 8, 8, 8]))))

end Go.UK
