/- A part of the proof: what the functions of the program compute. -/
import Derived.Test.YtljnaeghnleipaaLib12
import Derived.Test.YtljnaeghnleipaaChecked
namespace Go.UK
open Go Go.Proofs
set_option maxRecDepth 20000
set_option maxHeartbeats 4000000
set_option linter.all false

instance : Globs := ⟨⟨[]⟩⟩

structure S_api_Manifest where
 gId : Int
 gKind : Int
 gLabel : Int
 gMasks : (Vector Int 8)
 gFrom : Int
 gTo : Int
 gSize : Int
 gChunks : Int

def S_api_Manifest.enc (s : S_api_Manifest) : AV := .st 15 [(k64 s.gId), (j64 s.gKind), (k32 s.gLabel), (eA 8 1 k8 s.gMasks), (k32 s.gFrom), (k32 s.gTo), (j64 s.gSize), (j64 s.gChunks)]

structure S_umbralaw16_Sealed where
 gKey : (Vector Int 32)
 gBase : (Vector Int 8)
 gM : S_api_Manifest

def S_umbralaw16_Sealed.enc (s : S_umbralaw16_Sealed) : AV := .st 55 [(eA 32 1 k8 s.gKey), (eA 8 1 k8 s.gBase), (S_api_Manifest.enc s.gM)]

structure S_api_Point where
 gX : Int
 gY : Int
 gZ : Int

def S_api_Point.enc (s : S_api_Point) : AV := .st 3 [(j64 s.gX), (j64 s.gY), (j64 s.gZ)]

structure S_api_Mesh where
 gVerts : (List S_api_Point)
 gUvs : (List (Vector Int 2))
 gTris : (List (Vector Int 3))

def S_api_Mesh.enc (s : S_api_Mesh) : AV := .st 3 [(eL 3 S_api_Point.enc s.gVerts), (eL 2 (eA 2 1 j64) s.gUvs), (eL 3 (eA 3 1 j64) s.gTris)]

structure S_api_Texture where
 gSide : Int
 gTexels : (List (Vector Int 3))

def S_api_Texture.enc (s : S_api_Texture) : AV := .st 2 [(j64 s.gSide), (eL 3 (eA 3 1 j64) s.gTexels)]

structure S_api_Material where
 gKind : Int
 gColor : (Vector Int 3)
 gRough : Int

def S_api_Material.enc (s : S_api_Material) : AV := .st 5 [(j64 s.gKind), (eA 3 1 j64 s.gColor), (j64 s.gRough)]

structure S_api_Light where
 gKind : Int
 gColor : (Vector Int 3)
 gAt : S_api_Point
 gU : S_api_Point
 gV : S_api_Point

def S_api_Light.enc (s : S_api_Light) : AV := .st 13 [(j64 s.gKind), (eA 3 1 j64 s.gColor), (S_api_Point.enc s.gAt), (S_api_Point.enc s.gU), (S_api_Point.enc s.gV)]

structure S_api_Asset where
 gKind : Int
 gMesh : S_api_Mesh
 gTexture : S_api_Texture
 gMaterial : S_api_Material
 gLight : S_api_Light

def S_api_Asset.enc (s : S_api_Asset) : AV := .st 24 [(j64 s.gKind), (S_api_Mesh.enc s.gMesh), (S_api_Texture.enc s.gTexture), (S_api_Material.enc s.gMaterial), (S_api_Light.enc s.gLight)]

structure S_poly_sum where
 gh : (Vector Int 3)

def S_poly_sum.enc (s : S_poly_sum) : AV := .st 3 [(eA 3 1 k64 s.gh)]

structure S_poly_Mac where
 gsum : S_poly_sum
 gmade : Bool
 gr0 : Int
 gr1 : Int
 gs0 : Int
 gs1 : Int
 grest : (List Int)
 gall : Int

def S_poly_Mac.enc (s : S_poly_Mac) : AV := .st 10 [(S_poly_sum.enc s.gsum), (eB s.gmade), (k64 s.gr0), (k64 s.gr1), (k64 s.gs0), (k64 s.gs1), (eL 1 k8 s.grest), (j64 s.gall)]

structure S_codec_Reader where
 gb : (List Int)
 ge : Int
 gmade : Bool

def S_codec_Reader.enc (s : S_codec_Reader) : AV := .st 3 [(eL 1 k8 s.gb), (j64 s.ge), (eB s.gmade)]

def tbl : TypeId → Option TI
 | 2 => some ⟨1, 8, (.v (.int .i64 0)), .int .i64⟩
 | 3 => some ⟨1, 8, (.v (.int .i64 0)), .int .i64⟩
 | 4 => some ⟨1, 1, (.v (.bool false)), .bool⟩
 | 5 => some ⟨1, 1, (.v (.int .u8 0)), .int .u8⟩
 | 9 => some ⟨1, 16, (.v (.string (ByteArray.mk #[]))), .str⟩
 | 22 => some ⟨32, 32, (.arr 32 1 (List.replicate 32 (.v (.int .u8 0)))), .arr 32 5⟩
 | 23 => some ⟨8, 8, (.arr 8 1 (List.replicate 8 (.v (.int .u8 0)))), .arr 8 5⟩
 | 24 => some ⟨1, 8, (.v (.int .u64 0)), .int .u64⟩
 | 25 => some ⟨1, 4, (.v (.int .u32 0)), .int .u32⟩
 | 27 => some ⟨15, 56, (.st 15 [(.v (.int .u64 0)), (.v (.int .i64 0)), (.v (.int .u32 0)), (.arr 8 1 (List.replicate 8 (.v (.int .u8 0)))), (.v (.int .u32 0)), (.v (.int .u32 0)), (.v (.int .i64 0)), (.v (.int .i64 0))]), .st [(0, 24), (1, 3), (2, 25), (3, 23), (11, 25), (12, 25), (13, 3), (14, 3)]⟩
 | 29 => some ⟨55, 96, (.st 55 [(.arr 32 1 (List.replicate 32 (.v (.int .u8 0)))), (.arr 8 1 (List.replicate 8 (.v (.int .u8 0)))), (.st 15 [(.v (.int .u64 0)), (.v (.int .i64 0)), (.v (.int .u32 0)), (.arr 8 1 (List.replicate 8 (.v (.int .u8 0)))), (.v (.int .u32 0)), (.v (.int .u32 0)), (.v (.int .i64 0)), (.v (.int .i64 0))])]), .st [(0, 22), (32, 23), (40, 27)]⟩
 | 30 => some ⟨1, 24, (.v (.slice none 0 0)), .sl 41⟩
 | 31 => some ⟨1, 24, (.v (.slice none 0 0)), .sl 85⟩
 | 32 => some ⟨1, 24, (.v (.slice none 0 0)), .sl 37⟩
 | 34 => some ⟨3, 72, (.st 3 [(.v (.slice none 0 0)), (.v (.slice none 0 0)), (.v (.slice none 0 0))]), .st [(0, 30), (1, 31), (2, 32)]⟩
 | 36 => some ⟨2, 32, (.st 2 [(.v (.int .i64 0)), (.v (.slice none 0 0))]), .st [(0, 3), (1, 32)]⟩
 | 37 => some ⟨3, 24, (.arr 3 1 (List.replicate 3 (.v (.int .i64 0)))), .arr 3 3⟩
 | 39 => some ⟨5, 40, (.st 5 [(.v (.int .i64 0)), (.arr 3 1 (List.replicate 3 (.v (.int .i64 0)))), (.v (.int .i64 0))]), .st [(0, 3), (1, 37), (4, 3)]⟩
 | 41 => some ⟨3, 24, (.st 3 [(.v (.int .i64 0)), (.v (.int .i64 0)), (.v (.int .i64 0))]), .st [(0, 3), (1, 3), (2, 3)]⟩
 | 43 => some ⟨13, 104, (.st 13 [(.v (.int .i64 0)), (.arr 3 1 (List.replicate 3 (.v (.int .i64 0)))), (.st 3 [(.v (.int .i64 0)), (.v (.int .i64 0)), (.v (.int .i64 0))]), (.st 3 [(.v (.int .i64 0)), (.v (.int .i64 0)), (.v (.int .i64 0))]), (.st 3 [(.v (.int .i64 0)), (.v (.int .i64 0)), (.v (.int .i64 0))])]), .st [(0, 3), (1, 37), (4, 41), (7, 41), (10, 41)]⟩
 | 45 => some ⟨24, 256, (.st 24 [(.v (.int .i64 0)), (.st 3 [(.v (.slice none 0 0)), (.v (.slice none 0 0)), (.v (.slice none 0 0))]), (.st 2 [(.v (.int .i64 0)), (.v (.slice none 0 0))]), (.st 5 [(.v (.int .i64 0)), (.arr 3 1 (List.replicate 3 (.v (.int .i64 0)))), (.v (.int .i64 0))]), (.st 13 [(.v (.int .i64 0)), (.arr 3 1 (List.replicate 3 (.v (.int .i64 0)))), (.st 3 [(.v (.int .i64 0)), (.v (.int .i64 0)), (.v (.int .i64 0))]), (.st 3 [(.v (.int .i64 0)), (.v (.int .i64 0)), (.v (.int .i64 0))]), (.st 3 [(.v (.int .i64 0)), (.v (.int .i64 0)), (.v (.int .i64 0))])])]), .st [(0, 3), (1, 34), (4, 36), (6, 39), (11, 43)]⟩
 | 47 => some ⟨1, 24, (.v (.slice none 0 0)), .sl 5⟩
 | 48 => some ⟨1, 8, (.v (.int .i64 0)), .int .i64⟩
 | 63 => some ⟨12, 12, (.arr 12 1 (List.replicate 12 (.v (.int .u8 0)))), .arr 12 5⟩
 | 70 => some ⟨1, 8, (.v .nilFunc), .other⟩
 | 74 => some ⟨1, 8, (.v (.pointer none)), .ptr 98⟩
 | 85 => some ⟨2, 16, (.arr 2 1 (List.replicate 2 (.v (.int .i64 0)))), .arr 2 3⟩
 | 88 => some ⟨16, 16, (.arr 16 1 (List.replicate 16 (.v (.int .u8 0)))), .arr 16 5⟩
 | 92 => some ⟨1, 24, (.v (.slice none 0 0)), .sl 47⟩
 | 95 => some ⟨1, 24, (.v (.slice none 0 0)), .sl 24⟩
 | 98 => some ⟨3, 40, (.st 3 [(.v (.slice none 0 0)), (.v (.int .i64 0)), (.v (.bool false))]), .st [(0, 47), (1, 48), (2, 4)]⟩
 | 102 => some ⟨1, 8, (.st 1 [(.v (.pointer none))]), .st [(0, 74)]⟩
 | 109 => some ⟨1, 8, (.st 1 [(.v (.pointer none))]), .st [(0, 74)]⟩
 | 113 => some ⟨1, 24, (.v (.slice none 0 0)), .sl 3⟩
 | 118 => some ⟨1, 8, (.st 1 [(.v (.pointer none))]), .st [(0, 74)]⟩
 | 123 => some ⟨5, 40, (.arr 5 1 (List.replicate 5 (.v (.int .i64 0)))), .arr 5 3⟩
 | 124 => some ⟨1, 8, (.v (.pointer none)), .ptr 144⟩
 | 128 => some ⟨64, 64, (.arr 64 1 (List.replicate 64 (.v (.int .u8 0)))), .arr 64 5⟩
 | 140 => some ⟨3, 24, (.arr 3 1 (List.replicate 3 (.v (.int .u64 0)))), .arr 3 24⟩
 | 142 => some ⟨3, 24, (.st 3 [(.arr 3 1 (List.replicate 3 (.v (.int .u64 0))))]), .st [(0, 140)]⟩
 | 144 => some ⟨10, 96, (.st 10 [(.st 3 [(.arr 3 1 (List.replicate 3 (.v (.int .u64 0))))]), (.v (.bool false)), (.v (.int .u64 0)), (.v (.int .u64 0)), (.v (.int .u64 0)), (.v (.int .u64 0)), (.v (.slice none 0 0)), (.v (.int .i64 0))]), .st [(0, 142), (3, 4), (4, 24), (5, 24), (6, 24), (7, 24), (8, 47), (9, 3)]⟩
 | 146 => some ⟨17, 17, (.arr 17 1 (List.replicate 17 (.v (.int .u8 0)))), .arr 17 5⟩
 | 147 => some ⟨1, 24, (.v (.slice none 0 0)), .sl 146⟩
 | 150 => some ⟨16, 64, (.arr 16 1 (List.replicate 16 (.v (.int .u32 0)))), .arr 16 25⟩
 | 152 => some ⟨4, 32, (.arr 4 1 (List.replicate 4 (.v (.int .i64 0)))), .arr 4 3⟩
 | 153 => some ⟨32, 256, (.arr 32 4 (List.replicate 8 (.arr 4 1 (List.replicate 4 (.v (.int .i64 0)))))), .arr 8 152⟩
 | 154 => some ⟨4, 16, (.arr 4 1 (List.replicate 4 (.v (.int .u32 0)))), .arr 4 25⟩
 | 156 => some ⟨1, 8, (.v (.int .u64 0)), .int .u64⟩
 | _ => none

theorem hT : TOK Try.prog tbl := by
 intro t i h
 unfold tbl at h
 split at h
 ·cases h; exact ⟨⟨_, _, rfl, rfl, rfl, rfl, rfl, rfl⟩, ⟨_, rfl, rfl⟩, rfl⟩
 ·cases h; exact ⟨⟨_, _, rfl, rfl, rfl, rfl, rfl, rfl⟩, ⟨_, rfl, rfl⟩, rfl⟩
 ·cases h; exact ⟨⟨_, _, rfl, rfl, rfl, rfl, rfl, rfl⟩, ⟨_, rfl, rfl⟩, rfl⟩
 ·cases h; exact ⟨⟨_, _, rfl, rfl, rfl, rfl, rfl, rfl⟩, ⟨_, rfl, rfl⟩, rfl⟩
 ·cases h; exact ⟨⟨_, _, rfl, rfl, rfl, rfl, rfl, rfl⟩, ⟨_, rfl, rfl⟩, rfl⟩
 ·cases h; exact ⟨⟨_, _, rfl, rfl, rfl, rfl, rfl, rfl⟩, ⟨_, rfl, rfl⟩, rfl⟩
 ·cases h; exact ⟨⟨_, _, rfl, rfl, rfl, rfl, rfl, rfl⟩, ⟨_, rfl, rfl⟩, rfl⟩
 ·cases h; exact ⟨⟨_, _, rfl, rfl, rfl, rfl, rfl, rfl⟩, ⟨_, rfl, rfl⟩, rfl⟩
 ·cases h; exact ⟨⟨_, _, rfl, rfl, rfl, rfl, rfl, rfl⟩, ⟨_, rfl, rfl⟩, rfl⟩
 ·cases h; exact ⟨⟨_, _, rfl, rfl, rfl, rfl, rfl, rfl⟩, ⟨_, rfl, ⟨_, rfl, rfl⟩⟩, rfl⟩
 ·cases h; exact ⟨⟨_, _, rfl, rfl, rfl, rfl, rfl, rfl⟩, ⟨_, rfl, ⟨_, rfl, rfl⟩⟩, rfl⟩
 ·cases h; exact ⟨⟨_, _, rfl, rfl, rfl, rfl, rfl, rfl⟩, ⟨_, rfl, rfl⟩, rfl⟩
 ·cases h; exact ⟨⟨_, _, rfl, rfl, rfl, rfl, rfl, rfl⟩, ⟨_, rfl, rfl⟩, rfl⟩
 ·cases h; exact ⟨⟨_, _, rfl, rfl, rfl, rfl, rfl, rfl⟩, ⟨_, rfl, rfl⟩, rfl⟩
 ·cases h; exact ⟨⟨_, _, rfl, rfl, rfl, rfl, rfl, rfl⟩, ⟨_, rfl, ⟨_, rfl, rfl⟩⟩, rfl⟩
 ·cases h; exact ⟨⟨_, _, rfl, rfl, rfl, rfl, rfl, rfl⟩, ⟨_, rfl, ⟨_, rfl, rfl⟩⟩, rfl⟩
 ·cases h; exact ⟨⟨_, _, rfl, rfl, rfl, rfl, rfl, rfl⟩, ⟨_, rfl, rfl⟩, rfl⟩
 ·cases h; exact ⟨⟨_, _, rfl, rfl, rfl, rfl, rfl, rfl⟩, ⟨_, rfl, ⟨_, rfl, rfl⟩⟩, rfl⟩
 ·cases h; exact ⟨⟨_, _, rfl, rfl, rfl, rfl, rfl, rfl⟩, ⟨_, rfl, ⟨_, rfl, rfl⟩⟩, rfl⟩
 ·cases h; exact ⟨⟨_, _, rfl, rfl, rfl, rfl, rfl, rfl⟩, ⟨_, rfl, ⟨_, rfl, rfl⟩⟩, rfl⟩
 ·cases h; exact ⟨⟨_, _, rfl, rfl, rfl, rfl, rfl, rfl⟩, ⟨_, rfl, ⟨_, rfl, rfl⟩⟩, rfl⟩
 ·cases h; exact ⟨⟨_, _, rfl, rfl, rfl, rfl, rfl, rfl⟩, ⟨_, rfl, rfl⟩, rfl⟩
 ·cases h; exact ⟨⟨_, _, rfl, rfl, rfl, rfl, rfl, rfl⟩, ⟨_, rfl, rfl⟩, rfl⟩
 ·cases h; exact ⟨⟨_, _, rfl, rfl, rfl, rfl, rfl, rfl⟩, ⟨_, rfl, rfl⟩, rfl⟩
 ·cases h; exact ⟨⟨_, _, rfl, rfl, rfl, rfl, rfl, rfl⟩, ⟨_, rfl, (by unfold TK.fits; exact ⟨(by intro fs h; cases h), (by intro n e h; cases h)⟩)⟩, rfl⟩
 ·cases h; exact ⟨⟨_, _, rfl, rfl, rfl, rfl, rfl, rfl⟩, ⟨_, rfl, rfl⟩, rfl⟩
 ·cases h; exact ⟨⟨_, _, rfl, rfl, rfl, rfl, rfl, rfl⟩, ⟨_, rfl, rfl⟩, rfl⟩
 ·cases h; exact ⟨⟨_, _, rfl, rfl, rfl, rfl, rfl, rfl⟩, ⟨_, rfl, rfl⟩, rfl⟩
 ·cases h; exact ⟨⟨_, _, rfl, rfl, rfl, rfl, rfl, rfl⟩, ⟨_, rfl, rfl⟩, rfl⟩
 ·cases h; exact ⟨⟨_, _, rfl, rfl, rfl, rfl, rfl, rfl⟩, ⟨_, rfl, rfl⟩, rfl⟩
 ·cases h; exact ⟨⟨_, _, rfl, rfl, rfl, rfl, rfl, rfl⟩, ⟨_, rfl, ⟨_, rfl, rfl⟩⟩, rfl⟩
 ·cases h; exact ⟨⟨_, _, rfl, rfl, rfl, rfl, rfl, rfl⟩, ⟨_, rfl, ⟨_, rfl, rfl⟩⟩, rfl⟩
 ·cases h; exact ⟨⟨_, _, rfl, rfl, rfl, rfl, rfl, rfl⟩, ⟨_, rfl, ⟨_, rfl, rfl⟩⟩, rfl⟩
 ·cases h; exact ⟨⟨_, _, rfl, rfl, rfl, rfl, rfl, rfl⟩, ⟨_, rfl, rfl⟩, rfl⟩
 ·cases h; exact ⟨⟨_, _, rfl, rfl, rfl, rfl, rfl, rfl⟩, ⟨_, rfl, ⟨_, rfl, rfl⟩⟩, rfl⟩
 ·cases h; exact ⟨⟨_, _, rfl, rfl, rfl, rfl, rfl, rfl⟩, ⟨_, rfl, rfl⟩, rfl⟩
 ·cases h; exact ⟨⟨_, _, rfl, rfl, rfl, rfl, rfl, rfl⟩, ⟨_, rfl, rfl⟩, rfl⟩
 ·cases h; exact ⟨⟨_, _, rfl, rfl, rfl, rfl, rfl, rfl⟩, ⟨_, rfl, rfl⟩, rfl⟩
 ·cases h; exact ⟨⟨_, _, rfl, rfl, rfl, rfl, rfl, rfl⟩, ⟨_, rfl, rfl⟩, rfl⟩
 ·cases h; exact ⟨⟨_, _, rfl, rfl, rfl, rfl, rfl, rfl⟩, ⟨_, rfl, ⟨_, rfl, rfl⟩⟩, rfl⟩
 ·cases h; exact ⟨⟨_, _, rfl, rfl, rfl, rfl, rfl, rfl⟩, ⟨_, rfl, ⟨_, rfl, rfl⟩⟩, rfl⟩
 ·cases h; exact ⟨⟨_, _, rfl, rfl, rfl, rfl, rfl, rfl⟩, ⟨_, rfl, rfl⟩, rfl⟩
 ·cases h; exact ⟨⟨_, _, rfl, rfl, rfl, rfl, rfl, rfl⟩, ⟨_, rfl, rfl⟩, rfl⟩
 ·cases h; exact ⟨⟨_, _, rfl, rfl, rfl, rfl, rfl, rfl⟩, ⟨_, rfl, rfl⟩, rfl⟩
 ·cases h; exact ⟨⟨_, _, rfl, rfl, rfl, rfl, rfl, rfl⟩, ⟨_, rfl, rfl⟩, rfl⟩
 ·cases h; exact ⟨⟨_, _, rfl, rfl, rfl, rfl, rfl, rfl⟩, ⟨_, rfl, rfl⟩, rfl⟩
 ·cases h; exact ⟨⟨_, _, rfl, rfl, rfl, rfl, rfl, rfl⟩, ⟨_, rfl, rfl⟩, rfl⟩
 ·cases h; exact ⟨⟨_, _, rfl, rfl, rfl, rfl, rfl, rfl⟩, ⟨_, rfl, rfl⟩, rfl⟩
 ·cases h

theorem hmo : Try.prog.follows .mixedOrders = true := by rfl

theorem tt3 : tbl 3 = some ⟨1, 8, (.v (.int .i64 0)), .int .i64⟩ := rfl

theorem tt5 : tbl 5 = some ⟨1, 1, (.v (.int .u8 0)), .int .u8⟩ := rfl

theorem tt23 : tbl 23 = some ⟨8, 8, (.arr 8 1 (List.replicate 8 (.v (.int .u8 0)))), .arr 8 5⟩ := rfl

theorem tt24 : tbl 24 = some ⟨1, 8, (.v (.int .u64 0)), .int .u64⟩ := rfl

theorem tt25 : tbl 25 = some ⟨1, 4, (.v (.int .u32 0)), .int .u32⟩ := rfl

theorem tt37 : tbl 37 = some ⟨3, 24, (.arr 3 1 (List.replicate 3 (.v (.int .i64 0)))), .arr 3 3⟩ := rfl

theorem tt41 : tbl 41 = some ⟨3, 24, (.st 3 [(.v (.int .i64 0)), (.v (.int .i64 0)), (.v (.int .i64 0))]), .st [(0, 3), (1, 3), (2, 3)]⟩ := rfl

theorem eqT_3 : EqT Try.prog 3 (α := Int) j64 (fun a b => a == b) 1 :=
 eqT_int Try.underlying3

def S_api_Point.eq (a b : S_api_Point) : Bool := (fun a b => a == b) a.gX b.gX && ((fun a b => a == b) a.gY b.gY && ((fun a b => a == b) a.gZ b.gZ && true))
theorem eqT_41 : EqT Try.prog 41 (α := S_api_Point) S_api_Point.enc S_api_Point.eq 2 :=
 eqT_struct (N := 3) Try.underlying41 (by kernel_rfl) (fun _ => rfl) (fun a b => eqF_cons hT a.gX b.gX (by decide) rfl tt3 rfl (fun _ => rfl) (fun _ => rfl) (fun _ => rfl) eqT_3 (by decide) (eqF_cons hT a.gY b.gY (by decide) rfl tt3 rfl (fun _ => rfl) (fun _ => rfl) (fun _ => rfl) eqT_3 (by decide) (eqF_cons hT a.gZ b.gZ (by decide) rfl tt3 rfl (fun _ => rfl) (fun _ => rfl) (fun _ => rfl) eqT_3 (by decide) (eqF_nil))))

theorem eqT_37 : EqT Try.prog 37 (α := (Vector Int 3)) (eA 3 1 j64) (eqV (fun a b => a == b)) 2 :=
 eqT_array (M := 3) hT tt3 Try.underlying37 (by kernel_rfl) (fun _ => rfl) rfl (fun _ => rfl) (fun _ => rfl) eqT_3

def S_api_Material.eq (a b : S_api_Material) : Bool := (fun a b => a == b) a.gKind b.gKind && ((eqV (fun a b => a == b)) a.gColor b.gColor && ((fun a b => a == b) a.gRough b.gRough && true))
theorem eqT_39 : EqT Try.prog 39 (α := S_api_Material) S_api_Material.enc S_api_Material.eq 3 :=
 eqT_struct (N := 5) Try.underlying39 (by kernel_rfl) (fun _ => rfl) (fun a b => eqF_cons hT a.gKind b.gKind (by decide) rfl tt3 rfl (fun _ => rfl) (fun _ => rfl) (fun _ => rfl) eqT_3 (by decide) (eqF_cons hT a.gColor b.gColor (by decide) rfl tt37 rfl (fun _ => rfl) (fun _ => rfl) (fun _ => rfl) eqT_37 (by decide) (eqF_cons hT a.gRough b.gRough (by decide) rfl tt3 rfl (fun _ => rfl) (fun _ => rfl) (fun _ => rfl) eqT_3 (by decide) (eqF_nil))))

def S_api_Light.eq (a b : S_api_Light) : Bool := (fun a b => a == b) a.gKind b.gKind && ((eqV (fun a b => a == b)) a.gColor b.gColor && (S_api_Point.eq a.gAt b.gAt && (S_api_Point.eq a.gU b.gU && (S_api_Point.eq a.gV b.gV && true))))
theorem eqT_43 : EqT Try.prog 43 (α := S_api_Light) S_api_Light.enc S_api_Light.eq 3 :=
 eqT_struct (N := 13) Try.underlying43 (by kernel_rfl) (fun _ => rfl) (fun a b => eqF_cons hT a.gKind b.gKind (by decide) rfl tt3 rfl (fun _ => rfl) (fun _ => rfl) (fun _ => rfl) eqT_3 (by decide) (eqF_cons hT a.gColor b.gColor (by decide) rfl tt37 rfl (fun _ => rfl) (fun _ => rfl) (fun _ => rfl) eqT_37 (by decide) (eqF_cons hT a.gAt b.gAt (by decide) rfl tt41 rfl (fun _ => rfl) (fun _ => rfl) (fun _ => rfl) eqT_41 (by decide) (eqF_cons hT a.gU b.gU (by decide) rfl tt41 rfl (fun _ => rfl) (fun _ => rfl) (fun _ => rfl) eqT_41 (by decide) (eqF_cons hT a.gV b.gV (by decide) rfl tt41 rfl (fun _ => rfl) (fun _ => rfl) (fun _ => rfl) eqT_41 (by decide) (eqF_nil))))))

theorem eqT_85 : EqT Try.prog 85 (α := (Vector Int 2)) (eA 2 1 j64) (eqV (fun a b => a == b)) 2 :=
 eqT_array (M := 2) hT tt3 Try.underlying85 (by kernel_rfl) (fun _ => rfl) rfl (fun _ => rfl) (fun _ => rfl) eqT_3

theorem eqT_24 : EqT Try.prog 24 (α := Int) k64 (fun a b => a == b) 1 :=
 eqT_int Try.underlying24

theorem eqT_25 : EqT Try.prog 25 (α := Int) k32 (fun a b => a == b) 1 :=
 eqT_int Try.underlying25

theorem eqT_5 : EqT Try.prog 5 (α := Int) k8 (fun a b => a == b) 1 :=
 eqT_int Try.underlying5

theorem eqT_23 : EqT Try.prog 23 (α := (Vector Int 8)) (eA 8 1 k8) (eqV (fun a b => a == b)) 2 :=
 eqT_array (M := 8) hT tt5 Try.underlying23 (by kernel_rfl) (fun _ => rfl) rfl (fun _ => rfl) (fun _ => rfl) eqT_5

def S_api_Manifest.eq (a b : S_api_Manifest) : Bool := (fun a b => a == b) a.gId b.gId && ((fun a b => a == b) a.gKind b.gKind && ((fun a b => a == b) a.gLabel b.gLabel && ((eqV (fun a b => a == b)) a.gMasks b.gMasks && ((fun a b => a == b) a.gFrom b.gFrom && ((fun a b => a == b) a.gTo b.gTo && ((fun a b => a == b) a.gSize b.gSize && ((fun a b => a == b) a.gChunks b.gChunks && true)))))))
theorem eqT_27 : EqT Try.prog 27 (α := S_api_Manifest) S_api_Manifest.enc S_api_Manifest.eq 3 :=
 eqT_struct (N := 15) Try.underlying27 (by kernel_rfl) (fun _ => rfl) (fun a b => eqF_cons hT a.gId b.gId (by decide) rfl tt24 rfl (fun _ => rfl) (fun _ => rfl) (fun _ => rfl) eqT_24 (by decide) (eqF_cons hT a.gKind b.gKind (by decide) rfl tt3 rfl (fun _ => rfl) (fun _ => rfl) (fun _ => rfl) eqT_3 (by decide) (eqF_cons hT a.gLabel b.gLabel (by decide) rfl tt25 rfl (fun _ => rfl) (fun _ => rfl) (fun _ => rfl) eqT_25 (by decide) (eqF_cons hT a.gMasks b.gMasks (by decide) rfl tt23 rfl (fun _ => rfl) (fun _ => rfl) (fun _ => rfl) eqT_23 (by decide) (eqF_cons hT a.gFrom b.gFrom (by decide) rfl tt25 rfl (fun _ => rfl) (fun _ => rfl) (fun _ => rfl) eqT_25 (by decide) (eqF_cons hT a.gTo b.gTo (by decide) rfl tt25 rfl (fun _ => rfl) (fun _ => rfl) (fun _ => rfl) eqT_25 (by decide) (eqF_cons hT a.gSize b.gSize (by decide) rfl tt3 rfl (fun _ => rfl) (fun _ => rfl) (fun _ => rfl) eqT_3 (by decide) (eqF_cons hT a.gChunks b.gChunks (by decide) rfl tt3 rfl (fun _ => rfl) (fun _ => rfl) (fun _ => rfl) eqT_3 (by decide) (eqF_nil)))))))))

abbrev cv_1 : AV := (.arr 32 4 [(.arr 4 1 [(j64 0), (j64 4), (j64 8), (j64 12)]), (.arr 4 1 [(j64 1), (j64 5), (j64 9), (j64 13)]), (.arr 4 1 [(j64 2), (j64 6), (j64 10), (j64 14)]), (.arr 4 1 [(j64 3), (j64 7), (j64 11), (j64 15)]), (.arr 4 1 [(j64 0), (j64 5), (j64 10), (j64 15)]), (.arr 4 1 [(j64 1), (j64 6), (j64 11), (j64 12)]), (.arr 4 1 [(j64 2), (j64 7), (j64 8), (j64 13)]), (.arr 4 1 [(j64 3), (j64 4), (j64 9), (j64 14)])])
abbrev cv_2 : AV := (.st 15 [(k64 0), (j64 0), (k32 0), (eA 8 1 k8 (Vector.replicate 8 0)), (k32 0), (k32 0), (j64 0), (j64 0)])
abbrev cv_3 : AV := (.st 24 [(j64 0), (.st 3 [(.v (.slice none 0 0)), (.v (.slice none 0 0)), (.v (.slice none 0 0))]), (.st 2 [(j64 0), (.v (.slice none 0 0))]), (.st 5 [(j64 0), (.arr 3 1 [(j64 0), (j64 0), (j64 0)]), (j64 0)]), (.st 13 [(j64 0), (.arr 3 1 [(j64 0), (j64 0), (j64 0)]), (.st 3 [(j64 0), (j64 0), (j64 0)]), (.st 3 [(j64 0), (j64 0), (j64 0)]), (.st 3 [(j64 0), (j64 0), (j64 0)])])])
abbrev cv_4 : AV := (.st 3 [(.v (.slice none 0 0)), (.v (.slice none 0 0)), (.v (.slice none 0 0))])
abbrev cv_5 : AV := (.st 5 [(j64 0), (.arr 3 1 [(j64 0), (j64 0), (j64 0)]), (j64 0)])
abbrev cv_6 : AV := (.st 13 [(j64 0), (.arr 3 1 [(j64 0), (j64 0), (j64 0)]), (.st 3 [(j64 0), (j64 0), (j64 0)]), (.st 3 [(j64 0), (j64 0), (j64 0)]), (.st 3 [(j64 0), (j64 0), (j64 0)])])
end Go.UK

