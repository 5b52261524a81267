/- A part of the proof: what the functions of the program compute. -/
import Derived.Test.YtbifjcmhomoppaaGreatLib13
import Derived.Test.YtbifjcmhomoppaaGreatChecked
namespace Go.UK
open Go Go.Proofs
set_option maxRecDepth 20000
set_option maxHeartbeats 40000000
set_option linter.all false

instance : Globs := ⟨⟨[]⟩⟩

structure S_umbralaw36_Act where
 gKind : Int
 gId : Int
 gEpoch : Int

def S_umbralaw36_Act.enc (s : S_umbralaw36_Act) : AV := .st 3 [(j64 s.gKind), (j64 s.gId), (j64 s.gEpoch)]

structure S_keys_span where
 gfrom : Int
 gto : Int

def S_keys_span.enc (s : S_keys_span) : AV := .st 2 [(j64 s.gfrom), (j64 s.gto)]

structure S_umbraref36_Span where
 gId : Int
 gFrom : Int
 gTo : Int

def S_umbraref36_Span.enc (s : S_umbraref36_Span) : AV := .st 3 [(j64 s.gId), (j64 s.gFrom), (j64 s.gTo)]

structure S_api_Manifest where
 gId : Int
 gKind : Int
 gLabel : Int
 gMasks : (Vector Int 8)
 gFrom : Int
 gTo : Int
 gSize : Int
 gChunks : Int

def S_api_Manifest.enc (s : S_api_Manifest) : AV := .st 15 [(k64 s.gId), (j64 s.gKind), (k32 s.gLabel), (eA 8 1 k8 s.gMasks), (k32 s.gFrom), (k32 s.gTo), (j64 s.gSize), (j64 s.gChunks)]

structure S_api_Point where
 gX : Int
 gY : Int
 gZ : Int

def S_api_Point.enc (s : S_api_Point) : AV := .st 3 [(j64 s.gX), (j64 s.gY), (j64 s.gZ)]

structure S_api_Mesh where
 gVerts : (List S_api_Point)
 gUvs : (List (Vector Int 2))
 gTris : (List (Vector Int 3))

def S_api_Mesh.enc (s : S_api_Mesh) : AV := .st 3 [(eL 3 S_api_Point.enc s.gVerts), (eL 2 (eA 2 1 j64) s.gUvs), (eL 3 (eA 3 1 j64) s.gTris)]

structure S_api_Texture where
 gSide : Int
 gTexels : (List (Vector Int 3))

def S_api_Texture.enc (s : S_api_Texture) : AV := .st 2 [(j64 s.gSide), (eL 3 (eA 3 1 j64) s.gTexels)]

structure S_api_Material where
 gKind : Int
 gColor : (Vector Int 3)
 gRough : Int

def S_api_Material.enc (s : S_api_Material) : AV := .st 5 [(j64 s.gKind), (eA 3 1 j64 s.gColor), (j64 s.gRough)]

structure S_api_Light where
 gKind : Int
 gColor : (Vector Int 3)
 gAt : S_api_Point
 gU : S_api_Point
 gV : S_api_Point

def S_api_Light.enc (s : S_api_Light) : AV := .st 13 [(j64 s.gKind), (eA 3 1 j64 s.gColor), (S_api_Point.enc s.gAt), (S_api_Point.enc s.gU), (S_api_Point.enc s.gV)]

structure S_api_Asset where
 gKind : Int
 gMesh : S_api_Mesh
 gTexture : S_api_Texture
 gMaterial : S_api_Material
 gLight : S_api_Light

def S_api_Asset.enc (s : S_api_Asset) : AV := .st 24 [(j64 s.gKind), (S_api_Mesh.enc s.gMesh), (S_api_Texture.enc s.gTexture), (S_api_Material.enc s.gMaterial), (S_api_Light.enc s.gLight)]

structure S_sha_Hash where
 gh : (Vector Int 8)
 gblock : (Vector Int 64)
 gn : Int

def S_sha_Hash.enc (s : S_sha_Hash) : AV := .st 73 [(eA 8 1 k32 s.gh), (eA 64 1 k8 s.gblock), (j64 s.gn)]

structure S_poly_sum where
 gh : (Vector Int 3)

def S_poly_sum.enc (s : S_poly_sum) : AV := .st 3 [(eA 3 1 k64 s.gh)]

structure S_poly_Mac where
 gsum : S_poly_sum
 gmade : Bool
 gr0 : Int
 gr1 : Int
 gs0 : Int
 gs1 : Int
 grest : (List Int)
 gall : Int

def S_poly_Mac.enc (s : S_poly_Mac) : AV := .st 10 [(S_poly_sum.enc s.gsum), (eB s.gmade), (k64 s.gr0), (k64 s.gr1), (k64 s.gs0), (k64 s.gs1), (eL 1 k8 s.grest), (j64 s.gall)]

structure S_codec_Reader where
 gb : (List Int)
 ge : Int
 gmade : Bool

def S_codec_Reader.enc (s : S_codec_Reader) : AV := .st 3 [(eL 1 k8 s.gb), (j64 s.ge), (eB s.gmade)]

def tbl : TypeId → Option TI
 | 2 => some ⟨1, 8, (.v (.int .i64 0)), .int .i64⟩
 | 3 => some ⟨1, 8, (.v (.int .i64 0)), .int .i64⟩
 | 4 => some ⟨1, 1, (.v (.bool false)), .bool⟩
 | 5 => some ⟨1, 1, (.v (.int .u8 0)), .int .u8⟩
 | 9 => some ⟨1, 16, (.v (.string (ByteArray.mk #[]))), .str⟩
 | 22 => some ⟨32, 32, (.arr 32 1 (List.replicate 32 (.v (.int .u8 0)))), .arr 32 5⟩
 | 23 => some ⟨1, 8, (.v (.int .u64 0)), .int .u64⟩
 | 24 => some ⟨1, 4, (.v (.int .u32 0)), .int .u32⟩
 | 25 => some ⟨8, 8, (.arr 8 1 (List.replicate 8 (.v (.int .u8 0)))), .arr 8 5⟩
 | 27 => some ⟨15, 56, (.st 15 [(.v (.int .u64 0)), (.v (.int .i64 0)), (.v (.int .u32 0)), (.arr 8 1 (List.replicate 8 (.v (.int .u8 0)))), (.v (.int .u32 0)), (.v (.int .u32 0)), (.v (.int .i64 0)), (.v (.int .i64 0))]), .st [(0, 23), (1, 3), (2, 24), (3, 25), (11, 24), (12, 24), (13, 3), (14, 3)]⟩
 | 30 => some ⟨1, 24, (.v (.slice none 0 0)), .sl 41⟩
 | 31 => some ⟨1, 24, (.v (.slice none 0 0)), .sl 128⟩
 | 32 => some ⟨1, 24, (.v (.slice none 0 0)), .sl 37⟩
 | 34 => some ⟨3, 72, (.st 3 [(.v (.slice none 0 0)), (.v (.slice none 0 0)), (.v (.slice none 0 0))]), .st [(0, 30), (1, 31), (2, 32)]⟩
 | 36 => some ⟨2, 32, (.st 2 [(.v (.int .i64 0)), (.v (.slice none 0 0))]), .st [(0, 3), (1, 32)]⟩
 | 37 => some ⟨3, 24, (.arr 3 1 (List.replicate 3 (.v (.int .i64 0)))), .arr 3 3⟩
 | 39 => some ⟨5, 40, (.st 5 [(.v (.int .i64 0)), (.arr 3 1 (List.replicate 3 (.v (.int .i64 0)))), (.v (.int .i64 0))]), .st [(0, 3), (1, 37), (4, 3)]⟩
 | 41 => some ⟨3, 24, (.st 3 [(.v (.int .i64 0)), (.v (.int .i64 0)), (.v (.int .i64 0))]), .st [(0, 3), (1, 3), (2, 3)]⟩
 | 43 => some ⟨13, 104, (.st 13 [(.v (.int .i64 0)), (.arr 3 1 (List.replicate 3 (.v (.int .i64 0)))), (.st 3 [(.v (.int .i64 0)), (.v (.int .i64 0)), (.v (.int .i64 0))]), (.st 3 [(.v (.int .i64 0)), (.v (.int .i64 0)), (.v (.int .i64 0))]), (.st 3 [(.v (.int .i64 0)), (.v (.int .i64 0)), (.v (.int .i64 0))])]), .st [(0, 3), (1, 37), (4, 41), (7, 41), (10, 41)]⟩
 | 45 => some ⟨24, 256, (.st 24 [(.v (.int .i64 0)), (.st 3 [(.v (.slice none 0 0)), (.v (.slice none 0 0)), (.v (.slice none 0 0))]), (.st 2 [(.v (.int .i64 0)), (.v (.slice none 0 0))]), (.st 5 [(.v (.int .i64 0)), (.arr 3 1 (List.replicate 3 (.v (.int .i64 0)))), (.v (.int .i64 0))]), (.st 13 [(.v (.int .i64 0)), (.arr 3 1 (List.replicate 3 (.v (.int .i64 0)))), (.st 3 [(.v (.int .i64 0)), (.v (.int .i64 0)), (.v (.int .i64 0))]), (.st 3 [(.v (.int .i64 0)), (.v (.int .i64 0)), (.v (.int .i64 0))]), (.st 3 [(.v (.int .i64 0)), (.v (.int .i64 0)), (.v (.int .i64 0))])])]), .st [(0, 3), (1, 34), (4, 36), (6, 39), (11, 43)]⟩
 | 57 => some ⟨1, 24, (.v (.slice none 0 0)), .sl 5⟩
 | 58 => some ⟨1, 8, (.v (.int .i64 0)), .int .i64⟩
 | 67 => some ⟨1, 24, (.v (.slice none 0 0)), .sl 75⟩
 | 68 => some ⟨1, 8, (.v (.pointer none)), .ptr 95⟩
 | 71 => some ⟨1, 24, (.v (.slice none 0 0)), .sl 100⟩
 | 73 => some ⟨33, 56, (.st 33 [(.arr 32 1 (List.replicate 32 (.v (.int .u8 0)))), (.v (.slice none 0 0))]), .st [(0, 22), (32, 71)]⟩
 | 75 => some ⟨3, 24, (.st 3 [(.v (.int .i64 0)), (.v (.int .i64 0)), (.v (.int .i64 0))]), .st [(0, 3), (1, 3), (2, 3)]⟩
 | 93 => some ⟨1, 8, (.v (.map none)), .other⟩
 | 95 => some ⟨33, 40, (.st 33 [(.arr 32 1 (List.replicate 32 (.v (.int .u8 0)))), (.v (.map none))]), .st [(0, 22), (32, 93)]⟩
 | 97 => some ⟨1, 24, (.v (.slice none 0 0)), .sl 3⟩
 | 100 => some ⟨3, 24, (.st 3 [(.v (.int .i64 0)), (.v (.int .i64 0)), (.v (.int .i64 0))]), .st [(0, 3), (1, 3), (2, 3)]⟩
 | 108 => some ⟨1, 8, (.v (.int .u64 0)), .int .u64⟩
 | 110 => some ⟨1, 24, (.v (.slice none 0 0)), .sl 57⟩
 | 113 => some ⟨2, 16, (.st 2 [(.v (.int .i64 0)), (.v (.int .i64 0))]), .st [(0, 3), (1, 3)]⟩
 | 117 => some ⟨1, 8, (.v (.pointer none)), .ptr 154⟩
 | 128 => some ⟨2, 16, (.arr 2 1 (List.replicate 2 (.v (.int .i64 0)))), .arr 2 3⟩
 | 139 => some ⟨12, 12, (.arr 12 1 (List.replicate 12 (.v (.int .u8 0)))), .arr 12 5⟩
 | 142 => some ⟨1, 8, (.v .nilFunc), .other⟩
 | 144 => some ⟨1, 24, (.v (.slice none 0 0)), .sl 23⟩
 | 154 => some ⟨3, 40, (.st 3 [(.v (.slice none 0 0)), (.v (.int .i64 0)), (.v (.bool false))]), .st [(0, 57), (1, 58), (2, 4)]⟩
 | 176 => some ⟨16, 16, (.arr 16 1 (List.replicate 16 (.v (.int .u8 0)))), .arr 16 5⟩
 | 182 => some ⟨64, 64, (.arr 64 1 (List.replicate 64 (.v (.int .u8 0)))), .arr 64 5⟩
 | 185 => some ⟨1, 8, (.v (.pointer none)), .ptr 233⟩
 | 194 => some ⟨1, 8, (.st 1 [(.v (.pointer none))]), .st [(0, 117)]⟩
 | 231 => some ⟨8, 32, (.arr 8 1 (List.replicate 8 (.v (.int .u32 0)))), .arr 8 24⟩
 | 233 => some ⟨73, 104, (.st 73 [(.arr 8 1 (List.replicate 8 (.v (.int .u32 0)))), (.arr 64 1 (List.replicate 64 (.v (.int .u8 0)))), (.v (.int .i64 0))]), .st [(0, 231), (8, 182), (72, 3)]⟩
 | 236 => some ⟨1, 8, (.st 1 [(.v (.pointer none))]), .st [(0, 117)]⟩
 | 237 => some ⟨1, 8, (.st 1 [(.v (.pointer none))]), .st [(0, 117)]⟩
 | 254 => some ⟨5, 40, (.arr 5 1 (List.replicate 5 (.v (.int .i64 0)))), .arr 5 3⟩
 | 256 => some ⟨1, 8, (.v (.pointer none)), .ptr 296⟩
 | 261 => some ⟨64, 256, (.arr 64 1 (List.replicate 64 (.v (.int .u32 0)))), .arr 64 24⟩
 | 272 => some ⟨17, 17, (.arr 17 1 (List.replicate 17 (.v (.int .u8 0)))), .arr 17 5⟩
 | 274 => some ⟨1, 24, (.v (.slice none 0 0)), .sl 272⟩
 | 285 => some ⟨16, 64, (.arr 16 1 (List.replicate 16 (.v (.int .u32 0)))), .arr 16 24⟩
 | 287 => some ⟨4, 32, (.arr 4 1 (List.replicate 4 (.v (.int .i64 0)))), .arr 4 3⟩
 | 288 => some ⟨32, 256, (.arr 32 4 (List.replicate 8 (.arr 4 1 (List.replicate 4 (.v (.int .i64 0)))))), .arr 8 287⟩
 | 289 => some ⟨4, 16, (.arr 4 1 (List.replicate 4 (.v (.int .u32 0)))), .arr 4 24⟩
 | 292 => some ⟨3, 24, (.arr 3 1 (List.replicate 3 (.v (.int .u64 0)))), .arr 3 23⟩
 | 294 => some ⟨3, 24, (.st 3 [(.arr 3 1 (List.replicate 3 (.v (.int .u64 0))))]), .st [(0, 292)]⟩
 | 296 => some ⟨10, 96, (.st 10 [(.st 3 [(.arr 3 1 (List.replicate 3 (.v (.int .u64 0))))]), (.v (.bool false)), (.v (.int .u64 0)), (.v (.int .u64 0)), (.v (.int .u64 0)), (.v (.int .u64 0)), (.v (.slice none 0 0)), (.v (.int .i64 0))]), .st [(0, 294), (3, 4), (4, 23), (5, 23), (6, 23), (7, 23), (8, 57), (9, 3)]⟩
 | _ => none

theorem hT : TOK Tryz.prog tbl := by
 intro t i h
 unfold tbl at h
 split at h
 ·cases h; exact ⟨⟨_, _, rfl, rfl, rfl, rfl, rfl, rfl⟩, ⟨_, rfl, rfl⟩, rfl⟩
 ·cases h; exact ⟨⟨_, _, rfl, rfl, rfl, rfl, rfl, rfl⟩, ⟨_, rfl, rfl⟩, rfl⟩
 ·cases h; exact ⟨⟨_, _, rfl, rfl, rfl, rfl, rfl, rfl⟩, ⟨_, rfl, rfl⟩, rfl⟩
 ·cases h; exact ⟨⟨_, _, rfl, rfl, rfl, rfl, rfl, rfl⟩, ⟨_, rfl, rfl⟩, rfl⟩
 ·cases h; exact ⟨⟨_, _, rfl, rfl, rfl, rfl, rfl, rfl⟩, ⟨_, rfl, rfl⟩, rfl⟩
 ·cases h; exact ⟨⟨_, _, rfl, rfl, rfl, rfl, rfl, rfl⟩, ⟨_, rfl, rfl⟩, rfl⟩
 ·cases h; exact ⟨⟨_, _, rfl, rfl, rfl, rfl, rfl, rfl⟩, ⟨_, rfl, rfl⟩, rfl⟩
 ·cases h; exact ⟨⟨_, _, rfl, rfl, rfl, rfl, rfl, rfl⟩, ⟨_, rfl, rfl⟩, rfl⟩
 ·cases h; exact ⟨⟨_, _, rfl, rfl, rfl, rfl, rfl, rfl⟩, ⟨_, rfl, rfl⟩, rfl⟩
 ·cases h; exact ⟨⟨_, _, rfl, rfl, rfl, rfl, rfl, rfl⟩, ⟨_, rfl, ⟨_, rfl, rfl⟩⟩, rfl⟩
 ·cases h; exact ⟨⟨_, _, rfl, rfl, rfl, rfl, rfl, rfl⟩, ⟨_, rfl, rfl⟩, rfl⟩
 ·cases h; exact ⟨⟨_, _, rfl, rfl, rfl, rfl, rfl, rfl⟩, ⟨_, rfl, rfl⟩, rfl⟩
 ·cases h; exact ⟨⟨_, _, rfl, rfl, rfl, rfl, rfl, rfl⟩, ⟨_, rfl, rfl⟩, rfl⟩
 ·cases h; exact ⟨⟨_, _, rfl, rfl, rfl, rfl, rfl, rfl⟩, ⟨_, rfl, ⟨_, rfl, rfl⟩⟩, rfl⟩
 ·cases h; exact ⟨⟨_, _, rfl, rfl, rfl, rfl, rfl, rfl⟩, ⟨_, rfl, ⟨_, rfl, rfl⟩⟩, rfl⟩
 ·cases h; exact ⟨⟨_, _, rfl, rfl, rfl, rfl, rfl, rfl⟩, ⟨_, rfl, rfl⟩, rfl⟩
 ·cases h; exact ⟨⟨_, _, rfl, rfl, rfl, rfl, rfl, rfl⟩, ⟨_, rfl, ⟨_, rfl, rfl⟩⟩, rfl⟩
 ·cases h; exact ⟨⟨_, _, rfl, rfl, rfl, rfl, rfl, rfl⟩, ⟨_, rfl, ⟨_, rfl, rfl⟩⟩, rfl⟩
 ·cases h; exact ⟨⟨_, _, rfl, rfl, rfl, rfl, rfl, rfl⟩, ⟨_, rfl, ⟨_, rfl, rfl⟩⟩, rfl⟩
 ·cases h; exact ⟨⟨_, _, rfl, rfl, rfl, rfl, rfl, rfl⟩, ⟨_, rfl, ⟨_, rfl, rfl⟩⟩, rfl⟩
 ·cases h; exact ⟨⟨_, _, rfl, rfl, rfl, rfl, rfl, rfl⟩, ⟨_, rfl, rfl⟩, rfl⟩
 ·cases h; exact ⟨⟨_, _, rfl, rfl, rfl, rfl, rfl, rfl⟩, ⟨_, rfl, rfl⟩, rfl⟩
 ·cases h; exact ⟨⟨_, _, rfl, rfl, rfl, rfl, rfl, rfl⟩, ⟨_, rfl, rfl⟩, rfl⟩
 ·cases h; exact ⟨⟨_, _, rfl, rfl, rfl, rfl, rfl, rfl⟩, ⟨_, rfl, rfl⟩, rfl⟩
 ·cases h; exact ⟨⟨_, _, rfl, rfl, rfl, rfl, rfl, rfl⟩, ⟨_, rfl, rfl⟩, rfl⟩
 ·cases h; exact ⟨⟨_, _, rfl, rfl, rfl, rfl, rfl, rfl⟩, ⟨_, rfl, ⟨_, rfl, rfl⟩⟩, rfl⟩
 ·cases h; exact ⟨⟨_, _, rfl, rfl, rfl, rfl, rfl, rfl⟩, ⟨_, rfl, ⟨_, rfl, rfl⟩⟩, rfl⟩
 ·cases h; exact ⟨⟨_, _, rfl, rfl, rfl, rfl, rfl, rfl⟩, ⟨_, rfl, (by unfold TK.fits; exact ⟨(by intro fs h; cases h), (by intro n e h; cases h)⟩)⟩, rfl⟩
 ·cases h; exact ⟨⟨_, _, rfl, rfl, rfl, rfl, rfl, rfl⟩, ⟨_, rfl, ⟨_, rfl, rfl⟩⟩, rfl⟩
 ·cases h; exact ⟨⟨_, _, rfl, rfl, rfl, rfl, rfl, rfl⟩, ⟨_, rfl, rfl⟩, rfl⟩
 ·cases h; exact ⟨⟨_, _, rfl, rfl, rfl, rfl, rfl, rfl⟩, ⟨_, rfl, ⟨_, rfl, rfl⟩⟩, rfl⟩
 ·cases h; exact ⟨⟨_, _, rfl, rfl, rfl, rfl, rfl, rfl⟩, ⟨_, rfl, rfl⟩, rfl⟩
 ·cases h; exact ⟨⟨_, _, rfl, rfl, rfl, rfl, rfl, rfl⟩, ⟨_, rfl, rfl⟩, rfl⟩
 ·cases h; exact ⟨⟨_, _, rfl, rfl, rfl, rfl, rfl, rfl⟩, ⟨_, rfl, ⟨_, rfl, rfl⟩⟩, rfl⟩
 ·cases h; exact ⟨⟨_, _, rfl, rfl, rfl, rfl, rfl, rfl⟩, ⟨_, rfl, rfl⟩, rfl⟩
 ·cases h; exact ⟨⟨_, _, rfl, rfl, rfl, rfl, rfl, rfl⟩, ⟨_, rfl, rfl⟩, rfl⟩
 ·cases h; exact ⟨⟨_, _, rfl, rfl, rfl, rfl, rfl, rfl⟩, ⟨_, rfl, rfl⟩, rfl⟩
 ·cases h; exact ⟨⟨_, _, rfl, rfl, rfl, rfl, rfl, rfl⟩, ⟨_, rfl, (by unfold TK.fits; exact ⟨(by intro fs h; cases h), (by intro n e h; cases h)⟩)⟩, rfl⟩
 ·cases h; exact ⟨⟨_, _, rfl, rfl, rfl, rfl, rfl, rfl⟩, ⟨_, rfl, rfl⟩, rfl⟩
 ·cases h; exact ⟨⟨_, _, rfl, rfl, rfl, rfl, rfl, rfl⟩, ⟨_, rfl, ⟨_, rfl, rfl⟩⟩, rfl⟩
 ·cases h; exact ⟨⟨_, _, rfl, rfl, rfl, rfl, rfl, rfl⟩, ⟨_, rfl, rfl⟩, rfl⟩
 ·cases h; exact ⟨⟨_, _, rfl, rfl, rfl, rfl, rfl, rfl⟩, ⟨_, rfl, rfl⟩, rfl⟩
 ·cases h; exact ⟨⟨_, _, rfl, rfl, rfl, rfl, rfl, rfl⟩, ⟨_, rfl, rfl⟩, rfl⟩
 ·cases h; exact ⟨⟨_, _, rfl, rfl, rfl, rfl, rfl, rfl⟩, ⟨_, rfl, ⟨_, rfl, rfl⟩⟩, rfl⟩
 ·cases h; exact ⟨⟨_, _, rfl, rfl, rfl, rfl, rfl, rfl⟩, ⟨_, rfl, rfl⟩, rfl⟩
 ·cases h; exact ⟨⟨_, _, rfl, rfl, rfl, rfl, rfl, rfl⟩, ⟨_, rfl, ⟨_, rfl, rfl⟩⟩, rfl⟩
 ·cases h; exact ⟨⟨_, _, rfl, rfl, rfl, rfl, rfl, rfl⟩, ⟨_, rfl, ⟨_, rfl, rfl⟩⟩, rfl⟩
 ·cases h; exact ⟨⟨_, _, rfl, rfl, rfl, rfl, rfl, rfl⟩, ⟨_, rfl, ⟨_, rfl, rfl⟩⟩, rfl⟩
 ·cases h; exact ⟨⟨_, _, rfl, rfl, rfl, rfl, rfl, rfl⟩, ⟨_, rfl, rfl⟩, rfl⟩
 ·cases h; exact ⟨⟨_, _, rfl, rfl, rfl, rfl, rfl, rfl⟩, ⟨_, rfl, rfl⟩, rfl⟩
 ·cases h; exact ⟨⟨_, _, rfl, rfl, rfl, rfl, rfl, rfl⟩, ⟨_, rfl, rfl⟩, rfl⟩
 ·cases h; exact ⟨⟨_, _, rfl, rfl, rfl, rfl, rfl, rfl⟩, ⟨_, rfl, rfl⟩, rfl⟩
 ·cases h; exact ⟨⟨_, _, rfl, rfl, rfl, rfl, rfl, rfl⟩, ⟨_, rfl, rfl⟩, rfl⟩
 ·cases h; exact ⟨⟨_, _, rfl, rfl, rfl, rfl, rfl, rfl⟩, ⟨_, rfl, rfl⟩, rfl⟩
 ·cases h; exact ⟨⟨_, _, rfl, rfl, rfl, rfl, rfl, rfl⟩, ⟨_, rfl, rfl⟩, rfl⟩
 ·cases h; exact ⟨⟨_, _, rfl, rfl, rfl, rfl, rfl, rfl⟩, ⟨_, rfl, rfl⟩, rfl⟩
 ·cases h; exact ⟨⟨_, _, rfl, rfl, rfl, rfl, rfl, rfl⟩, ⟨_, rfl, rfl⟩, rfl⟩
 ·cases h; exact ⟨⟨_, _, rfl, rfl, rfl, rfl, rfl, rfl⟩, ⟨_, rfl, rfl⟩, rfl⟩
 ·cases h; exact ⟨⟨_, _, rfl, rfl, rfl, rfl, rfl, rfl⟩, ⟨_, rfl, ⟨_, rfl, rfl⟩⟩, rfl⟩
 ·cases h; exact ⟨⟨_, _, rfl, rfl, rfl, rfl, rfl, rfl⟩, ⟨_, rfl, ⟨_, rfl, rfl⟩⟩, rfl⟩
 ·cases h

theorem hmo : Tryz.prog.follows .mixedOrders = true := by rfl

theorem tt3 : tbl 3 = some ⟨1, 8, (.v (.int .i64 0)), .int .i64⟩ := rfl

theorem tt24 : tbl 24 = some ⟨1, 4, (.v (.int .u32 0)), .int .u32⟩ := rfl

theorem tt37 : tbl 37 = some ⟨3, 24, (.arr 3 1 (List.replicate 3 (.v (.int .i64 0)))), .arr 3 3⟩ := rfl

theorem tt41 : tbl 41 = some ⟨3, 24, (.st 3 [(.v (.int .i64 0)), (.v (.int .i64 0)), (.v (.int .i64 0))]), .st [(0, 3), (1, 3), (2, 3)]⟩ := rfl

theorem eqT_24 : EqT Tryz.prog 24 (α := Int) k32 (fun a b => a == b) 1 :=
 eqT_int Tryz.underlying24

theorem eqT_231 : EqT Tryz.prog 231 (α := (Vector Int 8)) (eA 8 1 k32) (eqV (fun a b => a == b)) 2 :=
 eqT_array (M := 8) hT tt24 Tryz.underlying231 (by kernel_rfl) (fun _ => rfl) rfl (fun _ => rfl) (fun _ => rfl) eqT_24

theorem eqT_3 : EqT Tryz.prog 3 (α := Int) j64 (fun a b => a == b) 1 :=
 eqT_int Tryz.underlying3

def S_api_Point.eq (a b : S_api_Point) : Bool := (fun a b => a == b) a.gX b.gX && ((fun a b => a == b) a.gY b.gY && ((fun a b => a == b) a.gZ b.gZ && true))
theorem eqT_41 : EqT Tryz.prog 41 (α := S_api_Point) S_api_Point.enc S_api_Point.eq 2 :=
 eqT_struct (N := 3) Tryz.underlying41 (by kernel_rfl) (fun _ => rfl) (fun a b => eqF_cons hT a.gX b.gX (by decide) rfl tt3 rfl (fun _ => rfl) (fun _ => rfl) (fun _ => rfl) eqT_3 (by decide) (eqF_cons hT a.gY b.gY (by decide) rfl tt3 rfl (fun _ => rfl) (fun _ => rfl) (fun _ => rfl) eqT_3 (by decide) (eqF_cons hT a.gZ b.gZ (by decide) rfl tt3 rfl (fun _ => rfl) (fun _ => rfl) (fun _ => rfl) eqT_3 (by decide) (eqF_nil))))

theorem eqT_37 : EqT Tryz.prog 37 (α := (Vector Int 3)) (eA 3 1 j64) (eqV (fun a b => a == b)) 2 :=
 eqT_array (M := 3) hT tt3 Tryz.underlying37 (by kernel_rfl) (fun _ => rfl) rfl (fun _ => rfl) (fun _ => rfl) eqT_3

def S_api_Material.eq (a b : S_api_Material) : Bool := (fun a b => a == b) a.gKind b.gKind && ((eqV (fun a b => a == b)) a.gColor b.gColor && ((fun a b => a == b) a.gRough b.gRough && true))
theorem eqT_39 : EqT Tryz.prog 39 (α := S_api_Material) S_api_Material.enc S_api_Material.eq 3 :=
 eqT_struct (N := 5) Tryz.underlying39 (by kernel_rfl) (fun _ => rfl) (fun a b => eqF_cons hT a.gKind b.gKind (by decide) rfl tt3 rfl (fun _ => rfl) (fun _ => rfl) (fun _ => rfl) eqT_3 (by decide) (eqF_cons hT a.gColor b.gColor (by decide) rfl tt37 rfl (fun _ => rfl) (fun _ => rfl) (fun _ => rfl) eqT_37 (by decide) (eqF_cons hT a.gRough b.gRough (by decide) rfl tt3 rfl (fun _ => rfl) (fun _ => rfl) (fun _ => rfl) eqT_3 (by decide) (eqF_nil))))

def S_api_Light.eq (a b : S_api_Light) : Bool := (fun a b => a == b) a.gKind b.gKind && ((eqV (fun a b => a == b)) a.gColor b.gColor && (S_api_Point.eq a.gAt b.gAt && (S_api_Point.eq a.gU b.gU && (S_api_Point.eq a.gV b.gV && true))))
theorem eqT_43 : EqT Tryz.prog 43 (α := S_api_Light) S_api_Light.enc S_api_Light.eq 3 :=
 eqT_struct (N := 13) Tryz.underlying43 (by kernel_rfl) (fun _ => rfl) (fun a b => eqF_cons hT a.gKind b.gKind (by decide) rfl tt3 rfl (fun _ => rfl) (fun _ => rfl) (fun _ => rfl) eqT_3 (by decide) (eqF_cons hT a.gColor b.gColor (by decide) rfl tt37 rfl (fun _ => rfl) (fun _ => rfl) (fun _ => rfl) eqT_37 (by decide) (eqF_cons hT a.gAt b.gAt (by decide) rfl tt41 rfl (fun _ => rfl) (fun _ => rfl) (fun _ => rfl) eqT_41 (by decide) (eqF_cons hT a.gU b.gU (by decide) rfl tt41 rfl (fun _ => rfl) (fun _ => rfl) (fun _ => rfl) eqT_41 (by decide) (eqF_cons hT a.gV b.gV (by decide) rfl tt41 rfl (fun _ => rfl) (fun _ => rfl) (fun _ => rfl) eqT_41 (by decide) (eqF_nil))))))

theorem eqT_128 : EqT Tryz.prog 128 (α := (Vector Int 2)) (eA 2 1 j64) (eqV (fun a b => a == b)) 2 :=
 eqT_array (M := 2) hT tt3 Tryz.underlying128 (by kernel_rfl) (fun _ => rfl) rfl (fun _ => rfl) (fun _ => rfl) eqT_3

def str_0 : ByteArray := (ByteArray.mk #[117, 109, 98, 114, 97, 32, 98, 117, 110, 100, 108, 101, 32, 107, 101, 121])

abbrev cv_1 : AV := (.st 15 [(k64 0), (j64 0), (k32 0), (eA 8 1 k8 (Vector.replicate 8 0)), (k32 0), (k32 0), (j64 0), (j64 0)])
abbrev cv_2 : AV := (.arr 32 4 [(.arr 4 1 [(j64 0), (j64 4), (j64 8), (j64 12)]), (.arr 4 1 [(j64 1), (j64 5), (j64 9), (j64 13)]), (.arr 4 1 [(j64 2), (j64 6), (j64 10), (j64 14)]), (.arr 4 1 [(j64 3), (j64 7), (j64 11), (j64 15)]), (.arr 4 1 [(j64 0), (j64 5), (j64 10), (j64 15)]), (.arr 4 1 [(j64 1), (j64 6), (j64 11), (j64 12)]), (.arr 4 1 [(j64 2), (j64 7), (j64 8), (j64 13)]), (.arr 4 1 [(j64 3), (j64 4), (j64 9), (j64 14)])])
end Go.UK

