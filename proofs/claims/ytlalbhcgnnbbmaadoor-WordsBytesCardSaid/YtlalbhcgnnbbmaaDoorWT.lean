/- A part of the proof: what the functions of the program compute. -/
import Derived.Test.YtlalbhcgnnbbmaaDoorLib11
import Derived.Test.YtlalbhcgnnbbmaaDoorChecked
namespace Go.UK
open Go Go.Proofs
set_option maxRecDepth 20000
set_option maxHeartbeats 4000000
set_option linter.all false

structure S_words_taker where
  gl : (List ByteArray)
  gbad : Bool

def S_words_taker.enc (s : S_words_taker) : AV := .st 2 [(eL 1 eS s.gl), (eB s.gbad)]

structure S_api_Vec where
  gX : Int
  gY : Int
  gZ : Int

def S_api_Vec.enc (s : S_api_Vec) : AV := .st 3 [(j64 s.gX), (j64 s.gY), (j64 s.gZ)]

structure S_api_Affine where
  gM : (Vector Int 9)
  gT : S_api_Vec

def S_api_Affine.enc (s : S_api_Affine) : AV := .st 12 [(eA 9 1 j64 s.gM), (S_api_Vec.enc s.gT)]

structure S_api_Inst where
  gMesh : Int
  gMaterial : Int
  gTexture : Int
  gN : Int
  gT : S_api_Affine

def S_api_Inst.enc (s : S_api_Inst) : AV := .st 16 [(j64 s.gMesh), (j64 s.gMaterial), (j64 s.gTexture), (j64 s.gN), (S_api_Affine.enc s.gT)]

structure S_api_Point where
  gX : Int
  gY : Int
  gZ : Int

def S_api_Point.enc (s : S_api_Point) : AV := .st 3 [(j64 s.gX), (j64 s.gY), (j64 s.gZ)]

structure S_api_Camera where
  gEye : S_api_Point
  gRight : S_api_Point
  gUp : S_api_Point
  gAhead : S_api_Point
  gLens : Int
  gFocus : Int

def S_api_Camera.enc (s : S_api_Camera) : AV := .st 14 [(S_api_Point.enc s.gEye), (S_api_Point.enc s.gRight), (S_api_Point.enc s.gUp), (S_api_Point.enc s.gAhead), (j64 s.gLens), (j64 s.gFocus)]

structure S_api_View where
  gW : Int
  gH : Int
  gSamples : Int
  gDepth : Int
  gClass : Int
  gSeed : Int
  gCamera : S_api_Camera
  gConstant : Bool

def S_api_View.enc (s : S_api_View) : AV := .st 21 [(j64 s.gW), (j64 s.gH), (j64 s.gSamples), (j64 s.gDepth), (j64 s.gClass), (k64 s.gSeed), (S_api_Camera.enc s.gCamera), (eB s.gConstant)]

structure S_api_Op where
  gKind : Int
  gHandle : Int
  gBundle : (List Int)
  gInst : S_api_Inst
  gLayer : Int
  gView : S_api_View
  gQuota : Int
  gWho : Int
  gLabel : Int
  gMany : Int
  gTicks : Int

def S_api_Op.enc (s : S_api_Op) : AV := .st 46 [(j64 s.gKind), (j64 s.gHandle), (eL 1 k8 s.gBundle), (S_api_Inst.enc s.gInst), (j64 s.gLayer), (S_api_View.enc s.gView), (j64 s.gQuota), (j64 s.gWho), (k32 s.gLabel), (j64 s.gMany), (j64 s.gTicks)]

def tbl : TypeId → Option TI
  | 2 => some ⟨1, 8, (.v (.int .i64 0)), .int .i64⟩
  | 3 => some ⟨1, 8, (.v (.int .i64 0)), .int .i64⟩
  | 4 => some ⟨1, 1, (.v (.bool false)), .bool⟩
  | 5 => some ⟨1, 1, (.v (.int .u8 0)), .int .u8⟩
  | 9 => some ⟨1, 16, (.v (.string (ByteArray.mk #[]))), .str⟩
  | 21 => some ⟨1, 4, (.v (.int .i32 0)), .int .i32⟩
  | 22 => some ⟨1, 24, (.v (.slice none 0 0)), .sl 9⟩
  | 24 => some ⟨1, 24, (.v (.slice none 0 0)), .sl 5⟩
  | 27 => some ⟨1, 8, (.v (.int .i64 0)), .int .i64⟩
  | 36 => some ⟨1, 8, (.v (.int .i64 0)), .int .i64⟩
  | 37 => some ⟨9, 72, (.arr 9 1 (List.replicate 9 (.v (.int .i64 0)))), .arr 9 36⟩
  | 39 => some ⟨3, 24, (.st 3 [(.v (.int .i64 0)), (.v (.int .i64 0)), (.v (.int .i64 0))]), .st [(0, 36), (1, 36), (2, 36)]⟩
  | 41 => some ⟨12, 96, (.st 12 [(.arr 9 1 (List.replicate 9 (.v (.int .i64 0)))), (.st 3 [(.v (.int .i64 0)), (.v (.int .i64 0)), (.v (.int .i64 0))])]), .st [(0, 37), (9, 39)]⟩
  | 43 => some ⟨16, 128, (.st 16 [(.v (.int .i64 0)), (.v (.int .i64 0)), (.v (.int .i64 0)), (.v (.int .i64 0)), (.st 12 [(.arr 9 1 (List.replicate 9 (.v (.int .i64 0)))), (.st 3 [(.v (.int .i64 0)), (.v (.int .i64 0)), (.v (.int .i64 0))])])]), .st [(0, 3), (1, 3), (2, 3), (3, 3), (4, 41)]⟩
  | 44 => some ⟨1, 8, (.v (.int .u64 0)), .int .u64⟩
  | 46 => some ⟨3, 24, (.st 3 [(.v (.int .i64 0)), (.v (.int .i64 0)), (.v (.int .i64 0))]), .st [(0, 3), (1, 3), (2, 3)]⟩
  | 48 => some ⟨14, 112, (.st 14 [(.st 3 [(.v (.int .i64 0)), (.v (.int .i64 0)), (.v (.int .i64 0))]), (.st 3 [(.v (.int .i64 0)), (.v (.int .i64 0)), (.v (.int .i64 0))]), (.st 3 [(.v (.int .i64 0)), (.v (.int .i64 0)), (.v (.int .i64 0))]), (.st 3 [(.v (.int .i64 0)), (.v (.int .i64 0)), (.v (.int .i64 0))]), (.v (.int .i64 0)), (.v (.int .i64 0))]), .st [(0, 46), (3, 46), (6, 46), (9, 46), (12, 3), (13, 3)]⟩
  | 50 => some ⟨21, 168, (.st 21 [(.v (.int .i64 0)), (.v (.int .i64 0)), (.v (.int .i64 0)), (.v (.int .i64 0)), (.v (.int .i64 0)), (.v (.int .u64 0)), (.st 14 [(.st 3 [(.v (.int .i64 0)), (.v (.int .i64 0)), (.v (.int .i64 0))]), (.st 3 [(.v (.int .i64 0)), (.v (.int .i64 0)), (.v (.int .i64 0))]), (.st 3 [(.v (.int .i64 0)), (.v (.int .i64 0)), (.v (.int .i64 0))]), (.st 3 [(.v (.int .i64 0)), (.v (.int .i64 0)), (.v (.int .i64 0))]), (.v (.int .i64 0)), (.v (.int .i64 0))]), (.v (.bool false))]), .st [(0, 3), (1, 3), (2, 3), (3, 3), (4, 3), (5, 44), (6, 48), (20, 4)]⟩
  | 51 => some ⟨1, 4, (.v (.int .u32 0)), .int .u32⟩
  | 53 => some ⟨46, 384, (.st 46 [(.v (.int .i64 0)), (.v (.int .i64 0)), (.v (.slice none 0 0)), (.st 16 [(.v (.int .i64 0)), (.v (.int .i64 0)), (.v (.int .i64 0)), (.v (.int .i64 0)), (.st 12 [(.arr 9 1 (List.replicate 9 (.v (.int .i64 0)))), (.st 3 [(.v (.int .i64 0)), (.v (.int .i64 0)), (.v (.int .i64 0))])])]), (.v (.int .i64 0)), (.st 21 [(.v (.int .i64 0)), (.v (.int .i64 0)), (.v (.int .i64 0)), (.v (.int .i64 0)), (.v (.int .i64 0)), (.v (.int .u64 0)), (.st 14 [(.st 3 [(.v (.int .i64 0)), (.v (.int .i64 0)), (.v (.int .i64 0))]), (.st 3 [(.v (.int .i64 0)), (.v (.int .i64 0)), (.v (.int .i64 0))]), (.st 3 [(.v (.int .i64 0)), (.v (.int .i64 0)), (.v (.int .i64 0))]), (.st 3 [(.v (.int .i64 0)), (.v (.int .i64 0)), (.v (.int .i64 0))]), (.v (.int .i64 0)), (.v (.int .i64 0))]), (.v (.bool false))]), (.v (.int .i64 0)), (.v (.int .i64 0)), (.v (.int .u32 0)), (.v (.int .i64 0)), (.v (.int .i64 0))]), .st [(0, 3), (1, 3), (2, 24), (3, 43), (19, 3), (20, 50), (41, 3), (42, 3), (43, 51), (44, 3), (45, 3)]⟩
  | 81 => some ⟨2, 32, (.st 2 [(.v (.slice none 0 0)), (.v (.bool false))]), .st [(0, 22), (1, 4)]⟩
  | 100 => some ⟨1, 16, (.v .nilIface), .other⟩
  | _ => none

theorem hT : TOK Tryd.prog tbl := by
  intro t i h
  unfold tbl at h
  split at h
  · cases h; exact ⟨⟨_, _, rfl, rfl, rfl, rfl, rfl, rfl⟩, ⟨_, rfl, rfl⟩, rfl⟩
  · cases h; exact ⟨⟨_, _, rfl, rfl, rfl, rfl, rfl, rfl⟩, ⟨_, rfl, rfl⟩, rfl⟩
  · cases h; exact ⟨⟨_, _, rfl, rfl, rfl, rfl, rfl, rfl⟩, ⟨_, rfl, rfl⟩, rfl⟩
  · cases h; exact ⟨⟨_, _, rfl, rfl, rfl, rfl, rfl, rfl⟩, ⟨_, rfl, rfl⟩, rfl⟩
  · cases h; exact ⟨⟨_, _, rfl, rfl, rfl, rfl, rfl, rfl⟩, ⟨_, rfl, rfl⟩, rfl⟩
  · cases h; exact ⟨⟨_, _, rfl, rfl, rfl, rfl, rfl, rfl⟩, ⟨_, rfl, rfl⟩, rfl⟩
  · cases h; exact ⟨⟨_, _, rfl, rfl, rfl, rfl, rfl, rfl⟩, ⟨_, rfl, rfl⟩, rfl⟩
  · cases h; exact ⟨⟨_, _, rfl, rfl, rfl, rfl, rfl, rfl⟩, ⟨_, rfl, rfl⟩, rfl⟩
  · cases h; exact ⟨⟨_, _, rfl, rfl, rfl, rfl, rfl, rfl⟩, ⟨_, rfl, rfl⟩, rfl⟩
  · cases h; exact ⟨⟨_, _, rfl, rfl, rfl, rfl, rfl, rfl⟩, ⟨_, rfl, rfl⟩, rfl⟩
  · cases h; exact ⟨⟨_, _, rfl, rfl, rfl, rfl, rfl, rfl⟩, ⟨_, rfl, rfl⟩, rfl⟩
  · cases h; exact ⟨⟨_, _, rfl, rfl, rfl, rfl, rfl, rfl⟩, ⟨_, rfl, ⟨_, rfl, rfl⟩⟩, rfl⟩
  · cases h; exact ⟨⟨_, _, rfl, rfl, rfl, rfl, rfl, rfl⟩, ⟨_, rfl, ⟨_, rfl, rfl⟩⟩, rfl⟩
  · cases h; exact ⟨⟨_, _, rfl, rfl, rfl, rfl, rfl, rfl⟩, ⟨_, rfl, ⟨_, rfl, rfl⟩⟩, rfl⟩
  · cases h; exact ⟨⟨_, _, rfl, rfl, rfl, rfl, rfl, rfl⟩, ⟨_, rfl, rfl⟩, rfl⟩
  · cases h; exact ⟨⟨_, _, rfl, rfl, rfl, rfl, rfl, rfl⟩, ⟨_, rfl, ⟨_, rfl, rfl⟩⟩, rfl⟩
  · cases h; exact ⟨⟨_, _, rfl, rfl, rfl, rfl, rfl, rfl⟩, ⟨_, rfl, ⟨_, rfl, rfl⟩⟩, rfl⟩
  · cases h; exact ⟨⟨_, _, rfl, rfl, rfl, rfl, rfl, rfl⟩, ⟨_, rfl, ⟨_, rfl, rfl⟩⟩, rfl⟩
  · cases h; exact ⟨⟨_, _, rfl, rfl, rfl, rfl, rfl, rfl⟩, ⟨_, rfl, rfl⟩, rfl⟩
  · cases h; exact ⟨⟨_, _, rfl, rfl, rfl, rfl, rfl, rfl⟩, ⟨_, rfl, ⟨_, rfl, rfl⟩⟩, rfl⟩
  · cases h; exact ⟨⟨_, _, rfl, rfl, rfl, rfl, rfl, rfl⟩, ⟨_, rfl, ⟨_, rfl, rfl⟩⟩, rfl⟩
  · cases h; exact ⟨⟨_, _, rfl, rfl, rfl, rfl, rfl, rfl⟩, ⟨_, rfl, (by unfold TK.fits; exact ⟨(by intro fs h; cases h), (by intro n e h; cases h)⟩)⟩, rfl⟩
  · cases h

theorem hmo : Tryd.prog.follows .mixedOrders = true := by rfl

def str_0 : ByteArray := (ByteArray.mk #[113, 117, 101, 114, 121, 32, 51])

def str_1 : ByteArray := (ByteArray.mk #[117, 110, 108, 111, 97, 100])

def str_2 : ByteArray := (ByteArray.mk #[108, 97, 121, 101, 114])

def str_3 : ByteArray := (ByteArray.mk #[114, 101, 110, 100, 101, 114])

def str_4 : ByteArray := (ByteArray.mk #[103, 114, 97, 110, 116])

def str_5 : ByteArray := (ByteArray.mk #[101, 120, 112, 111, 114, 116])

def str_6 : ByteArray := (ByteArray.mk #[113, 117, 101, 114, 121])

def str_7 : ByteArray := (ByteArray.mk #[116, 105, 99, 107, 32, 48, 48, 55])

def str_8 : ByteArray := (ByteArray.mk #[48, 49, 50, 51, 52, 53, 54, 55, 56, 57, 97, 98, 99, 100, 101, 102])

end Go.UK
