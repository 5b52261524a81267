/- A part of the proof: what the functions of the program compute. -/
import Derived.Test.YtcaadpceoajapaaLib8
import Derived.Test.YtcaadpceoajapaaChecked
namespace Go.UK
open Go Go.Proofs
set_option maxRecDepth 20000
set_option maxHeartbeats 4000000
set_option linter.all false

structure S_api_Plane where
  gW : Int
  gH : Int
  gDeep : Int
  gName : ByteArray
  gData : (List Int)

def S_api_Plane.enc (s : S_api_Plane) : AV := .st 5 [(j64 s.gW), (j64 s.gH), (j64 s.gDeep), (eS s.gName), (eL 1 j64 s.gData)]

def tbl : TypeId → Option TI
  | 2 => some ⟨1, 8, (.v (.int .i64 0)), .int .i64⟩
  | 3 => some ⟨1, 8, (.v (.int .i64 0)), .int .i64⟩
  | 4 => some ⟨1, 1, (.v (.bool false)), .bool⟩
  | 5 => some ⟨1, 1, (.v (.int .u8 0)), .int .u8⟩
  | 9 => some ⟨1, 16, (.v (.string (ByteArray.mk #[]))), .str⟩
  | 23 => some ⟨1, 8, (.v (.int .i64 0)), .int .i64⟩
  | 31 => some ⟨1, 24, (.v (.slice none 0 0)), .sl 3⟩
  | 34 => some ⟨5, 64, (.st 5 [(.v (.int .i64 0)), (.v (.int .i64 0)), (.v (.int .i64 0)), (.v (.string (ByteArray.mk #[]))), (.v (.slice none 0 0))]), .st [(0, 3), (1, 3), (2, 3), (3, 9), (4, 31)]⟩
  | 35 => some ⟨9, 72, (.arr 9 1 (List.replicate 9 (.v (.int .i64 0)))), .arr 9 3⟩
  | 41 => some ⟨1, 8, (.v .nilFunc), .other⟩
  | 75 => some ⟨1, 24, (.v (.slice none 0 0)), .sl 5⟩
  | 96 => some ⟨1, 2, (.v (.int .u16 0)), .int .u16⟩
  | 97 => some ⟨9, 9, (.arr 9 1 (List.replicate 9 (.v (.int .u8 0)))), .arr 9 5⟩
  | 103 => some ⟨1, 24, (.v (.slice none 0 0)), .sl 41⟩
  | 144 => some ⟨1, 8, (.v (.int .u64 0)), .int .u64⟩
  | 188 => some ⟨1, 8, (.v (.int .u64 0)), .int .u64⟩
  | _ => none

theorem hT : TOK Try.prog tbl := by
  intro t i h
  unfold tbl at h
  split at h
  · cases h; exact ⟨⟨_, _, rfl, rfl, rfl, rfl, rfl, rfl⟩, ⟨_, rfl, rfl⟩, rfl⟩
  · cases h; exact ⟨⟨_, _, rfl, rfl, rfl, rfl, rfl, rfl⟩, ⟨_, rfl, rfl⟩, rfl⟩
  · cases h; exact ⟨⟨_, _, rfl, rfl, rfl, rfl, rfl, rfl⟩, ⟨_, rfl, rfl⟩, rfl⟩
  · cases h; exact ⟨⟨_, _, rfl, rfl, rfl, rfl, rfl, rfl⟩, ⟨_, rfl, rfl⟩, rfl⟩
  · cases h; exact ⟨⟨_, _, rfl, rfl, rfl, rfl, rfl, rfl⟩, ⟨_, rfl, rfl⟩, rfl⟩
  · cases h; exact ⟨⟨_, _, rfl, rfl, rfl, rfl, rfl, rfl⟩, ⟨_, rfl, rfl⟩, rfl⟩
  · cases h; exact ⟨⟨_, _, rfl, rfl, rfl, rfl, rfl, rfl⟩, ⟨_, rfl, rfl⟩, rfl⟩
  · cases h; exact ⟨⟨_, _, rfl, rfl, rfl, rfl, rfl, rfl⟩, ⟨_, rfl, ⟨_, rfl, rfl⟩⟩, rfl⟩
  · cases h; exact ⟨⟨_, _, rfl, rfl, rfl, rfl, rfl, rfl⟩, ⟨_, rfl, rfl⟩, rfl⟩
  · cases h; exact ⟨⟨_, _, rfl, rfl, rfl, rfl, rfl, rfl⟩, ⟨_, rfl, (by unfold TK.fits; exact ⟨(by intro fs h; cases h), (by intro n e h; cases h)⟩)⟩, rfl⟩
  · cases h; exact ⟨⟨_, _, rfl, rfl, rfl, rfl, rfl, rfl⟩, ⟨_, rfl, rfl⟩, rfl⟩
  · cases h; exact ⟨⟨_, _, rfl, rfl, rfl, rfl, rfl, rfl⟩, ⟨_, rfl, rfl⟩, rfl⟩
  · cases h; exact ⟨⟨_, _, rfl, rfl, rfl, rfl, rfl, rfl⟩, ⟨_, rfl, rfl⟩, rfl⟩
  · cases h; exact ⟨⟨_, _, rfl, rfl, rfl, rfl, rfl, rfl⟩, ⟨_, rfl, rfl⟩, rfl⟩
  · cases h; exact ⟨⟨_, _, rfl, rfl, rfl, rfl, rfl, rfl⟩, ⟨_, rfl, rfl⟩, rfl⟩
  · cases h; exact ⟨⟨_, _, rfl, rfl, rfl, rfl, rfl, rfl⟩, ⟨_, rfl, rfl⟩, rfl⟩
  · cases h

theorem hmo : Try.prog.follows .mixedOrders = true := by rfl

def str_0 : ByteArray := (ByteArray.mk (List.toArray (List.append (List.append [0, 1, 2, 2, 3, 3, 3, 3, 4, 4, 4, 4, 4, 4, 4, 4, 5, 5, 5, 5, 5, 5, 5, 5, 5, 5, 5, 5, 5, 5, 5, 5, 6, 6, 6, 6, 6, 6, 6, 6, 6, 6, 6, 6, 6, 6, 6, 6, 6, 6, 6, 6, 6, 6, 6, 6, 6, 6, 6, 6, 6, 6, 6, 6] [7, 7, 7, 7, 7, 7, 7, 7, 7, 7, 7, 7, 7, 7, 7, 7, 7, 7, 7, 7, 7, 7, 7, 7, 7, 7, 7, 7, 7, 7, 7, 7, 7, 7, 7, 7, 7, 7, 7, 7, 7, 7, 7, 7, 7, 7, 7, 7, 7, 7, 7, 7, 7, 7, 7, 7, 7, 7, 7, 7, 7, 7, 7, 7]) (List.append [8, 8, 8, 8, 8, 8, 8, 8, 8, 8, 8, 8, 8, 8, 8, 8, 8, 8, 8, 8, 8, 8, 8, 8, 8, 8, 8, 8, 8, 8, 8, 8, 8, 8, 8, 8, 8, 8, 8, 8, 8, 8, 8, 8, 8, 8, 8, 8, 8, 8, 8, 8, 8, 8, 8, 8, 8, 8, 8, 8, 8, 8, 8, 8] [8, 8, 8, 8, 8, 8, 8, 8, 8, 8, 8, 8, 8, 8, 8, 8, 8, 8, 8, 8, 8, 8, 8, 8, 8, 8, 8, 8, 8, 8, 8, 8, 8, 8, 8, 8, 8, 8, 8, 8, 8, 8, 8, 8, 8, 8, 8, 8, 8, 8, 8, 8, 8, 8, 8, 8, 8, 8, 8, 8, 8, 8, 8, 8]))))

end Go.UK
