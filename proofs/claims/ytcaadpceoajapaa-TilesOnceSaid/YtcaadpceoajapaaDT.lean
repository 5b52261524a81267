/- A part of the proof: what the functions of the program compute. -/
import Derived.Test.YtcaadpceoajapaaLib10
import Derived.Test.YtcaadpceoajapaaChecked
namespace Go.UK
open Go Go.Proofs
set_option maxRecDepth 20000
set_option maxHeartbeats 4000000
set_option linter.all false

structure S_tiles_tile where
  gx : Int
  gy : Int
  gw : Int
  gh : Int

def S_tiles_tile.enc (s : S_tiles_tile) : AV := .st 4 [(j64 s.gx), (j64 s.gy), (j64 s.gw), (j64 s.gh)]

def tbl : TypeId → Option TI
  | 2 => some ⟨1, 8, (.v (.int .i64 0)), .int .i64⟩
  | 3 => some ⟨1, 8, (.v (.int .i64 0)), .int .i64⟩
  | 4 => some ⟨1, 1, (.v (.bool false)), .bool⟩
  | 5 => some ⟨1, 1, (.v (.int .u8 0)), .int .u8⟩
  | 22 => some ⟨1, 24, (.v (.slice none 0 0)), .sl 28⟩
  | 23 => some ⟨1, 8, (.v (.int .i64 0)), .int .i64⟩
  | 28 => some ⟨4, 32, (.arr 4 1 (List.replicate 4 (.v (.int .i64 0)))), .arr 4 3⟩
  | 31 => some ⟨1, 24, (.v (.slice none 0 0)), .sl 3⟩
  | 121 => some ⟨1, 8, (.v .nilFunc), .other⟩
  | 124 => some ⟨4, 32, (.st 4 [(.v (.int .i64 0)), (.v (.int .i64 0)), (.v (.int .i64 0)), (.v (.int .i64 0))]), .st [(0, 3), (1, 3), (2, 3), (3, 3)]⟩
  | _ => none

theorem hT : TOK Try.prog tbl := by
  intro t i h
  unfold tbl at h
  split at h
  · cases h; exact ⟨⟨_, _, rfl, rfl, rfl, rfl, rfl, rfl⟩, ⟨_, rfl, rfl⟩, rfl⟩
  · cases h; exact ⟨⟨_, _, rfl, rfl, rfl, rfl, rfl, rfl⟩, ⟨_, rfl, rfl⟩, rfl⟩
  · cases h; exact ⟨⟨_, _, rfl, rfl, rfl, rfl, rfl, rfl⟩, ⟨_, rfl, rfl⟩, rfl⟩
  · cases h; exact ⟨⟨_, _, rfl, rfl, rfl, rfl, rfl, rfl⟩, ⟨_, rfl, rfl⟩, rfl⟩
  · cases h; exact ⟨⟨_, _, rfl, rfl, rfl, rfl, rfl, rfl⟩, ⟨_, rfl, rfl⟩, rfl⟩
  · cases h; exact ⟨⟨_, _, rfl, rfl, rfl, rfl, rfl, rfl⟩, ⟨_, rfl, rfl⟩, rfl⟩
  · cases h; exact ⟨⟨_, _, rfl, rfl, rfl, rfl, rfl, rfl⟩, ⟨_, rfl, rfl⟩, rfl⟩
  · cases h; exact ⟨⟨_, _, rfl, rfl, rfl, rfl, rfl, rfl⟩, ⟨_, rfl, rfl⟩, rfl⟩
  · cases h; exact ⟨⟨_, _, rfl, rfl, rfl, rfl, rfl, rfl⟩, ⟨_, rfl, (by unfold TK.fits; exact ⟨(by intro fs h; cases h), (by intro n e h; cases h)⟩)⟩, rfl⟩
  · cases h; exact ⟨⟨_, _, rfl, rfl, rfl, rfl, rfl, rfl⟩, ⟨_, rfl, ⟨_, rfl, rfl⟩⟩, rfl⟩
  · cases h

theorem hmo : Try.prog.follows .mixedOrders = true := by rfl

theorem tt3 : tbl 3 = some ⟨1, 8, (.v (.int .i64 0)), .int .i64⟩ := rfl

theorem tt28 : tbl 28 = some ⟨4, 32, (.arr 4 1 (List.replicate 4 (.v (.int .i64 0)))), .arr 4 3⟩ := rfl

theorem eqT_3 : EqT Try.prog 3 (α := Int) j64 (fun a b => a == b) 1 :=
  eqT_int Try.underlying3

theorem eqT_28 : EqT Try.prog 28 (α := (Vector Int 4)) (eA 4 1 j64) (eqV (fun a b => a == b)) 2 :=
  eqT_array (M := 4) hT tt3 Try.underlying28 (by kernel_rfl) (fun _ => rfl) rfl (fun _ => rfl) (fun _ => rfl) eqT_3

end Go.UK
