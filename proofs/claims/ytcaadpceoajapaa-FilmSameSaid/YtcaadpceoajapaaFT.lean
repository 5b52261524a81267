/- A part of the proof: what the functions of the program compute. -/
import Derived.Test.YtcaadpceoajapaaLib5
import Derived.Test.YtcaadpceoajapaaChecked
namespace Go.UK
open Go Go.Proofs
set_option maxRecDepth 20000
set_option linter.all false

structure S_api_Image where
  gW : Int
  gH : Int
  gBeauty : (List (Vector Int 3))
  gAlpha : (List Int)
  gDepth : (List Int)
  gNormal : (List (Vector Int 3))
  gAsset : (List Int)
  gLabel : (List Int)

def S_api_Image.enc (s : S_api_Image) : AV := .st 8 [(eI .i64 s.gW), (eI .i64 s.gH), (eL 3 (eA 3 1 (eI .i64)) s.gBeauty), (eL 1 (eI .i64) s.gAlpha), (eL 1 (eI .i64) s.gDepth), (eL 3 (eA 3 1 (eI .i64)) s.gNormal), (eL 1 (eI .i64) s.gAsset), (eL 1 (eI .i64) s.gLabel)]

theorem S_api_Image.pub (s : S_api_Image) : PubA s.enc s.enc := pub_st (pubL_cons ((fun _ => pub_v _) s.gW) (pubL_cons ((fun _ => pub_v _) s.gH) (pubL_cons ((eL_pub (eA_pub (fun _ => pub_v _))) s.gBeauty) (pubL_cons ((eL_pub (fun _ => pub_v _)) s.gAlpha) (pubL_cons ((eL_pub (fun _ => pub_v _)) s.gDepth) (pubL_cons ((eL_pub (eA_pub (fun _ => pub_v _))) s.gNormal) (pubL_cons ((eL_pub (fun _ => pub_v _)) s.gAsset) (pubL_cons ((eL_pub (fun _ => pub_v _)) s.gLabel) pubL_nil))))))))

structure S_api_Wide where
  gHi : Int
  gLo : Int

def S_api_Wide.enc (s : S_api_Wide) : AV := .st 2 [(eI .i64 s.gHi), (eI .u64 s.gLo)]

theorem S_api_Wide.pub (s : S_api_Wide) : PubA s.enc s.enc := pub_st (pubL_cons ((fun _ => pub_v _) s.gHi) (pubL_cons ((fun _ => pub_v _) s.gLo) pubL_nil))

def tbl : TypeId → Option TI
  | 2 => some ⟨1, 8, (.v (.int .i64 0)), .int .i64⟩
  | 3 => some ⟨1, 8, (.v (.int .i64 0)), .int .i64⟩
  | 4 => some ⟨1, 1, (.v (.bool false)), .bool⟩
  | 5 => some ⟨1, 1, (.v (.int .u8 0)), .int .u8⟩
  | 9 => some ⟨1, 16, (.v (.string (ByteArray.mk #[]))), .str⟩
  | 31 => some ⟨1, 24, (.v (.slice none 0 0)), .sl 3⟩
  | 47 => some ⟨1, 8, (.v (.int .i64 0)), .int .i64⟩
  | 71 => some ⟨1, 24, (.v (.slice none 0 0)), .sl 140⟩
  | 73 => some ⟨8, 160, (.st 8 [(.v (.int .i64 0)), (.v (.int .i64 0)), (.v (.slice none 0 0)), (.v (.slice none 0 0)), (.v (.slice none 0 0)), (.v (.slice none 0 0)), (.v (.slice none 0 0)), (.v (.slice none 0 0))]), .st [(0, 3), (1, 3), (2, 71), (3, 31), (4, 31), (5, 71), (6, 31), (7, 31)]⟩
  | 140 => some ⟨3, 24, (.arr 3 1 (List.replicate 3 (.v (.int .i64 0)))), .arr 3 3⟩
  | 144 => some ⟨1, 8, (.v (.int .u64 0)), .int .u64⟩
  | 188 => some ⟨1, 8, (.v (.int .u64 0)), .int .u64⟩
  | 189 => some ⟨1, 24, (.v (.slice none 0 0)), .sl 47⟩
  | 192 => some ⟨2, 16, (.st 2 [(.v (.int .i64 0)), (.v (.int .u64 0))]), .st [(0, 2), (1, 144)]⟩
  | _ => none

theorem tt2 : tbl 2 = some ⟨1, 8, (.v (.int .i64 0)), .int .i64⟩ := rfl

theorem tt3 : tbl 3 = some ⟨1, 8, (.v (.int .i64 0)), .int .i64⟩ := rfl

theorem tt4 : tbl 4 = some ⟨1, 1, (.v (.bool false)), .bool⟩ := rfl

theorem tt5 : tbl 5 = some ⟨1, 1, (.v (.int .u8 0)), .int .u8⟩ := rfl

theorem tt9 : tbl 9 = some ⟨1, 16, (.v (.string (ByteArray.mk #[]))), .str⟩ := rfl

theorem tt31 : tbl 31 = some ⟨1, 24, (.v (.slice none 0 0)), .sl 3⟩ := rfl

theorem tt47 : tbl 47 = some ⟨1, 8, (.v (.int .i64 0)), .int .i64⟩ := rfl

theorem tt71 : tbl 71 = some ⟨1, 24, (.v (.slice none 0 0)), .sl 140⟩ := rfl

theorem tt73 : tbl 73 = some ⟨8, 160, (.st 8 [(.v (.int .i64 0)), (.v (.int .i64 0)), (.v (.slice none 0 0)), (.v (.slice none 0 0)), (.v (.slice none 0 0)), (.v (.slice none 0 0)), (.v (.slice none 0 0)), (.v (.slice none 0 0))]), .st [(0, 3), (1, 3), (2, 71), (3, 31), (4, 31), (5, 71), (6, 31), (7, 31)]⟩ := rfl

theorem tt140 : tbl 140 = some ⟨3, 24, (.arr 3 1 (List.replicate 3 (.v (.int .i64 0)))), .arr 3 3⟩ := rfl

theorem tt144 : tbl 144 = some ⟨1, 8, (.v (.int .u64 0)), .int .u64⟩ := rfl

theorem tt188 : tbl 188 = some ⟨1, 8, (.v (.int .u64 0)), .int .u64⟩ := rfl

theorem tt189 : tbl 189 = some ⟨1, 24, (.v (.slice none 0 0)), .sl 47⟩ := rfl

theorem tt192 : tbl 192 = some ⟨2, 16, (.st 2 [(.v (.int .i64 0)), (.v (.int .u64 0))]), .st [(0, 2), (1, 144)]⟩ := rfl

theorem hT : TOK Try.prog tbl := by
  intro t i h
  unfold tbl at h
  split at h
  · cases h; exact ⟨⟨_, _, rfl, rfl, rfl, rfl, rfl, rfl⟩, ⟨_, rfl, rfl⟩, rfl⟩
  · cases h; exact ⟨⟨_, _, rfl, rfl, rfl, rfl, rfl, rfl⟩, ⟨_, rfl, rfl⟩, rfl⟩
  · cases h; exact ⟨⟨_, _, rfl, rfl, rfl, rfl, rfl, rfl⟩, ⟨_, rfl, rfl⟩, rfl⟩
  · cases h; exact ⟨⟨_, _, rfl, rfl, rfl, rfl, rfl, rfl⟩, ⟨_, rfl, rfl⟩, rfl⟩
  · cases h; exact ⟨⟨_, _, rfl, rfl, rfl, rfl, rfl, rfl⟩, ⟨_, rfl, rfl⟩, rfl⟩
  · cases h; exact ⟨⟨_, _, rfl, rfl, rfl, rfl, rfl, rfl⟩, ⟨_, rfl, rfl⟩, rfl⟩
  · cases h; exact ⟨⟨_, _, rfl, rfl, rfl, rfl, rfl, rfl⟩, ⟨_, rfl, rfl⟩, rfl⟩
  · cases h; exact ⟨⟨_, _, rfl, rfl, rfl, rfl, rfl, rfl⟩, ⟨_, rfl, rfl⟩, rfl⟩
  · cases h; exact ⟨⟨_, _, rfl, rfl, rfl, rfl, rfl, rfl⟩, ⟨_, rfl, ⟨_, rfl, rfl⟩⟩, rfl⟩
  · cases h; exact ⟨⟨_, _, rfl, rfl, rfl, rfl, rfl, rfl⟩, ⟨_, rfl, rfl⟩, rfl⟩
  · cases h; exact ⟨⟨_, _, rfl, rfl, rfl, rfl, rfl, rfl⟩, ⟨_, rfl, rfl⟩, rfl⟩
  · cases h; exact ⟨⟨_, _, rfl, rfl, rfl, rfl, rfl, rfl⟩, ⟨_, rfl, rfl⟩, rfl⟩
  · cases h; exact ⟨⟨_, _, rfl, rfl, rfl, rfl, rfl, rfl⟩, ⟨_, rfl, rfl⟩, rfl⟩
  · cases h; exact ⟨⟨_, _, rfl, rfl, rfl, rfl, rfl, rfl⟩, ⟨_, rfl, ⟨_, rfl, rfl⟩⟩, rfl⟩
  · cases h

def str_0 : ByteArray := (ByteArray.mk (List.toArray (List.append (List.append [0, 1, 2, 2, 3, 3, 3, 3, 4, 4, 4, 4, 4, 4, 4, 4, 5, 5, 5, 5, 5, 5, 5, 5, 5, 5, 5, 5, 5, 5, 5, 5, 6, 6, 6, 6, 6, 6, 6, 6, 6, 6, 6, 6, 6, 6, 6, 6, 6, 6, 6, 6, 6, 6, 6, 6, 6, 6, 6, 6, 6, 6, 6, 6] [7, 7, 7, 7, 7, 7, 7, 7, 7, 7, 7, 7, 7, 7, 7, 7, 7, 7, 7, 7, 7, 7, 7, 7, 7, 7, 7, 7, 7, 7, 7, 7, 7, 7, 7, 7, 7, 7, 7, 7, 7, 7, 7, 7, 7, 7, 7, 7, 7, 7, 7, 7, 7, 7, 7, 7, 7, 7, 7, 7, 7, 7, 7, 7]) (List.append [8, 8, 8, 8, 8, 8, 8, 8, 8, 8, 8, 8, 8, 8, 8, 8, 8, 8, 8, 8, 8, 8, 8, 8, 8, 8, 8, 8, 8, 8, 8, 8, 8, 8, 8, 8, 8, 8, 8, 8, 8, 8, 8, 8, 8, 8, 8, 8, 8, 8, 8, 8, 8, 8, 8, 8, 8, 8, 8, 8, 8, 8, 8, 8] [8, 8, 8, 8, 8, 8, 8, 8, 8, 8, 8, 8, 8, 8, 8, 8, 8, 8, 8, 8, 8, 8, 8, 8, 8, 8, 8, 8, 8, 8, 8, 8, 8, 8, 8, 8, 8, 8, 8, 8, 8, 8, 8, 8, 8, 8, 8, 8, 8, 8, 8, 8, 8, 8, 8, 8, 8, 8, 8, 8, 8, 8, 8, 8]))))

theorem eqT_140 : EqT Try.prog 140 (α := (Vector Int 3)) (eA 3 1 (eI .i64)) (eqV (fun a b => a == b)) 2 := (eqT_array (M := 3) hT tt3 Try.underlying140 (by kernel_rfl) (fun _ => rfl) rfl (fun _ => rfl) (fun _ => rfl) (eqT_int Try.underlying3))

end Go.UK
