/- A part of the proof: what the functions of the program compute. -/
import Derived.Test.YtcaadpceoajapaaLib10
import Derived.Test.YtcaadpceoajapaaChecked
namespace Go.UK
open Go Go.Proofs
set_option maxRecDepth 20000
set_option maxHeartbeats 4000000
set_option linter.all false

structure S_api_Entry where
  gSeq : Int
  gClock : Int
  gWho : Int
  gErr : Int
  gSum : (Vector Int 32)

def S_api_Entry.enc (s : S_api_Entry) : AV := .st 36 [(j64 s.gSeq), (k32 s.gClock), (j64 s.gWho), (j64 s.gErr), (eA 32 1 k8 s.gSum)]

structure S_umbralaw37_Chain where
  gKey : (Vector Int 32)
  gLayer : Int
  gL : (List S_api_Entry)

def S_umbralaw37_Chain.enc (s : S_umbralaw37_Chain) : AV := .st 34 [(eA 32 1 k8 s.gKey), (j64 s.gLayer), (eL 36 S_api_Entry.enc s.gL)]

structure S_api_Receipt where
  gLayer : Int
  gSeq : Int
  gWho : Int
  gClock : Int
  gSum : (Vector Int 32)
  gHead : (Vector Int 32)
  gTag : (Vector Int 32)

def S_api_Receipt.enc (s : S_api_Receipt) : AV := .st 100 [(j64 s.gLayer), (j64 s.gSeq), (j64 s.gWho), (k32 s.gClock), (eA 32 1 k8 s.gSum), (eA 32 1 k8 s.gHead), (eA 32 1 k8 s.gTag)]

structure S_sha_Hash where
  gh : (Vector Int 8)
  gblock : (Vector Int 64)
  gn : Int

def S_sha_Hash.enc (s : S_sha_Hash) : AV := .st 73 [(eA 8 1 k32 s.gh), (eA 64 1 k8 s.gblock), (j64 s.gn)]

structure S_codec_Reader where
  gb : (List Int)
  ge : Int
  gmade : Bool

def S_codec_Reader.enc (s : S_codec_Reader) : AV := .st 3 [(eL 1 k8 s.gb), (j64 s.ge), (eB s.gmade)]

structure S_umbraref11_Reader where
  gB : (List Int)
  gAt : Int
  gE : Int

def S_umbraref11_Reader.enc (s : S_umbraref11_Reader) : AV := .st 3 [(eL 1 k8 s.gB), (j64 s.gAt), (j64 s.gE)]

structure S_chain_top where
  ghead : (Vector Int 32)
  gclock : Int
  gmade : Bool

def S_chain_top.enc (s : S_chain_top) : AV := .st 34 [(eA 32 1 k8 s.ghead), (k32 s.gclock), (eB s.gmade)]

def tbl : TypeId → Option TI
  | 2 => some ⟨1, 8, (.v (.int .i64 0)), .int .i64⟩
  | 3 => some ⟨1, 8, (.v (.int .i64 0)), .int .i64⟩
  | 4 => some ⟨1, 1, (.v (.bool false)), .bool⟩
  | 5 => some ⟨1, 1, (.v (.int .u8 0)), .int .u8⟩
  | 9 => some ⟨1, 16, (.v (.string (ByteArray.mk #[]))), .str⟩
  | 23 => some ⟨1, 8, (.v (.int .i64 0)), .int .i64⟩
  | 31 => some ⟨1, 24, (.v (.slice none 0 0)), .sl 3⟩
  | 53 => some ⟨32, 32, (.arr 32 1 (List.replicate 32 (.v (.int .u8 0)))), .arr 32 5⟩
  | 54 => some ⟨1, 24, (.v (.slice none 0 0)), .sl 115⟩
  | 56 => some ⟨34, 64, (.st 34 [(.arr 32 1 (List.replicate 32 (.v (.int .u8 0)))), (.v (.int .i64 0)), (.v (.slice none 0 0))]), .st [(0, 53), (32, 3), (33, 54)]⟩
  | 57 => some ⟨1, 4, (.v (.int .u32 0)), .int .u32⟩
  | 59 => some ⟨100, 128, (.st 100 [(.v (.int .i64 0)), (.v (.int .i64 0)), (.v (.int .i64 0)), (.v (.int .u32 0)), (.arr 32 1 (List.replicate 32 (.v (.int .u8 0)))), (.arr 32 1 (List.replicate 32 (.v (.int .u8 0)))), (.arr 32 1 (List.replicate 32 (.v (.int .u8 0))))]), .st [(0, 3), (1, 3), (2, 3), (3, 57), (4, 53), (36, 53), (68, 53)]⟩
  | 75 => some ⟨1, 24, (.v (.slice none 0 0)), .sl 5⟩
  | 86 => some ⟨1, 24, (.v (.slice none 0 0)), .sl 144⟩
  | 87 => some ⟨1, 24, (.v (.slice none 0 0)), .sl 57⟩
  | 105 => some ⟨1, 24, (.v (.slice none 0 0)), .sl 59⟩
  | 112 => some ⟨1, 8, (.v (.pointer none)), .ptr 185⟩
  | 115 => some ⟨36, 64, (.st 36 [(.v (.int .i64 0)), (.v (.int .u32 0)), (.v (.int .i64 0)), (.v (.int .i64 0)), (.arr 32 1 (List.replicate 32 (.v (.int .u8 0))))]), .st [(0, 3), (1, 57), (2, 3), (3, 23), (4, 53)]⟩
  | 141 => some ⟨1, 8, (.v (.pointer none)), .ptr 208⟩
  | 144 => some ⟨1, 8, (.v (.int .u64 0)), .int .u64⟩
  | 146 => some ⟨1, 8, (.v (.pointer none)), .ptr 53⟩
  | 147 => some ⟨1, 24, (.v (.slice none 0 0)), .sl 146⟩
  | 152 => some ⟨3, 40, (.st 3 [(.v (.slice none 0 0)), (.v (.int .i64 0)), (.v (.int .i64 0))]), .st [(0, 75), (1, 3), (2, 3)]⟩
  | 183 => some ⟨34, 40, (.st 34 [(.arr 32 1 (List.replicate 32 (.v (.int .u8 0)))), (.v (.int .u32 0)), (.v (.bool false))]), .st [(0, 53), (32, 57), (33, 4)]⟩
  | 185 => some ⟨35, 64, (.st 35 [(.st 34 [(.arr 32 1 (List.replicate 32 (.v (.int .u8 0)))), (.v (.int .u32 0)), (.v (.bool false))]), (.v (.slice none 0 0))]), .st [(0, 183), (34, 54)]⟩
  | 188 => some ⟨1, 8, (.v (.int .u64 0)), .int .u64⟩
  | 208 => some ⟨3, 40, (.st 3 [(.v (.slice none 0 0)), (.v (.int .i64 0)), (.v (.bool false))]), .st [(0, 75), (1, 23), (2, 4)]⟩
  | 209 => some ⟨1, 24, (.v (.slice none 0 0)), .sl 75⟩
  | 228 => some ⟨64, 64, (.arr 64 1 (List.replicate 64 (.v (.int .u8 0)))), .arr 64 5⟩
  | 231 => some ⟨1, 8, (.v (.pointer none)), .ptr 256⟩
  | 254 => some ⟨8, 32, (.arr 8 1 (List.replicate 8 (.v (.int .u32 0)))), .arr 8 57⟩
  | 256 => some ⟨73, 104, (.st 73 [(.arr 8 1 (List.replicate 8 (.v (.int .u32 0)))), (.arr 64 1 (List.replicate 64 (.v (.int .u8 0)))), (.v (.int .i64 0))]), .st [(0, 254), (8, 228), (72, 3)]⟩
  | 265 => some ⟨64, 256, (.arr 64 1 (List.replicate 64 (.v (.int .u32 0)))), .arr 64 57⟩
  | _ => none

theorem hT : TOK Try.prog tbl := by
  intro t i h
  unfold tbl at h
  split at h
  · cases h; exact ⟨⟨_, _, rfl, rfl, rfl, rfl, rfl, rfl⟩, ⟨_, rfl, rfl⟩, rfl⟩
  · cases h; exact ⟨⟨_, _, rfl, rfl, rfl, rfl, rfl, rfl⟩, ⟨_, rfl, rfl⟩, rfl⟩
  · cases h; exact ⟨⟨_, _, rfl, rfl, rfl, rfl, rfl, rfl⟩, ⟨_, rfl, rfl⟩, rfl⟩
  · cases h; exact ⟨⟨_, _, rfl, rfl, rfl, rfl, rfl, rfl⟩, ⟨_, rfl, rfl⟩, rfl⟩
  · cases h; exact ⟨⟨_, _, rfl, rfl, rfl, rfl, rfl, rfl⟩, ⟨_, rfl, rfl⟩, rfl⟩
  · cases h; exact ⟨⟨_, _, rfl, rfl, rfl, rfl, rfl, rfl⟩, ⟨_, rfl, rfl⟩, rfl⟩
  · cases h; exact ⟨⟨_, _, rfl, rfl, rfl, rfl, rfl, rfl⟩, ⟨_, rfl, rfl⟩, rfl⟩
  · cases h; exact ⟨⟨_, _, rfl, rfl, rfl, rfl, rfl, rfl⟩, ⟨_, rfl, rfl⟩, rfl⟩
  · cases h; exact ⟨⟨_, _, rfl, rfl, rfl, rfl, rfl, rfl⟩, ⟨_, rfl, rfl⟩, rfl⟩
  · cases h; exact ⟨⟨_, _, rfl, rfl, rfl, rfl, rfl, rfl⟩, ⟨_, rfl, ⟨_, rfl, rfl⟩⟩, rfl⟩
  · cases h; exact ⟨⟨_, _, rfl, rfl, rfl, rfl, rfl, rfl⟩, ⟨_, rfl, rfl⟩, rfl⟩
  · cases h; exact ⟨⟨_, _, rfl, rfl, rfl, rfl, rfl, rfl⟩, ⟨_, rfl, ⟨_, rfl, rfl⟩⟩, rfl⟩
  · cases h; exact ⟨⟨_, _, rfl, rfl, rfl, rfl, rfl, rfl⟩, ⟨_, rfl, rfl⟩, rfl⟩
  · cases h; exact ⟨⟨_, _, rfl, rfl, rfl, rfl, rfl, rfl⟩, ⟨_, rfl, rfl⟩, rfl⟩
  · cases h; exact ⟨⟨_, _, rfl, rfl, rfl, rfl, rfl, rfl⟩, ⟨_, rfl, rfl⟩, rfl⟩
  · cases h; exact ⟨⟨_, _, rfl, rfl, rfl, rfl, rfl, rfl⟩, ⟨_, rfl, rfl⟩, rfl⟩
  · cases h; exact ⟨⟨_, _, rfl, rfl, rfl, rfl, rfl, rfl⟩, ⟨_, rfl, rfl⟩, rfl⟩
  · cases h; exact ⟨⟨_, _, rfl, rfl, rfl, rfl, rfl, rfl⟩, ⟨_, rfl, ⟨_, rfl, rfl⟩⟩, rfl⟩
  · cases h; exact ⟨⟨_, _, rfl, rfl, rfl, rfl, rfl, rfl⟩, ⟨_, rfl, rfl⟩, rfl⟩
  · cases h; exact ⟨⟨_, _, rfl, rfl, rfl, rfl, rfl, rfl⟩, ⟨_, rfl, rfl⟩, rfl⟩
  · cases h; exact ⟨⟨_, _, rfl, rfl, rfl, rfl, rfl, rfl⟩, ⟨_, rfl, rfl⟩, rfl⟩
  · cases h; exact ⟨⟨_, _, rfl, rfl, rfl, rfl, rfl, rfl⟩, ⟨_, rfl, rfl⟩, rfl⟩
  · cases h; exact ⟨⟨_, _, rfl, rfl, rfl, rfl, rfl, rfl⟩, ⟨_, rfl, ⟨_, rfl, rfl⟩⟩, rfl⟩
  · cases h; exact ⟨⟨_, _, rfl, rfl, rfl, rfl, rfl, rfl⟩, ⟨_, rfl, ⟨_, rfl, rfl⟩⟩, rfl⟩
  · cases h; exact ⟨⟨_, _, rfl, rfl, rfl, rfl, rfl, rfl⟩, ⟨_, rfl, ⟨_, rfl, rfl⟩⟩, rfl⟩
  · cases h; exact ⟨⟨_, _, rfl, rfl, rfl, rfl, rfl, rfl⟩, ⟨_, rfl, rfl⟩, rfl⟩
  · cases h; exact ⟨⟨_, _, rfl, rfl, rfl, rfl, rfl, rfl⟩, ⟨_, rfl, ⟨_, rfl, rfl⟩⟩, rfl⟩
  · cases h; exact ⟨⟨_, _, rfl, rfl, rfl, rfl, rfl, rfl⟩, ⟨_, rfl, rfl⟩, rfl⟩
  · cases h; exact ⟨⟨_, _, rfl, rfl, rfl, rfl, rfl, rfl⟩, ⟨_, rfl, rfl⟩, rfl⟩
  · cases h; exact ⟨⟨_, _, rfl, rfl, rfl, rfl, rfl, rfl⟩, ⟨_, rfl, rfl⟩, rfl⟩
  · cases h; exact ⟨⟨_, _, rfl, rfl, rfl, rfl, rfl, rfl⟩, ⟨_, rfl, rfl⟩, rfl⟩
  · cases h; exact ⟨⟨_, _, rfl, rfl, rfl, rfl, rfl, rfl⟩, ⟨_, rfl, ⟨_, rfl, rfl⟩⟩, rfl⟩
  · cases h; exact ⟨⟨_, _, rfl, rfl, rfl, rfl, rfl, rfl⟩, ⟨_, rfl, rfl⟩, rfl⟩
  · cases h

theorem hmo : Try.prog.follows .mixedOrders = true := by rfl

theorem tt3 : tbl 3 = some ⟨1, 8, (.v (.int .i64 0)), .int .i64⟩ := rfl

theorem tt5 : tbl 5 = some ⟨1, 1, (.v (.int .u8 0)), .int .u8⟩ := rfl

theorem tt53 : tbl 53 = some ⟨32, 32, (.arr 32 1 (List.replicate 32 (.v (.int .u8 0)))), .arr 32 5⟩ := rfl

theorem tt57 : tbl 57 = some ⟨1, 4, (.v (.int .u32 0)), .int .u32⟩ := rfl

theorem tt59 : tbl 59 = some ⟨100, 128, (.st 100 [(.v (.int .i64 0)), (.v (.int .i64 0)), (.v (.int .i64 0)), (.v (.int .u32 0)), (.arr 32 1 (List.replicate 32 (.v (.int .u8 0)))), (.arr 32 1 (List.replicate 32 (.v (.int .u8 0)))), (.arr 32 1 (List.replicate 32 (.v (.int .u8 0))))]), .st [(0, 3), (1, 3), (2, 3), (3, 57), (4, 53), (36, 53), (68, 53)]⟩ := rfl

theorem tt254 : tbl 254 = some ⟨8, 32, (.arr 8 1 (List.replicate 8 (.v (.int .u32 0)))), .arr 8 57⟩ := rfl

theorem eqT_57 : EqT Try.prog 57 (α := Int) k32 (fun a b => a == b) 1 :=
  eqT_int Try.underlying57

theorem eqT_254 : EqT Try.prog 254 (α := (Vector Int 8)) (eA 8 1 k32) (eqV (fun a b => a == b)) 2 :=
  eqT_array (M := 8) hT tt57 Try.underlying254 (by kernel_rfl) (fun _ => rfl) rfl (fun _ => rfl) (fun _ => rfl) eqT_57

theorem eqT_3 : EqT Try.prog 3 (α := Int) j64 (fun a b => a == b) 1 :=
  eqT_int Try.underlying3

theorem eqT_5 : EqT Try.prog 5 (α := Int) k8 (fun a b => a == b) 1 :=
  eqT_int Try.underlying5

theorem eqT_53 : EqT Try.prog 53 (α := (Vector Int 32)) (eA 32 1 k8) (eqV (fun a b => a == b)) 2 :=
  eqT_array (M := 32) hT tt5 Try.underlying53 (by kernel_rfl) (fun _ => rfl) rfl (fun _ => rfl) (fun _ => rfl) eqT_5

def S_api_Receipt.eq (a b : S_api_Receipt) : Bool := (fun a b => a == b) a.gLayer b.gLayer && ((fun a b => a == b) a.gSeq b.gSeq && ((fun a b => a == b) a.gWho b.gWho && ((fun a b => a == b) a.gClock b.gClock && ((eqV (fun a b => a == b)) a.gSum b.gSum && ((eqV (fun a b => a == b)) a.gHead b.gHead && ((eqV (fun a b => a == b)) a.gTag b.gTag && true))))))
theorem eqT_59 : EqT Try.prog 59 (α := S_api_Receipt) S_api_Receipt.enc S_api_Receipt.eq 3 :=
  eqT_struct (N := 100) Try.underlying59 (by kernel_rfl) (fun _ => rfl) (fun a b => eqF_cons hT a.gLayer b.gLayer (by decide) rfl tt3 rfl (fun _ => rfl) (fun _ => rfl) (fun _ => rfl) eqT_3 (by decide) (eqF_cons hT a.gSeq b.gSeq (by decide) rfl tt3 rfl (fun _ => rfl) (fun _ => rfl) (fun _ => rfl) eqT_3 (by decide) (eqF_cons hT a.gWho b.gWho (by decide) rfl tt3 rfl (fun _ => rfl) (fun _ => rfl) (fun _ => rfl) eqT_3 (by decide) (eqF_cons hT a.gClock b.gClock (by decide) rfl tt57 rfl (fun _ => rfl) (fun _ => rfl) (fun _ => rfl) eqT_57 (by decide) (eqF_cons hT a.gSum b.gSum (by decide) rfl tt53 rfl (fun _ => rfl) (fun _ => rfl) (fun _ => rfl) eqT_53 (by decide) (eqF_cons hT a.gHead b.gHead (by decide) rfl tt53 rfl (fun _ => rfl) (fun _ => rfl) (fun _ => rfl) eqT_53 (by decide) (eqF_cons hT a.gTag b.gTag (by decide) rfl tt53 rfl (fun _ => rfl) (fun _ => rfl) (fun _ => rfl) eqT_53 (by decide) (eqF_nil))))))))

end Go.UK
