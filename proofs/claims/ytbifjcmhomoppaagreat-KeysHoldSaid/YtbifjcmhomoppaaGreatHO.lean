/- A part of the proof: what the functions of the program compute. -/
import Derived.Test.YtbifjcmhomoppaaGreatHT
namespace Go.UK
open Go Go.Proofs
set_option maxRecDepth 20000
set_option maxHeartbeats 4000000
set_option linter.all false

def S_api_Manifest.ok (s : S_api_Manifest) : Prop := (fun x => (Lit.int .u64 x).wf = true) s.gId ∧ (fun x => (Lit.int .i64 x).wf = true) s.gKind ∧ (fun x => (Lit.int .u32 x).wf = true) s.gLabel ∧ (fun (v : (Vector Int 8)) => ∀ a ∈ v.toList, (fun x => (Lit.int .u8 x).wf = true) a) s.gMasks ∧ (fun x => (Lit.int .u32 x).wf = true) s.gFrom ∧ (fun x => (Lit.int .u32 x).wf = true) s.gTo ∧ (fun x => (Lit.int .i64 x).wf = true) s.gSize ∧ (fun x => (Lit.int .i64 x).wf = true) s.gChunks

theorem S_api_Manifest.opens : Opens Tryz.prog 27 S_api_Manifest.enc S_api_Manifest.ok := by
  intro H enc w spare fuel cs x h
  obtain ⟨xs, n, _, _, hl, hx, hf⟩ := DataW.trod_struct Tryz.underlying27 h
  have hl : cs.length = 15 := hl.trans (by kernel_rfl)
  obtain ⟨b0, o0, r0⟩ := opens_fld hx hf 0 0 1 _ rfl rfl (by kernel_rfl) (opens_int Tryz.underlying23)
  obtain ⟨b1, o1, r1⟩ := opens_fld hx hf 1 1 1 _ rfl rfl (by kernel_rfl) (opens_int Tryz.underlying3)
  obtain ⟨b2, o2, r2⟩ := opens_fld hx hf 2 2 1 _ rfl rfl (by kernel_rfl) (opens_int Tryz.underlying24)
  obtain ⟨b3, o3, r3⟩ := opens_fld hx hf 3 3 8 _ rfl rfl (by kernel_rfl) (opens_array (n := 8) (k := 1) (m := 8) Tryz.underlying25 (by kernel_rfl) (by kernel_rfl) rfl (fun _ => rfl) (opens_int Tryz.underlying5))
  obtain ⟨b4, o4, r4⟩ := opens_fld hx hf 4 11 1 _ rfl rfl (by kernel_rfl) (opens_int Tryz.underlying24)
  obtain ⟨b5, o5, r5⟩ := opens_fld hx hf 5 12 1 _ rfl rfl (by kernel_rfl) (opens_int Tryz.underlying24)
  obtain ⟨b6, o6, r6⟩ := opens_fld hx hf 6 13 1 _ rfl rfl (by kernel_rfl) (opens_int Tryz.underlying3)
  obtain ⟨b7, o7, r7⟩ := opens_fld hx hf 7 14 1 _ rfl rfl (by kernel_rfl) (opens_int Tryz.underlying3)
  exact ⟨⟨b0, b1, b2, b3, b4, b5, b6, b7⟩, ⟨o0, o1, o2, o3, o4, o5, o6, o7⟩, rc_st hl (rcl_step r0 (rcl_step r1 (rcl_step r2 (rcl_step r3 (rcl_step r4 (rcl_step r5 (rcl_step r6 (rcl_step r7 (rcl_end hl)))))))))⟩

def S_umbralaw36_Wrapped.ok (s : S_umbralaw36_Wrapped) : Prop := (fun (v : (Vector Int 32)) => ∀ a ∈ v.toList, (fun x => (Lit.int .u8 x).wf = true) a) s.gMaster ∧ (fun x => (Lit.int .i64 x).wf = true) s.gId ∧ (fun x => (Lit.int .i64 x).wf = true) s.gEpoch ∧ S_api_Manifest.ok s.gM

theorem S_umbralaw36_Wrapped.opens : Opens Tryz.prog 29 S_umbralaw36_Wrapped.enc S_umbralaw36_Wrapped.ok := by
  intro H enc w spare fuel cs x h
  obtain ⟨xs, n, _, _, hl, hx, hf⟩ := DataW.trod_struct Tryz.underlying29 h
  have hl : cs.length = 49 := hl.trans (by kernel_rfl)
  obtain ⟨b0, o0, r0⟩ := opens_fld hx hf 0 0 32 _ rfl rfl (by kernel_rfl) (opens_array (n := 32) (k := 1) (m := 32) Tryz.underlying22 (by kernel_rfl) (by kernel_rfl) rfl (fun _ => rfl) (opens_int Tryz.underlying5))
  obtain ⟨b1, o1, r1⟩ := opens_fld hx hf 1 32 1 _ rfl rfl (by kernel_rfl) (opens_int Tryz.underlying3)
  obtain ⟨b2, o2, r2⟩ := opens_fld hx hf 2 33 1 _ rfl rfl (by kernel_rfl) (opens_int Tryz.underlying3)
  obtain ⟨b3, o3, r3⟩ := opens_fld hx hf 3 34 15 _ rfl rfl (by kernel_rfl) S_api_Manifest.opens
  exact ⟨⟨b0, b1, b2, b3⟩, ⟨o0, o1, o2, o3⟩, rc_st hl (rcl_step r0 (rcl_step r1 (rcl_step r2 (rcl_step r3 (rcl_end hl)))))⟩

def S_api_Point.ok (s : S_api_Point) : Prop := (fun x => (Lit.int .i64 x).wf = true) s.gX ∧ (fun x => (Lit.int .i64 x).wf = true) s.gY ∧ (fun x => (Lit.int .i64 x).wf = true) s.gZ

theorem S_api_Point.opens : Opens Tryz.prog 41 S_api_Point.enc S_api_Point.ok := by
  intro H enc w spare fuel cs x h
  obtain ⟨xs, n, _, _, hl, hx, hf⟩ := DataW.trod_struct Tryz.underlying41 h
  have hl : cs.length = 3 := hl.trans (by kernel_rfl)
  obtain ⟨b0, o0, r0⟩ := opens_fld hx hf 0 0 1 _ rfl rfl (by kernel_rfl) (opens_int Tryz.underlying3)
  obtain ⟨b1, o1, r1⟩ := opens_fld hx hf 1 1 1 _ rfl rfl (by kernel_rfl) (opens_int Tryz.underlying3)
  obtain ⟨b2, o2, r2⟩ := opens_fld hx hf 2 2 1 _ rfl rfl (by kernel_rfl) (opens_int Tryz.underlying3)
  exact ⟨⟨b0, b1, b2⟩, ⟨o0, o1, o2⟩, rc_st hl (rcl_step r0 (rcl_step r1 (rcl_step r2 (rcl_end hl))))⟩

def S_api_Mesh.ok (s : S_api_Mesh) : Prop := (fun (l : (List S_api_Point)) => l.length ≤ maxLen ∧ ∀ a ∈ l, S_api_Point.ok a) s.gVerts ∧ (fun (l : (List (Vector Int 2))) => l.length ≤ maxLen ∧ ∀ a ∈ l, (fun (v : (Vector Int 2)) => ∀ a ∈ v.toList, (fun x => (Lit.int .i64 x).wf = true) a) a) s.gUvs ∧ (fun (l : (List (Vector Int 3))) => l.length ≤ maxLen ∧ ∀ a ∈ l, (fun (v : (Vector Int 3)) => ∀ a ∈ v.toList, (fun x => (Lit.int .i64 x).wf = true) a) a) s.gTris

theorem S_api_Mesh.opens : Opens Tryz.prog 34 S_api_Mesh.enc S_api_Mesh.ok := by
  intro H enc w spare fuel cs x h
  obtain ⟨xs, n, _, _, hl, hx, hf⟩ := DataW.trod_struct Tryz.underlying34 h
  have hl : cs.length = 3 := hl.trans (by kernel_rfl)
  obtain ⟨b0, o0, r0⟩ := opens_fld hx hf 0 0 1 _ rfl rfl (by kernel_rfl) (opens_slice (k := 3) Tryz.underlying30 (by kernel_rfl) (by decide) (fun _ => rfl) S_api_Point.opens)
  obtain ⟨b1, o1, r1⟩ := opens_fld hx hf 1 1 1 _ rfl rfl (by kernel_rfl) (opens_slice (k := 2) Tryz.underlying31 (by kernel_rfl) (by decide) (fun _ => rfl) (opens_array (n := 2) (k := 1) (m := 2) Tryz.underlying128 (by kernel_rfl) (by kernel_rfl) rfl (fun _ => rfl) (opens_int Tryz.underlying3)))
  obtain ⟨b2, o2, r2⟩ := opens_fld hx hf 2 2 1 _ rfl rfl (by kernel_rfl) (opens_slice (k := 3) Tryz.underlying32 (by kernel_rfl) (by decide) (fun _ => rfl) (opens_array (n := 3) (k := 1) (m := 3) Tryz.underlying37 (by kernel_rfl) (by kernel_rfl) rfl (fun _ => rfl) (opens_int Tryz.underlying3)))
  exact ⟨⟨b0, b1, b2⟩, ⟨o0, o1, o2⟩, rc_st hl (rcl_step r0 (rcl_step r1 (rcl_step r2 (rcl_end hl))))⟩

def S_api_Texture.ok (s : S_api_Texture) : Prop := (fun x => (Lit.int .i64 x).wf = true) s.gSide ∧ (fun (l : (List (Vector Int 3))) => l.length ≤ maxLen ∧ ∀ a ∈ l, (fun (v : (Vector Int 3)) => ∀ a ∈ v.toList, (fun x => (Lit.int .i64 x).wf = true) a) a) s.gTexels

theorem S_api_Texture.opens : Opens Tryz.prog 36 S_api_Texture.enc S_api_Texture.ok := by
  intro H enc w spare fuel cs x h
  obtain ⟨xs, n, _, _, hl, hx, hf⟩ := DataW.trod_struct Tryz.underlying36 h
  have hl : cs.length = 2 := hl.trans (by kernel_rfl)
  obtain ⟨b0, o0, r0⟩ := opens_fld hx hf 0 0 1 _ rfl rfl (by kernel_rfl) (opens_int Tryz.underlying3)
  obtain ⟨b1, o1, r1⟩ := opens_fld hx hf 1 1 1 _ rfl rfl (by kernel_rfl) (opens_slice (k := 3) Tryz.underlying32 (by kernel_rfl) (by decide) (fun _ => rfl) (opens_array (n := 3) (k := 1) (m := 3) Tryz.underlying37 (by kernel_rfl) (by kernel_rfl) rfl (fun _ => rfl) (opens_int Tryz.underlying3)))
  exact ⟨⟨b0, b1⟩, ⟨o0, o1⟩, rc_st hl (rcl_step r0 (rcl_step r1 (rcl_end hl)))⟩

def S_api_Material.ok (s : S_api_Material) : Prop := (fun x => (Lit.int .i64 x).wf = true) s.gKind ∧ (fun (v : (Vector Int 3)) => ∀ a ∈ v.toList, (fun x => (Lit.int .i64 x).wf = true) a) s.gColor ∧ (fun x => (Lit.int .i64 x).wf = true) s.gRough

theorem S_api_Material.opens : Opens Tryz.prog 39 S_api_Material.enc S_api_Material.ok := by
  intro H enc w spare fuel cs x h
  obtain ⟨xs, n, _, _, hl, hx, hf⟩ := DataW.trod_struct Tryz.underlying39 h
  have hl : cs.length = 5 := hl.trans (by kernel_rfl)
  obtain ⟨b0, o0, r0⟩ := opens_fld hx hf 0 0 1 _ rfl rfl (by kernel_rfl) (opens_int Tryz.underlying3)
  obtain ⟨b1, o1, r1⟩ := opens_fld hx hf 1 1 3 _ rfl rfl (by kernel_rfl) (opens_array (n := 3) (k := 1) (m := 3) Tryz.underlying37 (by kernel_rfl) (by kernel_rfl) rfl (fun _ => rfl) (opens_int Tryz.underlying3))
  obtain ⟨b2, o2, r2⟩ := opens_fld hx hf 2 4 1 _ rfl rfl (by kernel_rfl) (opens_int Tryz.underlying3)
  exact ⟨⟨b0, b1, b2⟩, ⟨o0, o1, o2⟩, rc_st hl (rcl_step r0 (rcl_step r1 (rcl_step r2 (rcl_end hl))))⟩

def S_api_Light.ok (s : S_api_Light) : Prop := (fun x => (Lit.int .i64 x).wf = true) s.gKind ∧ (fun (v : (Vector Int 3)) => ∀ a ∈ v.toList, (fun x => (Lit.int .i64 x).wf = true) a) s.gColor ∧ S_api_Point.ok s.gAt ∧ S_api_Point.ok s.gU ∧ S_api_Point.ok s.gV

theorem S_api_Light.opens : Opens Tryz.prog 43 S_api_Light.enc S_api_Light.ok := by
  intro H enc w spare fuel cs x h
  obtain ⟨xs, n, _, _, hl, hx, hf⟩ := DataW.trod_struct Tryz.underlying43 h
  have hl : cs.length = 13 := hl.trans (by kernel_rfl)
  obtain ⟨b0, o0, r0⟩ := opens_fld hx hf 0 0 1 _ rfl rfl (by kernel_rfl) (opens_int Tryz.underlying3)
  obtain ⟨b1, o1, r1⟩ := opens_fld hx hf 1 1 3 _ rfl rfl (by kernel_rfl) (opens_array (n := 3) (k := 1) (m := 3) Tryz.underlying37 (by kernel_rfl) (by kernel_rfl) rfl (fun _ => rfl) (opens_int Tryz.underlying3))
  obtain ⟨b2, o2, r2⟩ := opens_fld hx hf 2 4 3 _ rfl rfl (by kernel_rfl) S_api_Point.opens
  obtain ⟨b3, o3, r3⟩ := opens_fld hx hf 3 7 3 _ rfl rfl (by kernel_rfl) S_api_Point.opens
  obtain ⟨b4, o4, r4⟩ := opens_fld hx hf 4 10 3 _ rfl rfl (by kernel_rfl) S_api_Point.opens
  exact ⟨⟨b0, b1, b2, b3, b4⟩, ⟨o0, o1, o2, o3, o4⟩, rc_st hl (rcl_step r0 (rcl_step r1 (rcl_step r2 (rcl_step r3 (rcl_step r4 (rcl_end hl))))))⟩

def S_api_Asset.ok (s : S_api_Asset) : Prop := (fun x => (Lit.int .i64 x).wf = true) s.gKind ∧ S_api_Mesh.ok s.gMesh ∧ S_api_Texture.ok s.gTexture ∧ S_api_Material.ok s.gMaterial ∧ S_api_Light.ok s.gLight

theorem S_api_Asset.opens : Opens Tryz.prog 45 S_api_Asset.enc S_api_Asset.ok := by
  intro H enc w spare fuel cs x h
  obtain ⟨xs, n, _, _, hl, hx, hf⟩ := DataW.trod_struct Tryz.underlying45 h
  have hl : cs.length = 24 := hl.trans (by kernel_rfl)
  obtain ⟨b0, o0, r0⟩ := opens_fld hx hf 0 0 1 _ rfl rfl (by kernel_rfl) (opens_int Tryz.underlying3)
  obtain ⟨b1, o1, r1⟩ := opens_fld hx hf 1 1 3 _ rfl rfl (by kernel_rfl) S_api_Mesh.opens
  obtain ⟨b2, o2, r2⟩ := opens_fld hx hf 2 4 2 _ rfl rfl (by kernel_rfl) S_api_Texture.opens
  obtain ⟨b3, o3, r3⟩ := opens_fld hx hf 3 6 5 _ rfl rfl (by kernel_rfl) S_api_Material.opens
  obtain ⟨b4, o4, r4⟩ := opens_fld hx hf 4 11 13 _ rfl rfl (by kernel_rfl) S_api_Light.opens
  exact ⟨⟨b0, b1, b2, b3, b4⟩, ⟨o0, o1, o2, o3, o4⟩, rc_st hl (rcl_step r0 (rcl_step r1 (rcl_step r2 (rcl_step r3 (rcl_step r4 (rcl_end hl))))))⟩

def S_umbralaw36_Act.ok (s : S_umbralaw36_Act) : Prop := (fun x => (Lit.int .i64 x).wf = true) s.gKind ∧ (fun x => (Lit.int .i64 x).wf = true) s.gId ∧ (fun x => (Lit.int .i64 x).wf = true) s.gEpoch

theorem S_umbralaw36_Act.opens : Opens Tryz.prog 75 S_umbralaw36_Act.enc S_umbralaw36_Act.ok := by
  intro H enc w spare fuel cs x h
  obtain ⟨xs, n, _, _, hl, hx, hf⟩ := DataW.trod_struct Tryz.underlying75 h
  have hl : cs.length = 3 := hl.trans (by kernel_rfl)
  obtain ⟨b0, o0, r0⟩ := opens_fld hx hf 0 0 1 _ rfl rfl (by kernel_rfl) (opens_int Tryz.underlying3)
  obtain ⟨b1, o1, r1⟩ := opens_fld hx hf 1 1 1 _ rfl rfl (by kernel_rfl) (opens_int Tryz.underlying3)
  obtain ⟨b2, o2, r2⟩ := opens_fld hx hf 2 2 1 _ rfl rfl (by kernel_rfl) (opens_int Tryz.underlying3)
  exact ⟨⟨b0, b1, b2⟩, ⟨o0, o1, o2⟩, rc_st hl (rcl_step r0 (rcl_step r1 (rcl_step r2 (rcl_end hl))))⟩

theorem opens_29 : Opens Tryz.prog 29 S_umbralaw36_Wrapped.enc S_umbralaw36_Wrapped.ok := S_umbralaw36_Wrapped.opens
theorem opens_45 : Opens Tryz.prog 45 S_api_Asset.enc S_api_Asset.ok := S_api_Asset.opens
theorem opens_67 : Opens Tryz.prog 67 (eL 3 S_umbralaw36_Act.enc) (fun (l : (List S_umbralaw36_Act)) => l.length ≤ maxLen ∧ ∀ a ∈ l, S_umbralaw36_Act.ok a) := (opens_slice (k := 3) Tryz.underlying67 (by kernel_rfl) (by decide) (fun _ => rfl) S_umbralaw36_Act.opens)

end Go.UK

