/- A part of the proof: what the functions of the program compute. -/
import Derived.Test.YtcaadpceoajapaaPT
namespace Go.UK
open Go Go.Proofs
set_option maxRecDepth 20000
set_option maxHeartbeats 4000000
set_option linter.all false

def S_api_Vec.ok (s : S_api_Vec) : Prop := (fun x => (Lit.int .i64 x).wf = true) s.gX ∧ (fun x => (Lit.int .i64 x).wf = true) s.gY ∧ (fun x => (Lit.int .i64 x).wf = true) s.gZ

theorem S_api_Vec.opens : Opens Try.prog 167 S_api_Vec.enc S_api_Vec.ok := by
    intro H enc w spare fuel cs x h
    obtain ⟨xs, n, _, _, hl, hx, hf⟩ := DataW.trod_struct Try.underlying167 h
    have hl : cs.length = 3 := hl.trans (by kernel_rfl)
    obtain ⟨b0, o0, r0⟩ := opens_fld hx hf 0 0 1 _ rfl rfl (by kernel_rfl) (opens_int Try.underlying47)
    obtain ⟨b1, o1, r1⟩ := opens_fld hx hf 1 1 1 _ rfl rfl (by kernel_rfl) (opens_int Try.underlying47)
    obtain ⟨b2, o2, r2⟩ := opens_fld hx hf 2 2 1 _ rfl rfl (by kernel_rfl) (opens_int Try.underlying47)
    exact ⟨⟨b0, b1, b2⟩, ⟨o0, o1, o2⟩, rc_st hl (rcl_step r0 (rcl_step r1 (rcl_step r2 (rcl_end hl))))⟩

def S_api_Sample.ok (s : S_api_Sample) : Prop := S_api_Vec.ok s.gColor ∧ (fun x => (Lit.int .i64 x).wf = true) s.gAlpha ∧ (fun x => (Lit.int .i64 x).wf = true) s.gDepth ∧ S_api_Vec.ok s.gNormal ∧ (fun x => (Lit.int .i64 x).wf = true) s.gObj

theorem S_api_Sample.opens : Opens Try.prog 169 S_api_Sample.enc S_api_Sample.ok := by
    intro H enc w spare fuel cs x h
    obtain ⟨xs, n, _, _, hl, hx, hf⟩ := DataW.trod_struct Try.underlying169 h
    have hl : cs.length = 9 := hl.trans (by kernel_rfl)
    obtain ⟨b0, o0, r0⟩ := opens_fld hx hf 0 0 3 _ rfl rfl (by kernel_rfl) S_api_Vec.opens
    obtain ⟨b1, o1, r1⟩ := opens_fld hx hf 1 3 1 _ rfl rfl (by kernel_rfl) (opens_int Try.underlying3)
    obtain ⟨b2, o2, r2⟩ := opens_fld hx hf 2 4 1 _ rfl rfl (by kernel_rfl) (opens_int Try.underlying47)
    obtain ⟨b3, o3, r3⟩ := opens_fld hx hf 3 5 3 _ rfl rfl (by kernel_rfl) S_api_Vec.opens
    obtain ⟨b4, o4, r4⟩ := opens_fld hx hf 4 8 1 _ rfl rfl (by kernel_rfl) (opens_int Try.underlying3)
    exact ⟨⟨b0, b1, b2, b3, b4⟩, ⟨o0, o1, o2, o3, o4⟩, rc_st hl (rcl_step r0 (rcl_step r1 (rcl_step r2 (rcl_step r3 (rcl_step r4 (rcl_end hl))))))⟩

def S_api_Point.ok (s : S_api_Point) : Prop := (fun x => (Lit.int .i64 x).wf = true) s.gX ∧ (fun x => (Lit.int .i64 x).wf = true) s.gY ∧ (fun x => (Lit.int .i64 x).wf = true) s.gZ

theorem S_api_Point.opens : Opens Try.prog 287 S_api_Point.enc S_api_Point.ok := by
    intro H enc w spare fuel cs x h
    obtain ⟨xs, n, _, _, hl, hx, hf⟩ := DataW.trod_struct Try.underlying287 h
    have hl : cs.length = 3 := hl.trans (by kernel_rfl)
    obtain ⟨b0, o0, r0⟩ := opens_fld hx hf 0 0 1 _ rfl rfl (by kernel_rfl) (opens_int Try.underlying3)
    obtain ⟨b1, o1, r1⟩ := opens_fld hx hf 1 1 1 _ rfl rfl (by kernel_rfl) (opens_int Try.underlying3)
    obtain ⟨b2, o2, r2⟩ := opens_fld hx hf 2 2 1 _ rfl rfl (by kernel_rfl) (opens_int Try.underlying3)
    exact ⟨⟨b0, b1, b2⟩, ⟨o0, o1, o2⟩, rc_st hl (rcl_step r0 (rcl_step r1 (rcl_step r2 (rcl_end hl))))⟩

def S_api_Tri.ok (s : S_api_Tri) : Prop := (fun v => ∀ a ∈ v.toList, S_api_Point.ok a) s.gP ∧ (fun v => ∀ a ∈ v.toList, (fun v => ∀ a ∈ v.toList, (fun x => (Lit.int .i64 x).wf = true) a) a) s.gUv ∧ (fun x => (Lit.int .i64 x).wf = true) s.gMat ∧ (fun x => (Lit.int .i64 x).wf = true) s.gTex ∧ (fun x => (Lit.int .i64 x).wf = true) s.gObj ∧ (fun x => (Lit.int .u8 x).wf = true) s.gMask

theorem S_api_Tri.opens : Opens Try.prog 291 S_api_Tri.enc S_api_Tri.ok := by
    intro H enc w spare fuel cs x h
    obtain ⟨xs, n, _, _, hl, hx, hf⟩ := DataW.trod_struct Try.underlying291 h
    have hl : cs.length = 19 := hl.trans (by kernel_rfl)
    obtain ⟨b0, o0, r0⟩ := opens_fld hx hf 0 0 9 _ rfl rfl (by kernel_rfl) (opens_array (n := 3) (k := 3) (m := 9) Try.underlying288 (by kernel_rfl) (by kernel_rfl) rfl (fun _ => rfl) S_api_Point.opens)
    obtain ⟨b1, o1, r1⟩ := opens_fld hx hf 1 9 6 _ rfl rfl (by kernel_rfl) (opens_array (n := 3) (k := 2) (m := 6) Try.underlying289 (by kernel_rfl) (by kernel_rfl) rfl (fun _ => rfl) (opens_array (n := 2) (k := 1) (m := 2) Try.underlying50 (by kernel_rfl) (by kernel_rfl) rfl (fun _ => rfl) (opens_int Try.underlying3)))
    obtain ⟨b2, o2, r2⟩ := opens_fld hx hf 2 15 1 _ rfl rfl (by kernel_rfl) (opens_int Try.underlying3)
    obtain ⟨b3, o3, r3⟩ := opens_fld hx hf 3 16 1 _ rfl rfl (by kernel_rfl) (opens_int Try.underlying3)
    obtain ⟨b4, o4, r4⟩ := opens_fld hx hf 4 17 1 _ rfl rfl (by kernel_rfl) (opens_int Try.underlying3)
    obtain ⟨b5, o5, r5⟩ := opens_fld hx hf 5 18 1 _ rfl rfl (by kernel_rfl) (opens_int Try.underlying5)
    exact ⟨⟨b0, b1, b2, b3, b4, b5⟩, ⟨o0, o1, o2, o3, o4, o5⟩, rc_st hl (rcl_step r0 (rcl_step r1 (rcl_step r2 (rcl_step r3 (rcl_step r4 (rcl_step r5 (rcl_end hl)))))))⟩

def S_api_Material.ok (s : S_api_Material) : Prop := (fun x => (Lit.int .i64 x).wf = true) s.gKind ∧ (fun v => ∀ a ∈ v.toList, (fun x => (Lit.int .i64 x).wf = true) a) s.gColor ∧ (fun x => (Lit.int .i64 x).wf = true) s.gRough

theorem S_api_Material.opens : Opens Try.prog 293 S_api_Material.enc S_api_Material.ok := by
    intro H enc w spare fuel cs x h
    obtain ⟨xs, n, _, _, hl, hx, hf⟩ := DataW.trod_struct Try.underlying293 h
    have hl : cs.length = 5 := hl.trans (by kernel_rfl)
    obtain ⟨b0, o0, r0⟩ := opens_fld hx hf 0 0 1 _ rfl rfl (by kernel_rfl) (opens_int Try.underlying3)
    obtain ⟨b1, o1, r1⟩ := opens_fld hx hf 1 1 3 _ rfl rfl (by kernel_rfl) (opens_array (n := 3) (k := 1) (m := 3) Try.underlying140 (by kernel_rfl) (by kernel_rfl) rfl (fun _ => rfl) (opens_int Try.underlying3))
    obtain ⟨b2, o2, r2⟩ := opens_fld hx hf 2 4 1 _ rfl rfl (by kernel_rfl) (opens_int Try.underlying3)
    exact ⟨⟨b0, b1, b2⟩, ⟨o0, o1, o2⟩, rc_st hl (rcl_step r0 (rcl_step r1 (rcl_step r2 (rcl_end hl))))⟩

def S_api_Texture.ok (s : S_api_Texture) : Prop := (fun x => (Lit.int .i64 x).wf = true) s.gSide ∧ (fun l => l.length ≤ maxLen ∧ ∀ a ∈ l, (fun v => ∀ a ∈ v.toList, (fun x => (Lit.int .i64 x).wf = true) a) a) s.gTexels

theorem S_api_Texture.opens : Opens Try.prog 164 S_api_Texture.enc S_api_Texture.ok := by
    intro H enc w spare fuel cs x h
    obtain ⟨xs, n, _, _, hl, hx, hf⟩ := DataW.trod_struct Try.underlying164 h
    have hl : cs.length = 2 := hl.trans (by kernel_rfl)
    obtain ⟨b0, o0, r0⟩ := opens_fld hx hf 0 0 1 _ rfl rfl (by kernel_rfl) (opens_int Try.underlying3)
    obtain ⟨b1, o1, r1⟩ := opens_fld hx hf 1 1 1 _ rfl rfl (by kernel_rfl) (opens_slice (k := 3) Try.underlying71 (by kernel_rfl) (by decide) (fun _ => rfl) (opens_array (n := 3) (k := 1) (m := 3) Try.underlying140 (by kernel_rfl) (by kernel_rfl) rfl (fun _ => rfl) (opens_int Try.underlying3)))
    exact ⟨⟨b0, b1⟩, ⟨o0, o1⟩, rc_st hl (rcl_step r0 (rcl_step r1 (rcl_end hl)))⟩

def S_api_Light.ok (s : S_api_Light) : Prop := (fun x => (Lit.int .i64 x).wf = true) s.gKind ∧ (fun v => ∀ a ∈ v.toList, (fun x => (Lit.int .i64 x).wf = true) a) s.gColor ∧ S_api_Point.ok s.gAt ∧ S_api_Point.ok s.gU ∧ S_api_Point.ok s.gV

theorem S_api_Light.opens : Opens Try.prog 295 S_api_Light.enc S_api_Light.ok := by
    intro H enc w spare fuel cs x h
    obtain ⟨xs, n, _, _, hl, hx, hf⟩ := DataW.trod_struct Try.underlying295 h
    have hl : cs.length = 13 := hl.trans (by kernel_rfl)
    obtain ⟨b0, o0, r0⟩ := opens_fld hx hf 0 0 1 _ rfl rfl (by kernel_rfl) (opens_int Try.underlying3)
    obtain ⟨b1, o1, r1⟩ := opens_fld hx hf 1 1 3 _ rfl rfl (by kernel_rfl) (opens_array (n := 3) (k := 1) (m := 3) Try.underlying140 (by kernel_rfl) (by kernel_rfl) rfl (fun _ => rfl) (opens_int Try.underlying3))
    obtain ⟨b2, o2, r2⟩ := opens_fld hx hf 2 4 3 _ rfl rfl (by kernel_rfl) S_api_Point.opens
    obtain ⟨b3, o3, r3⟩ := opens_fld hx hf 3 7 3 _ rfl rfl (by kernel_rfl) S_api_Point.opens
    obtain ⟨b4, o4, r4⟩ := opens_fld hx hf 4 10 3 _ rfl rfl (by kernel_rfl) S_api_Point.opens
    exact ⟨⟨b0, b1, b2, b3, b4⟩, ⟨o0, o1, o2, o3, o4⟩, rc_st hl (rcl_step r0 (rcl_step r1 (rcl_step r2 (rcl_step r3 (rcl_step r4 (rcl_end hl))))))⟩

def S_api_Scene.ok (s : S_api_Scene) : Prop := (fun l => l.length ≤ maxLen ∧ ∀ a ∈ l, S_api_Tri.ok a) s.gTris ∧ (fun l => l.length ≤ maxLen ∧ ∀ a ∈ l, S_api_Material.ok a) s.gMats ∧ (fun l => l.length ≤ maxLen ∧ ∀ a ∈ l, S_api_Texture.ok a) s.gTexs ∧ (fun l => l.length ≤ maxLen ∧ ∀ a ∈ l, S_api_Light.ok a) s.gLights ∧ (fun l => l.length ≤ maxLen ∧ ∀ a ∈ l, (fun x => (Lit.int .u64 x).wf = true) a) s.gIds ∧ (fun l => l.length ≤ maxLen ∧ ∀ a ∈ l, (fun x => (Lit.int .u32 x).wf = true) a) s.gLabels ∧ (fun x => (Lit.int .u32 x).wf = true) s.gLabel ∧ (fun x => (Lit.int .u32 x).wf = true) s.gFrom ∧ (fun x => (Lit.int .u32 x).wf = true) s.gTo

theorem S_api_Scene.opens : Opens Try.prog 89 S_api_Scene.enc S_api_Scene.ok := by
    intro H enc w spare fuel cs x h
    obtain ⟨xs, n, _, _, hl, hx, hf⟩ := DataW.trod_struct Try.underlying89 h
    have hl : cs.length = 9 := hl.trans (by kernel_rfl)
    obtain ⟨b0, o0, r0⟩ := opens_fld hx hf 0 0 1 _ rfl rfl (by kernel_rfl) (opens_slice (k := 19) Try.underlying82 (by kernel_rfl) (by decide) (fun _ => rfl) S_api_Tri.opens)
    obtain ⟨b1, o1, r1⟩ := opens_fld hx hf 1 1 1 _ rfl rfl (by kernel_rfl) (opens_slice (k := 5) Try.underlying83 (by kernel_rfl) (by decide) (fun _ => rfl) S_api_Material.opens)
    obtain ⟨b2, o2, r2⟩ := opens_fld hx hf 2 2 1 _ rfl rfl (by kernel_rfl) (opens_slice (k := 2) Try.underlying84 (by kernel_rfl) (by decide) (fun _ => rfl) S_api_Texture.opens)
    obtain ⟨b3, o3, r3⟩ := opens_fld hx hf 3 3 1 _ rfl rfl (by kernel_rfl) (opens_slice (k := 13) Try.underlying85 (by kernel_rfl) (by decide) (fun _ => rfl) S_api_Light.opens)
    obtain ⟨b4, o4, r4⟩ := opens_fld hx hf 4 4 1 _ rfl rfl (by kernel_rfl) (opens_slice (k := 1) Try.underlying86 (by kernel_rfl) (by decide) (fun _ => rfl) (opens_int Try.underlying144))
    obtain ⟨b5, o5, r5⟩ := opens_fld hx hf 5 5 1 _ rfl rfl (by kernel_rfl) (opens_slice (k := 1) Try.underlying87 (by kernel_rfl) (by decide) (fun _ => rfl) (opens_int Try.underlying57))
    obtain ⟨b6, o6, r6⟩ := opens_fld hx hf 6 6 1 _ rfl rfl (by kernel_rfl) (opens_int Try.underlying57)
    obtain ⟨b7, o7, r7⟩ := opens_fld hx hf 7 7 1 _ rfl rfl (by kernel_rfl) (opens_int Try.underlying57)
    obtain ⟨b8, o8, r8⟩ := opens_fld hx hf 8 8 1 _ rfl rfl (by kernel_rfl) (opens_int Try.underlying57)
    exact ⟨⟨b0, b1, b2, b3, b4, b5, b6, b7, b8⟩, ⟨o0, o1, o2, o3, o4, o5, o6, o7, o8⟩, rc_st hl (rcl_step r0 (rcl_step r1 (rcl_step r2 (rcl_step r3 (rcl_step r4 (rcl_step r5 (rcl_step r6 (rcl_step r7 (rcl_step r8 (rcl_end hl))))))))))⟩

theorem opens_81 : Opens Try.prog 81 (eL 9 S_api_Sample.enc) (fun l => l.length ≤ maxLen ∧ ∀ a ∈ l, S_api_Sample.ok a) := (opens_slice (k := 9) Try.underlying81 (by kernel_rfl) (by decide) (fun _ => rfl) S_api_Sample.opens)
theorem opens_89 : Opens Try.prog 89 S_api_Scene.enc S_api_Scene.ok := S_api_Scene.opens

end Go.UK
