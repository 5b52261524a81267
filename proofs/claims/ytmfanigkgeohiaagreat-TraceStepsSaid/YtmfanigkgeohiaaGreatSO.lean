/- A part of the proof: what the functions of the program compute. -/
import Derived.Test.YtmfanigkgeohiaaGreatST
namespace Go.UK
open Go Go.Proofs
set_option maxRecDepth 20000
set_option maxHeartbeats 40000000
set_option linter.all false

def aC.ok (s : aC) : Prop := (fun x => (Lit.int .i64 x).wf = true) s.gX ∧ (fun x => (Lit.int .i64 x).wf = true) s.gY ∧ (fun x => (Lit.int .i64 x).wf = true) s.gZ

theorem aC.opens : vK Tryz.prog 33 aC.enc aC.ok := by
  intro H enc w spare fuel cs x h
  obtain ⟨xs, n, _, _, hl, hx, hf⟩ := DataW.trod_struct Tryz.underlying33 h
  have hl : cs.length = 3 := hl.trans (by kernel_rfl)
  obtain ⟨b0, o0, r0⟩ := bP hx hf 0 0 1 _ rfl rfl (by kernel_rfl) (dA Tryz.underlying3)
  obtain ⟨b1, o1, r1⟩ := bP hx hf 1 1 1 _ rfl rfl (by kernel_rfl) (dA Tryz.underlying3)
  obtain ⟨b2, o2, r2⟩ := bP hx hf 2 2 1 _ rfl rfl (by kernel_rfl) (dA Tryz.underlying3)
  exact ⟨⟨b0, b1, b2⟩, ⟨o0, o1, o2⟩, aEG hl (bZ r0 (bZ r1 (bZ r2 (zE hl))))⟩

def aG.ok (s : aG) : Prop := (fun (v : (Vector aC 3)) => ∀ a ∈ v.toList, aC.ok a) s.gP ∧ (fun (v : (Vector (Vector Int 2) 3)) => ∀ a ∈ v.toList, (fun (v : (Vector Int 2)) => ∀ a ∈ v.toList, (fun x => (Lit.int .i64 x).wf = true) a) a) s.gUv ∧ (fun x => (Lit.int .i64 x).wf = true) s.gC1 ∧ (fun x => (Lit.int .i64 x).wf = true) s.gB2 ∧ (fun x => (Lit.int .i64 x).wf = true) s.gB3 ∧ (fun x => (Lit.int .u8 x).wf = true) s.gC5

theorem aG.opens : vK Tryz.prog 61 aG.enc aG.ok := by
  intro H enc w spare fuel cs x h
  obtain ⟨xs, n, _, _, hl, hx, hf⟩ := DataW.trod_struct Tryz.underlying61 h
  have hl : cs.length = 19 := hl.trans (by kernel_rfl)
  obtain ⟨b0, o0, r0⟩ := bP hx hf 0 0 9 _ rfl rfl (by kernel_rfl) (uJ (n := 3) (k := 3) (m := 9) Tryz.underlying57 (by kernel_rfl) (by kernel_rfl) rfl (fun _ => rfl) aC.opens)
  obtain ⟨b1, o1, r1⟩ := bP hx hf 1 9 6 _ rfl rfl (by kernel_rfl) (uJ (n := 3) (k := 2) (m := 6) Tryz.underlying59 (by kernel_rfl) (by kernel_rfl) rfl (fun _ => rfl) (uJ (n := 2) (k := 1) (m := 2) Tryz.underlying58 (by kernel_rfl) (by kernel_rfl) rfl (fun _ => rfl) (dA Tryz.underlying3)))
  obtain ⟨b2, o2, r2⟩ := bP hx hf 2 15 1 _ rfl rfl (by kernel_rfl) (dA Tryz.underlying3)
  obtain ⟨b3, o3, r3⟩ := bP hx hf 3 16 1 _ rfl rfl (by kernel_rfl) (dA Tryz.underlying3)
  obtain ⟨b4, o4, r4⟩ := bP hx hf 4 17 1 _ rfl rfl (by kernel_rfl) (dA Tryz.underlying3)
  obtain ⟨b5, o5, r5⟩ := bP hx hf 5 18 1 _ rfl rfl (by kernel_rfl) (dA Tryz.underlying5)
  exact ⟨⟨b0, b1, b2, b3, b4, b5⟩, ⟨o0, o1, o2, o3, o4, o5⟩, aEG hl (bZ r0 (bZ r1 (bZ r2 (bZ r3 (bZ r4 (bZ r5 (zE hl)))))))⟩

def aQ.ok (s : aQ) : Prop := (fun x => (Lit.int .i64 x).wf = true) s.gA0 ∧ (fun (v : (Vector Int 3)) => ∀ a ∈ v.toList, (fun x => (Lit.int .i64 x).wf = true) a) s.gA2 ∧ (fun x => (Lit.int .i64 x).wf = true) s.gC6

theorem aQ.opens : vK Tryz.prog 56 aQ.enc aQ.ok := by
  intro H enc w spare fuel cs x h
  obtain ⟨xs, n, _, _, hl, hx, hf⟩ := DataW.trod_struct Tryz.underlying56 h
  have hl : cs.length = 5 := hl.trans (by kernel_rfl)
  obtain ⟨b0, o0, r0⟩ := bP hx hf 0 0 1 _ rfl rfl (by kernel_rfl) (dA Tryz.underlying3)
  obtain ⟨b1, o1, r1⟩ := bP hx hf 1 1 3 _ rfl rfl (by kernel_rfl) (uJ (n := 3) (k := 1) (m := 3) Tryz.underlying38 (by kernel_rfl) (by kernel_rfl) rfl (fun _ => rfl) (dA Tryz.underlying3))
  obtain ⟨b2, o2, r2⟩ := bP hx hf 2 4 1 _ rfl rfl (by kernel_rfl) (dA Tryz.underlying3)
  exact ⟨⟨b0, b1, b2⟩, ⟨o0, o1, o2⟩, aEG hl (bZ r0 (bZ r1 (bZ r2 (zE hl))))⟩

def aD.ok (s : aD) : Prop := (fun x => (Lit.int .i64 x).wf = true) s.gF ∧ (fun (l : (List (Vector Int 3))) => l.length ≤ maxLen ∧ ∀ a ∈ l, (fun (v : (Vector Int 3)) => ∀ a ∈ v.toList, (fun x => (Lit.int .i64 x).wf = true) a) a) s.gO

theorem aD.opens : vK Tryz.prog 64 aD.enc aD.ok := by
  intro H enc w spare fuel cs x h
  obtain ⟨xs, n, _, _, hl, hx, hf⟩ := DataW.trod_struct Tryz.underlying64 h
  have hl : cs.length = 2 := hl.trans (by kernel_rfl)
  obtain ⟨b0, o0, r0⟩ := bP hx hf 0 0 1 _ rfl rfl (by kernel_rfl) (dA Tryz.underlying3)
  obtain ⟨b1, o1, r1⟩ := bP hx hf 1 1 1 _ rfl rfl (by kernel_rfl) (rO (k := 3) Tryz.underlying62 (by kernel_rfl) (by decide) (fun _ => rfl) (uJ (n := 3) (k := 1) (m := 3) Tryz.underlying38 (by kernel_rfl) (by kernel_rfl) rfl (fun _ => rfl) (dA Tryz.underlying3)))
  exact ⟨⟨b0, b1⟩, ⟨o0, o1⟩, aEG hl (bZ r0 (bZ r1 (zE hl)))⟩

def aP.ok (s : aP) : Prop := (fun x => (Lit.int .i64 x).wf = true) s.gA0 ∧ (fun (v : (Vector Int 3)) => ∀ a ∈ v.toList, (fun x => (Lit.int .i64 x).wf = true) a) s.gA2 ∧ aC.ok s.gAt ∧ aC.ok s.gU ∧ aC.ok s.gV

theorem aP.opens : vK Tryz.prog 115 aP.enc aP.ok := by
  intro H enc w spare fuel cs x h
  obtain ⟨xs, n, _, _, hl, hx, hf⟩ := DataW.trod_struct Tryz.underlying115 h
  have hl : cs.length = 13 := hl.trans (by kernel_rfl)
  obtain ⟨b0, o0, r0⟩ := bP hx hf 0 0 1 _ rfl rfl (by kernel_rfl) (dA Tryz.underlying3)
  obtain ⟨b1, o1, r1⟩ := bP hx hf 1 1 3 _ rfl rfl (by kernel_rfl) (uJ (n := 3) (k := 1) (m := 3) Tryz.underlying38 (by kernel_rfl) (by kernel_rfl) rfl (fun _ => rfl) (dA Tryz.underlying3))
  obtain ⟨b2, o2, r2⟩ := bP hx hf 2 4 3 _ rfl rfl (by kernel_rfl) aC.opens
  obtain ⟨b3, o3, r3⟩ := bP hx hf 3 7 3 _ rfl rfl (by kernel_rfl) aC.opens
  obtain ⟨b4, o4, r4⟩ := bP hx hf 4 10 3 _ rfl rfl (by kernel_rfl) aC.opens
  exact ⟨⟨b0, b1, b2, b3, b4⟩, ⟨o0, o1, o2, o3, o4⟩, aEG hl (bZ r0 (bZ r1 (bZ r2 (bZ r3 (bZ r4 (zE hl))))))⟩

def aE.ok (s : aE) : Prop := (fun (l : (List aG)) => l.length ≤ maxLen ∧ ∀ a ∈ l, aG.ok a) s.gQ ∧ (fun (l : (List aQ)) => l.length ≤ maxLen ∧ ∀ a ∈ l, aQ.ok a) s.gA3 ∧ (fun (l : (List aD)) => l.length ≤ maxLen ∧ ∀ a ∈ l, aD.ok a) s.gR ∧ (fun (l : (List aP)) => l.length ≤ maxLen ∧ ∀ a ∈ l, aP.ok a) s.gL ∧ (fun (l : (List Int)) => l.length ≤ maxLen ∧ ∀ a ∈ l, (fun x => (Lit.int .u64 x).wf = true) a) s.gA7 ∧ (fun (l : (List Int)) => l.length ≤ maxLen ∧ ∀ a ∈ l, (fun x => (Lit.int .u32 x).wf = true) a) s.gA8 ∧ (fun x => (Lit.int .u32 x).wf = true) s.gB4 ∧ (fun x => (Lit.int .u32 x).wf = true) s.gB5 ∧ (fun x => (Lit.int .u32 x).wf = true) s.gTo

theorem aE.opens : vK Tryz.prog 30 aE.enc aE.ok := by
  intro H enc w spare fuel cs x h
  obtain ⟨xs, n, _, _, hl, hx, hf⟩ := DataW.trod_struct Tryz.underlying30 h
  have hl : cs.length = 9 := hl.trans (by kernel_rfl)
  obtain ⟨b0, o0, r0⟩ := bP hx hf 0 0 1 _ rfl rfl (by kernel_rfl) (rO (k := 19) Tryz.underlying22 (by kernel_rfl) (by decide) (fun _ => rfl) aG.opens)
  obtain ⟨b1, o1, r1⟩ := bP hx hf 1 1 1 _ rfl rfl (by kernel_rfl) (rO (k := 5) Tryz.underlying23 (by kernel_rfl) (by decide) (fun _ => rfl) aQ.opens)
  obtain ⟨b2, o2, r2⟩ := bP hx hf 2 2 1 _ rfl rfl (by kernel_rfl) (rO (k := 2) Tryz.underlying24 (by kernel_rfl) (by decide) (fun _ => rfl) aD.opens)
  obtain ⟨b3, o3, r3⟩ := bP hx hf 3 3 1 _ rfl rfl (by kernel_rfl) (rO (k := 13) Tryz.underlying25 (by kernel_rfl) (by decide) (fun _ => rfl) aP.opens)
  obtain ⟨b4, o4, r4⟩ := bP hx hf 4 4 1 _ rfl rfl (by kernel_rfl) (rO (k := 1) Tryz.underlying26 (by kernel_rfl) (by decide) (fun _ => rfl) (dA Tryz.underlying31))
  obtain ⟨b5, o5, r5⟩ := bP hx hf 5 5 1 _ rfl rfl (by kernel_rfl) (rO (k := 1) Tryz.underlying27 (by kernel_rfl) (by decide) (fun _ => rfl) (dA Tryz.underlying28))
  obtain ⟨b6, o6, r6⟩ := bP hx hf 6 6 1 _ rfl rfl (by kernel_rfl) (dA Tryz.underlying28)
  obtain ⟨b7, o7, r7⟩ := bP hx hf 7 7 1 _ rfl rfl (by kernel_rfl) (dA Tryz.underlying28)
  obtain ⟨b8, o8, r8⟩ := bP hx hf 8 8 1 _ rfl rfl (by kernel_rfl) (dA Tryz.underlying28)
  exact ⟨⟨b0, b1, b2, b3, b4, b5, b6, b7, b8⟩, ⟨o0, o1, o2, o3, o4, o5, o6, o7, o8⟩, aEG hl (bZ r0 (bZ r1 (bZ r2 (bZ r3 (bZ r4 (bZ r5 (bZ r6 (bZ r7 (bZ r8 (zE hl))))))))))⟩

def bK.ok (s : bK) : Prop := aC.ok s.gN ∧ aC.ok s.gB6 ∧ aC.ok s.gUp ∧ aC.ok s.gD3 ∧ (fun x => (Lit.int .i64 x).wf = true) s.gC2 ∧ (fun x => (Lit.int .i64 x).wf = true) s.gC3

theorem bK.opens : vK Tryz.prog 35 bK.enc bK.ok := by
  intro H enc w spare fuel cs x h
  obtain ⟨xs, n, _, _, hl, hx, hf⟩ := DataW.trod_struct Tryz.underlying35 h
  have hl : cs.length = 14 := hl.trans (by kernel_rfl)
  obtain ⟨b0, o0, r0⟩ := bP hx hf 0 0 3 _ rfl rfl (by kernel_rfl) aC.opens
  obtain ⟨b1, o1, r1⟩ := bP hx hf 1 3 3 _ rfl rfl (by kernel_rfl) aC.opens
  obtain ⟨b2, o2, r2⟩ := bP hx hf 2 6 3 _ rfl rfl (by kernel_rfl) aC.opens
  obtain ⟨b3, o3, r3⟩ := bP hx hf 3 9 3 _ rfl rfl (by kernel_rfl) aC.opens
  obtain ⟨b4, o4, r4⟩ := bP hx hf 4 12 1 _ rfl rfl (by kernel_rfl) (dA Tryz.underlying3)
  obtain ⟨b5, o5, r5⟩ := bP hx hf 5 13 1 _ rfl rfl (by kernel_rfl) (dA Tryz.underlying3)
  exact ⟨⟨b0, b1, b2, b3, b4, b5⟩, ⟨o0, o1, o2, o3, o4, o5⟩, aEG hl (bZ r0 (bZ r1 (bZ r2 (bZ r3 (bZ r4 (bZ r5 (zE hl)))))))⟩

def aI.ok (s : aI) : Prop := (fun x => (Lit.int .i64 x).wf = true) s.gW ∧ (fun x => (Lit.int .i64 x).wf = true) s.gH ∧ (fun x => (Lit.int .i64 x).wf = true) s.gS ∧ (fun x => (Lit.int .i64 x).wf = true) s.gJ ∧ (fun x => (Lit.int .i64 x).wf = true) s.gI ∧ (fun x => (Lit.int .u64 x).wf = true) s.gA4 ∧ bK.ok s.gA5 ∧ (fun _ => True) s.gT

theorem aI.opens : vK Tryz.prog 37 aI.enc aI.ok := by
  intro H enc w spare fuel cs x h
  obtain ⟨xs, n, _, _, hl, hx, hf⟩ := DataW.trod_struct Tryz.underlying37 h
  have hl : cs.length = 21 := hl.trans (by kernel_rfl)
  obtain ⟨b0, o0, r0⟩ := bP hx hf 0 0 1 _ rfl rfl (by kernel_rfl) (dA Tryz.underlying3)
  obtain ⟨b1, o1, r1⟩ := bP hx hf 1 1 1 _ rfl rfl (by kernel_rfl) (dA Tryz.underlying3)
  obtain ⟨b2, o2, r2⟩ := bP hx hf 2 2 1 _ rfl rfl (by kernel_rfl) (dA Tryz.underlying3)
  obtain ⟨b3, o3, r3⟩ := bP hx hf 3 3 1 _ rfl rfl (by kernel_rfl) (dA Tryz.underlying3)
  obtain ⟨b4, o4, r4⟩ := bP hx hf 4 4 1 _ rfl rfl (by kernel_rfl) (dA Tryz.underlying3)
  obtain ⟨b5, o5, r5⟩ := bP hx hf 5 5 1 _ rfl rfl (by kernel_rfl) (dA Tryz.underlying31)
  obtain ⟨b6, o6, r6⟩ := bP hx hf 6 6 14 _ rfl rfl (by kernel_rfl) bK.opens
  obtain ⟨b7, o7, r7⟩ := bP hx hf 7 20 1 _ rfl rfl (by kernel_rfl) (aJu Tryz.underlying4)
  exact ⟨⟨b0, b1, b2, b3, b4, b5, b6, b7⟩, ⟨o0, o1, o2, o3, o4, o5, o6, o7⟩, aEG hl (bZ r0 (bZ r1 (bZ r2 (bZ r3 (bZ r4 (bZ r5 (bZ r6 (bZ r7 (zE hl)))))))))⟩

theorem aJI : vK Tryz.prog 30 aE.enc aE.ok := aE.opens
theorem aMf : vK Tryz.prog 37 aI.enc aI.ok := aI.opens

end Go.UK

