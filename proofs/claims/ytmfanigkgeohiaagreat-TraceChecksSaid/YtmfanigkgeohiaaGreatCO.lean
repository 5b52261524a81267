/- A part of the proof: what the functions of the program compute. -/
import Derived.Test.YtmfanigkgeohiaaGreatCT
namespace Go.UK
open Go Go.Proofs
set_option maxRecDepth 20000
set_option maxHeartbeats 40000000
set_option linter.all false

def aA.ok (s : aA) : Prop := (fun x => (Lit.int .i64 x).wf = true) s.gX ∧ (fun x => (Lit.int .i64 x).wf = true) s.gY ∧ (fun x => (Lit.int .i64 x).wf = true) s.gZ

theorem aA.opens : sS Tryz.prog 33 aA.enc aA.ok := by
  intro H enc w spare fuel cs x h
  obtain ⟨xs, n, _, _, hl, hx, hf⟩ := DataW.trod_struct Tryz.underlying33 h
  have hl : cs.length = 3 := hl.trans (by kernel_rfl)
  obtain ⟨b0, o0, r0⟩ := bQ hx hf 0 0 1 _ rfl rfl (by kernel_rfl) (dE Tryz.underlying3)
  obtain ⟨b1, o1, r1⟩ := bQ hx hf 1 1 1 _ rfl rfl (by kernel_rfl) (dE Tryz.underlying3)
  obtain ⟨b2, o2, r2⟩ := bQ hx hf 2 2 1 _ rfl rfl (by kernel_rfl) (dE Tryz.underlying3)
  exact ⟨⟨b0, b1, b2⟩, ⟨o0, o1, o2⟩, aDv hl (cD r0 (cD r1 (cD r2 (xB hl))))⟩

def aE.ok (s : aE) : Prop := (fun (v : (Vector aA 3)) => ∀ a ∈ v.toList, aA.ok a) s.gP ∧ (fun (v : (Vector (Vector Int 2) 3)) => ∀ a ∈ v.toList, (fun (v : (Vector Int 2)) => ∀ a ∈ v.toList, (fun x => (Lit.int .i64 x).wf = true) a) a) s.gUv ∧ (fun x => (Lit.int .i64 x).wf = true) s.gB2 ∧ (fun x => (Lit.int .i64 x).wf = true) s.gB5 ∧ (fun x => (Lit.int .i64 x).wf = true) s.gB1 ∧ (fun x => (Lit.int .u8 x).wf = true) s.gC6

theorem aE.opens : sS Tryz.prog 61 aE.enc aE.ok := by
  intro H enc w spare fuel cs x h
  obtain ⟨xs, n, _, _, hl, hx, hf⟩ := DataW.trod_struct Tryz.underlying61 h
  have hl : cs.length = 19 := hl.trans (by kernel_rfl)
  obtain ⟨b0, o0, r0⟩ := bQ hx hf 0 0 9 _ rfl rfl (by kernel_rfl) (rJ (n := 3) (k := 3) (m := 9) Tryz.underlying57 (by kernel_rfl) (by kernel_rfl) rfl (fun _ => rfl) aA.opens)
  obtain ⟨b1, o1, r1⟩ := bQ hx hf 1 9 6 _ rfl rfl (by kernel_rfl) (rJ (n := 3) (k := 2) (m := 6) Tryz.underlying59 (by kernel_rfl) (by kernel_rfl) rfl (fun _ => rfl) (rJ (n := 2) (k := 1) (m := 2) Tryz.underlying58 (by kernel_rfl) (by kernel_rfl) rfl (fun _ => rfl) (dE Tryz.underlying3)))
  obtain ⟨b2, o2, r2⟩ := bQ hx hf 2 15 1 _ rfl rfl (by kernel_rfl) (dE Tryz.underlying3)
  obtain ⟨b3, o3, r3⟩ := bQ hx hf 3 16 1 _ rfl rfl (by kernel_rfl) (dE Tryz.underlying3)
  obtain ⟨b4, o4, r4⟩ := bQ hx hf 4 17 1 _ rfl rfl (by kernel_rfl) (dE Tryz.underlying3)
  obtain ⟨b5, o5, r5⟩ := bQ hx hf 5 18 1 _ rfl rfl (by kernel_rfl) (dE Tryz.underlying5)
  exact ⟨⟨b0, b1, b2, b3, b4, b5⟩, ⟨o0, o1, o2, o3, o4, o5⟩, aDv hl (cD r0 (cD r1 (cD r2 (cD r3 (cD r4 (cD r5 (xB hl)))))))⟩

def aP.ok (s : aP) : Prop := (fun x => (Lit.int .i64 x).wf = true) s.gF ∧ (fun (v : (Vector Int 3)) => ∀ a ∈ v.toList, (fun x => (Lit.int .i64 x).wf = true) a) s.gL ∧ (fun x => (Lit.int .i64 x).wf = true) s.gA4

theorem aP.opens : sS Tryz.prog 56 aP.enc aP.ok := by
  intro H enc w spare fuel cs x h
  obtain ⟨xs, n, _, _, hl, hx, hf⟩ := DataW.trod_struct Tryz.underlying56 h
  have hl : cs.length = 5 := hl.trans (by kernel_rfl)
  obtain ⟨b0, o0, r0⟩ := bQ hx hf 0 0 1 _ rfl rfl (by kernel_rfl) (dE Tryz.underlying3)
  obtain ⟨b1, o1, r1⟩ := bQ hx hf 1 1 3 _ rfl rfl (by kernel_rfl) (rJ (n := 3) (k := 1) (m := 3) Tryz.underlying38 (by kernel_rfl) (by kernel_rfl) rfl (fun _ => rfl) (dE Tryz.underlying3))
  obtain ⟨b2, o2, r2⟩ := bQ hx hf 2 4 1 _ rfl rfl (by kernel_rfl) (dE Tryz.underlying3)
  exact ⟨⟨b0, b1, b2⟩, ⟨o0, o1, o2⟩, aDv hl (cD r0 (cD r1 (cD r2 (xB hl))))⟩

def aD.ok (s : aD) : Prop := (fun x => (Lit.int .i64 x).wf = true) s.gE ∧ (fun (l : (List (Vector Int 3))) => l.length ≤ maxLen ∧ ∀ a ∈ l, (fun (v : (Vector Int 3)) => ∀ a ∈ v.toList, (fun x => (Lit.int .i64 x).wf = true) a) a) s.gG

theorem aD.opens : sS Tryz.prog 64 aD.enc aD.ok := by
  intro H enc w spare fuel cs x h
  obtain ⟨xs, n, _, _, hl, hx, hf⟩ := DataW.trod_struct Tryz.underlying64 h
  have hl : cs.length = 2 := hl.trans (by kernel_rfl)
  obtain ⟨b0, o0, r0⟩ := bQ hx hf 0 0 1 _ rfl rfl (by kernel_rfl) (dE Tryz.underlying3)
  obtain ⟨b1, o1, r1⟩ := bQ hx hf 1 1 1 _ rfl rfl (by kernel_rfl) (oY (k := 3) Tryz.underlying62 (by kernel_rfl) (by decide) (fun _ => rfl) (rJ (n := 3) (k := 1) (m := 3) Tryz.underlying38 (by kernel_rfl) (by kernel_rfl) rfl (fun _ => rfl) (dE Tryz.underlying3)))
  exact ⟨⟨b0, b1⟩, ⟨o0, o1⟩, aDv hl (cD r0 (cD r1 (xB hl)))⟩

def aN.ok (s : aN) : Prop := (fun x => (Lit.int .i64 x).wf = true) s.gF ∧ (fun (v : (Vector Int 3)) => ∀ a ∈ v.toList, (fun x => (Lit.int .i64 x).wf = true) a) s.gL ∧ aA.ok s.gAt ∧ aA.ok s.gU ∧ aA.ok s.gV

theorem aN.opens : sS Tryz.prog 115 aN.enc aN.ok := by
  intro H enc w spare fuel cs x h
  obtain ⟨xs, n, _, _, hl, hx, hf⟩ := DataW.trod_struct Tryz.underlying115 h
  have hl : cs.length = 13 := hl.trans (by kernel_rfl)
  obtain ⟨b0, o0, r0⟩ := bQ hx hf 0 0 1 _ rfl rfl (by kernel_rfl) (dE Tryz.underlying3)
  obtain ⟨b1, o1, r1⟩ := bQ hx hf 1 1 3 _ rfl rfl (by kernel_rfl) (rJ (n := 3) (k := 1) (m := 3) Tryz.underlying38 (by kernel_rfl) (by kernel_rfl) rfl (fun _ => rfl) (dE Tryz.underlying3))
  obtain ⟨b2, o2, r2⟩ := bQ hx hf 2 4 3 _ rfl rfl (by kernel_rfl) aA.opens
  obtain ⟨b3, o3, r3⟩ := bQ hx hf 3 7 3 _ rfl rfl (by kernel_rfl) aA.opens
  obtain ⟨b4, o4, r4⟩ := bQ hx hf 4 10 3 _ rfl rfl (by kernel_rfl) aA.opens
  exact ⟨⟨b0, b1, b2, b3, b4⟩, ⟨o0, o1, o2, o3, o4⟩, aDv hl (cD r0 (cD r1 (cD r2 (cD r3 (cD r4 (xB hl))))))⟩

def aG.ok (s : aG) : Prop := (fun (l : (List aE)) => l.length ≤ maxLen ∧ ∀ a ∈ l, aE.ok a) s.gM ∧ (fun (l : (List aP)) => l.length ≤ maxLen ∧ ∀ a ∈ l, aP.ok a) s.gQ ∧ (fun (l : (List aD)) => l.length ≤ maxLen ∧ ∀ a ∈ l, aD.ok a) s.gK ∧ (fun (l : (List aN)) => l.length ≤ maxLen ∧ ∀ a ∈ l, aN.ok a) s.gR ∧ (fun (l : (List Int)) => l.length ≤ maxLen ∧ ∀ a ∈ l, (fun x => (Lit.int .u64 x).wf = true) a) s.gA1 ∧ (fun (l : (List Int)) => l.length ≤ maxLen ∧ ∀ a ∈ l, (fun x => (Lit.int .u32 x).wf = true) a) s.gA2 ∧ (fun x => (Lit.int .u32 x).wf = true) s.gA8 ∧ (fun x => (Lit.int .u32 x).wf = true) s.gA9 ∧ (fun x => (Lit.int .u32 x).wf = true) s.gTo

theorem aG.opens : sS Tryz.prog 30 aG.enc aG.ok := by
  intro H enc w spare fuel cs x h
  obtain ⟨xs, n, _, _, hl, hx, hf⟩ := DataW.trod_struct Tryz.underlying30 h
  have hl : cs.length = 9 := hl.trans (by kernel_rfl)
  obtain ⟨b0, o0, r0⟩ := bQ hx hf 0 0 1 _ rfl rfl (by kernel_rfl) (oY (k := 19) Tryz.underlying22 (by kernel_rfl) (by decide) (fun _ => rfl) aE.opens)
  obtain ⟨b1, o1, r1⟩ := bQ hx hf 1 1 1 _ rfl rfl (by kernel_rfl) (oY (k := 5) Tryz.underlying23 (by kernel_rfl) (by decide) (fun _ => rfl) aP.opens)
  obtain ⟨b2, o2, r2⟩ := bQ hx hf 2 2 1 _ rfl rfl (by kernel_rfl) (oY (k := 2) Tryz.underlying24 (by kernel_rfl) (by decide) (fun _ => rfl) aD.opens)
  obtain ⟨b3, o3, r3⟩ := bQ hx hf 3 3 1 _ rfl rfl (by kernel_rfl) (oY (k := 13) Tryz.underlying25 (by kernel_rfl) (by decide) (fun _ => rfl) aN.opens)
  obtain ⟨b4, o4, r4⟩ := bQ hx hf 4 4 1 _ rfl rfl (by kernel_rfl) (oY (k := 1) Tryz.underlying26 (by kernel_rfl) (by decide) (fun _ => rfl) (dE Tryz.underlying31))
  obtain ⟨b5, o5, r5⟩ := bQ hx hf 5 5 1 _ rfl rfl (by kernel_rfl) (oY (k := 1) Tryz.underlying27 (by kernel_rfl) (by decide) (fun _ => rfl) (dE Tryz.underlying28))
  obtain ⟨b6, o6, r6⟩ := bQ hx hf 6 6 1 _ rfl rfl (by kernel_rfl) (dE Tryz.underlying28)
  obtain ⟨b7, o7, r7⟩ := bQ hx hf 7 7 1 _ rfl rfl (by kernel_rfl) (dE Tryz.underlying28)
  obtain ⟨b8, o8, r8⟩ := bQ hx hf 8 8 1 _ rfl rfl (by kernel_rfl) (dE Tryz.underlying28)
  exact ⟨⟨b0, b1, b2, b3, b4, b5, b6, b7, b8⟩, ⟨o0, o1, o2, o3, o4, o5, o6, o7, o8⟩, aDv hl (cD r0 (cD r1 (cD r2 (cD r3 (cD r4 (cD r5 (cD r6 (cD r7 (cD r8 (xB hl))))))))))⟩

def bR.ok (s : bR) : Prop := aA.ok s.gJ ∧ aA.ok s.gA6 ∧ aA.ok s.gUp ∧ aA.ok s.gC0 ∧ (fun x => (Lit.int .i64 x).wf = true) s.gB0 ∧ (fun x => (Lit.int .i64 x).wf = true) s.gB3

theorem bR.opens : sS Tryz.prog 35 bR.enc bR.ok := by
  intro H enc w spare fuel cs x h
  obtain ⟨xs, n, _, _, hl, hx, hf⟩ := DataW.trod_struct Tryz.underlying35 h
  have hl : cs.length = 14 := hl.trans (by kernel_rfl)
  obtain ⟨b0, o0, r0⟩ := bQ hx hf 0 0 3 _ rfl rfl (by kernel_rfl) aA.opens
  obtain ⟨b1, o1, r1⟩ := bQ hx hf 1 3 3 _ rfl rfl (by kernel_rfl) aA.opens
  obtain ⟨b2, o2, r2⟩ := bQ hx hf 2 6 3 _ rfl rfl (by kernel_rfl) aA.opens
  obtain ⟨b3, o3, r3⟩ := bQ hx hf 3 9 3 _ rfl rfl (by kernel_rfl) aA.opens
  obtain ⟨b4, o4, r4⟩ := bQ hx hf 4 12 1 _ rfl rfl (by kernel_rfl) (dE Tryz.underlying3)
  obtain ⟨b5, o5, r5⟩ := bQ hx hf 5 13 1 _ rfl rfl (by kernel_rfl) (dE Tryz.underlying3)
  exact ⟨⟨b0, b1, b2, b3, b4, b5⟩, ⟨o0, o1, o2, o3, o4, o5⟩, aDv hl (cD r0 (cD r1 (cD r2 (cD r3 (cD r4 (cD r5 (xB hl)))))))⟩

def aI.ok (s : aI) : Prop := (fun x => (Lit.int .i64 x).wf = true) s.gW ∧ (fun x => (Lit.int .i64 x).wf = true) s.gH ∧ (fun x => (Lit.int .i64 x).wf = true) s.gA5 ∧ (fun x => (Lit.int .i64 x).wf = true) s.gA0 ∧ (fun x => (Lit.int .i64 x).wf = true) s.gS ∧ (fun x => (Lit.int .u64 x).wf = true) s.gD8 ∧ bR.ok s.gC7 ∧ (fun _ => True) s.gB6

theorem aI.opens : sS Tryz.prog 37 aI.enc aI.ok := by
  intro H enc w spare fuel cs x h
  obtain ⟨xs, n, _, _, hl, hx, hf⟩ := DataW.trod_struct Tryz.underlying37 h
  have hl : cs.length = 21 := hl.trans (by kernel_rfl)
  obtain ⟨b0, o0, r0⟩ := bQ hx hf 0 0 1 _ rfl rfl (by kernel_rfl) (dE Tryz.underlying3)
  obtain ⟨b1, o1, r1⟩ := bQ hx hf 1 1 1 _ rfl rfl (by kernel_rfl) (dE Tryz.underlying3)
  obtain ⟨b2, o2, r2⟩ := bQ hx hf 2 2 1 _ rfl rfl (by kernel_rfl) (dE Tryz.underlying3)
  obtain ⟨b3, o3, r3⟩ := bQ hx hf 3 3 1 _ rfl rfl (by kernel_rfl) (dE Tryz.underlying3)
  obtain ⟨b4, o4, r4⟩ := bQ hx hf 4 4 1 _ rfl rfl (by kernel_rfl) (dE Tryz.underlying3)
  obtain ⟨b5, o5, r5⟩ := bQ hx hf 5 5 1 _ rfl rfl (by kernel_rfl) (dE Tryz.underlying31)
  obtain ⟨b6, o6, r6⟩ := bQ hx hf 6 6 14 _ rfl rfl (by kernel_rfl) bR.opens
  obtain ⟨b7, o7, r7⟩ := bQ hx hf 7 20 1 _ rfl rfl (by kernel_rfl) (aI8 Tryz.underlying4)
  exact ⟨⟨b0, b1, b2, b3, b4, b5, b6, b7⟩, ⟨o0, o1, o2, o3, o4, o5, o6, o7⟩, aDv hl (cD r0 (cD r1 (cD r2 (cD r3 (cD r4 (cD r5 (cD r6 (cD r7 (xB hl)))))))))⟩

theorem aLj : sS Tryz.prog 30 aG.enc aG.ok := aG.opens
theorem aL1 : sS Tryz.prog 37 aI.enc aI.ok := aI.opens

end Go.UK

