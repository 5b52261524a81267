/- A part of the proof: what the functions of the program compute. -/
import Derived.Test.YtghnafefpogjjaaGreatFT
namespace Go.UK
open Go Go.Proofs
set_option maxRecDepth 20000
set_option maxHeartbeats 40000000
set_option linter.all false
def aC.ok (s:aC):Prop:=(fun x=>(Lit.int .i64 x).wf=true) s.gX∧(fun x=>(Lit.int .i64 x).wf=true) s.gY∧(fun x=>(Lit.int .i64 x).wf=true) s.gZ
theorem aC.opens : wT Tryz.prog 33 aC.enc aC.ok:=by
  intro H enc w spare fuel cs x h
  obtain ⟨xs,n,_,_,hl,hx,hf⟩:=DataW.trod_struct Tryz.underlying33 h
  have hl:cs.length=3:=hl.trans (by kernel_rfl)
  obtain ⟨b0,o0,r0⟩:=bO hx hf 0 0 1 _ rfl rfl (by kernel_rfl) (dI Tryz.underlying3)
  obtain ⟨b1,o1,r1⟩:=bO hx hf 1 1 1 _ rfl rfl (by kernel_rfl) (dI Tryz.underlying3)
  obtain ⟨b2,o2,r2⟩:=bO hx hf 2 2 1 _ rfl rfl (by kernel_rfl) (dI Tryz.underlying3)
  exact ⟨⟨b0,b1,b2⟩,⟨o0,o1,o2⟩,aFG hl (cC r0 (cC r1 (cC r2 (aAf hl))))⟩
def aF.ok (s:aF):Prop:=(fun (v:(Vector aC 3))=>∀ a∈v.toList,aC.ok a) s.gP∧(fun (v:(Vector (Vector Int 2) 3))=>∀ a∈v.toList,(fun (v:(Vector Int 2))=>∀ a∈v.toList,(fun x=>(Lit.int .i64 x).wf=true) a) a) s.gUv∧(fun x=>(Lit.int .i64 x).wf=true) s.gC3∧(fun x=>(Lit.int .i64 x).wf=true) s.gB4∧(fun x=>(Lit.int .i64 x).wf=true) s.gA0∧(fun x=>(Lit.int .u8 x).wf=true) s.gD2
theorem aF.opens : wT Tryz.prog 144 aF.enc aF.ok:=by
  intro H enc w spare fuel cs x h
  obtain ⟨xs,n,_,_,hl,hx,hf⟩:=DataW.trod_struct Tryz.underlying144 h
  have hl:cs.length=19:=hl.trans (by kernel_rfl)
  obtain ⟨b0,o0,r0⟩:=bO hx hf 0 0 9 _ rfl rfl (by kernel_rfl) (vQ (n:=3) (k:=3) (m:=9) Tryz.underlying140 (by kernel_rfl) (by kernel_rfl) rfl (fun _=>rfl) aC.opens)
  obtain ⟨b1,o1,r1⟩:=bO hx hf 1 9 6 _ rfl rfl (by kernel_rfl) (vQ (n:=3) (k:=2) (m:=6) Tryz.underlying142 (by kernel_rfl) (by kernel_rfl) rfl (fun _=>rfl) (vQ (n:=2) (k:=1) (m:=2) Tryz.underlying141 (by kernel_rfl) (by kernel_rfl) rfl (fun _=>rfl) (dI Tryz.underlying3)))
  obtain ⟨b2,o2,r2⟩:=bO hx hf 2 15 1 _ rfl rfl (by kernel_rfl) (dI Tryz.underlying3)
  obtain ⟨b3,o3,r3⟩:=bO hx hf 3 16 1 _ rfl rfl (by kernel_rfl) (dI Tryz.underlying3)
  obtain ⟨b4,o4,r4⟩:=bO hx hf 4 17 1 _ rfl rfl (by kernel_rfl) (dI Tryz.underlying3)
  obtain ⟨b5,o5,r5⟩:=bO hx hf 5 18 1 _ rfl rfl (by kernel_rfl) (dI Tryz.underlying5)
  exact ⟨⟨b0,b1,b2,b3,b4,b5⟩,⟨o0,o1,o2,o3,o4,o5⟩,aFG hl (cC r0 (cC r1 (cC r2 (cC r3 (cC r4 (cC r5 (aAf hl)))))))⟩
def aN.ok (s:aN):Prop:=(fun x=>(Lit.int .i64 x).wf=true) s.gA7∧(fun (v:(Vector Int 3))=>∀ a∈v.toList,(fun x=>(Lit.int .i64 x).wf=true) a) s.gA4∧(fun x=>(Lit.int .i64 x).wf=true) s.gD3
theorem aN.opens : wT Tryz.prog 151 aN.enc aN.ok:=by
  intro H enc w spare fuel cs x h
  obtain ⟨xs,n,_,_,hl,hx,hf⟩:=DataW.trod_struct Tryz.underlying151 h
  have hl:cs.length=5:=hl.trans (by kernel_rfl)
  obtain ⟨b0,o0,r0⟩:=bO hx hf 0 0 1 _ rfl rfl (by kernel_rfl) (dI Tryz.underlying3)
  obtain ⟨b1,o1,r1⟩:=bO hx hf 1 1 3 _ rfl rfl (by kernel_rfl) (vQ (n:=3) (k:=1) (m:=3) Tryz.underlying54 (by kernel_rfl) (by kernel_rfl) rfl (fun _=>rfl) (dI Tryz.underlying3))
  obtain ⟨b2,o2,r2⟩:=bO hx hf 2 4 1 _ rfl rfl (by kernel_rfl) (dI Tryz.underlying3)
  exact ⟨⟨b0,b1,b2⟩,⟨o0,o1,o2⟩,aFG hl (cC r0 (cC r1 (cC r2 (aAf hl))))⟩
def aD.ok (s:aD):Prop:=(fun x=>(Lit.int .i64 x).wf=true) s.gE∧(fun (l:(List (Vector Int 3)))=>l.length≤maxLen∧∀ a∈l,(fun (v:(Vector Int 3))=>∀ a∈v.toList,(fun x=>(Lit.int .i64 x).wf=true) a) a) s.gA2
theorem aD.opens : wT Tryz.prog 85 aD.enc aD.ok:=by
  intro H enc w spare fuel cs x h
  obtain ⟨xs,n,_,_,hl,hx,hf⟩:=DataW.trod_struct Tryz.underlying85 h
  have hl:cs.length=2:=hl.trans (by kernel_rfl)
  obtain ⟨b0,o0,r0⟩:=bO hx hf 0 0 1 _ rfl rfl (by kernel_rfl) (dI Tryz.underlying3)
  obtain ⟨b1,o1,r1⟩:=bO hx hf 1 1 1 _ rfl rfl (by kernel_rfl) (sS (k:=3) Tryz.underlying40 (by kernel_rfl) (by decide) (fun _=>rfl) (vQ (n:=3) (k:=1) (m:=3) Tryz.underlying54 (by kernel_rfl) (by kernel_rfl) rfl (fun _=>rfl) (dI Tryz.underlying3)))
  exact ⟨⟨b0,b1⟩,⟨o0,o1⟩,aFG hl (cC r0 (cC r1 (aAf hl)))⟩
def aP.ok (s:aP):Prop:=(fun x=>(Lit.int .i64 x).wf=true) s.gA7∧(fun (v:(Vector Int 3))=>∀ a∈v.toList,(fun x=>(Lit.int .i64 x).wf=true) a) s.gA4∧aC.ok s.gAt∧aC.ok s.gU∧aC.ok s.gV
theorem aP.opens : wT Tryz.prog 201 aP.enc aP.ok:=by
  intro H enc w spare fuel cs x h
  obtain ⟨xs,n,_,_,hl,hx,hf⟩:=DataW.trod_struct Tryz.underlying201 h
  have hl:cs.length=13:=hl.trans (by kernel_rfl)
  obtain ⟨b0,o0,r0⟩:=bO hx hf 0 0 1 _ rfl rfl (by kernel_rfl) (dI Tryz.underlying3)
  obtain ⟨b1,o1,r1⟩:=bO hx hf 1 1 3 _ rfl rfl (by kernel_rfl) (vQ (n:=3) (k:=1) (m:=3) Tryz.underlying54 (by kernel_rfl) (by kernel_rfl) rfl (fun _=>rfl) (dI Tryz.underlying3))
  obtain ⟨b2,o2,r2⟩:=bO hx hf 2 4 3 _ rfl rfl (by kernel_rfl) aC.opens
  obtain ⟨b3,o3,r3⟩:=bO hx hf 3 7 3 _ rfl rfl (by kernel_rfl) aC.opens
  obtain ⟨b4,o4,r4⟩:=bO hx hf 4 10 3 _ rfl rfl (by kernel_rfl) aC.opens
  exact ⟨⟨b0,b1,b2,b3,b4⟩,⟨o0,o1,o2,o3,o4⟩,aFG hl (cC r0 (cC r1 (cC r2 (cC r3 (cC r4 (aAf hl))))))⟩
def aE.ok (s:aE):Prop:=(fun (l:(List aF))=>l.length≤maxLen∧∀ a∈l,aF.ok a) s.gK∧(fun (l:(List aN))=>l.length≤maxLen∧∀ a∈l,aN.ok a) s.gA1∧(fun (l:(List aD))=>l.length≤maxLen∧∀ a∈l,aD.ok a) s.gQ∧(fun (l:(List aP))=>l.length≤maxLen∧∀ a∈l,aP.ok a) s.gI∧(fun (l:(List Int))=>l.length≤maxLen∧∀ a∈l,(fun x=>(Lit.int .u64 x).wf=true) a) s.gL∧(fun (l:(List Int))=>l.length≤maxLen∧∀ a∈l,(fun x=>(Lit.int .u32 x).wf=true) a) s.gA5∧(fun x=>(Lit.int .u32 x).wf=true) s.gA9∧(fun x=>(Lit.int .u32 x).wf=true) s.gB5∧(fun x=>(Lit.int .u32 x).wf=true) s.gTo
theorem aE.opens : wT Tryz.prog 30 aE.enc aE.ok:=by
  intro H enc w spare fuel cs x h
  obtain ⟨xs,n,_,_,hl,hx,hf⟩:=DataW.trod_struct Tryz.underlying30 h
  have hl:cs.length=9:=hl.trans (by kernel_rfl)
  obtain ⟨b0,o0,r0⟩:=bO hx hf 0 0 1 _ rfl rfl (by kernel_rfl) (sS (k:=19) Tryz.underlying22 (by kernel_rfl) (by decide) (fun _=>rfl) aF.opens)
  obtain ⟨b1,o1,r1⟩:=bO hx hf 1 1 1 _ rfl rfl (by kernel_rfl) (sS (k:=5) Tryz.underlying23 (by kernel_rfl) (by decide) (fun _=>rfl) aN.opens)
  obtain ⟨b2,o2,r2⟩:=bO hx hf 2 2 1 _ rfl rfl (by kernel_rfl) (sS (k:=2) Tryz.underlying24 (by kernel_rfl) (by decide) (fun _=>rfl) aD.opens)
  obtain ⟨b3,o3,r3⟩:=bO hx hf 3 3 1 _ rfl rfl (by kernel_rfl) (sS (k:=13) Tryz.underlying25 (by kernel_rfl) (by decide) (fun _=>rfl) aP.opens)
  obtain ⟨b4,o4,r4⟩:=bO hx hf 4 4 1 _ rfl rfl (by kernel_rfl) (sS (k:=1) Tryz.underlying26 (by kernel_rfl) (by decide) (fun _=>rfl) (dI Tryz.underlying31))
  obtain ⟨b5,o5,r5⟩:=bO hx hf 5 5 1 _ rfl rfl (by kernel_rfl) (sS (k:=1) Tryz.underlying27 (by kernel_rfl) (by decide) (fun _=>rfl) (dI Tryz.underlying28))
  obtain ⟨b6,o6,r6⟩:=bO hx hf 6 6 1 _ rfl rfl (by kernel_rfl) (dI Tryz.underlying28)
  obtain ⟨b7,o7,r7⟩:=bO hx hf 7 7 1 _ rfl rfl (by kernel_rfl) (dI Tryz.underlying28)
  obtain ⟨b8,o8,r8⟩:=bO hx hf 8 8 1 _ rfl rfl (by kernel_rfl) (dI Tryz.underlying28)
  exact ⟨⟨b0,b1,b2,b3,b4,b5,b6,b7,b8⟩,⟨o0,o1,o2,o3,o4,o5,o6,o7,o8⟩,aFG hl (cC r0 (cC r1 (cC r2 (cC r3 (cC r4 (cC r5 (cC r6 (cC r7 (cC r8 (aAf hl))))))))))⟩
def bP.ok (s:bP):Prop:=aC.ok s.gA3∧aC.ok s.gB3∧aC.ok s.gUp∧aC.ok s.gD8∧(fun x=>(Lit.int .i64 x).wf=true) s.gC4∧(fun x=>(Lit.int .i64 x).wf=true) s.gC7
theorem bP.opens : wT Tryz.prog 35 bP.enc bP.ok:=by
  intro H enc w spare fuel cs x h
  obtain ⟨xs,n,_,_,hl,hx,hf⟩:=DataW.trod_struct Tryz.underlying35 h
  have hl:cs.length=14:=hl.trans (by kernel_rfl)
  obtain ⟨b0,o0,r0⟩:=bO hx hf 0 0 3 _ rfl rfl (by kernel_rfl) aC.opens
  obtain ⟨b1,o1,r1⟩:=bO hx hf 1 3 3 _ rfl rfl (by kernel_rfl) aC.opens
  obtain ⟨b2,o2,r2⟩:=bO hx hf 2 6 3 _ rfl rfl (by kernel_rfl) aC.opens
  obtain ⟨b3,o3,r3⟩:=bO hx hf 3 9 3 _ rfl rfl (by kernel_rfl) aC.opens
  obtain ⟨b4,o4,r4⟩:=bO hx hf 4 12 1 _ rfl rfl (by kernel_rfl) (dI Tryz.underlying3)
  obtain ⟨b5,o5,r5⟩:=bO hx hf 5 13 1 _ rfl rfl (by kernel_rfl) (dI Tryz.underlying3)
  exact ⟨⟨b0,b1,b2,b3,b4,b5⟩,⟨o0,o1,o2,o3,o4,o5⟩,aFG hl (cC r0 (cC r1 (cC r2 (cC r3 (cC r4 (cC r5 (aAf hl)))))))⟩
def aI.ok (s:aI):Prop:=(fun x=>(Lit.int .i64 x).wf=true) s.gW∧(fun x=>(Lit.int .i64 x).wf=true) s.gH∧(fun x=>(Lit.int .i64 x).wf=true) s.gB2∧(fun x=>(Lit.int .i64 x).wf=true) s.gM∧(fun x=>(Lit.int .i64 x).wf=true) s.gJ∧(fun x=>(Lit.int .u64 x).wf=true) s.gC5∧bP.ok s.gC8∧(fun _=>True) s.gS
theorem aI.opens : wT Tryz.prog 37 aI.enc aI.ok:=by
  intro H enc w spare fuel cs x h
  obtain ⟨xs,n,_,_,hl,hx,hf⟩:=DataW.trod_struct Tryz.underlying37 h
  have hl:cs.length=21:=hl.trans (by kernel_rfl)
  obtain ⟨b0,o0,r0⟩:=bO hx hf 0 0 1 _ rfl rfl (by kernel_rfl) (dI Tryz.underlying3)
  obtain ⟨b1,o1,r1⟩:=bO hx hf 1 1 1 _ rfl rfl (by kernel_rfl) (dI Tryz.underlying3)
  obtain ⟨b2,o2,r2⟩:=bO hx hf 2 2 1 _ rfl rfl (by kernel_rfl) (dI Tryz.underlying3)
  obtain ⟨b3,o3,r3⟩:=bO hx hf 3 3 1 _ rfl rfl (by kernel_rfl) (dI Tryz.underlying3)
  obtain ⟨b4,o4,r4⟩:=bO hx hf 4 4 1 _ rfl rfl (by kernel_rfl) (dI Tryz.underlying3)
  obtain ⟨b5,o5,r5⟩:=bO hx hf 5 5 1 _ rfl rfl (by kernel_rfl) (dI Tryz.underlying31)
  obtain ⟨b6,o6,r6⟩:=bO hx hf 6 6 14 _ rfl rfl (by kernel_rfl) bP.opens
  obtain ⟨b7,o7,r7⟩:=bO hx hf 7 20 1 _ rfl rfl (by kernel_rfl) (aL2 Tryz.underlying4)
  exact ⟨⟨b0,b1,b2,b3,b4,b5,b6,b7⟩,⟨o0,o1,o2,o3,o4,o5,o6,o7⟩,aFG hl (cC r0 (cC r1 (cC r2 (cC r3 (cC r4 (cC r5 (cC r6 (cC r7 (aAf hl)))))))))⟩
theorem aQA : wT Tryz.prog 30 aE.enc aE.ok:=aE.opens
theorem aPc : wT Tryz.prog 37 aI.enc aI.ok:=aI.opens
end Go.UK
