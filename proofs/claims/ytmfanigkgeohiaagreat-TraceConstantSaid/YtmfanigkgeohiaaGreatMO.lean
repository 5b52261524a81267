/- A part of the proof: what the functions of the program compute. -/
import Derived.Test.YtmfanigkgeohiaaGreatMT
namespace Go.UK
open Go Go.Proofs
set_option maxRecDepth 20000
set_option maxHeartbeats 40000000
set_option linter.all false
def aC.ok (s:aC):Prop:=(fun x=>(Lit.int .i64 x).wf=true) s.gX∧(fun x=>(Lit.int .i64 x).wf=true) s.gY∧(fun x=>(Lit.int .i64 x).wf=true) s.gZ
theorem aC.opens : uX Tryz.prog 33 aC.enc aC.ok:=by
  intro H enc w spare fuel cs x h
  obtain ⟨xs,n,_,_,hl,hx,hf⟩:=DataW.trod_struct Tryz.underlying33 h
  have hl:cs.length=3:=hl.trans (by kernel_rfl)
  obtain ⟨b0,o0,r0⟩:=bQ hx hf 0 0 1 _ rfl rfl (by kernel_rfl) (dK Tryz.underlying3)
  obtain ⟨b1,o1,r1⟩:=bQ hx hf 1 1 1 _ rfl rfl (by kernel_rfl) (dK Tryz.underlying3)
  obtain ⟨b2,o2,r2⟩:=bQ hx hf 2 2 1 _ rfl rfl (by kernel_rfl) (dK Tryz.underlying3)
  exact ⟨⟨b0,b1,b2⟩,⟨o0,o1,o2⟩,aEN hl (cG r0 (cG r1 (cG r2 (zX hl))))⟩
def aE.ok (s:aE):Prop:=(fun (v:(Vector aC 3))=>∀ a∈v.toList,aC.ok a) s.gP∧(fun (v:(Vector (Vector Int 2) 3))=>∀ a∈v.toList,(fun (v:(Vector Int 2))=>∀ a∈v.toList,(fun x=>(Lit.int .i64 x).wf=true) a) a) s.gUv∧(fun x=>(Lit.int .i64 x).wf=true) s.gC8∧(fun x=>(Lit.int .i64 x).wf=true) s.gA9∧(fun x=>(Lit.int .i64 x).wf=true) s.gB5∧(fun x=>(Lit.int .u8 x).wf=true) s.gB4
theorem aE.opens : uX Tryz.prog 61 aE.enc aE.ok:=by
  intro H enc w spare fuel cs x h
  obtain ⟨xs,n,_,_,hl,hx,hf⟩:=DataW.trod_struct Tryz.underlying61 h
  have hl:cs.length=19:=hl.trans (by kernel_rfl)
  obtain ⟨b0,o0,r0⟩:=bQ hx hf 0 0 9 _ rfl rfl (by kernel_rfl) (rM (n:=3) (k:=3) (m:=9) Tryz.underlying57 (by kernel_rfl) (by kernel_rfl) rfl (fun _=>rfl) aC.opens)
  obtain ⟨b1,o1,r1⟩:=bQ hx hf 1 9 6 _ rfl rfl (by kernel_rfl) (rM (n:=3) (k:=2) (m:=6) Tryz.underlying59 (by kernel_rfl) (by kernel_rfl) rfl (fun _=>rfl) (rM (n:=2) (k:=1) (m:=2) Tryz.underlying58 (by kernel_rfl) (by kernel_rfl) rfl (fun _=>rfl) (dK Tryz.underlying3)))
  obtain ⟨b2,o2,r2⟩:=bQ hx hf 2 15 1 _ rfl rfl (by kernel_rfl) (dK Tryz.underlying3)
  obtain ⟨b3,o3,r3⟩:=bQ hx hf 3 16 1 _ rfl rfl (by kernel_rfl) (dK Tryz.underlying3)
  obtain ⟨b4,o4,r4⟩:=bQ hx hf 4 17 1 _ rfl rfl (by kernel_rfl) (dK Tryz.underlying3)
  obtain ⟨b5,o5,r5⟩:=bQ hx hf 5 18 1 _ rfl rfl (by kernel_rfl) (dK Tryz.underlying5)
  exact ⟨⟨b0,b1,b2,b3,b4,b5⟩,⟨o0,o1,o2,o3,o4,o5⟩,aEN hl (cG r0 (cG r1 (cG r2 (cG r3 (cG r4 (cG r5 (zX hl)))))))⟩
def aU.ok (s:aU):Prop:=(fun x=>(Lit.int .i64 x).wf=true) s.gI∧(fun (v:(Vector Int 3))=>∀ a∈v.toList,(fun x=>(Lit.int .i64 x).wf=true) a) s.gB0∧(fun x=>(Lit.int .i64 x).wf=true) s.gD7
theorem aU.opens : uX Tryz.prog 56 aU.enc aU.ok:=by
  intro H enc w spare fuel cs x h
  obtain ⟨xs,n,_,_,hl,hx,hf⟩:=DataW.trod_struct Tryz.underlying56 h
  have hl:cs.length=5:=hl.trans (by kernel_rfl)
  obtain ⟨b0,o0,r0⟩:=bQ hx hf 0 0 1 _ rfl rfl (by kernel_rfl) (dK Tryz.underlying3)
  obtain ⟨b1,o1,r1⟩:=bQ hx hf 1 1 3 _ rfl rfl (by kernel_rfl) (rM (n:=3) (k:=1) (m:=3) Tryz.underlying38 (by kernel_rfl) (by kernel_rfl) rfl (fun _=>rfl) (dK Tryz.underlying3))
  obtain ⟨b2,o2,r2⟩:=bQ hx hf 2 4 1 _ rfl rfl (by kernel_rfl) (dK Tryz.underlying3)
  exact ⟨⟨b0,b1,b2⟩,⟨o0,o1,o2⟩,aEN hl (cG r0 (cG r1 (cG r2 (zX hl))))⟩
def aD.ok (s:aD):Prop:=(fun x=>(Lit.int .i64 x).wf=true) s.gE∧(fun (l:(List (Vector Int 3)))=>l.length≤maxLen∧∀ a∈l,(fun (v:(Vector Int 3))=>∀ a∈v.toList,(fun x=>(Lit.int .i64 x).wf=true) a) a) s.gA3
theorem aD.opens : uX Tryz.prog 64 aD.enc aD.ok:=by
  intro H enc w spare fuel cs x h
  obtain ⟨xs,n,_,_,hl,hx,hf⟩:=DataW.trod_struct Tryz.underlying64 h
  have hl:cs.length=2:=hl.trans (by kernel_rfl)
  obtain ⟨b0,o0,r0⟩:=bQ hx hf 0 0 1 _ rfl rfl (by kernel_rfl) (dK Tryz.underlying3)
  obtain ⟨b1,o1,r1⟩:=bQ hx hf 1 1 1 _ rfl rfl (by kernel_rfl) (rH (k:=3) Tryz.underlying62 (by kernel_rfl) (by decide) (fun _=>rfl) (rM (n:=3) (k:=1) (m:=3) Tryz.underlying38 (by kernel_rfl) (by kernel_rfl) rfl (fun _=>rfl) (dK Tryz.underlying3)))
  exact ⟨⟨b0,b1⟩,⟨o0,o1⟩,aEN hl (cG r0 (cG r1 (zX hl)))⟩
def aS.ok (s:aS):Prop:=(fun x=>(Lit.int .i64 x).wf=true) s.gI∧(fun (v:(Vector Int 3))=>∀ a∈v.toList,(fun x=>(Lit.int .i64 x).wf=true) a) s.gB0∧aC.ok s.gAt∧aC.ok s.gU∧aC.ok s.gV
theorem aS.opens : uX Tryz.prog 115 aS.enc aS.ok:=by
  intro H enc w spare fuel cs x h
  obtain ⟨xs,n,_,_,hl,hx,hf⟩:=DataW.trod_struct Tryz.underlying115 h
  have hl:cs.length=13:=hl.trans (by kernel_rfl)
  obtain ⟨b0,o0,r0⟩:=bQ hx hf 0 0 1 _ rfl rfl (by kernel_rfl) (dK Tryz.underlying3)
  obtain ⟨b1,o1,r1⟩:=bQ hx hf 1 1 3 _ rfl rfl (by kernel_rfl) (rM (n:=3) (k:=1) (m:=3) Tryz.underlying38 (by kernel_rfl) (by kernel_rfl) rfl (fun _=>rfl) (dK Tryz.underlying3))
  obtain ⟨b2,o2,r2⟩:=bQ hx hf 2 4 3 _ rfl rfl (by kernel_rfl) aC.opens
  obtain ⟨b3,o3,r3⟩:=bQ hx hf 3 7 3 _ rfl rfl (by kernel_rfl) aC.opens
  obtain ⟨b4,o4,r4⟩:=bQ hx hf 4 10 3 _ rfl rfl (by kernel_rfl) aC.opens
  exact ⟨⟨b0,b1,b2,b3,b4⟩,⟨o0,o1,o2,o3,o4⟩,aEN hl (cG r0 (cG r1 (cG r2 (cG r3 (cG r4 (zX hl))))))⟩
def aG.ok (s:aG):Prop:=(fun (l:(List aE))=>l.length≤maxLen∧∀ a∈l,aE.ok a) s.gG∧(fun (l:(List aU))=>l.length≤maxLen∧∀ a∈l,aU.ok a) s.gB1∧(fun (l:(List aD))=>l.length≤maxLen∧∀ a∈l,aD.ok a) s.gA2∧(fun (l:(List aS))=>l.length≤maxLen∧∀ a∈l,aS.ok a) s.gJ∧(fun (l:(List Int))=>l.length≤maxLen∧∀ a∈l,(fun x=>(Lit.int .u64 x).wf=true) a) s.gB6∧(fun (l:(List Int))=>l.length≤maxLen∧∀ a∈l,(fun x=>(Lit.int .u32 x).wf=true) a) s.gB7∧(fun x=>(Lit.int .u32 x).wf=true) s.gC3∧(fun x=>(Lit.int .u32 x).wf=true) s.gC4∧(fun x=>(Lit.int .u32 x).wf=true) s.gTo
theorem aG.opens : uX Tryz.prog 30 aG.enc aG.ok:=by
  intro H enc w spare fuel cs x h
  obtain ⟨xs,n,_,_,hl,hx,hf⟩:=DataW.trod_struct Tryz.underlying30 h
  have hl:cs.length=9:=hl.trans (by kernel_rfl)
  obtain ⟨b0,o0,r0⟩:=bQ hx hf 0 0 1 _ rfl rfl (by kernel_rfl) (rH (k:=19) Tryz.underlying22 (by kernel_rfl) (by decide) (fun _=>rfl) aE.opens)
  obtain ⟨b1,o1,r1⟩:=bQ hx hf 1 1 1 _ rfl rfl (by kernel_rfl) (rH (k:=5) Tryz.underlying23 (by kernel_rfl) (by decide) (fun _=>rfl) aU.opens)
  obtain ⟨b2,o2,r2⟩:=bQ hx hf 2 2 1 _ rfl rfl (by kernel_rfl) (rH (k:=2) Tryz.underlying24 (by kernel_rfl) (by decide) (fun _=>rfl) aD.opens)
  obtain ⟨b3,o3,r3⟩:=bQ hx hf 3 3 1 _ rfl rfl (by kernel_rfl) (rH (k:=13) Tryz.underlying25 (by kernel_rfl) (by decide) (fun _=>rfl) aS.opens)
  obtain ⟨b4,o4,r4⟩:=bQ hx hf 4 4 1 _ rfl rfl (by kernel_rfl) (rH (k:=1) Tryz.underlying26 (by kernel_rfl) (by decide) (fun _=>rfl) (dK Tryz.underlying31))
  obtain ⟨b5,o5,r5⟩:=bQ hx hf 5 5 1 _ rfl rfl (by kernel_rfl) (rH (k:=1) Tryz.underlying27 (by kernel_rfl) (by decide) (fun _=>rfl) (dK Tryz.underlying28))
  obtain ⟨b6,o6,r6⟩:=bQ hx hf 6 6 1 _ rfl rfl (by kernel_rfl) (dK Tryz.underlying28)
  obtain ⟨b7,o7,r7⟩:=bQ hx hf 7 7 1 _ rfl rfl (by kernel_rfl) (dK Tryz.underlying28)
  obtain ⟨b8,o8,r8⟩:=bQ hx hf 8 8 1 _ rfl rfl (by kernel_rfl) (dK Tryz.underlying28)
  exact ⟨⟨b0,b1,b2,b3,b4,b5,b6,b7,b8⟩,⟨o0,o1,o2,o3,o4,o5,o6,o7,o8⟩,aEN hl (cG r0 (cG r1 (cG r2 (cG r3 (cG r4 (cG r5 (cG r6 (cG r7 (cG r8 (zX hl))))))))))⟩
def bP.ok (s:bP):Prop:=aC.ok s.gA5∧aC.ok s.gA7∧aC.ok s.gUp∧aC.ok s.gE2∧(fun x=>(Lit.int .i64 x).wf=true) s.gD0∧(fun x=>(Lit.int .i64 x).wf=true) s.gD5
theorem bP.opens : uX Tryz.prog 35 bP.enc bP.ok:=by
  intro H enc w spare fuel cs x h
  obtain ⟨xs,n,_,_,hl,hx,hf⟩:=DataW.trod_struct Tryz.underlying35 h
  have hl:cs.length=14:=hl.trans (by kernel_rfl)
  obtain ⟨b0,o0,r0⟩:=bQ hx hf 0 0 3 _ rfl rfl (by kernel_rfl) aC.opens
  obtain ⟨b1,o1,r1⟩:=bQ hx hf 1 3 3 _ rfl rfl (by kernel_rfl) aC.opens
  obtain ⟨b2,o2,r2⟩:=bQ hx hf 2 6 3 _ rfl rfl (by kernel_rfl) aC.opens
  obtain ⟨b3,o3,r3⟩:=bQ hx hf 3 9 3 _ rfl rfl (by kernel_rfl) aC.opens
  obtain ⟨b4,o4,r4⟩:=bQ hx hf 4 12 1 _ rfl rfl (by kernel_rfl) (dK Tryz.underlying3)
  obtain ⟨b5,o5,r5⟩:=bQ hx hf 5 13 1 _ rfl rfl (by kernel_rfl) (dK Tryz.underlying3)
  exact ⟨⟨b0,b1,b2,b3,b4,b5⟩,⟨o0,o1,o2,o3,o4,o5⟩,aEN hl (cG r0 (cG r1 (cG r2 (cG r3 (cG r4 (cG r5 (zX hl)))))))⟩
def aI.ok (s:aI):Prop:=(fun x=>(Lit.int .i64 x).wf=true) s.gW∧(fun x=>(Lit.int .i64 x).wf=true) s.gH∧(fun x=>(Lit.int .i64 x).wf=true) s.gB8∧(fun x=>(Lit.int .i64 x).wf=true) s.gN∧(fun x=>(Lit.int .i64 x).wf=true) s.gS∧(fun x=>(Lit.int .u64 x).wf=true) s.gO∧bP.ok s.gC5∧(fun _=>True) s.gA4
theorem aI.opens : uX Tryz.prog 37 aI.enc aI.ok:=by
  intro H enc w spare fuel cs x h
  obtain ⟨xs,n,_,_,hl,hx,hf⟩:=DataW.trod_struct Tryz.underlying37 h
  have hl:cs.length=21:=hl.trans (by kernel_rfl)
  obtain ⟨b0,o0,r0⟩:=bQ hx hf 0 0 1 _ rfl rfl (by kernel_rfl) (dK Tryz.underlying3)
  obtain ⟨b1,o1,r1⟩:=bQ hx hf 1 1 1 _ rfl rfl (by kernel_rfl) (dK Tryz.underlying3)
  obtain ⟨b2,o2,r2⟩:=bQ hx hf 2 2 1 _ rfl rfl (by kernel_rfl) (dK Tryz.underlying3)
  obtain ⟨b3,o3,r3⟩:=bQ hx hf 3 3 1 _ rfl rfl (by kernel_rfl) (dK Tryz.underlying3)
  obtain ⟨b4,o4,r4⟩:=bQ hx hf 4 4 1 _ rfl rfl (by kernel_rfl) (dK Tryz.underlying3)
  obtain ⟨b5,o5,r5⟩:=bQ hx hf 5 5 1 _ rfl rfl (by kernel_rfl) (dK Tryz.underlying31)
  obtain ⟨b6,o6,r6⟩:=bQ hx hf 6 6 14 _ rfl rfl (by kernel_rfl) bP.opens
  obtain ⟨b7,o7,r7⟩:=bQ hx hf 7 20 1 _ rfl rfl (by kernel_rfl) (aKK Tryz.underlying4)
  exact ⟨⟨b0,b1,b2,b3,b4,b5,b6,b7⟩,⟨o0,o1,o2,o3,o4,o5,o6,o7⟩,aEN hl (cG r0 (cG r1 (cG r2 (cG r3 (cG r4 (cG r5 (cG r6 (cG r7 (zX hl)))))))))⟩
theorem aOS : uX Tryz.prog 30 aG.enc aG.ok:=aG.opens
theorem aNz : uX Tryz.prog 37 aI.enc aI.ok:=aI.opens
theorem aOi : uX Tryz.prog 38 (eA 3 1 j64) (fun (v:(Vector Int 3))=>∀ a∈v.toList,(fun x=>(Lit.int .i64 x).wf=true) a):=(rM (n:=3) (k:=1) (m:=3) Tryz.underlying38 (by kernel_rfl) (by kernel_rfl) rfl (fun _=>rfl) (dK Tryz.underlying3))
end Go.UK
