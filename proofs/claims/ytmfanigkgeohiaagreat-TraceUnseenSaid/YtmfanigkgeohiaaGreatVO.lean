/- A part of the proof: what the functions of the program compute. -/
import Derived.Test.YtmfanigkgeohiaaGreatVT
namespace Go.UK
open Go Go.Proofs
set_option maxRecDepth 20000
set_option maxHeartbeats 40000000
set_option linter.all false
def aC.ok (s:aC):Prop:=(fun x=>(Lit.int .i64 x).wf=true) s.gX∧(fun x=>(Lit.int .i64 x).wf=true) s.gY∧(fun x=>(Lit.int .i64 x).wf=true) s.gZ
theorem aC.opens : vB Tryz.prog 33 aC.enc aC.ok:=by
  intro H enc w spare fuel cs x h
  obtain ⟨xs,n,_,_,hl,hx,hf⟩:=DataW.trod_struct Tryz.underlying33 h
  have hl:cs.length=3:=hl.trans (by kernel_rfl)
  obtain ⟨b0,o0,r0⟩:=bQ hx hf 0 0 1 _ rfl rfl (by kernel_rfl) (dN Tryz.underlying3)
  obtain ⟨b1,o1,r1⟩:=bQ hx hf 1 1 1 _ rfl rfl (by kernel_rfl) (dN Tryz.underlying3)
  obtain ⟨b2,o2,r2⟩:=bQ hx hf 2 2 1 _ rfl rfl (by kernel_rfl) (dN Tryz.underlying3)
  exact ⟨⟨b0,b1,b2⟩,⟨o0,o1,o2⟩,aEs hl (cH r0 (cH r1 (cH r2 (zY hl))))⟩
def aE.ok (s:aE):Prop:=(fun (v:(Vector aC 3))=>∀ a∈v.toList,aC.ok a) s.gP∧(fun (v:(Vector (Vector Int 2) 3))=>∀ a∈v.toList,(fun (v:(Vector Int 2))=>∀ a∈v.toList,(fun x=>(Lit.int .i64 x).wf=true) a) a) s.gUv∧(fun x=>(Lit.int .i64 x).wf=true) s.gC1∧(fun x=>(Lit.int .i64 x).wf=true) s.gA6∧(fun x=>(Lit.int .i64 x).wf=true) s.gB9∧(fun x=>(Lit.int .u8 x).wf=true) s.gB1
theorem aE.opens : vB Tryz.prog 61 aE.enc aE.ok:=by
  intro H enc w spare fuel cs x h
  obtain ⟨xs,n,_,_,hl,hx,hf⟩:=DataW.trod_struct Tryz.underlying61 h
  have hl:cs.length=19:=hl.trans (by kernel_rfl)
  obtain ⟨b0,o0,r0⟩:=bQ hx hf 0 0 9 _ rfl rfl (by kernel_rfl) (sE (n:=3) (k:=3) (m:=9) Tryz.underlying57 (by kernel_rfl) (by kernel_rfl) rfl (fun _=>rfl) aC.opens)
  obtain ⟨b1,o1,r1⟩:=bQ hx hf 1 9 6 _ rfl rfl (by kernel_rfl) (sE (n:=3) (k:=2) (m:=6) Tryz.underlying59 (by kernel_rfl) (by kernel_rfl) rfl (fun _=>rfl) (sE (n:=2) (k:=1) (m:=2) Tryz.underlying58 (by kernel_rfl) (by kernel_rfl) rfl (fun _=>rfl) (dN Tryz.underlying3)))
  obtain ⟨b2,o2,r2⟩:=bQ hx hf 2 15 1 _ rfl rfl (by kernel_rfl) (dN Tryz.underlying3)
  obtain ⟨b3,o3,r3⟩:=bQ hx hf 3 16 1 _ rfl rfl (by kernel_rfl) (dN Tryz.underlying3)
  obtain ⟨b4,o4,r4⟩:=bQ hx hf 4 17 1 _ rfl rfl (by kernel_rfl) (dN Tryz.underlying3)
  obtain ⟨b5,o5,r5⟩:=bQ hx hf 5 18 1 _ rfl rfl (by kernel_rfl) (dN Tryz.underlying5)
  exact ⟨⟨b0,b1,b2,b3,b4,b5⟩,⟨o0,o1,o2,o3,o4,o5⟩,aEs hl (cH r0 (cH r1 (cH r2 (cH r3 (cH r4 (cH r5 (zY hl)))))))⟩
def aQ.ok (s:aQ):Prop:=(fun x=>(Lit.int .i64 x).wf=true) s.gJ∧(fun (v:(Vector Int 3))=>∀ a∈v.toList,(fun x=>(Lit.int .i64 x).wf=true) a) s.gB6∧(fun x=>(Lit.int .i64 x).wf=true) s.gD6
theorem aQ.opens : vB Tryz.prog 56 aQ.enc aQ.ok:=by
  intro H enc w spare fuel cs x h
  obtain ⟨xs,n,_,_,hl,hx,hf⟩:=DataW.trod_struct Tryz.underlying56 h
  have hl:cs.length=5:=hl.trans (by kernel_rfl)
  obtain ⟨b0,o0,r0⟩:=bQ hx hf 0 0 1 _ rfl rfl (by kernel_rfl) (dN Tryz.underlying3)
  obtain ⟨b1,o1,r1⟩:=bQ hx hf 1 1 3 _ rfl rfl (by kernel_rfl) (sE (n:=3) (k:=1) (m:=3) Tryz.underlying38 (by kernel_rfl) (by kernel_rfl) rfl (fun _=>rfl) (dN Tryz.underlying3))
  obtain ⟨b2,o2,r2⟩:=bQ hx hf 2 4 1 _ rfl rfl (by kernel_rfl) (dN Tryz.underlying3)
  exact ⟨⟨b0,b1,b2⟩,⟨o0,o1,o2⟩,aEs hl (cH r0 (cH r1 (cH r2 (zY hl))))⟩
def aD.ok (s:aD):Prop:=(fun x=>(Lit.int .i64 x).wf=true) s.gG∧(fun (l:(List (Vector Int 3)))=>l.length≤maxLen∧∀ a∈l,(fun (v:(Vector Int 3))=>∀ a∈v.toList,(fun x=>(Lit.int .i64 x).wf=true) a) a) s.gA7
theorem aD.opens : vB Tryz.prog 64 aD.enc aD.ok:=by
  intro H enc w spare fuel cs x h
  obtain ⟨xs,n,_,_,hl,hx,hf⟩:=DataW.trod_struct Tryz.underlying64 h
  have hl:cs.length=2:=hl.trans (by kernel_rfl)
  obtain ⟨b0,o0,r0⟩:=bQ hx hf 0 0 1 _ rfl rfl (by kernel_rfl) (dN Tryz.underlying3)
  obtain ⟨b1,o1,r1⟩:=bQ hx hf 1 1 1 _ rfl rfl (by kernel_rfl) (sF (k:=3) Tryz.underlying62 (by kernel_rfl) (by decide) (fun _=>rfl) (sE (n:=3) (k:=1) (m:=3) Tryz.underlying38 (by kernel_rfl) (by kernel_rfl) rfl (fun _=>rfl) (dN Tryz.underlying3)))
  exact ⟨⟨b0,b1⟩,⟨o0,o1⟩,aEs hl (cH r0 (cH r1 (zY hl)))⟩
def aT.ok (s:aT):Prop:=(fun x=>(Lit.int .i64 x).wf=true) s.gJ∧(fun (v:(Vector Int 3))=>∀ a∈v.toList,(fun x=>(Lit.int .i64 x).wf=true) a) s.gB6∧aC.ok s.gAt∧aC.ok s.gU∧aC.ok s.gV
theorem aT.opens : vB Tryz.prog 115 aT.enc aT.ok:=by
  intro H enc w spare fuel cs x h
  obtain ⟨xs,n,_,_,hl,hx,hf⟩:=DataW.trod_struct Tryz.underlying115 h
  have hl:cs.length=13:=hl.trans (by kernel_rfl)
  obtain ⟨b0,o0,r0⟩:=bQ hx hf 0 0 1 _ rfl rfl (by kernel_rfl) (dN Tryz.underlying3)
  obtain ⟨b1,o1,r1⟩:=bQ hx hf 1 1 3 _ rfl rfl (by kernel_rfl) (sE (n:=3) (k:=1) (m:=3) Tryz.underlying38 (by kernel_rfl) (by kernel_rfl) rfl (fun _=>rfl) (dN Tryz.underlying3))
  obtain ⟨b2,o2,r2⟩:=bQ hx hf 2 4 3 _ rfl rfl (by kernel_rfl) aC.opens
  obtain ⟨b3,o3,r3⟩:=bQ hx hf 3 7 3 _ rfl rfl (by kernel_rfl) aC.opens
  obtain ⟨b4,o4,r4⟩:=bQ hx hf 4 10 3 _ rfl rfl (by kernel_rfl) aC.opens
  exact ⟨⟨b0,b1,b2,b3,b4⟩,⟨o0,o1,o2,o3,o4⟩,aEs hl (cH r0 (cH r1 (cH r2 (cH r3 (cH r4 (zY hl))))))⟩
def aF.ok (s:aF):Prop:=(fun (l:(List aE))=>l.length≤maxLen∧∀ a∈l,aE.ok a) s.gE∧(fun (l:(List aQ))=>l.length≤maxLen∧∀ a∈l,aQ.ok a) s.gA5∧(fun (l:(List aD))=>l.length≤maxLen∧∀ a∈l,aD.ok a) s.gR∧(fun (l:(List aT))=>l.length≤maxLen∧∀ a∈l,aT.ok a) s.gF∧(fun (l:(List Int))=>l.length≤maxLen∧∀ a∈l,(fun x=>(Lit.int .u64 x).wf=true) a) s.gA1∧(fun (l:(List Int))=>l.length≤maxLen∧∀ a∈l,(fun x=>(Lit.int .u32 x).wf=true) a) s.gA2∧(fun x=>(Lit.int .u32 x).wf=true) s.gA8∧(fun x=>(Lit.int .u32 x).wf=true) s.gA9∧(fun x=>(Lit.int .u32 x).wf=true) s.gTo
theorem aF.opens : vB Tryz.prog 30 aF.enc aF.ok:=by
  intro H enc w spare fuel cs x h
  obtain ⟨xs,n,_,_,hl,hx,hf⟩:=DataW.trod_struct Tryz.underlying30 h
  have hl:cs.length=9:=hl.trans (by kernel_rfl)
  obtain ⟨b0,o0,r0⟩:=bQ hx hf 0 0 1 _ rfl rfl (by kernel_rfl) (sF (k:=19) Tryz.underlying22 (by kernel_rfl) (by decide) (fun _=>rfl) aE.opens)
  obtain ⟨b1,o1,r1⟩:=bQ hx hf 1 1 1 _ rfl rfl (by kernel_rfl) (sF (k:=5) Tryz.underlying23 (by kernel_rfl) (by decide) (fun _=>rfl) aQ.opens)
  obtain ⟨b2,o2,r2⟩:=bQ hx hf 2 2 1 _ rfl rfl (by kernel_rfl) (sF (k:=2) Tryz.underlying24 (by kernel_rfl) (by decide) (fun _=>rfl) aD.opens)
  obtain ⟨b3,o3,r3⟩:=bQ hx hf 3 3 1 _ rfl rfl (by kernel_rfl) (sF (k:=13) Tryz.underlying25 (by kernel_rfl) (by decide) (fun _=>rfl) aT.opens)
  obtain ⟨b4,o4,r4⟩:=bQ hx hf 4 4 1 _ rfl rfl (by kernel_rfl) (sF (k:=1) Tryz.underlying26 (by kernel_rfl) (by decide) (fun _=>rfl) (dN Tryz.underlying31))
  obtain ⟨b5,o5,r5⟩:=bQ hx hf 5 5 1 _ rfl rfl (by kernel_rfl) (sF (k:=1) Tryz.underlying27 (by kernel_rfl) (by decide) (fun _=>rfl) (dN Tryz.underlying28))
  obtain ⟨b6,o6,r6⟩:=bQ hx hf 6 6 1 _ rfl rfl (by kernel_rfl) (dN Tryz.underlying28)
  obtain ⟨b7,o7,r7⟩:=bQ hx hf 7 7 1 _ rfl rfl (by kernel_rfl) (dN Tryz.underlying28)
  obtain ⟨b8,o8,r8⟩:=bQ hx hf 8 8 1 _ rfl rfl (by kernel_rfl) (dN Tryz.underlying28)
  exact ⟨⟨b0,b1,b2,b3,b4,b5,b6,b7,b8⟩,⟨o0,o1,o2,o3,o4,o5,o6,o7,o8⟩,aEs hl (cH r0 (cH r1 (cH r2 (cH r3 (cH r4 (cH r5 (cH r6 (cH r7 (cH r8 (zY hl))))))))))⟩
def bP.ok (s:bP):Prop:=aC.ok s.gB0∧aC.ok s.gB4∧aC.ok s.gUp∧aC.ok s.gE2∧(fun x=>(Lit.int .i64 x).wf=true) s.gC9∧(fun x=>(Lit.int .i64 x).wf=true) s.gD5
theorem bP.opens : vB Tryz.prog 35 bP.enc bP.ok:=by
  intro H enc w spare fuel cs x h
  obtain ⟨xs,n,_,_,hl,hx,hf⟩:=DataW.trod_struct Tryz.underlying35 h
  have hl:cs.length=14:=hl.trans (by kernel_rfl)
  obtain ⟨b0,o0,r0⟩:=bQ hx hf 0 0 3 _ rfl rfl (by kernel_rfl) aC.opens
  obtain ⟨b1,o1,r1⟩:=bQ hx hf 1 3 3 _ rfl rfl (by kernel_rfl) aC.opens
  obtain ⟨b2,o2,r2⟩:=bQ hx hf 2 6 3 _ rfl rfl (by kernel_rfl) aC.opens
  obtain ⟨b3,o3,r3⟩:=bQ hx hf 3 9 3 _ rfl rfl (by kernel_rfl) aC.opens
  obtain ⟨b4,o4,r4⟩:=bQ hx hf 4 12 1 _ rfl rfl (by kernel_rfl) (dN Tryz.underlying3)
  obtain ⟨b5,o5,r5⟩:=bQ hx hf 5 13 1 _ rfl rfl (by kernel_rfl) (dN Tryz.underlying3)
  exact ⟨⟨b0,b1,b2,b3,b4,b5⟩,⟨o0,o1,o2,o3,o4,o5⟩,aEs hl (cH r0 (cH r1 (cH r2 (cH r3 (cH r4 (cH r5 (zY hl)))))))⟩
def aI.ok (s:aI):Prop:=(fun x=>(Lit.int .i64 x).wf=true) s.gW∧(fun x=>(Lit.int .i64 x).wf=true) s.gH∧(fun x=>(Lit.int .i64 x).wf=true) s.gD0∧(fun x=>(Lit.int .i64 x).wf=true) s.gN∧(fun x=>(Lit.int .i64 x).wf=true) s.gA3∧(fun x=>(Lit.int .u64 x).wf=true) s.gS∧bP.ok s.gD8∧(fun _=>True) s.gB2
theorem aI.opens : vB Tryz.prog 37 aI.enc aI.ok:=by
  intro H enc w spare fuel cs x h
  obtain ⟨xs,n,_,_,hl,hx,hf⟩:=DataW.trod_struct Tryz.underlying37 h
  have hl:cs.length=21:=hl.trans (by kernel_rfl)
  obtain ⟨b0,o0,r0⟩:=bQ hx hf 0 0 1 _ rfl rfl (by kernel_rfl) (dN Tryz.underlying3)
  obtain ⟨b1,o1,r1⟩:=bQ hx hf 1 1 1 _ rfl rfl (by kernel_rfl) (dN Tryz.underlying3)
  obtain ⟨b2,o2,r2⟩:=bQ hx hf 2 2 1 _ rfl rfl (by kernel_rfl) (dN Tryz.underlying3)
  obtain ⟨b3,o3,r3⟩:=bQ hx hf 3 3 1 _ rfl rfl (by kernel_rfl) (dN Tryz.underlying3)
  obtain ⟨b4,o4,r4⟩:=bQ hx hf 4 4 1 _ rfl rfl (by kernel_rfl) (dN Tryz.underlying3)
  obtain ⟨b5,o5,r5⟩:=bQ hx hf 5 5 1 _ rfl rfl (by kernel_rfl) (dN Tryz.underlying31)
  obtain ⟨b6,o6,r6⟩:=bQ hx hf 6 6 14 _ rfl rfl (by kernel_rfl) bP.opens
  obtain ⟨b7,o7,r7⟩:=bQ hx hf 7 20 1 _ rfl rfl (by kernel_rfl) (aK3 Tryz.underlying4)
  exact ⟨⟨b0,b1,b2,b3,b4,b5,b6,b7⟩,⟨o0,o1,o2,o3,o4,o5,o6,o7⟩,aEs hl (cH r0 (cH r1 (cH r2 (cH r3 (cH r4 (cH r5 (cH r6 (cH r7 (zY hl)))))))))⟩
theorem aPO : vB Tryz.prog 30 aF.enc aF.ok:=aF.opens
theorem aOn : vB Tryz.prog 37 aI.enc aI.ok:=aI.opens
theorem aOB : vB Tryz.prog 38 (eA 3 1 j64) (fun (v:(Vector Int 3))=>∀ a∈v.toList,(fun x=>(Lit.int .i64 x).wf=true) a):=(sE (n:=3) (k:=1) (m:=3) Tryz.underlying38 (by kernel_rfl) (by kernel_rfl) rfl (fun _=>rfl) (dN Tryz.underlying3))
end Go.UK
