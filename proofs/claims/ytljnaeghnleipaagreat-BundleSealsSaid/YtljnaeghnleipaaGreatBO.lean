/- A part of the proof: what the functions of the program compute. -/
import Derived.Test.YtljnaeghnleipaaGreatBT
namespace Go.UK
open Go Go.Proofs
set_option maxRecDepth 20000
set_option maxHeartbeats 40000000
set_option linter.all false
def aD.ok(s:aD):Prop:=(λx=>(Lit.int .u64 x).wf=true) s.gId/\(λx=>(Lit.int .i64 x).wf=true) s.gC/\(λx=>(Lit.int .u32 x).wf=true) s.gA2/\(λ(v:(Vector Int 8))=>∀a∈v.toList,(λx=>(Lit.int .u8 x).wf=true) a) s.gR/\(λx=>(Lit.int .u32 x).wf=true) s.gT/\(λx=>(Lit.int .u32 x).wf=true) s.gTo/\(λx=>(Lit.int .i64 x).wf=true) s.gP/\(λx=>(Lit.int .i64 x).wf=true) s.gA3
theorem aD.opens : tV Tryz.prog 27 aD.enc aD.ok:=by
  intro H enc w spare fuel cs x h;obtain⟨xs,n,_,_,hl,hx,hf⟩:=DataW.trod_struct Tryz.underlying27 h;have hl:cs.length=15:=hl.trans (by kernel_rfl)
  obtain⟨b0,o0,r0⟩:=cA hx hf 0 0 1 _ rfl rfl (by kernel_rfl) (dU Tryz.underlying24)
  obtain⟨b1,o1,r1⟩:=cA hx hf 1 1 1 _ rfl rfl (by kernel_rfl) (dU Tryz.underlying3)
  obtain⟨b2,o2,r2⟩:=cA hx hf 2 2 1 _ rfl rfl (by kernel_rfl) (dU Tryz.underlying25)
  obtain⟨b3,o3,r3⟩:=cA hx hf 3 3 8 _ rfl rfl (by kernel_rfl) (qE (n:=8) (k:=1) (m:=8) Tryz.underlying23 (by kernel_rfl) (by kernel_rfl) rfl (λ_=>rfl) (dU Tryz.underlying5))
  obtain⟨b4,o4,r4⟩:=cA hx hf 4 11 1 _ rfl rfl (by kernel_rfl) (dU Tryz.underlying25)
  obtain⟨b5,o5,r5⟩:=cA hx hf 5 12 1 _ rfl rfl (by kernel_rfl) (dU Tryz.underlying25)
  obtain⟨b6,o6,r6⟩:=cA hx hf 6 13 1 _ rfl rfl (by kernel_rfl) (dU Tryz.underlying3)
  obtain⟨b7,o7,r7⟩:=cA hx hf 7 14 1 _ rfl rfl (by kernel_rfl) (dU Tryz.underlying3)
  exact⟨⟨b0,b1,b2,b3,b4,b5,b6,b7⟩,⟨o0,o1,o2,o3,o4,o5,o6,o7⟩,aDh hl (cW r0 (cW r1 (cW r2 (cW r3 (cW r4 (cW r5 (cW r6 (cW r7 (xB hl)))))))))⟩
def bU.ok(s:bU):Prop:=(λ(v:(Vector Int 32))=>∀a∈v.toList,(λx=>(Lit.int .u8 x).wf=true) a) s.gA5/\(λ(v:(Vector Int 8))=>∀a∈v.toList,(λx=>(Lit.int .u8 x).wf=true) a) s.gA4/\aD.ok s.gM
theorem bU.opens : tV Tryz.prog 29 bU.enc bU.ok:=by
  intro H enc w spare fuel cs x h;obtain⟨xs,n,_,_,hl,hx,hf⟩:=DataW.trod_struct Tryz.underlying29 h;have hl:cs.length=55:=hl.trans (by kernel_rfl)
  obtain⟨b0,o0,r0⟩:=cA hx hf 0 0 32 _ rfl rfl (by kernel_rfl) (qE (n:=32) (k:=1) (m:=32) Tryz.underlying22 (by kernel_rfl) (by kernel_rfl) rfl (λ_=>rfl) (dU Tryz.underlying5))
  obtain⟨b1,o1,r1⟩:=cA hx hf 1 32 8 _ rfl rfl (by kernel_rfl) (qE (n:=8) (k:=1) (m:=8) Tryz.underlying23 (by kernel_rfl) (by kernel_rfl) rfl (λ_=>rfl) (dU Tryz.underlying5))
  obtain⟨b2,o2,r2⟩:=cA hx hf 2 40 15 _ rfl rfl (by kernel_rfl) aD.opens;exact⟨⟨b0,b1,b2⟩,⟨o0,o1,o2⟩,aDh hl (cW r0 (cW r1 (cW r2 (xB hl))))⟩
def aB.ok(s:aB):Prop:=(λx=>(Lit.int .i64 x).wf=true) s.gX/\(λx=>(Lit.int .i64 x).wf=true) s.gY/\(λx=>(Lit.int .i64 x).wf=true) s.gZ
theorem aB.opens : tV Tryz.prog 41 aB.enc aB.ok:=by
  intro H enc w spare fuel cs x h;obtain⟨xs,n,_,_,hl,hx,hf⟩:=DataW.trod_struct Tryz.underlying41 h;have hl:cs.length=3:=hl.trans (by kernel_rfl)
  obtain⟨b0,o0,r0⟩:=cA hx hf 0 0 1 _ rfl rfl (by kernel_rfl) (dU Tryz.underlying3)
  obtain⟨b1,o1,r1⟩:=cA hx hf 1 1 1 _ rfl rfl (by kernel_rfl) (dU Tryz.underlying3)
  obtain⟨b2,o2,r2⟩:=cA hx hf 2 2 1 _ rfl rfl (by kernel_rfl) (dU Tryz.underlying3)
  exact⟨⟨b0,b1,b2⟩,⟨o0,o1,o2⟩,aDh hl (cW r0 (cW r1 (cW r2 (xB hl))))⟩
def aM.ok(s:aM):Prop:=(λ(l:(List aB))=>l.length<=maxLen/\∀a∈l,aB.ok a) s.gF/\(λ(l:(List (Vector Int 2)))=>l.length<=maxLen/\∀a∈l,(λ(v:(Vector Int 2))=>∀a∈v.toList,(λx=>(Lit.int .i64 x).wf=true) a) a) s.gJ/\(λ(l:(List (Vector Int 3)))=>l.length<=maxLen/\∀a∈l,(λ(v:(Vector Int 3))=>∀a∈v.toList,(λx=>(Lit.int .i64 x).wf=true) a) a) s.gI
theorem aM.opens : tV Tryz.prog 34 aM.enc aM.ok:=by
  intro H enc w spare fuel cs x h;obtain⟨xs,n,_,_,hl,hx,hf⟩:=DataW.trod_struct Tryz.underlying34 h;have hl:cs.length=3:=hl.trans (by kernel_rfl)
  obtain⟨b0,o0,r0⟩:=cA hx hf 0 0 1 _ rfl rfl (by kernel_rfl) (xE (k:=3) Tryz.underlying30 (by kernel_rfl) (by decide) (λ_=>rfl) aB.opens)
  obtain⟨b1,o1,r1⟩:=cA hx hf 1 1 1 _ rfl rfl (by kernel_rfl) (xE (k:=2) Tryz.underlying31 (by kernel_rfl) (by decide) (λ_=>rfl) (qE (n:=2) (k:=1) (m:=2) Tryz.underlying136 (by kernel_rfl) (by kernel_rfl) rfl (λ_=>rfl) (dU Tryz.underlying3)))
  obtain⟨b2,o2,r2⟩:=cA hx hf 2 2 1 _ rfl rfl (by kernel_rfl) (xE (k:=3) Tryz.underlying32 (by kernel_rfl) (by decide) (λ_=>rfl) (qE (n:=3) (k:=1) (m:=3) Tryz.underlying37 (by kernel_rfl) (by kernel_rfl) rfl (λ_=>rfl) (dU Tryz.underlying3)))
  exact⟨⟨b0,b1,b2⟩,⟨o0,o1,o2⟩,aDh hl (cW r0 (cW r1 (cW r2 (xB hl))))⟩
def aI.ok(s:aI):Prop:=(λx=>(Lit.int .i64 x).wf=true) s.gN/\(λ(l:(List (Vector Int 3)))=>l.length<=maxLen/\∀a∈l,(λ(v:(Vector Int 3))=>∀a∈v.toList,(λx=>(Lit.int .i64 x).wf=true) a) a) s.gK
theorem aI.opens : tV Tryz.prog 36 aI.enc aI.ok:=by
  intro H enc w spare fuel cs x h;obtain⟨xs,n,_,_,hl,hx,hf⟩:=DataW.trod_struct Tryz.underlying36 h;have hl:cs.length=2:=hl.trans (by kernel_rfl)
  obtain⟨b0,o0,r0⟩:=cA hx hf 0 0 1 _ rfl rfl (by kernel_rfl) (dU Tryz.underlying3)
  obtain⟨b1,o1,r1⟩:=cA hx hf 1 1 1 _ rfl rfl (by kernel_rfl) (xE (k:=3) Tryz.underlying32 (by kernel_rfl) (by decide) (λ_=>rfl) (qE (n:=3) (k:=1) (m:=3) Tryz.underlying37 (by kernel_rfl) (by kernel_rfl) rfl (λ_=>rfl) (dU Tryz.underlying3)))
  exact⟨⟨b0,b1⟩,⟨o0,o1⟩,aDh hl (cW r0 (cW r1 (xB hl)))⟩
def aF.ok(s:aF):Prop:=(λx=>(Lit.int .i64 x).wf=true) s.gC/\(λ(v:(Vector Int 3))=>∀a∈v.toList,(λx=>(Lit.int .i64 x).wf=true) a) s.gE/\(λx=>(Lit.int .i64 x).wf=true) s.gA1
theorem aF.opens : tV Tryz.prog 39 aF.enc aF.ok:=by
  intro H enc w spare fuel cs x h;obtain⟨xs,n,_,_,hl,hx,hf⟩:=DataW.trod_struct Tryz.underlying39 h;have hl:cs.length=5:=hl.trans (by kernel_rfl)
  obtain⟨b0,o0,r0⟩:=cA hx hf 0 0 1 _ rfl rfl (by kernel_rfl) (dU Tryz.underlying3)
  obtain⟨b1,o1,r1⟩:=cA hx hf 1 1 3 _ rfl rfl (by kernel_rfl) (qE (n:=3) (k:=1) (m:=3) Tryz.underlying37 (by kernel_rfl) (by kernel_rfl) rfl (λ_=>rfl) (dU Tryz.underlying3))
  obtain⟨b2,o2,r2⟩:=cA hx hf 2 4 1 _ rfl rfl (by kernel_rfl) (dU Tryz.underlying3)
  exact⟨⟨b0,b1,b2⟩,⟨o0,o1,o2⟩,aDh hl (cW r0 (cW r1 (cW r2 (xB hl))))⟩
def aJ.ok(s:aJ):Prop:=(λx=>(Lit.int .i64 x).wf=true) s.gC/\(λ(v:(Vector Int 3))=>∀a∈v.toList,(λx=>(Lit.int .i64 x).wf=true) a) s.gE/\aB.ok s.gAt/\aB.ok s.gU/\aB.ok s.gV
theorem aJ.opens : tV Tryz.prog 43 aJ.enc aJ.ok:=by
  intro H enc w spare fuel cs x h;obtain⟨xs,n,_,_,hl,hx,hf⟩:=DataW.trod_struct Tryz.underlying43 h;have hl:cs.length=13:=hl.trans (by kernel_rfl)
  obtain⟨b0,o0,r0⟩:=cA hx hf 0 0 1 _ rfl rfl (by kernel_rfl) (dU Tryz.underlying3)
  obtain⟨b1,o1,r1⟩:=cA hx hf 1 1 3 _ rfl rfl (by kernel_rfl) (qE (n:=3) (k:=1) (m:=3) Tryz.underlying37 (by kernel_rfl) (by kernel_rfl) rfl (λ_=>rfl) (dU Tryz.underlying3))
  obtain⟨b2,o2,r2⟩:=cA hx hf 2 4 3 _ rfl rfl (by kernel_rfl) aB.opens;obtain⟨b3,o3,r3⟩:=cA hx hf 3 7 3 _ rfl rfl (by kernel_rfl) aB.opens;obtain⟨b4,o4,r4⟩:=cA hx hf 4 10 3 _ rfl rfl (by kernel_rfl) aB.opens;exact⟨⟨b0,b1,b2,b3,b4⟩,⟨o0,o1,o2,o3,o4⟩,aDh hl (cW r0 (cW r1 (cW r2 (cW r3 (cW r4 (xB hl))))))⟩
def aE.ok(s:aE):Prop:=(λx=>(Lit.int .i64 x).wf=true) s.gC/\aM.ok s.gQ/\aI.ok s.gW/\aF.ok s.gG/\aJ.ok s.gD
theorem aE.opens : tV Tryz.prog 45 aE.enc aE.ok:=by
  intro H enc w spare fuel cs x h;obtain⟨xs,n,_,_,hl,hx,hf⟩:=DataW.trod_struct Tryz.underlying45 h;have hl:cs.length=24:=hl.trans (by kernel_rfl)
  obtain⟨b0,o0,r0⟩:=cA hx hf 0 0 1 _ rfl rfl (by kernel_rfl) (dU Tryz.underlying3)
  obtain⟨b1,o1,r1⟩:=cA hx hf 1 1 3 _ rfl rfl (by kernel_rfl) aM.opens;obtain⟨b2,o2,r2⟩:=cA hx hf 2 4 2 _ rfl rfl (by kernel_rfl) aI.opens;obtain⟨b3,o3,r3⟩:=cA hx hf 3 6 5 _ rfl rfl (by kernel_rfl) aF.opens;obtain⟨b4,o4,r4⟩:=cA hx hf 4 11 13 _ rfl rfl (by kernel_rfl) aJ.opens;exact⟨⟨b0,b1,b2,b3,b4⟩,⟨o0,o1,o2,o3,o4⟩,aDh hl (cW r0 (cW r1 (cW r2 (cW r3 (cW r4 (xB hl))))))⟩
theorem aOK : tV Tryz.prog 3 j64 (λx=>(Lit.int .i64 x).wf=true):=(dU Tryz.underlying3)
theorem aNA : tV Tryz.prog 29 bU.enc bU.ok:=bU.opens
theorem aLm : tV Tryz.prog 45 aE.enc aE.ok:=aE.opens
end Go.UK
