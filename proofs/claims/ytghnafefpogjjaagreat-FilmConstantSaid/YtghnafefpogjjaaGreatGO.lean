/- A part of the proof: what the functions of the program compute. -/
import Derived.Test.YtghnafefpogjjaaGreatGT
namespace Go.UK
open Go Go.Proofs
set_option maxRecDepth 20000
set_option maxHeartbeats 40000000
set_option linter.all false
def aC.ok(s:aC):Prop:=(λx=>(Lit.int .i64 x).wf=true) s.gX/\(λx=>(Lit.int .i64 x).wf=true) s.gY/\(λx=>(Lit.int .i64 x).wf=true) s.gZ
theorem aC.opens : xC Tryz.prog 33 aC.enc aC.ok:=by
  intro H enc w spare fuel cs x h;obtain⟨xs,n,_,_,hl,hx,hf⟩:=DataW.trod_struct Tryz.underlying33 h;have hl:cs.length=3:=hl.trans (by kernel_rfl)
  obtain⟨b0,o0,r0⟩:=bQ hx hf 0 0 1 _ rfl rfl (by kernel_rfl) (eC Tryz.underlying3)
  obtain⟨b1,o1,r1⟩:=bQ hx hf 1 1 1 _ rfl rfl (by kernel_rfl) (eC Tryz.underlying3)
  obtain⟨b2,o2,r2⟩:=bQ hx hf 2 2 1 _ rfl rfl (by kernel_rfl) (eC Tryz.underlying3)
  exact⟨⟨b0,b1,b2⟩,⟨o0,o1,o2⟩,aF3 hl (cN r0 (cN r1 (cN r2 (aA0 hl))))⟩
def aH.ok(s:aH):Prop:=(λ(v:(Vector aC 3))=>∀a∈v.toList,aC.ok a) s.gP/\(λ(v:(Vector (Vector Int 2) 3))=>∀a∈v.toList,(λ(v:(Vector Int 2))=>∀a∈v.toList,(λx=>(Lit.int .i64 x).wf=true) a) a) s.gUv/\(λx=>(Lit.int .i64 x).wf=true) s.gD0/\(λx=>(Lit.int .i64 x).wf=true) s.gB3/\(λx=>(Lit.int .i64 x).wf=true) s.gA4/\(λx=>(Lit.int .u8 x).wf=true) s.gC0
theorem aH.opens : xC Tryz.prog 144 aH.enc aH.ok:=by
  intro H enc w spare fuel cs x h;obtain⟨xs,n,_,_,hl,hx,hf⟩:=DataW.trod_struct Tryz.underlying144 h;have hl:cs.length=19:=hl.trans (by kernel_rfl)
  obtain⟨b0,o0,r0⟩:=bQ hx hf 0 0 9 _ rfl rfl (by kernel_rfl) (wB (n:=3) (k:=3) (m:=9) Tryz.underlying140 (by kernel_rfl) (by kernel_rfl) rfl (λ_=>rfl) aC.opens)
  obtain⟨b1,o1,r1⟩:=bQ hx hf 1 9 6 _ rfl rfl (by kernel_rfl) (wB (n:=3) (k:=2) (m:=6) Tryz.underlying142 (by kernel_rfl) (by kernel_rfl) rfl (λ_=>rfl) (wB (n:=2) (k:=1) (m:=2) Tryz.underlying141 (by kernel_rfl) (by kernel_rfl) rfl (λ_=>rfl) (eC Tryz.underlying3)))
  obtain⟨b2,o2,r2⟩:=bQ hx hf 2 15 1 _ rfl rfl (by kernel_rfl) (eC Tryz.underlying3)
  obtain⟨b3,o3,r3⟩:=bQ hx hf 3 16 1 _ rfl rfl (by kernel_rfl) (eC Tryz.underlying3)
  obtain⟨b4,o4,r4⟩:=bQ hx hf 4 17 1 _ rfl rfl (by kernel_rfl) (eC Tryz.underlying3)
  obtain⟨b5,o5,r5⟩:=bQ hx hf 5 18 1 _ rfl rfl (by kernel_rfl) (eC Tryz.underlying5)
  exact⟨⟨b0,b1,b2,b3,b4,b5⟩,⟨o0,o1,o2,o3,o4,o5⟩,aF3 hl (cN r0 (cN r1 (cN r2 (cN r3 (cN r4 (cN r5 (aA0 hl)))))))⟩
def aP.ok(s:aP):Prop:=(λx=>(Lit.int .i64 x).wf=true) s.gJ/\(λ(v:(Vector Int 3))=>∀a∈v.toList,(λx=>(Lit.int .i64 x).wf=true) a) s.gB5/\(λx=>(Lit.int .i64 x).wf=true) s.gD8
theorem aP.opens : xC Tryz.prog 151 aP.enc aP.ok:=by
  intro H enc w spare fuel cs x h;obtain⟨xs,n,_,_,hl,hx,hf⟩:=DataW.trod_struct Tryz.underlying151 h;have hl:cs.length=5:=hl.trans (by kernel_rfl)
  obtain⟨b0,o0,r0⟩:=bQ hx hf 0 0 1 _ rfl rfl (by kernel_rfl) (eC Tryz.underlying3)
  obtain⟨b1,o1,r1⟩:=bQ hx hf 1 1 3 _ rfl rfl (by kernel_rfl) (wB (n:=3) (k:=1) (m:=3) Tryz.underlying54 (by kernel_rfl) (by kernel_rfl) rfl (λ_=>rfl) (eC Tryz.underlying3))
  obtain⟨b2,o2,r2⟩:=bQ hx hf 2 4 1 _ rfl rfl (by kernel_rfl) (eC Tryz.underlying3)
  exact⟨⟨b0,b1,b2⟩,⟨o0,o1,o2⟩,aF3 hl (cN r0 (cN r1 (cN r2 (aA0 hl))))⟩
def aD.ok(s:aD):Prop:=(λx=>(Lit.int .i64 x).wf=true) s.gI/\(λ(l:(List (Vector Int 3)))=>l.length<=maxLen/\∀a∈l,(λ(v:(Vector Int 3))=>∀a∈v.toList,(λx=>(Lit.int .i64 x).wf=true) a) a) s.gA8
theorem aD.opens : xC Tryz.prog 85 aD.enc aD.ok:=by
  intro H enc w spare fuel cs x h;obtain⟨xs,n,_,_,hl,hx,hf⟩:=DataW.trod_struct Tryz.underlying85 h;have hl:cs.length=2:=hl.trans (by kernel_rfl)
  obtain⟨b0,o0,r0⟩:=bQ hx hf 0 0 1 _ rfl rfl (by kernel_rfl) (eC Tryz.underlying3)
  obtain⟨b1,o1,r1⟩:=bQ hx hf 1 1 1 _ rfl rfl (by kernel_rfl) (tQ (k:=3) Tryz.underlying40 (by kernel_rfl) (by decide) (λ_=>rfl) (wB (n:=3) (k:=1) (m:=3) Tryz.underlying54 (by kernel_rfl) (by kernel_rfl) rfl (λ_=>rfl) (eC Tryz.underlying3)))
  exact⟨⟨b0,b1⟩,⟨o0,o1⟩,aF3 hl (cN r0 (cN r1 (aA0 hl)))⟩
def aQ.ok(s:aQ):Prop:=(λx=>(Lit.int .i64 x).wf=true) s.gJ/\(λ(v:(Vector Int 3))=>∀a∈v.toList,(λx=>(Lit.int .i64 x).wf=true) a) s.gB5/\aC.ok s.gAt/\aC.ok s.gU/\aC.ok s.gV
theorem aQ.opens : xC Tryz.prog 201 aQ.enc aQ.ok:=by
  intro H enc w spare fuel cs x h;obtain⟨xs,n,_,_,hl,hx,hf⟩:=DataW.trod_struct Tryz.underlying201 h;have hl:cs.length=13:=hl.trans (by kernel_rfl)
  obtain⟨b0,o0,r0⟩:=bQ hx hf 0 0 1 _ rfl rfl (by kernel_rfl) (eC Tryz.underlying3)
  obtain⟨b1,o1,r1⟩:=bQ hx hf 1 1 3 _ rfl rfl (by kernel_rfl) (wB (n:=3) (k:=1) (m:=3) Tryz.underlying54 (by kernel_rfl) (by kernel_rfl) rfl (λ_=>rfl) (eC Tryz.underlying3))
  obtain⟨b2,o2,r2⟩:=bQ hx hf 2 4 3 _ rfl rfl (by kernel_rfl) aC.opens;obtain⟨b3,o3,r3⟩:=bQ hx hf 3 7 3 _ rfl rfl (by kernel_rfl) aC.opens;obtain⟨b4,o4,r4⟩:=bQ hx hf 4 10 3 _ rfl rfl (by kernel_rfl) aC.opens;exact⟨⟨b0,b1,b2,b3,b4⟩,⟨o0,o1,o2,o3,o4⟩,aF3 hl (cN r0 (cN r1 (cN r2 (cN r3 (cN r4 (aA0 hl))))))⟩
def aG.ok(s:aG):Prop:=(λ(l:(List aH))=>l.length<=maxLen/\∀a∈l,aH.ok a) s.gE/\(λ(l:(List aP))=>l.length<=maxLen/\∀a∈l,aP.ok a) s.gA6/\(λ(l:(List aD))=>l.length<=maxLen/\∀a∈l,aD.ok a) s.gA2/\(λ(l:(List aQ))=>l.length<=maxLen/\∀a∈l,aQ.ok a) s.gF/\(λ(l:(List Int))=>l.length<=maxLen/\∀a∈l,(λx=>(Lit.int .u64 x).wf=true) a) s.gR/\(λ(l:(List Int))=>l.length<=maxLen/\∀a∈l,(λx=>(Lit.int .u32 x).wf=true) a) s.gB0/\(λx=>(Lit.int .u32 x).wf=true) s.gB8/\(λx=>(Lit.int .u32 x).wf=true) s.gC1/\(λx=>(Lit.int .u32 x).wf=true) s.gTo
theorem aG.opens : xC Tryz.prog 30 aG.enc aG.ok:=by
  intro H enc w spare fuel cs x h;obtain⟨xs,n,_,_,hl,hx,hf⟩:=DataW.trod_struct Tryz.underlying30 h;have hl:cs.length=9:=hl.trans (by kernel_rfl)
  obtain⟨b0,o0,r0⟩:=bQ hx hf 0 0 1 _ rfl rfl (by kernel_rfl) (tQ (k:=19) Tryz.underlying22 (by kernel_rfl) (by decide) (λ_=>rfl) aH.opens)
  obtain⟨b1,o1,r1⟩:=bQ hx hf 1 1 1 _ rfl rfl (by kernel_rfl) (tQ (k:=5) Tryz.underlying23 (by kernel_rfl) (by decide) (λ_=>rfl) aP.opens)
  obtain⟨b2,o2,r2⟩:=bQ hx hf 2 2 1 _ rfl rfl (by kernel_rfl) (tQ (k:=2) Tryz.underlying24 (by kernel_rfl) (by decide) (λ_=>rfl) aD.opens)
  obtain⟨b3,o3,r3⟩:=bQ hx hf 3 3 1 _ rfl rfl (by kernel_rfl) (tQ (k:=13) Tryz.underlying25 (by kernel_rfl) (by decide) (λ_=>rfl) aQ.opens)
  obtain⟨b4,o4,r4⟩:=bQ hx hf 4 4 1 _ rfl rfl (by kernel_rfl) (tQ (k:=1) Tryz.underlying26 (by kernel_rfl) (by decide) (λ_=>rfl) (eC Tryz.underlying31))
  obtain⟨b5,o5,r5⟩:=bQ hx hf 5 5 1 _ rfl rfl (by kernel_rfl) (tQ (k:=1) Tryz.underlying27 (by kernel_rfl) (by decide) (λ_=>rfl) (eC Tryz.underlying28))
  obtain⟨b6,o6,r6⟩:=bQ hx hf 6 6 1 _ rfl rfl (by kernel_rfl) (eC Tryz.underlying28)
  obtain⟨b7,o7,r7⟩:=bQ hx hf 7 7 1 _ rfl rfl (by kernel_rfl) (eC Tryz.underlying28)
  obtain⟨b8,o8,r8⟩:=bQ hx hf 8 8 1 _ rfl rfl (by kernel_rfl) (eC Tryz.underlying28)
  exact⟨⟨b0,b1,b2,b3,b4,b5,b6,b7,b8⟩,⟨o0,o1,o2,o3,o4,o5,o6,o7,o8⟩,aF3 hl (cN r0 (cN r1 (cN r2 (cN r3 (cN r4 (cN r5 (cN r6 (cN r7 (cN r8 (aA0 hl))))))))))⟩
def bR.ok(s:bR):Prop:=aC.ok s.gA9/\aC.ok s.gB4/\aC.ok s.gUp/\aC.ok s.gE2/\(λx=>(Lit.int .i64 x).wf=true) s.gD3/\(λx=>(Lit.int .i64 x).wf=true) s.gD5
theorem bR.opens : xC Tryz.prog 35 bR.enc bR.ok:=by
  intro H enc w spare fuel cs x h;obtain⟨xs,n,_,_,hl,hx,hf⟩:=DataW.trod_struct Tryz.underlying35 h;have hl:cs.length=14:=hl.trans (by kernel_rfl)
  obtain⟨b0,o0,r0⟩:=bQ hx hf 0 0 3 _ rfl rfl (by kernel_rfl) aC.opens;obtain⟨b1,o1,r1⟩:=bQ hx hf 1 3 3 _ rfl rfl (by kernel_rfl) aC.opens;obtain⟨b2,o2,r2⟩:=bQ hx hf 2 6 3 _ rfl rfl (by kernel_rfl) aC.opens;obtain⟨b3,o3,r3⟩:=bQ hx hf 3 9 3 _ rfl rfl (by kernel_rfl) aC.opens;obtain⟨b4,o4,r4⟩:=bQ hx hf 4 12 1 _ rfl rfl (by kernel_rfl) (eC Tryz.underlying3)
  obtain⟨b5,o5,r5⟩:=bQ hx hf 5 13 1 _ rfl rfl (by kernel_rfl) (eC Tryz.underlying3)
  exact⟨⟨b0,b1,b2,b3,b4,b5⟩,⟨o0,o1,o2,o3,o4,o5⟩,aF3 hl (cN r0 (cN r1 (cN r2 (cN r3 (cN r4 (cN r5 (aA0 hl)))))))⟩
def aI.ok(s:aI):Prop:=(λx=>(Lit.int .i64 x).wf=true) s.gW/\(λx=>(Lit.int .i64 x).wf=true) s.gH/\(λx=>(Lit.int .i64 x).wf=true) s.gB1/\(λx=>(Lit.int .i64 x).wf=true) s.gK/\(λx=>(Lit.int .i64 x).wf=true) s.gL/\(λx=>(Lit.int .u64 x).wf=true) s.gS/\bR.ok s.gC9/\(λ_=>True) s.gT
theorem aI.opens : xC Tryz.prog 37 aI.enc aI.ok:=by
  intro H enc w spare fuel cs x h;obtain⟨xs,n,_,_,hl,hx,hf⟩:=DataW.trod_struct Tryz.underlying37 h;have hl:cs.length=21:=hl.trans (by kernel_rfl)
  obtain⟨b0,o0,r0⟩:=bQ hx hf 0 0 1 _ rfl rfl (by kernel_rfl) (eC Tryz.underlying3)
  obtain⟨b1,o1,r1⟩:=bQ hx hf 1 1 1 _ rfl rfl (by kernel_rfl) (eC Tryz.underlying3)
  obtain⟨b2,o2,r2⟩:=bQ hx hf 2 2 1 _ rfl rfl (by kernel_rfl) (eC Tryz.underlying3)
  obtain⟨b3,o3,r3⟩:=bQ hx hf 3 3 1 _ rfl rfl (by kernel_rfl) (eC Tryz.underlying3)
  obtain⟨b4,o4,r4⟩:=bQ hx hf 4 4 1 _ rfl rfl (by kernel_rfl) (eC Tryz.underlying3)
  obtain⟨b5,o5,r5⟩:=bQ hx hf 5 5 1 _ rfl rfl (by kernel_rfl) (eC Tryz.underlying31)
  obtain⟨b6,o6,r6⟩:=bQ hx hf 6 6 14 _ rfl rfl (by kernel_rfl) bR.opens;obtain⟨b7,o7,r7⟩:=bQ hx hf 7 20 1 _ rfl rfl (by kernel_rfl) (aMm Tryz.underlying4)
  exact⟨⟨b0,b1,b2,b3,b4,b5,b6,b7⟩,⟨o0,o1,o2,o3,o4,o5,o6,o7⟩,aF3 hl (cN r0 (cN r1 (cN r2 (cN r3 (cN r4 (cN r5 (cN r6 (cN r7 (aA0 hl)))))))))⟩
theorem aQw : xC Tryz.prog 30 aG.enc aG.ok:=aG.opens
theorem aPY : xC Tryz.prog 37 aI.enc aI.ok:=aI.opens
end Go.UK
