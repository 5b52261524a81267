/- A part of the proof: what the functions of the program compute. -/
import Derived.Test.YtfndgielkmppbaaDoorPT
namespace Go.UK
open Go Go.Proofs Go.Sort Go.RowKit
set_option maxRecDepth 20000
set_option maxHeartbeats 40000000
set_option linter.all false
def cG.ok(s:cG):Prop:=(λx=>(Lit.int .i64 x).wf=true) s.gX/\(λx=>(Lit.int .i64 x).wf=true) s.gY/\(λx=>(Lit.int .i64 x).wf=true) s.gZ
theorem cG.opens : jJ Tryd.prog 26 cG.enc cG.ok:=by
  intro H enc w spare fuel cs x h;obtain⟨xs,n,_,_,hl,hx,hf⟩:=DataW.trod_struct Tryd.underlying26 h;have hl:cs.length=3:=hl.trans (by kernel_rfl)
  obtain⟨b0,o0,r0⟩:=aR hx hf 0 0 1 _ rfl rfl (by kernel_rfl) (bG Tryd.underlying23)
  obtain⟨b1,o1,r1⟩:=aR hx hf 1 1 1 _ rfl rfl (by kernel_rfl) (bG Tryd.underlying23)
  obtain⟨b2,o2,r2⟩:=aR hx hf 2 2 1 _ rfl rfl (by kernel_rfl) (bG Tryd.underlying23)
  exact⟨⟨b0,b1,b2⟩,⟨o0,o1,o2⟩,rY hl (aW r0 (aW r1 (aW r2 (lX hl))))⟩
def aZ.ok(s:aZ):Prop:=(λ(v:(Vector Int 9))=>∀a∈v.toList,(λx=>(Lit.int .i64 x).wf=true) a) s.gM/\cG.ok s.gT
theorem aZ.opens : jJ Tryd.prog 28 aZ.enc aZ.ok:=by
  intro H enc w spare fuel cs x h;obtain⟨xs,n,_,_,hl,hx,hf⟩:=DataW.trod_struct Tryd.underlying28 h;have hl:cs.length=12:=hl.trans (by kernel_rfl)
  obtain⟨b0,o0,r0⟩:=aR hx hf 0 0 9 _ rfl rfl (by kernel_rfl) (zI (n:=9) (k:=1) (m:=9) Tryd.underlying24 (by kernel_rfl) (by kernel_rfl) rfl (λ_=>rfl) (bG Tryd.underlying23))
  obtain⟨b1,o1,r1⟩:=aR hx hf 1 9 3 _ rfl rfl (by kernel_rfl) cG.opens;exact⟨⟨b0,b1⟩,⟨o0,o1⟩,rY hl (aW r0 (aW r1 (lX hl)))⟩
def bW.ok(s:bW):Prop:=(λx=>(Lit.int .i64 x).wf=true) s.gG/\(λx=>(Lit.int .i64 x).wf=true) s.gI/\(λx=>(Lit.int .i64 x).wf=true) s.gJ/\(λx=>(Lit.int .i64 x).wf=true) s.gN/\aZ.ok s.gT
theorem bW.opens : jJ Tryd.prog 30 bW.enc bW.ok:=by
  intro H enc w spare fuel cs x h;obtain⟨xs,n,_,_,hl,hx,hf⟩:=DataW.trod_struct Tryd.underlying30 h;have hl:cs.length=16:=hl.trans (by kernel_rfl)
  obtain⟨b0,o0,r0⟩:=aR hx hf 0 0 1 _ rfl rfl (by kernel_rfl) (bG Tryd.underlying3)
  obtain⟨b1,o1,r1⟩:=aR hx hf 1 1 1 _ rfl rfl (by kernel_rfl) (bG Tryd.underlying3)
  obtain⟨b2,o2,r2⟩:=aR hx hf 2 2 1 _ rfl rfl (by kernel_rfl) (bG Tryd.underlying3)
  obtain⟨b3,o3,r3⟩:=aR hx hf 3 3 1 _ rfl rfl (by kernel_rfl) (bG Tryd.underlying3)
  obtain⟨b4,o4,r4⟩:=aR hx hf 4 4 12 _ rfl rfl (by kernel_rfl) aZ.opens;exact⟨⟨b0,b1,b2,b3,b4⟩,⟨o0,o1,o2,o3,o4⟩,rY hl (aW r0 (aW r1 (aW r2 (aW r3 (aW r4 (lX hl))))))⟩
def aC.ok(s:aC):Prop:=(λx=>(Lit.int .i64 x).wf=true) s.gX/\(λx=>(Lit.int .i64 x).wf=true) s.gY/\(λx=>(Lit.int .i64 x).wf=true) s.gZ
theorem aC.opens : jJ Tryd.prog 33 aC.enc aC.ok:=by
  intro H enc w spare fuel cs x h;obtain⟨xs,n,_,_,hl,hx,hf⟩:=DataW.trod_struct Tryd.underlying33 h;have hl:cs.length=3:=hl.trans (by kernel_rfl)
  obtain⟨b0,o0,r0⟩:=aR hx hf 0 0 1 _ rfl rfl (by kernel_rfl) (bG Tryd.underlying3)
  obtain⟨b1,o1,r1⟩:=aR hx hf 1 1 1 _ rfl rfl (by kernel_rfl) (bG Tryd.underlying3)
  obtain⟨b2,o2,r2⟩:=aR hx hf 2 2 1 _ rfl rfl (by kernel_rfl) (bG Tryd.underlying3)
  exact⟨⟨b0,b1,b2⟩,⟨o0,o1,o2⟩,rY hl (aW r0 (aW r1 (aW r2 (lX hl))))⟩
def bJ.ok(s:bJ):Prop:=aC.ok s.gR/\aC.ok s.gS/\aC.ok s.gUp/\aC.ok s.gU/\(λx=>(Lit.int .i64 x).wf=true) s.gA4/\(λx=>(Lit.int .i64 x).wf=true) s.gA8
theorem bJ.opens : jJ Tryd.prog 35 bJ.enc bJ.ok:=by
  intro H enc w spare fuel cs x h;obtain⟨xs,n,_,_,hl,hx,hf⟩:=DataW.trod_struct Tryd.underlying35 h;have hl:cs.length=14:=hl.trans (by kernel_rfl)
  obtain⟨b0,o0,r0⟩:=aR hx hf 0 0 3 _ rfl rfl (by kernel_rfl) aC.opens;obtain⟨b1,o1,r1⟩:=aR hx hf 1 3 3 _ rfl rfl (by kernel_rfl) aC.opens;obtain⟨b2,o2,r2⟩:=aR hx hf 2 6 3 _ rfl rfl (by kernel_rfl) aC.opens;obtain⟨b3,o3,r3⟩:=aR hx hf 3 9 3 _ rfl rfl (by kernel_rfl) aC.opens;obtain⟨b4,o4,r4⟩:=aR hx hf 4 12 1 _ rfl rfl (by kernel_rfl) (bG Tryd.underlying3)
  obtain⟨b5,o5,r5⟩:=aR hx hf 5 13 1 _ rfl rfl (by kernel_rfl) (bG Tryd.underlying3)
  exact⟨⟨b0,b1,b2,b3,b4,b5⟩,⟨o0,o1,o2,o3,o4,o5⟩,rY hl (aW r0 (aW r1 (aW r2 (aW r3 (aW r4 (aW r5 (lX hl)))))))⟩
def aY.ok(s:aY):Prop:=(λx=>(Lit.int .i64 x).wf=true) s.gW/\(λx=>(Lit.int .i64 x).wf=true) s.gH/\(λx=>(Lit.int .i64 x).wf=true) s.gV/\(λx=>(Lit.int .i64 x).wf=true) s.gA0/\(λx=>(Lit.int .i64 x).wf=true) s.gA1/\(λx=>(Lit.int .u64 x).wf=true) s.gO/\bJ.ok s.gE/\(λ_=>True) s.gA5
theorem aY.opens : jJ Tryd.prog 37 aY.enc aY.ok:=by
  intro H enc w spare fuel cs x h;obtain⟨xs,n,_,_,hl,hx,hf⟩:=DataW.trod_struct Tryd.underlying37 h;have hl:cs.length=21:=hl.trans (by kernel_rfl)
  obtain⟨b0,o0,r0⟩:=aR hx hf 0 0 1 _ rfl rfl (by kernel_rfl) (bG Tryd.underlying3)
  obtain⟨b1,o1,r1⟩:=aR hx hf 1 1 1 _ rfl rfl (by kernel_rfl) (bG Tryd.underlying3)
  obtain⟨b2,o2,r2⟩:=aR hx hf 2 2 1 _ rfl rfl (by kernel_rfl) (bG Tryd.underlying3)
  obtain⟨b3,o3,r3⟩:=aR hx hf 3 3 1 _ rfl rfl (by kernel_rfl) (bG Tryd.underlying3)
  obtain⟨b4,o4,r4⟩:=aR hx hf 4 4 1 _ rfl rfl (by kernel_rfl) (bG Tryd.underlying3)
  obtain⟨b5,o5,r5⟩:=aR hx hf 5 5 1 _ rfl rfl (by kernel_rfl) (bG Tryd.underlying31)
  obtain⟨b6,o6,r6⟩:=aR hx hf 6 6 14 _ rfl rfl (by kernel_rfl) bJ.opens;obtain⟨b7,o7,r7⟩:=aR hx hf 7 20 1 _ rfl rfl (by kernel_rfl) (aAy Tryd.underlying4)
  exact⟨⟨b0,b1,b2,b3,b4,b5,b6,b7⟩,⟨o0,o1,o2,o3,o4,o5,o6,o7⟩,rY hl (aW r0 (aW r1 (aW r2 (aW r3 (aW r4 (aW r5 (aW r6 (aW r7 (lX hl)))))))))⟩
def aF.ok(s:aF):Prop:=(λx=>(Lit.int .i64 x).wf=true) s.gC/\(λx=>(Lit.int .i64 x).wf=true) s.gK/\(λ(l:(List Int))=>l.length<=maxLen/\∀a∈l,(λx=>(Lit.int .u8 x).wf=true) a) s.gL/\bW.ok s.gA/\(λx=>(Lit.int .i64 x).wf=true) s.gF/\aY.ok s.gD/\(λx=>(Lit.int .i64 x).wf=true) s.gA3/\(λx=>(Lit.int .i64 x).wf=true) s.gP/\(λx=>(Lit.int .u32 x).wf=true) s.gA2/\(λx=>(Lit.int .i64 x).wf=true) s.gA6/\(λx=>(Lit.int .i64 x).wf=true) s.gA7
theorem aF.opens : jJ Tryd.prog 40 aF.enc aF.ok:=by
  intro H enc w spare fuel cs x h;obtain⟨xs,n,_,_,hl,hx,hf⟩:=DataW.trod_struct Tryd.underlying40 h;have hl:cs.length=46:=hl.trans (by kernel_rfl)
  obtain⟨b0,o0,r0⟩:=aR hx hf 0 0 1 _ rfl rfl (by kernel_rfl) (bG Tryd.underlying3)
  obtain⟨b1,o1,r1⟩:=aR hx hf 1 1 1 _ rfl rfl (by kernel_rfl) (bG Tryd.underlying3)
  obtain⟨b2,o2,r2⟩:=aR hx hf 2 2 1 _ rfl rfl (by kernel_rfl) (nR (k:=1) Tryd.underlying22 (by kernel_rfl) (by decide) (λ_=>rfl) (bG Tryd.underlying5))
  obtain⟨b3,o3,r3⟩:=aR hx hf 3 3 16 _ rfl rfl (by kernel_rfl) bW.opens;obtain⟨b4,o4,r4⟩:=aR hx hf 4 19 1 _ rfl rfl (by kernel_rfl) (bG Tryd.underlying3)
  obtain⟨b5,o5,r5⟩:=aR hx hf 5 20 21 _ rfl rfl (by kernel_rfl) aY.opens;obtain⟨b6,o6,r6⟩:=aR hx hf 6 41 1 _ rfl rfl (by kernel_rfl) (bG Tryd.underlying3)
  obtain⟨b7,o7,r7⟩:=aR hx hf 7 42 1 _ rfl rfl (by kernel_rfl) (bG Tryd.underlying3)
  obtain⟨b8,o8,r8⟩:=aR hx hf 8 43 1 _ rfl rfl (by kernel_rfl) (bG Tryd.underlying38)
  obtain⟨b9,o9,r9⟩:=aR hx hf 9 44 1 _ rfl rfl (by kernel_rfl) (bG Tryd.underlying3)
  obtain⟨b10,o10,r10⟩:=aR hx hf 10 45 1 _ rfl rfl (by kernel_rfl) (bG Tryd.underlying3)
  exact⟨⟨b0,b1,b2,b3,b4,b5,b6,b7,b8,b9,b10⟩,⟨o0,o1,o2,o3,o4,o5,o6,o7,o8,o9,o10⟩,rY hl (aW r0 (aW r1 (aW r2 (aW r3 (aW r4 (aW r5 (aW r6 (aW r7 (aW r8 (aW r9 (aW r10 (lX hl))))))))))))⟩
def bL.ok(s:bL):Prop:=(λx=>(Lit.int .i64 x).wf=true) s.gA9/\(λ(l:(List Int))=>l.length<=maxLen/\∀a∈l,(λx=>(Lit.int .i64 x).wf=true) a) s.gB0/\(λ(l:(List Int))=>l.length<=maxLen/\∀a∈l,(λx=>(Lit.int .u8 x).wf=true) a) s.gQ
theorem bL.opens : jJ Tryd.prog 54 bL.enc bL.ok:=by
  intro H enc w spare fuel cs x h;obtain⟨xs,n,_,_,hl,hx,hf⟩:=DataW.trod_struct Tryd.underlying54 h;have hl:cs.length=3:=hl.trans (by kernel_rfl)
  obtain⟨b0,o0,r0⟩:=aR hx hf 0 0 1 _ rfl rfl (by kernel_rfl) (bG Tryd.underlying42)
  obtain⟨b1,o1,r1⟩:=aR hx hf 1 1 1 _ rfl rfl (by kernel_rfl) (nR (k:=1) Tryd.underlying52 (by kernel_rfl) (by decide) (λ_=>rfl) (bG Tryd.underlying3))
  obtain⟨b2,o2,r2⟩:=aR hx hf 2 2 1 _ rfl rfl (by kernel_rfl) (nR (k:=1) Tryd.underlying22 (by kernel_rfl) (by decide) (λ_=>rfl) (bG Tryd.underlying5))
  exact⟨⟨b0,b1,b2⟩,⟨o0,o1,o2⟩,rY hl (aW r0 (aW r1 (aW r2 (lX hl))))⟩
theorem aDf : jJ Tryd.prog 40 aF.enc aF.ok:=aF.opens
theorem aDg : jJ Tryd.prog 54 bL.enc bL.ok:=bL.opens
end Go.UK
