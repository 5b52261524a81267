/- A part of the proof: what the functions of the program compute. -/
import Derived.Test.YtfndgielkmppbaaDoorPT
namespace Go.UK
open Go Go.Proofs Go.Sort Go.RowKit
set_option maxRecDepth 20000
set_option maxHeartbeats 40000000
set_option linter.all false
def bG.ok(s:bG):Prop:=(λx=>(Lit.int .i64 x).wf=true) s.gX/\(λx=>(Lit.int .i64 x).wf=true) s.gY/\(λx=>(Lit.int .i64 x).wf=true) s.gZ
theorem bG.opens : jB Tryd.prog 26 bG.enc bG.ok:=by
  intro H enc w spare fuel cs x h;obtain⟨xs,n,_,_,hl,hx,hf⟩:=DataW.trod_struct Tryd.underlying26 h;have hl:cs.length=3:=hl.trans (by kernel_rfl)
  obtain⟨b0,o0,r0⟩:=bC hx hf 0 0 1 _ rfl rfl (by kernel_rfl) (bR Tryd.underlying23)
  obtain⟨b1,o1,r1⟩:=bC hx hf 1 1 1 _ rfl rfl (by kernel_rfl) (bR Tryd.underlying23)
  obtain⟨b2,o2,r2⟩:=bC hx hf 2 2 1 _ rfl rfl (by kernel_rfl) (bR Tryd.underlying23)
  exact⟨⟨b0,b1,b2⟩,⟨o0,o1,o2⟩,tN hl (bJ r0 (bJ r1 (bJ r2 (mC hl))))⟩
def aK.ok(s:aK):Prop:=(λ(v:(Vector Int 9))=>∀a∈v.toList,(λx=>(Lit.int .i64 x).wf=true) a) s.gM/\bG.ok s.gT
theorem aK.opens : jB Tryd.prog 28 aK.enc aK.ok:=by
  intro H enc w spare fuel cs x h;obtain⟨xs,n,_,_,hl,hx,hf⟩:=DataW.trod_struct Tryd.underlying28 h;have hl:cs.length=12:=hl.trans (by kernel_rfl)
  obtain⟨b0,o0,r0⟩:=bC hx hf 0 0 9 _ rfl rfl (by kernel_rfl) (yZ (n:=9) (k:=1) (m:=9) Tryd.underlying24 (by kernel_rfl) (by kernel_rfl) rfl (λ_=>rfl) (bR Tryd.underlying23))
  obtain⟨b1,o1,r1⟩:=bC hx hf 1 9 3 _ rfl rfl (by kernel_rfl) bG.opens;exact⟨⟨b0,b1⟩,⟨o0,o1⟩,tN hl (bJ r0 (bJ r1 (mC hl)))⟩
def aL.ok(s:aL):Prop:=(λx=>(Lit.int .i64 x).wf=true) s.gA0/\(λx=>(Lit.int .i64 x).wf=true) s.gV/\(λx=>(Lit.int .i64 x).wf=true) s.gR/\(λx=>(Lit.int .i64 x).wf=true) s.gN/\aK.ok s.gT
theorem aL.opens : jB Tryd.prog 30 aL.enc aL.ok:=by
  intro H enc w spare fuel cs x h;obtain⟨xs,n,_,_,hl,hx,hf⟩:=DataW.trod_struct Tryd.underlying30 h;have hl:cs.length=16:=hl.trans (by kernel_rfl)
  obtain⟨b0,o0,r0⟩:=bC hx hf 0 0 1 _ rfl rfl (by kernel_rfl) (bR Tryd.underlying3)
  obtain⟨b1,o1,r1⟩:=bC hx hf 1 1 1 _ rfl rfl (by kernel_rfl) (bR Tryd.underlying3)
  obtain⟨b2,o2,r2⟩:=bC hx hf 2 2 1 _ rfl rfl (by kernel_rfl) (bR Tryd.underlying3)
  obtain⟨b3,o3,r3⟩:=bC hx hf 3 3 1 _ rfl rfl (by kernel_rfl) (bR Tryd.underlying3)
  obtain⟨b4,o4,r4⟩:=bC hx hf 4 4 12 _ rfl rfl (by kernel_rfl) aK.opens;exact⟨⟨b0,b1,b2,b3,b4⟩,⟨o0,o1,o2,o3,o4⟩,tN hl (bJ r0 (bJ r1 (bJ r2 (bJ r3 (bJ r4 (mC hl))))))⟩
def aA.ok(s:aA):Prop:=(λx=>(Lit.int .i64 x).wf=true) s.gX/\(λx=>(Lit.int .i64 x).wf=true) s.gY/\(λx=>(Lit.int .i64 x).wf=true) s.gZ
theorem aA.opens : jB Tryd.prog 33 aA.enc aA.ok:=by
  intro H enc w spare fuel cs x h;obtain⟨xs,n,_,_,hl,hx,hf⟩:=DataW.trod_struct Tryd.underlying33 h;have hl:cs.length=3:=hl.trans (by kernel_rfl)
  obtain⟨b0,o0,r0⟩:=bC hx hf 0 0 1 _ rfl rfl (by kernel_rfl) (bR Tryd.underlying3)
  obtain⟨b1,o1,r1⟩:=bC hx hf 1 1 1 _ rfl rfl (by kernel_rfl) (bR Tryd.underlying3)
  obtain⟨b2,o2,r2⟩:=bC hx hf 2 2 1 _ rfl rfl (by kernel_rfl) (bR Tryd.underlying3)
  exact⟨⟨b0,b1,b2⟩,⟨o0,o1,o2⟩,tN hl (bJ r0 (bJ r1 (bJ r2 (mC hl))))⟩
def aR.ok(s:aR):Prop:=aA.ok s.gJ/\aA.ok s.gG/\aA.ok s.gUp/\aA.ok s.gE/\(λx=>(Lit.int .i64 x).wf=true) s.gQ/\(λx=>(Lit.int .i64 x).wf=true) s.gP
theorem aR.opens : jB Tryd.prog 35 aR.enc aR.ok:=by
  intro H enc w spare fuel cs x h;obtain⟨xs,n,_,_,hl,hx,hf⟩:=DataW.trod_struct Tryd.underlying35 h;have hl:cs.length=14:=hl.trans (by kernel_rfl)
  obtain⟨b0,o0,r0⟩:=bC hx hf 0 0 3 _ rfl rfl (by kernel_rfl) aA.opens;obtain⟨b1,o1,r1⟩:=bC hx hf 1 3 3 _ rfl rfl (by kernel_rfl) aA.opens;obtain⟨b2,o2,r2⟩:=bC hx hf 2 6 3 _ rfl rfl (by kernel_rfl) aA.opens;obtain⟨b3,o3,r3⟩:=bC hx hf 3 9 3 _ rfl rfl (by kernel_rfl) aA.opens;obtain⟨b4,o4,r4⟩:=bC hx hf 4 12 1 _ rfl rfl (by kernel_rfl) (bR Tryd.underlying3)
  obtain⟨b5,o5,r5⟩:=bC hx hf 5 13 1 _ rfl rfl (by kernel_rfl) (bR Tryd.underlying3)
  exact⟨⟨b0,b1,b2,b3,b4,b5⟩,⟨o0,o1,o2,o3,o4,o5⟩,tN hl (bJ r0 (bJ r1 (bJ r2 (bJ r3 (bJ r4 (bJ r5 (mC hl)))))))⟩
def aP.ok(s:aP):Prop:=(λx=>(Lit.int .i64 x).wf=true) s.gW/\(λx=>(Lit.int .i64 x).wf=true) s.gH/\(λx=>(Lit.int .i64 x).wf=true) s.gA7/\(λx=>(Lit.int .i64 x).wf=true) s.gA6/\(λx=>(Lit.int .i64 x).wf=true) s.gA5/\(λx=>(Lit.int .u64 x).wf=true) s.gK/\aR.ok s.gA/\(λ_=>True) s.gA2
theorem aP.opens : jB Tryd.prog 37 aP.enc aP.ok:=by
  intro H enc w spare fuel cs x h;obtain⟨xs,n,_,_,hl,hx,hf⟩:=DataW.trod_struct Tryd.underlying37 h;have hl:cs.length=21:=hl.trans (by kernel_rfl)
  obtain⟨b0,o0,r0⟩:=bC hx hf 0 0 1 _ rfl rfl (by kernel_rfl) (bR Tryd.underlying3)
  obtain⟨b1,o1,r1⟩:=bC hx hf 1 1 1 _ rfl rfl (by kernel_rfl) (bR Tryd.underlying3)
  obtain⟨b2,o2,r2⟩:=bC hx hf 2 2 1 _ rfl rfl (by kernel_rfl) (bR Tryd.underlying3)
  obtain⟨b3,o3,r3⟩:=bC hx hf 3 3 1 _ rfl rfl (by kernel_rfl) (bR Tryd.underlying3)
  obtain⟨b4,o4,r4⟩:=bC hx hf 4 4 1 _ rfl rfl (by kernel_rfl) (bR Tryd.underlying3)
  obtain⟨b5,o5,r5⟩:=bC hx hf 5 5 1 _ rfl rfl (by kernel_rfl) (bR Tryd.underlying31)
  obtain⟨b6,o6,r6⟩:=bC hx hf 6 6 14 _ rfl rfl (by kernel_rfl) aR.opens;obtain⟨b7,o7,r7⟩:=bC hx hf 7 20 1 _ rfl rfl (by kernel_rfl) (aAo Tryd.underlying4)
  exact⟨⟨b0,b1,b2,b3,b4,b5,b6,b7⟩,⟨o0,o1,o2,o3,o4,o5,o6,o7⟩,tN hl (bJ r0 (bJ r1 (bJ r2 (bJ r3 (bJ r4 (bJ r5 (bJ r6 (bJ r7 (mC hl)))))))))⟩
def aD.ok(s:aD):Prop:=(λx=>(Lit.int .i64 x).wf=true) s.gD/\(λx=>(Lit.int .i64 x).wf=true) s.gS/\(λ(l:(List Int))=>l.length<=maxLen/\∀a∈l,(λx=>(Lit.int .u8 x).wf=true) a) s.gL/\aL.ok s.gC/\(λx=>(Lit.int .i64 x).wf=true) s.gF/\aP.ok s.gI/\(λx=>(Lit.int .i64 x).wf=true) s.gA4/\(λx=>(Lit.int .i64 x).wf=true) s.gU/\(λx=>(Lit.int .u32 x).wf=true) s.gA1/\(λx=>(Lit.int .i64 x).wf=true) s.gA3/\(λx=>(Lit.int .i64 x).wf=true) s.gA8
theorem aD.opens : jB Tryd.prog 40 aD.enc aD.ok:=by
  intro H enc w spare fuel cs x h;obtain⟨xs,n,_,_,hl,hx,hf⟩:=DataW.trod_struct Tryd.underlying40 h;have hl:cs.length=46:=hl.trans (by kernel_rfl)
  obtain⟨b0,o0,r0⟩:=bC hx hf 0 0 1 _ rfl rfl (by kernel_rfl) (bR Tryd.underlying3)
  obtain⟨b1,o1,r1⟩:=bC hx hf 1 1 1 _ rfl rfl (by kernel_rfl) (bR Tryd.underlying3)
  obtain⟨b2,o2,r2⟩:=bC hx hf 2 2 1 _ rfl rfl (by kernel_rfl) (yM (k:=1) Tryd.underlying22 (by kernel_rfl) (by decide) (λ_=>rfl) (bR Tryd.underlying5))
  obtain⟨b3,o3,r3⟩:=bC hx hf 3 3 16 _ rfl rfl (by kernel_rfl) aL.opens;obtain⟨b4,o4,r4⟩:=bC hx hf 4 19 1 _ rfl rfl (by kernel_rfl) (bR Tryd.underlying3)
  obtain⟨b5,o5,r5⟩:=bC hx hf 5 20 21 _ rfl rfl (by kernel_rfl) aP.opens;obtain⟨b6,o6,r6⟩:=bC hx hf 6 41 1 _ rfl rfl (by kernel_rfl) (bR Tryd.underlying3)
  obtain⟨b7,o7,r7⟩:=bC hx hf 7 42 1 _ rfl rfl (by kernel_rfl) (bR Tryd.underlying3)
  obtain⟨b8,o8,r8⟩:=bC hx hf 8 43 1 _ rfl rfl (by kernel_rfl) (bR Tryd.underlying38)
  obtain⟨b9,o9,r9⟩:=bC hx hf 9 44 1 _ rfl rfl (by kernel_rfl) (bR Tryd.underlying3)
  obtain⟨b10,o10,r10⟩:=bC hx hf 10 45 1 _ rfl rfl (by kernel_rfl) (bR Tryd.underlying3)
  exact⟨⟨b0,b1,b2,b3,b4,b5,b6,b7,b8,b9,b10⟩,⟨o0,o1,o2,o3,o4,o5,o6,o7,o8,o9,o10⟩,tN hl (bJ r0 (bJ r1 (bJ r2 (bJ r3 (bJ r4 (bJ r5 (bJ r6 (bJ r7 (bJ r8 (bJ r9 (bJ r10 (mC hl))))))))))))⟩
theorem aFF : jB Tryd.prog 9 eS (λs=>s.size<=maxLen):=(aBt Tryd.underlying9)
theorem aDk : jB Tryd.prog 40 aD.enc aD.ok:=aD.opens
end Go.UK
