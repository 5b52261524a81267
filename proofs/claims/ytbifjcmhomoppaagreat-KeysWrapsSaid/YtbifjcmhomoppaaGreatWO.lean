/- A part of the proof: what the functions of the program compute. -/
import Derived.Test.YtbifjcmhomoppaaGreatWT
namespace Go.UK
open Go Go.Proofs
set_option maxRecDepth 20000
set_option maxHeartbeats 40000000
set_option linter.all false
def aE.ok(s:aE):Prop:=(λx=>(Lit.int .u64 x).wf=true) s.gId/\(λx=>(Lit.int .i64 x).wf=true) s.gD/\(λx=>(Lit.int .u32 x).wf=true) s.gA6/\(λ(v:(Vector Int 8))=>∀a∈v.toList,(λx=>(Lit.int .u8 x).wf=true) a) s.gA3/\(λx=>(Lit.int .u32 x).wf=true) s.gA4/\(λx=>(Lit.int .u32 x).wf=true) s.gTo/\(λx=>(Lit.int .i64 x).wf=true) s.gA0/\(λx=>(Lit.int .i64 x).wf=true) s.gA7
theorem aE.opens : yJ Tryz.prog 27 aE.enc aE.ok:=by
  intro H enc w spare fuel cs x h;obtain⟨xs,n,_,_,hl,hx,hf⟩:=DataW.trod_struct Tryz.underlying27 h;have hl:cs.length=15:=hl.trans (by kernel_rfl)
  obtain⟨b0,o0,r0⟩:=cG hx hf 0 0 1 _ rfl rfl (by kernel_rfl) (eG Tryz.underlying23)
  obtain⟨b1,o1,r1⟩:=cG hx hf 1 1 1 _ rfl rfl (by kernel_rfl) (eG Tryz.underlying3)
  obtain⟨b2,o2,r2⟩:=cG hx hf 2 2 1 _ rfl rfl (by kernel_rfl) (eG Tryz.underlying24)
  obtain⟨b3,o3,r3⟩:=cG hx hf 3 3 8 _ rfl rfl (by kernel_rfl) (uE (n:=8) (k:=1) (m:=8) Tryz.underlying25 (by kernel_rfl) (by kernel_rfl) rfl (λ_=>rfl) (eG Tryz.underlying5))
  obtain⟨b4,o4,r4⟩:=cG hx hf 4 11 1 _ rfl rfl (by kernel_rfl) (eG Tryz.underlying24)
  obtain⟨b5,o5,r5⟩:=cG hx hf 5 12 1 _ rfl rfl (by kernel_rfl) (eG Tryz.underlying24)
  obtain⟨b6,o6,r6⟩:=cG hx hf 6 13 1 _ rfl rfl (by kernel_rfl) (eG Tryz.underlying3)
  obtain⟨b7,o7,r7⟩:=cG hx hf 7 14 1 _ rfl rfl (by kernel_rfl) (eG Tryz.underlying3)
  exact⟨⟨b0,b1,b2,b3,b4,b5,b6,b7⟩,⟨o0,o1,o2,o3,o4,o5,o6,o7⟩,aFu hl (dD r0 (dD r1 (dD r2 (dD r3 (dD r4 (dD r5 (dD r6 (dD r7 (aAZ hl)))))))))⟩
def bU.ok(s:bU):Prop:=(λ(v:(Vector Int 32))=>∀a∈v.toList,(λx=>(Lit.int .u8 x).wf=true) a) s.gA8/\(λx=>(Lit.int .i64 x).wf=true) s.gId/\(λx=>(Lit.int .i64 x).wf=true) s.gA9/\aE.ok s.gM
theorem bU.opens : yJ Tryz.prog 29 bU.enc bU.ok:=by
  intro H enc w spare fuel cs x h;obtain⟨xs,n,_,_,hl,hx,hf⟩:=DataW.trod_struct Tryz.underlying29 h;have hl:cs.length=49:=hl.trans (by kernel_rfl)
  obtain⟨b0,o0,r0⟩:=cG hx hf 0 0 32 _ rfl rfl (by kernel_rfl) (uE (n:=32) (k:=1) (m:=32) Tryz.underlying22 (by kernel_rfl) (by kernel_rfl) rfl (λ_=>rfl) (eG Tryz.underlying5))
  obtain⟨b1,o1,r1⟩:=cG hx hf 1 32 1 _ rfl rfl (by kernel_rfl) (eG Tryz.underlying3)
  obtain⟨b2,o2,r2⟩:=cG hx hf 2 33 1 _ rfl rfl (by kernel_rfl) (eG Tryz.underlying3)
  obtain⟨b3,o3,r3⟩:=cG hx hf 3 34 15 _ rfl rfl (by kernel_rfl) aE.opens;exact⟨⟨b0,b1,b2,b3⟩,⟨o0,o1,o2,o3⟩,aFu hl (dD r0 (dD r1 (dD r2 (dD r3 (aAZ hl)))))⟩
def aB.ok(s:aB):Prop:=(λx=>(Lit.int .i64 x).wf=true) s.gX/\(λx=>(Lit.int .i64 x).wf=true) s.gY/\(λx=>(Lit.int .i64 x).wf=true) s.gZ
theorem aB.opens : yJ Tryz.prog 41 aB.enc aB.ok:=by
  intro H enc w spare fuel cs x h;obtain⟨xs,n,_,_,hl,hx,hf⟩:=DataW.trod_struct Tryz.underlying41 h;have hl:cs.length=3:=hl.trans (by kernel_rfl)
  obtain⟨b0,o0,r0⟩:=cG hx hf 0 0 1 _ rfl rfl (by kernel_rfl) (eG Tryz.underlying3)
  obtain⟨b1,o1,r1⟩:=cG hx hf 1 1 1 _ rfl rfl (by kernel_rfl) (eG Tryz.underlying3)
  obtain⟨b2,o2,r2⟩:=cG hx hf 2 2 1 _ rfl rfl (by kernel_rfl) (eG Tryz.underlying3)
  exact⟨⟨b0,b1,b2⟩,⟨o0,o1,o2⟩,aFu hl (dD r0 (dD r1 (dD r2 (aAZ hl))))⟩
def aL.ok(s:aL):Prop:=(λ(l:(List aB))=>l.length<=maxLen/\∀a∈l,aB.ok a) s.gG/\(λ(l:(List (Vector Int 2)))=>l.length<=maxLen/\∀a∈l,(λ(v:(Vector Int 2))=>∀a∈v.toList,(λx=>(Lit.int .i64 x).wf=true) a) a) s.gO/\(λ(l:(List (Vector Int 3)))=>l.length<=maxLen/\∀a∈l,(λ(v:(Vector Int 3))=>∀a∈v.toList,(λx=>(Lit.int .i64 x).wf=true) a) a) s.gK
theorem aL.opens : yJ Tryz.prog 34 aL.enc aL.ok:=by
  intro H enc w spare fuel cs x h;obtain⟨xs,n,_,_,hl,hx,hf⟩:=DataW.trod_struct Tryz.underlying34 h;have hl:cs.length=3:=hl.trans (by kernel_rfl)
  obtain⟨b0,o0,r0⟩:=cG hx hf 0 0 1 _ rfl rfl (by kernel_rfl) (aAp (k:=3) Tryz.underlying30 (by kernel_rfl) (by decide) (λ_=>rfl) aB.opens)
  obtain⟨b1,o1,r1⟩:=cG hx hf 1 1 1 _ rfl rfl (by kernel_rfl) (aAp (k:=2) Tryz.underlying31 (by kernel_rfl) (by decide) (λ_=>rfl) (uE (n:=2) (k:=1) (m:=2) Tryz.underlying128 (by kernel_rfl) (by kernel_rfl) rfl (λ_=>rfl) (eG Tryz.underlying3)))
  obtain⟨b2,o2,r2⟩:=cG hx hf 2 2 1 _ rfl rfl (by kernel_rfl) (aAp (k:=3) Tryz.underlying32 (by kernel_rfl) (by decide) (λ_=>rfl) (uE (n:=3) (k:=1) (m:=3) Tryz.underlying37 (by kernel_rfl) (by kernel_rfl) rfl (λ_=>rfl) (eG Tryz.underlying3)))
  exact⟨⟨b0,b1,b2⟩,⟨o0,o1,o2⟩,aFu hl (dD r0 (dD r1 (dD r2 (aAZ hl))))⟩
def aI.ok(s:aI):Prop:=(λx=>(Lit.int .i64 x).wf=true) s.gQ/\(λ(l:(List (Vector Int 3)))=>l.length<=maxLen/\∀a∈l,(λ(v:(Vector Int 3))=>∀a∈v.toList,(λx=>(Lit.int .i64 x).wf=true) a) a) s.gL
theorem aI.opens : yJ Tryz.prog 36 aI.enc aI.ok:=by
  intro H enc w spare fuel cs x h;obtain⟨xs,n,_,_,hl,hx,hf⟩:=DataW.trod_struct Tryz.underlying36 h;have hl:cs.length=2:=hl.trans (by kernel_rfl)
  obtain⟨b0,o0,r0⟩:=cG hx hf 0 0 1 _ rfl rfl (by kernel_rfl) (eG Tryz.underlying3)
  obtain⟨b1,o1,r1⟩:=cG hx hf 1 1 1 _ rfl rfl (by kernel_rfl) (aAp (k:=3) Tryz.underlying32 (by kernel_rfl) (by decide) (λ_=>rfl) (uE (n:=3) (k:=1) (m:=3) Tryz.underlying37 (by kernel_rfl) (by kernel_rfl) rfl (λ_=>rfl) (eG Tryz.underlying3)))
  exact⟨⟨b0,b1⟩,⟨o0,o1⟩,aFu hl (dD r0 (dD r1 (aAZ hl)))⟩
def aG.ok(s:aG):Prop:=(λx=>(Lit.int .i64 x).wf=true) s.gD/\(λ(v:(Vector Int 3))=>∀a∈v.toList,(λx=>(Lit.int .i64 x).wf=true) a) s.gF/\(λx=>(Lit.int .i64 x).wf=true) s.gA5
theorem aG.opens : yJ Tryz.prog 39 aG.enc aG.ok:=by
  intro H enc w spare fuel cs x h;obtain⟨xs,n,_,_,hl,hx,hf⟩:=DataW.trod_struct Tryz.underlying39 h;have hl:cs.length=5:=hl.trans (by kernel_rfl)
  obtain⟨b0,o0,r0⟩:=cG hx hf 0 0 1 _ rfl rfl (by kernel_rfl) (eG Tryz.underlying3)
  obtain⟨b1,o1,r1⟩:=cG hx hf 1 1 3 _ rfl rfl (by kernel_rfl) (uE (n:=3) (k:=1) (m:=3) Tryz.underlying37 (by kernel_rfl) (by kernel_rfl) rfl (λ_=>rfl) (eG Tryz.underlying3))
  obtain⟨b2,o2,r2⟩:=cG hx hf 2 4 1 _ rfl rfl (by kernel_rfl) (eG Tryz.underlying3)
  exact⟨⟨b0,b1,b2⟩,⟨o0,o1,o2⟩,aFu hl (dD r0 (dD r1 (dD r2 (aAZ hl))))⟩
def aK.ok(s:aK):Prop:=(λx=>(Lit.int .i64 x).wf=true) s.gD/\(λ(v:(Vector Int 3))=>∀a∈v.toList,(λx=>(Lit.int .i64 x).wf=true) a) s.gF/\aB.ok s.gAt/\aB.ok s.gU/\aB.ok s.gV
theorem aK.opens : yJ Tryz.prog 43 aK.enc aK.ok:=by
  intro H enc w spare fuel cs x h;obtain⟨xs,n,_,_,hl,hx,hf⟩:=DataW.trod_struct Tryz.underlying43 h;have hl:cs.length=13:=hl.trans (by kernel_rfl)
  obtain⟨b0,o0,r0⟩:=cG hx hf 0 0 1 _ rfl rfl (by kernel_rfl) (eG Tryz.underlying3)
  obtain⟨b1,o1,r1⟩:=cG hx hf 1 1 3 _ rfl rfl (by kernel_rfl) (uE (n:=3) (k:=1) (m:=3) Tryz.underlying37 (by kernel_rfl) (by kernel_rfl) rfl (λ_=>rfl) (eG Tryz.underlying3))
  obtain⟨b2,o2,r2⟩:=cG hx hf 2 4 3 _ rfl rfl (by kernel_rfl) aB.opens;obtain⟨b3,o3,r3⟩:=cG hx hf 3 7 3 _ rfl rfl (by kernel_rfl) aB.opens;obtain⟨b4,o4,r4⟩:=cG hx hf 4 10 3 _ rfl rfl (by kernel_rfl) aB.opens;exact⟨⟨b0,b1,b2,b3,b4⟩,⟨o0,o1,o2,o3,o4⟩,aFu hl (dD r0 (dD r1 (dD r2 (dD r3 (dD r4 (aAZ hl))))))⟩
def aF.ok(s:aF):Prop:=(λx=>(Lit.int .i64 x).wf=true) s.gD/\aL.ok s.gW/\aI.ok s.gA1/\aG.ok s.gJ/\aK.ok s.gE
theorem aF.opens : yJ Tryz.prog 45 aF.enc aF.ok:=by
  intro H enc w spare fuel cs x h;obtain⟨xs,n,_,_,hl,hx,hf⟩:=DataW.trod_struct Tryz.underlying45 h;have hl:cs.length=24:=hl.trans (by kernel_rfl)
  obtain⟨b0,o0,r0⟩:=cG hx hf 0 0 1 _ rfl rfl (by kernel_rfl) (eG Tryz.underlying3)
  obtain⟨b1,o1,r1⟩:=cG hx hf 1 1 3 _ rfl rfl (by kernel_rfl) aL.opens;obtain⟨b2,o2,r2⟩:=cG hx hf 2 4 2 _ rfl rfl (by kernel_rfl) aI.opens;obtain⟨b3,o3,r3⟩:=cG hx hf 3 6 5 _ rfl rfl (by kernel_rfl) aG.opens;obtain⟨b4,o4,r4⟩:=cG hx hf 4 11 13 _ rfl rfl (by kernel_rfl) aK.opens;exact⟨⟨b0,b1,b2,b3,b4⟩,⟨o0,o1,o2,o3,o4⟩,aFu hl (dD r0 (dD r1 (dD r2 (dD r3 (dD r4 (aAZ hl))))))⟩
theorem aQ9 : yJ Tryz.prog 29 bU.enc bU.ok:=bU.opens
theorem aPU : yJ Tryz.prog 45 aF.enc aF.ok:=aF.opens
end Go.UK
