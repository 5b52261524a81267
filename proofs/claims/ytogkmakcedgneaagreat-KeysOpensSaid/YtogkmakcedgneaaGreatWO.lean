/- A part of the proof: what the functions of the program compute. -/
import Derived.Test.YtogkmakcedgneaaGreatWT
namespace Go.UK
open Go Go.Proofs
set_option maxRecDepth 20000
set_option maxHeartbeats 40000000
set_option linter.all false
def bF.ok(s:bF):Prop:=(λx=>(Lit.int .i64 x).wf=true) s.gA/\(λx=>(Lit.int .i64 x).wf=true) s.gId/\(λx=>(Lit.int .i64 x).wf=true) s.gA5
theorem bF.opens : aCv Tryz.prog 32 bF.enc bF.ok:=by
  intro H enc w spare fuel cs x h hwt;obtain⟨xs,n,_,rfl,hl,hx,hf⟩:=DataW.trod_struct Tryz.underlying32 h;have hwt:=aPf Tryz.underlying32 hwt;have hl:cs.length=3:=hl.trans (by kernel_rfl)
  obtain⟨b0,o0,r0⟩:=aFt hx hf 0 0 1 _ rfl rfl (by kernel_rfl) (aBa Tryz.underlying3) hwt;obtain⟨b1,o1,r1⟩:=aFt hx hf 1 1 1 _ rfl rfl (by kernel_rfl) (aBa Tryz.underlying3) hwt;obtain⟨b2,o2,r2⟩:=aFt hx hf 2 2 1 _ rfl rfl (by kernel_rfl) (aBa Tryz.underlying3) hwt;exact⟨⟨b0,b1,b2⟩,⟨o0,o1,o2⟩,rc_st hl (aIj r0 (aIj r1 (aIj r2 (aTx hl))))⟩
theorem aRZ : aCv Tryz.prog 22 (eA 32 1 k8) (λ(v:(Vector Int 32))=>∀a∈v.toList,(λx=>(Lit.int .u8 x).wf=true) a):=(aMO (n:=32) (k:=1) (m:=32) Tryz.underlying22 (by kernel_rfl) (by kernel_rfl) rfl (λ_=>rfl) (aBa Tryz.underlying5))
theorem aRc : aCv Tryz.prog 23 (eL 3 bF.enc) (λ(l:(List bF))=>(l.length<=maxLen/\l.length*24<=140737488351232)/\∀a∈l,bF.ok a):=(aGp (k:=3) Tryz.underlying23 (by kernel_rfl) (by kernel_rfl) (by decide) (λ_=>rfl) bF.opens)
theorem aR9 : aCv Tryz.prog 24 (eL 1 k8) (λ(l:(List Int))=>(l.length<=maxLen/\l.length*1<=140737488351232)/\∀a∈l,(λx=>(Lit.int .u8 x).wf=true) a):=(aGp (k:=1) Tryz.underlying24 (by kernel_rfl) (by kernel_rfl) (by decide) (λ_=>rfl) (aBa Tryz.underlying5))
end Go.UK
