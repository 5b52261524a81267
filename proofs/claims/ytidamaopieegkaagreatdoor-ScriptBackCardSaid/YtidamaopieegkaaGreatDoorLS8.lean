/- A part of the proof: what the functions of the program compute. -/
import Derived.Test.YtidamaopieegkaaGreatDoorJ3
import Derived.Test.YtidamaopieegkaaGreatDoorSO
import Derived.Test.YtidamaopieegkaaGreatDoorR0E
namespace Go.UK
open Go Go.Proofs
set_option maxRecDepth 20000
set_option linter.all false
theorem wfB{x:Int}(h:(Lit.int .u8 x).wf=true):isB x:=by
 simp[Lit.wf,IntKind.min,IntKind.max,show IntKind.u8.signed=false from rfl,show IntKind.u8.bits=8 from rfl] at h;unfold isB;omega
theorem wf32{x:Int}(h:(Lit.int .u32 x).wf=true):0<=x/\x < 4294967296:=by
 simp[Lit.wf,IntKind.min,IntKind.max,show IntKind.u32.signed=false from rfl,show IntKind.u32.bits=32 from rfl] at h;omega
theorem wf64{x:Int}(h:(Lit.int .u64 x).wf=true):0<=x/\x < 18446744073709551616:=by
 simp[Lit.wf,IntKind.min,IntKind.max,show IntKind.u64.signed=false from rfl,show IntKind.u64.bits=64 from rfl] at h;omega
theorem ptw{p:aG}(h:p.ok):p64 p:=⟨dO h.1,dO h.2.1,dO h.2.2⟩
theorem vww{v:aD}(h:v.ok):V64 v:=by
 obtain⟨h1,h2,h3,h4,h5,h6,⟨c1,c2,c3,c4,c5,c6⟩,_⟩:=h;exact⟨dO h1,dO h2,dO h3,dO h4,dO h5,wf64 h6,ptw c1,ptw c2,ptw c3,ptw c4,dO c5,dO c6⟩
theorem opw{o:aF}(h:o.ok):O64 o:=by
 obtain⟨h1,h2,h3,⟨i1,i2,i3,i4,i5,i6,i7,i8⟩,h5,h6,h7,h8,h9,h10,h11⟩:=h;exact⟨dO h1,dO h2,dO i1,dO i2,dO i3,dO i4,λx hx=>dO (i5 x hx),dO i6,dO i7,dO i8,dO h5,vww h6,dO h7,dO h8,wf32 h9,dO h10,dO h11,by have:=h3.1.2;omega⟩
theorem aAO(l:List aF)(ol:(l.length<=maxLen/\l.length*384<=140737488351232)/\∀o∈l,o.ok)(b:List Int)(ob:(b.length<=maxLen/\b.length*1<=140737488351232)/\∀a∈b,(Lit.int .u8 a).wf=true):FnM Tryz.prog 4 [] [eL 46 aF.enc l,eL 1 k8 b] (eB true) []:=
 oE (aBA 100000 (by decide) aGO l (λo h=>opw (ol.2 o h)) (λo h x hx=>wfB ((ol.2 o h).2.2.1.2 x hx)) b (λx hx=>wfB (ob.2 x hx)))
end Go.UK
