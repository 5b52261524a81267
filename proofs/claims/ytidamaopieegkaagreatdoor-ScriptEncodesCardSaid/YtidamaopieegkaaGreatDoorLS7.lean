/- A part of the proof: what the functions of the program compute. -/
import Derived.Test.YtidamaopieegkaaGreatDoorJ3
import Derived.Test.YtidamaopieegkaaGreatDoorSO
import Derived.Test.YtidamaopieegkaaGreatDoorR0E
namespace Go.UK
open Go Go.Proofs
set_option maxRecDepth 20000
set_option linter.all false
theorem wf32{x:Int}(h:(Lit.int .u32 x).wf=true):0<=x/\x < 4294967296:=by
 simp[Lit.wf,IntKind.min,IntKind.max,show IntKind.u32.signed=false from rfl,show IntKind.u32.bits=32 from rfl] at h;omega
theorem wf64{x:Int}(h:(Lit.int .u64 x).wf=true):0<=x/\x < 18446744073709551616:=by
 simp[Lit.wf,IntKind.min,IntKind.max,show IntKind.u64.signed=false from rfl,show IntKind.u64.bits=64 from rfl] at h;omega
theorem ptw{p:aF}(h:p.ok):p64 p:=⟨dD h.1,dD h.2.1,dD h.2.2⟩
theorem vww{v:aB}(h:v.ok):V64 v:=by
 obtain⟨h1,h2,h3,h4,h5,h6,⟨c1,c2,c3,c4,c5,c6⟩,_⟩:=h;exact⟨dD h1,dD h2,dD h3,dD h4,dD h5,wf64 h6,ptw c1,ptw c2,ptw c3,ptw c4,dD c5,dD c6⟩
theorem opw{o:aL}(h:o.ok):O64 o:=by
 obtain⟨h1,h2,h3,⟨i1,i2,i3,i4,i5,i6,i7,i8⟩,h5,h6,h7,h8,h9,h10,h11⟩:=h;exact⟨dD h1,dD h2,dD i1,dD i2,dD i3,dD i4,λx hx=>dD (i5 x hx),dD i6,dD i7,dD i8,dD h5,vww h6,dD h7,dD h8,wf32 h9,dD h10,dD h11,by have:=h3.1.2;omega⟩
theorem wX(l:List aL)(ol:(l.length<=maxLen/\l.length*384<=140737488351232)/\∀o∈l,o.ok)(r:aU)(o1:r.ok):FnM Tryz.prog 3 [] [eL 46 aL.enc l,r.enc] (eB true) []:=
 nL (yS 100000 (by decide) aGb l (λo h=>opw (ol.2 o h)) r (λx hx=>dD (o1.2.1.2 x hx)))
end Go.UK
