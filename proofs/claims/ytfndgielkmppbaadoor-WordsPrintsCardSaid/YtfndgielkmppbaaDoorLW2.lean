/- A part of the proof: what the functions of the program compute. -/
import Derived.MakeChecks
import Derived.Test.YtfndgielkmppbaaDoorJ3
import Derived.Test.YtfndgielkmppbaaDoorPO
import Derived.Test.YtfndgielkmppbaaDoorR0W
open List renaming getElem?_eq_getElem→af,getElem?_map→bp
namespace Go.UK
open Go Go.Proofs
set_option maxRecDepth 20000
set_option linter.all false
theorem wfB{x:Int}(h:(Lit.int .u8 x).wf=true):isB x:=by
 simp[Lit.wf,IntKind.min,IntKind.max,show IntKind.u8.signed=false from rfl,show IntKind.u8.bits=8 from rfl] at h;unfold isB;omega
theorem wf32{x:Int}(h:(Lit.int .u32 x).wf=true):0<=x/\x < 4294967296:=by
 simp[Lit.wf,IntKind.min,IntKind.max,show IntKind.u32.signed=false from rfl,show IntKind.u32.bits=32 from rfl] at h;omega
theorem wf64{x:Int}(h:(Lit.int .u64 x).wf=true):0<=x/\x < 18446744073709551616:=by
 simp[Lit.wf,IntKind.min,IntKind.max,show IntKind.u64.signed=false from rfl,show IntKind.u64.bits=64 from rfl] at h;omega
theorem pt64{p:aC}(h:p.ok):p64 p:=⟨cO h.1,cO h.2.1,cO h.2.2⟩
theorem aFH{v:aY}(h:v.ok):V64 v:=by
 obtain⟨h1,h2,h3,h4,h5,h6,⟨c1,c2,c3,c4,c5,c6⟩,_⟩:=h;exact⟨cO h1,cO h2,cO h3,cO h4,cO h5,wf64 h6,pt64 c1,pt64 c2,pt64 c3,pt64 c4,cO c5,cO c6⟩
theorem op64{o:aF}(h:o.ok)(n:Nat)(hn:n<=1000000):O64 { o with gL:=o.gL.take n }:=by
 obtain⟨h1,h2,h3,⟨i1,i2,i3,i4,i5,i6,i7,i8⟩,h5,h6,h7,h8,h9,h10,h11⟩:=h;exact⟨cO h1,cO h2,cO i1,cO i2,cO i3,cO i4,λx hx=>cO (i5 x hx),cO i6,cO i7,cO i8,cO h5,aFH h6,cO h7,cO h8,wf32 h9,cO h10,cO h11,by show(o.gL.take n).length<=1000000;rw[List.length_take];omega⟩
theorem vK(a:aF)(oa:a.ok)(r:bL)(o1:r.ok):FnM Tryd.prog 4 [] [a.enc,r.enc] (eB true) []:=
 lM (xE 100000 (by decide) aD6 a (op64 oa 300 (by decide)) (λx hx=>wfB (oa.2.2.1.2 x hx)) r (λx hx=>cO (o1.2.1.2 x hx)) (λx hx=>wfB (o1.2.2.2 x hx)))
def aEw : List (String×DataW Unit):=[("internal/strconv.uint64pow10",.agg (Lib.pow10Tab.map λz => .lit (.int .u64 z)))]
theorem aAr{W:World}(h:laidMetH Tryd.prog aEw W):xC W:=by
 rw[MakeChecks.laidMetH_plain _ _ _ (by kernel_rfl)] at h;obtain⟨ps,⟨g,t,cs,fuel,p,q,hg,ht,hv,hd,_,_⟩,_,_⟩:=h;obtain rfl:=Option.some.inj ((show Tryd.prog.globalNamed "internal/strconv.uint64pow10" = some 1 by kernel_rfl).symm.trans hg)
 obtain rfl:=Option.some.inj ((show(Tryd.prog.globals[1]?).map (·.type)=some 145 by kernel_rfl).symm.trans ht)
 obtain⟨xs,m,_,ex,hcl,hl,hel⟩:=DataW.trod_array (n:=20) (e:=31) (by kernel_rfl) hd;have c5:Tryd.prog.cellsOf 31=1:=by kernel_rfl
 have c6:Tryd.prog.cellsOf 145=20:=by kernel_rfl
 have e3:(xs.map (·.1))=Lib.pow10Tab.map λn => .lit (.int .u64 n):=(DataW.agg.inj (Prod.mk.inj ex).1).symm;have hcs:cs.toList=rW .u64 Lib.pow10Tab:=by
  refine List.ext_getElem (by rw[hcl,c6];rfl) λi h1 h2=>?_;have hi:i < 20:=by rw[hcl,c6] at h1;exact h1
  have hE:=hel i hi;rw[c5,Nat.mul_one,af (by omega)] at hE;obtain⟨z,e1,e2,_⟩:=DataW.trod_int (k := .u64) (by kernel_rfl) hE;have e4:(xs.map (·.1))[i]? = (Lib.pow10Tab.map λn=>(DataW.lit (.int .u64 n):DataW Unit))[i]? := by rw[e3]
  have hlen:Lib.pow10Tab.length=20:=by kernel_rfl
  rw[bp,bp,af (by omega:i < xs.length),af (by omega:i < Lib.pow10Tab.length),e2] at e4;simp only[Option.map_some,Option.some.injEq,DataW.lit.injEq,Lit.int.injEq,true_and] at e4;have h0:((cs.toList.drop i).take 1)[0]? = some (.int .u64 z):=by rw[e1];rfl
  have h3:cs.toList[i]? = some (.int .u64 z):=by simpa using h0
  rw[af h1] at h3;rw[Option.some.inj h3,e4]
  exact(List.getElem_map (λz=>Value.int .u64 z)).symm
 intro g hgm;obtain rfl:g=(1,rW .u64 Lib.pow10Tab):=by
  have:g∈[(1,rW .u64 Lib.pow10Tab)]:=hgm;exact List.mem_singleton.1 this
 unfold World.var? at hv;rw[show Tryd.prog.globalNamed "internal/strconv.uint64pow10" = some 1 by kernel_rfl,Option.bind_some] at hv;show ∃T fr,W.heap[1]? = some (.cells (rW .u64 Lib.pow10Tab).toArray T fr)
 rw[<- hcs,Array.toArray_toList]
 split at hv
 ·next c T fr e=>
  cases hv;exact⟨T,fr,e⟩
 ·cases hv
end Go.UK
