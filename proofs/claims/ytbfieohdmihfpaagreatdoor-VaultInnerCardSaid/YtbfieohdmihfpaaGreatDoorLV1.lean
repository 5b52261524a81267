/- A part of the proof: what the functions of the program compute. -/
import Derived.MakeChecks
import Derived.Test.YtbfieohdmihfpaaGreatDoorJ6
import Derived.Test.YtbfieohdmihfpaaGreatDoorVO
import Derived.Test.YtbfieohdmihfpaaGreatDoorR0M
open List renaming getElem?_eq_getElem→af,getElem?_map→ci
namespace Go.UK
open Go Go.Proofs
set_option maxRecDepth 20000
set_option linter.all false
theorem wfB{x:Int}(h:(Lit.int .u8 x).wf=true):isB x:=by
 simp[Lit.wf,IntKind.min,IntKind.max,IntKind.signed,IntKind.bits] at h;unfold isB;omega
theorem wfW{x:Int}(h:(Lit.int .u32 x).wf=true):isW x:=by
 simp[Lit.wf,IntKind.min,IntKind.max,IntKind.signed,IntKind.bits] at h;unfold isW;omega
theorem wfU{x:Int}(h:(Lit.int .u64 x).wf=true):isU x:=by
 simp[Lit.wf,IntKind.min,IntKind.max,IntKind.signed,IntKind.bits] at h;unfold isU;omega
theorem wfV{m:Nat}{v:Vector Int m}(h:∀a∈v.toList,(Lit.int .u8 a).wf=true):fJ v:=λa ha=>wfB (h a ha)
theorem manOk{m:aF}(h:aF.ok m):aHD m:=by
 obtain⟨h1,h2,h3,h4,h5,h6,h7,h8⟩:=h;exact⟨wfU h1,aJT h2,wfW h3,wfV h4,wfW h5,wfW h6,aJT h7,aJT h8⟩
theorem aKC(a0:Vector Int 32)(o0:∀a∈a0.toList,(Lit.int .u8 a).wf=true)(a1:List Int){B:Prop}(o1:B/\∀a∈a1,(Lit.int .u8 a).wf=true)(a2:bM)(o2:a2.ok):FnM Tryz.prog 3 [] [eA 32 1 k8 a0,eL 1 k8 a1,a2.enc] (eB true) []:=
 zY (aK1 80000 (by decide) aTV (wfV o0) (λx hx=>wfB (o1.2 x hx)) a2 (manOk o2.2.2.1))
def aUL : List (String×DataW Unit):=[("internal/strconv.uint64pow10",.agg (Lib.pow10Tab.map λz => .lit (.int .u64 z)))]
theorem aMv{W:World}(h:laidMetH Tryz.prog aUL W):aJ2 W:=by
 rw[MakeChecks.laidMetH_plain _ _ _ (by kernel_rfl)] at h;obtain⟨ps,⟨g,t,cs,fuel,p,q,hg,ht,hv,hd,_,_⟩,_,_⟩:=h;obtain rfl:=Option.some.inj ((show Tryz.prog.globalNamed "internal/strconv.uint64pow10" = some 5 by kernel_rfl).symm.trans hg)
 obtain rfl:=Option.some.inj ((show(Tryz.prog.globals[5]?).map (·.type)=some 330 by kernel_rfl).symm.trans ht)
 obtain⟨xs,m,_,ex,hcl,hl,hel⟩:=DataW.trod_array (n:=20) (e:=24) (by kernel_rfl) hd;have c5:Tryz.prog.cellsOf 24=1:=by kernel_rfl
 have c6:Tryz.prog.cellsOf 330=20:=by kernel_rfl
 have e3:(xs.map (·.1))=Lib.pow10Tab.map λn => .lit (.int .u64 n):=(DataW.agg.inj (Prod.mk.inj ex).1).symm;have hcs:cs.toList=aAy .u64 Lib.pow10Tab:=by
  refine List.ext_getElem (by rw[hcl,c6];rfl) λi h1 h2=>?_;have hi:i < 20:=by rw[hcl,c6] at h1;exact h1
  have hE:=hel i hi;rw[c5,Nat.mul_one,af (by omega)] at hE;obtain⟨z,e1,e2,_⟩:=DataW.trod_int (k := .u64) (by kernel_rfl) hE;have e4:(xs.map (·.1))[i]? = (Lib.pow10Tab.map λn=>(DataW.lit (.int .u64 n):DataW Unit))[i]? := by rw[e3]
  have hlen:Lib.pow10Tab.length=20:=by kernel_rfl
  rw[ci,ci,af (by omega:i < xs.length),af (by omega:i < Lib.pow10Tab.length),e2] at e4;simp only[Option.map_some,Option.some.injEq,DataW.lit.injEq,Lit.int.injEq,true_and] at e4;have h0:((cs.toList.drop i).take 1)[0]? = some (.int .u64 z):=by rw[e1];rfl
  have h3:cs.toList[i]? = some (.int .u64 z):=by simpa using h0
  rw[af h1] at h3;rw[Option.some.inj h3,e4]
  exact(List.getElem_map (λz=>Value.int .u64 z)).symm
 intro g hgm;obtain rfl:g=(5,aAy .u64 Lib.pow10Tab):=by
  have:g∈[(5,aAy .u64 Lib.pow10Tab)]:=hgm;exact List.mem_singleton.1 this
 unfold World.var? at hv;rw[show Tryz.prog.globalNamed "internal/strconv.uint64pow10" = some 5 by kernel_rfl,Option.bind_some] at hv;have hg:aNG (aAy .u64 Lib.pow10Tab) cs:=by
  have:cs=(aAy .u64 Lib.pow10Tab).toArray:=by rw[<- hcs,Array.toArray_toList]
  rw[this]
  show _=_;rfl
 show ∃ys T fr,W.heap[5]? = some (.cells ys T fr)/\aNG (aAy .u64 Lib.pow10Tab) ys;split at hv
 ·next c T fr e=>
  cases hv;exact⟨_,T,fr,e,hg⟩
 ·cases hv
end Go.UK
