/- A part of the proof: what the functions of the program compute. -/
import Derived.MakeChecks
import Derived.Test.YtfndgielkmppbaaDoorJ4
import Derived.Test.YtfndgielkmppbaaDoorPO
import Derived.Test.YtfndgielkmppbaaDoorR0V
open Array renaming toArray_toList→d8
open List renaming getElem?_eq_getElem→af,getElem?_map→bq
namespace Go.UK
open Go Go.Proofs
set_option maxRecDepth 20000
set_option linter.all false
theorem wfB{x:Int}(h:(Lit.int .u8 x).wf=true):isB x:=by
 simp[Lit.wf,IntKind.min,IntKind.max,show IntKind.u8.signed=false from rfl,show IntKind.u8.bits=8 from rfl] at h;unfold isB;omega
theorem wf32{x:Int}(h:(Lit.int .u32 x).wf=true):0<=x/\x < 4294967296:=by
 simp[Lit.wf,IntKind.min,IntKind.max,show IntKind.u32.signed=false from rfl,show IntKind.u32.bits=32 from rfl] at h;omega
theorem wf64{x:Int}(h:(Lit.int .u64 x).wf=true):0<=x/\x < 18446744073709551616:=by
 simp[Lit.wf,IntKind.min,IntKind.max,show IntKind.u64.signed=false from rfl,show IntKind.u64.bits=64 from rfl] at h;omega
theorem pt64{p:aA}(h:p.ok):p64 p:=⟨cR h.1,cR h.2.1,cR h.2.2⟩
theorem aFn{v:aP}(h:v.ok):V64 v:=by
 obtain⟨h1,h2,h3,h4,h5,h6,⟨c1,c2,c3,c4,c5,c6⟩,_⟩:=h;exact⟨cR h1,cR h2,cR h3,cR h4,cR h5,wf64 h6,pt64 c1,pt64 c2,pt64 c3,pt64 c4,cR c5,cR c6⟩
theorem op64{o:aD}(h:o.ok)(n:Nat)(hn:n<=1000000):O64 { o with gL:=o.gL.take n }:=by
 obtain⟨h1,h2,h3,⟨i1,i2,i3,i4,i5,i6,i7,i8⟩,h5,h6,h7,h8,h9,h10,h11⟩:=h;exact⟨cR h1,cR h2,cR i1,cR i2,cR i3,cR i4,λx hx=>cR (i5 x hx),cR i6,cR i7,cR i8,cR h5,aFn h6,cR h7,cR h8,wf32 h9,cR h10,cR h11,by show(o.gL.take n).length<=1000000;rw[List.length_take];omega⟩
theorem zS(a:aD)(oa:a.ok)(s:ByteArray)(_:s.size<=maxLen):FnM Tryd.prog 3 [] [a.enc,eS s] (eB true) []:=
 lO (zY 100000 (by decide) aEZ a (op64 oa 300 (by decide)) (λx hx=>wfB (oa.2.2.1.2 x hx)) s)
def aFj : List (String×DataW Unit):=[("internal/strconv.uint64pow10",.agg (Lib.pow10Tab.map λz => .lit (.int .u64 z))),("strconv.ErrRange",.iface "*errors.errorString" (.ptr (.agg [.lit (.string [118,97,108,117,101,32,111,117,116,32,111,102,32,114,97,110,103,101])]))),("strconv.ErrSyntax",.iface "*errors.errorString" (.ptr (.agg [.lit (.string [105,110,118,97,108,105,100,32,115,121,110,116,97,120])])))]
theorem aBi{H:Type}{enc:TypeId×Value->H}{P:Program}{w:World}{base:Nat}{spare:Nat->Bool}{held:Bool}{t:TypeId}{d:TypeDesc}(ht:P.underlying t=some d)(hd:yY d=true){fuel:Nat}{cs:List Value}{u:String}{x:DataW H}{q:List MemPlace}(h:DataW.trod enc P w base spare held fuel t cs=some (.iface u x,q)):∃a b,cs=[.iface a b]:=by
 cases fuel with
 | zero=>simp[DataW.trod] at h
 | succ n=>
  cases d <;> try (cases hd;done)
  unfold DataW.trod at h;rw[ht] at h;split at h <;> simp_all
theorem qN{P:Program}{W:World}{name:String}{g:Nat}{cs:Array Value}(hg:P.globalNamed name=some g)(hv:W.var? P name=some cs):∃T fr,W.heap[g]? = some (.cells cs T fr):=by
 unfold World.var? at hv;rw[hg,Option.bind_some] at hv;split at hv
 ·next c T fr e=>cases hv;exact⟨T,fr,e⟩
 ·cases hv
theorem aAP{W:World}(h:laidMetH Tryd.prog aFj W):wI W:=by
 rw[MakeChecks.laidMetH_plain _ _ _ (by kernel_rfl)] at h;obtain⟨ps,⟨g,t,cs,fuel,p,q,hg,ht,hv,hd,⟨g5,t5,cs5,fuel5,p5,q5,hg5,ht5,hv5,hd5,⟨g4,t4,cs4,fuel4,p4,q4,hg4,ht4,hv4,hd4,_,_⟩,_⟩,_⟩,_,_⟩:=h;obtain rfl:=Option.some.inj ((show Tryd.prog.globalNamed "internal/strconv.uint64pow10" = some 1 by kernel_rfl).symm.trans hg)
 obtain rfl:=Option.some.inj ((show(Tryd.prog.globals[1]?).map (·.type)=some 145 by kernel_rfl).symm.trans ht)
 obtain rfl:=Option.some.inj ((show Tryd.prog.globalNamed "strconv.ErrRange" = some 5 by kernel_rfl).symm.trans hg5)
 obtain rfl:=Option.some.inj ((show(Tryd.prog.globals[5]?).map (·.type)=some 92 by kernel_rfl).symm.trans ht5)
 obtain rfl:=Option.some.inj ((show Tryd.prog.globalNamed "strconv.ErrSyntax" = some 4 by kernel_rfl).symm.trans hg4)
 obtain rfl:=Option.some.inj ((show(Tryd.prog.globals[4]?).map (·.type)=some 92 by kernel_rfl).symm.trans ht4)
 obtain⟨xs,m,_,ex,hcl,hl,hel⟩:=DataW.trod_array (n:=20) (e:=31) (by kernel_rfl) hd;have c5:Tryd.prog.cellsOf 31=1:=by kernel_rfl
 have c6:Tryd.prog.cellsOf 145=20:=by kernel_rfl
 have e3:(xs.map (·.1))=Lib.pow10Tab.map λn => .lit (.int .u64 n):=(DataW.agg.inj (Prod.mk.inj ex).1).symm;have hcs:cs.toList=pU .u64 Lib.pow10Tab:=by
  refine List.ext_getElem (by rw[hcl,c6];rfl) λi h1 h2=>?_;have hi:i < 20:=by rw[hcl,c6] at h1;exact h1
  have hE:=hel i hi;rw[c5,Nat.mul_one,af (by omega)] at hE;obtain⟨z,e1,e2,_⟩:=DataW.trod_int (k := .u64) (by kernel_rfl) hE;have e4:(xs.map (·.1))[i]? = (Lib.pow10Tab.map λn=>(DataW.lit (.int .u64 n):DataW Unit))[i]? := by rw[e3]
  have hlen:Lib.pow10Tab.length=20:=by kernel_rfl
  rw[bq,bq,af (by omega:i < xs.length),af (by omega:i < Lib.pow10Tab.length),e2] at e4;simp only[Option.map_some,Option.some.injEq,DataW.lit.injEq,Lit.int.injEq,true_and] at e4;have h0:((cs.toList.drop i).take 1)[0]? = some (.int .u64 z):=by rw[e1];rfl
  have h3:cs.toList[i]? = some (.int .u64 z):=by simpa using h0
  rw[af h1] at h3;rw[Option.some.inj h3,e4]
  exact(List.getElem_map (λz=>Value.int .u64 z)).symm
 obtain⟨T,fr,e1⟩:=qN (g:=1) (by kernel_rfl) hv;obtain⟨T4,fr4,e4⟩:=qN (g:=4) (by kernel_rfl) hv4;obtain⟨T5,fr5,e5⟩:=qN (g:=5) (by kernel_rfl) hv5;obtain⟨a4,b4,c4⟩:=aBi (t:=92) Tryd.underlying92 rfl hd4;obtain⟨a5,b5,c5⟩:=aBi (t:=92) Tryd.underlying92 rfl hd5;have key:∀(zs:List Value) (ys:Array Value) (b:Nat) T fr,W.heap[b]? = some (.cells ys T fr)->aBC zs ys->∃ys T fr,W.heap[b]? = some (.cells ys T fr)/\aBC zs ys:=λzs ys b T fr h1 h2=>⟨ys,T,fr,h1,h2⟩
 intro g hgm;have hgm:g∈[(1,pU .u64 Lib.pow10Tab),(4,[]),(5,[])]:=hgm;simp only[List.mem_cons,List.not_mem_nil,or_false] at hgm;rcases hgm with rfl | rfl | rfl
 ·refine key _ cs 1 T fr e1 ?_;have:cs=(pU .u64 Lib.pow10Tab).toArray:=by rw[<- hcs,d8]
  rw[this]
  show _=_;rfl
 ·exact key _ cs4 4 T4 fr4 e4 ⟨a4,b4,by rw[<- d8 (xs:=cs4),c4]⟩
 ·exact key _ cs5 5 T5 fr5 e5 ⟨a5,b5,by rw[<- d8 (xs:=cs5),c5]⟩
end Go.UK
