/- The own layer: abstract values, their memory, and the steps of the model over them: for any program. -/
import Derived.Test.YtfndgielkmppbaaDoorLib4
import Derived.RowKit3
import Derived.OpenShut
import Derived.Deep.Slices
import Derived.Carry
import Derived.ChangeKeysEq
import Derived.Laws.StructEq
import Derived.Lib.ConvBytes
import Derived.Lib.SlBytesConst
import Derived.Laws.BytesArg
open List renaming append_nil→bn,flatMap_append→dh,flatMap_cons→bg,flatMap_nil→gg,getElem?_eq_getElem→af,mem_map→d7,range→co,range_succ→gq
open Vector renaming toList→du
namespace Go.UK
open Go
set_option linter.all false
variable [bA]
open Go.RowKit (Below)
theorem aFv{x:Int}(h:(Lit.int .i64 x).wf=true) : -9223372036854775808<=x/\x < 9223372036854775808:=by
 simp[Lit.wf,IntKind.min,IntKind.max] at h;simp[IntKind.bits,IntKind.signed] at h;omega
def wI[bA](w:World):Prop:=∀g∈bA.l,∃ys T fr,w.heap[g.1]? = some (.cells ys T fr)/\aBC g.2 ys
theorem aDs(w:World)(hG:wI w):(⟨[],[],w,λ_ _=>False⟩:Mem).OK where
 glob g hg:=⟨hG g hg,λo h=>by
  rcases h with h | ⟨id,h,_⟩
  ·exact h
  ·simp at h⟩
 foreign _ _ h:=h.elim
 clear _ _ _ h:=h
 len:=rfl
 box id o x h:=by simp at h
 apart i j b x y h:=by simp at h
abbrev emp(w:World):Mem:=⟨[],[],w,λ_ _=>False⟩
theorem emp_M{w:World}{b o:Nat}:¬(emp w).M b o:=by
 rintro(h | h)
 ·exact h
 ·obtain⟨id,h,_⟩:=h;simp at h
theorem xS(b o n:Nat):(⟨b,o,none⟩:Addr).add n=⟨b,o+n,none⟩:=by
 unfold Addr.add;split
 ·rename_i h;subst h;rfl
 ·rfl
theorem aBp{w:World}{a:Addr}{y:Value}(h:w.cell? a=some y):a.spot=none:=by
 unfold World.cell? at h;split at h
 ·cases hs:a.spot with
  | none=>rfl
  | some _=>simp[hs] at h
 ·cases h
def jB(P:Program)(t:TypeId){α:Type}(f:α->AV)(ok:α->Prop):Prop:=
 ∀{H:Type} (enc:TypeId×Value->H) (w:World) (spare:Nat->Bool) (fuel:Nat) (cs:List Value) (x:DataW H×List MemPlace),
  DataW.trod enc P w 0 spare true fuel t cs=some x->∃a,ok a/\Rd w (emp w).M (f a) cs
section
variable {P:Program} {t e:TypeId}
theorem bR{k:IntKind}(ht:P.underlying t=some (.int k)):jB P t (eI k) (λx=>(Lit.int k x).wf=true):=by
 intro H enc w spare fuel cs x h;obtain⟨n,rfl,_,hw⟩:=DataW.trod_int ht h;exact⟨n,hw,by simp[eI,Rd,Value.oneCell']⟩
theorem aAo(ht:P.underlying t=some .bool):jB P t eB (λ_=>True):=by
 intro H enc w spare fuel cs x h;obtain⟨b,rfl,_⟩:=DataW.trod_bool ht h;exact⟨b,trivial,by simp[eB,Rd,Value.oneCell']⟩
theorem aBt(ht:P.underlying t=some .string):jB P t eS (λs=>s.size<=maxLen):=by
 intro H enc w spare fuel cs x h;obtain⟨s,rfl,_,hs⟩:=DataW.trod_string ht h;exact⟨s,hs,by simp[eS,Rd,Value.oneCell']⟩
theorem xL{α:Type}{w:World}{M:Nat->Nat->Prop}{f:α->AV}(x:Nat->α)(c:Nat->List Value):∀(L:List Nat),(∀i∈L,Rd w M (f (x i)) (c i))->RdL w M ((L.map x).map f) (L.flatMap c)
 | [],_=>by simp[RdL]
 | i :: L,h=>by
  simp only[List.map_cons,bg,RdL]
  exact⟨_,_,rfl,h i (by simp),xL x c L λj hj=>h j (by simp[hj])⟩
theorem yM{α:Type}{f:α->AV}{ok:α->Prop}{k:Nat}(ht:P.underlying t=some (.slice e))(hk:P.cellsOf e=k)(hk0:0 < k)(hn:∀a,(f a).n=k)(hf:jB P e f ok) :
  jB P t (eL k f) (λl=>l.length<=maxLen/\∀a∈l,ok a):=by
 intro H enc w spare fuel cs x h;rcases Go.Deep.open_slice ht h with ⟨rfl,_⟩ | ⟨a,len,cap,m,n,D,Pl,rfl,_,hle,hmax,hm,_,hel⟩
 ·exact⟨[],⟨by simp,by simp⟩,by simp[eL,Rd]⟩
 ·have hlm:len<=m:=by rw[hm];split <;> omega
  rcases Nat.eq_zero_or_pos len with h0 | hpos
  ·subst h0;exact⟨[],⟨by simp,by simp⟩,by simp[eL,Rd]⟩
  obtain⟨ab,ao,as⟩:=a;have:as=none:=by
   obtain⟨c,hc,htr⟩:=hel 0 (by omega)
   rw[hk] at hc;unfold World.cells? at hc;rw[if_pos (by omega)] at hc;have h1:=mapM_some_get hc 0 0 (by simp[hk0])
   have h2:c.length=k:=by simpa using mapM_some_length hc
   have h3:c[0]? = some c[0]:=af (by omega)
   rw[h3] at h1;have:=aBp h1;simpa[Addr.add] using this
  subst this;have hx:∀i,∃(c:List Value) (b:Option α),i < len->c.length=k/\(∀j,j < k->w.cell? ⟨ab,ao+(i*k+j),none⟩=c[j]?)/\∃b',b=some b'/\ok b'/\Rd w (emp w).M (f b') c:=by
   intro i;by_cases hi:i < len
   ·obtain⟨c,hc,htr⟩:=hel i (by omega)
    obtain⟨b,hb1,hb2⟩:=hf enc w spare n c _ htr;refine⟨c,some b,λ_=>?_⟩
    rw[hk] at hc;unfold World.cells? at hc;rw[if_pos (by omega)] at hc;refine⟨by simpa using mapM_some_length hc,λj hj=>?_,b,rfl,hb1,hb2⟩
    have:=mapM_some_get hc j j (by simp[hj])
    rw[<- this,xS,xS,Nat.add_assoc]
   ·exact⟨[],none,λh'=>absurd h' hi⟩
  obtain⟨c,hc⟩:=Classical.axiomOfChoice hx;obtain⟨b,hb⟩:=Classical.axiomOfChoice hc;obtain⟨_,_,y0,hy0,_⟩:=hb 0 hpos
  let g:Nat->α:=λi=>(b i).getD y0
  have hg:∀i,i < len->ok (g i)/\Rd w (emp w).M (f (g i)) (c i):=by
   intro i hi;obtain⟨_,_,y,hy,h1,h2⟩:=hb i hi;have:g i=y:=by simp[g,hy]
   rw[this]
   exact⟨h1,h2⟩
  have key:∀n,n<=len->((co n).flatMap c).length=n*k/\∀j y,((co n).flatMap c)[j]? = some y->w.cell? ⟨ab,ao+j,none⟩=some y:=by
   intro n
   induction n with
   | zero=>intro _;simp
   | succ n ih=>
    intro hle';obtain⟨i1,i2⟩:=ih (by omega)
    obtain⟨c1,c2,_⟩:=hb n (by omega)
    rw[gq,dh]
    refine⟨by simp[i1,c1,Nat.succ_mul],λj y hj=>?_⟩
    rw[List.getElem?_append] at hj;split at hj
    ·exact i2 j y hj
    ·rename_i hge;simp only[bg,gg,bn] at hj;rw[i1] at hj hge;have hlt:j - n*k < k:=by
      have:=(List.getElem?_eq_some_iff.1 hj).1;omega
     have:=c2 (j - n*k) hlt;rw[show n*k+(j - n*k)=j by omega] at this;rw[this]
     exact hj
  obtain⟨l1,l2⟩:=key len (Nat.le_refl _)
  refine⟨(co len).map g,⟨by simpa using Nat.le_trans hle hmax,λy hy=>?_⟩,?_⟩
  ·obtain⟨i,hi,rfl⟩:=d7.1 hy;exact(hg i (by simpa using hi)).1
  ·have hrl:=xL (w:=w) (M:=(emp w).M) (f:=f) g c (co len) (λi hi=>(hg i (by simpa using hi)).2)
   simp only[eL,Rd]
   refine⟨by simp,some ⟨ab,ao,none⟩,cap,by simp,by simpa using hle,λz hz=>?_,?_⟩
   ·obtain⟨y,_,rfl⟩:=d7.1 hz;exact hn y
   ·by_cases hz:(co len).flatMap c=[]
    ·left;have hkz:len*k=0:=by rw[<- l1,hz];rfl
     exfalso;rcases Nat.mul_eq_zero.1 hkz with h | h
     ·omega
     ·omega
    ·right;exact⟨ab,ao,_,rfl,hrl,λj y hj=>⟨l2 j y hj,emp_M⟩⟩
end
theorem bV.below{w w':World}(h:bV w w'):Below w.heap.size w w':=⟨h.os,h.tape,h.output,h.size,h.block⟩
theorem aCD{P:Program}{f:FuncId}{args:List AV}{vs:List Value}(h:FnM P f [] args (eB true) [])(w:World)(hG:wI w)(hr:RvL (emp w) args vs) :
  Calls P f vs.toArray w λe w'=>e = .returned (.bool true)/\Below w.heap.size w w':=by
 refine(h.later w _ vs (aDs w hG) hr).mono ?_;rintro e w' ⟨y,rfl,hl,hy⟩
 exact⟨by rw[bH hy],hl.below⟩
section
variable {P:Program} {t e:TypeId}
theorem yZ{α:Type}{f:α->AV}{ok:α->Prop}{n k m:Nat}(ht:P.underlying t=some (.array n e))(hs:P.cellsOf t=m)(hk:P.cellsOf e=k)(hmk:m=n*k)(hn:∀a,(f a).n=k)(hf:jB P e f ok) :
  jB P t (eA m k f:Vector α n->AV) (λv=>∀a∈v.toList,ok a):=by
 intro H enc w spare fuel cs x h;obtain⟨xs,n',_,_,hl,hx,hel⟩:=DataW.trod_array ht h;have hx:∀i,∃b:Option α,i < n->∃b',b=some b'/\ok b'/\Rd w (emp w).M (f b') ((cs.drop (i*k)).take k):=by
  intro i;by_cases hi:i < n
  ·have h1:=hel i hi;rw[hk,af (by omega)] at h1;obtain⟨b,hb1,hb2⟩:=hf enc w spare n' _ _ h1;exact⟨some b,λ_=>⟨b,rfl,hb1,hb2⟩⟩
  ·exact⟨none,λh'=>absurd h' hi⟩
 obtain⟨b,hb⟩:=Classical.axiomOfChoice hx;have hlen:cs.length=n*k:=by rw[hl,hs,hmk]
 have key:∀j,j<=n->(co j).flatMap (λi=>(cs.drop (i*k)).take k)=cs.take (j*k):=by
  intro j
  induction j with
  | zero=>intro _;simp
  | succ j ih=>
   intro hj;rw[gq,dh,ih (by omega)]
   simp only[bg,gg,bn]
   rw[Nat.succ_mul,List.take_add]
 rcases Nat.eq_zero_or_pos n with h0 | hpos
 ·subst h0;refine⟨⟨#[],rfl⟩,by simp[du],?_⟩
  have hc0:cs=[]:=by simpa using hlen
  subst hc0;simp[eA,du,Rd,RdL]
  omega
 ·obtain⟨y0,_⟩:=hb 0 hpos
  let g:Nat->α:=λi=>(b i).getD y0
  have hg:∀i,i < n->ok (g i)/\Rd w (emp w).M (f (g i)) ((cs.drop (i*k)).take k):=by
   intro i hi;obtain⟨y,hy,h1,h2⟩:=hb i hi;have:g i=y:=by simp[g,hy]
   rw[this]
   exact⟨h1,h2⟩
  refine⟨⟨((co n).map g).toArray,by simp⟩,λy hy=>?_,?_⟩
  ·simp only[du] at hy;obtain⟨i,hi,rfl⟩:=d7.1 hy;exact(hg i (by simpa using hi)).1
  ·have hrl:=xL (w:=w) (M:=(emp w).M) (f:=f) g (λi=>(cs.drop (i*k)).take k) (co n) (λi hi=>(hg i (by simpa using hi)).2)
   rw[key n (Nat.le_refl _),List.take_of_length_le (by omega)] at hrl;simp only[eA,du,Rd]
   refine⟨by omega,λz hz=>?_,hrl⟩
   obtain⟨y,_,rfl⟩:=d7.1 hz;exact hn y
theorem bC{H:Type}{enc:TypeId×Value->H}{w:World}{spare:Nat->Bool}{n:Nat}{cs:List Value}{xs:List (DataW H×List MemPlace)}{fs:Array Field}(hx:xs.length=fs.size)
  (hf:∀(i:Nat) (f:Field),fs[i]? = some f->DataW.trod enc P w 0 spare true n f.type ((cs.drop f.offset).take (P.cellsOf f.type))=xs[i]?) (i o s:Nat) (f:Field) (hi:fs[i]? = some f) (ho:f.offset=o) (hs:P.cellsOf f.type=s)
  {β:Type} {g:β->AV} {ok:β->Prop} (hop:jB P f.type g ok):∃b,ok b/\Rd w (emp w).M (g b) ((cs.drop o).take s):=by
 have h1:=hf i f hi;have hlt:i < xs.length:=by rw[hx];exact(Array.getElem?_eq_some_iff.1 hi).1
 rw[af hlt,ho,hs] at h1;exact hop enc w spare n _ _ h1
theorem bJ{w:World}{M:Nat->Nat->Prop}{p:AV}{ps:List AV}{cs:List Value}{o s:Nat}(h:Rd w M p ((cs.drop o).take s))(hs:RdL w M ps (cs.drop (o+s))):RdL w M (p :: ps) (cs.drop o):=by
 simp only[RdL]
 exact⟨_,_,(List.take_append_drop s (cs.drop o)).symm,h,by rw[List.drop_drop];exact hs⟩
theorem mC{w:World}{M:Nat->Nat->Prop}{cs:List Value}{o:Nat}(h:cs.length=o):RdL w M [] (cs.drop o):=by
 simp only[RdL]
 exact List.drop_of_length_le (by omega)
theorem tN{w:World}{M:Nat->Nat->Prop}{ps:List AV}{cs:List Value}{n:Nat}(hl:cs.length=n)(h:RdL w M ps (cs.drop 0)):Rd w M (.st n ps) cs:=by
 simp only[Rd]
 exact⟨hl,h⟩
def Form(v:Value)(agg:Bool):Prop:=if agg then ∃cs,v = .agg cs else v.cells=#[v]
theorem aCs{w:World}{r:Reach}{b:Nat}{v:Value}(ht:P.underlying t=some .string)(h:Value.okWide P w r b t v):Form v false:=by
 obtain⟨n,rfl⟩:=Go.WideShapes.okWide_string ht h;rfl
theorem yH{w:World}{r:Reach}{b:Nat}{v:Value}{fs:Array Field}(ht:P.underlying t=some (.struct fs))(h:Value.okWide P w r b t v):Form v true:=by
 obtain⟨cs,rfl,_⟩:=Go.WideShapes.okWide_struct ht h;exact⟨cs,rfl⟩
theorem vT{α:Type}{f:α->AV}{ok:α->Prop}{g:Bool}{H:Type}{enc:TypeId×Value->H}{w:World}{spare:Nat->Bool}{v:Value}{d:DataW H}{ps:List MemPlace}
  (ho:jB P t f ok) (hv:Form v g) (hg:∀a,(f a).isAgg=g) (h:DataW.Trod enc P w 0 spare true t v d ps):∃a,ok a/\Rv0 (emp w) (f a) v:=by
 obtain⟨fuel,hf⟩:=h;obtain⟨a,h1,h2⟩:=ho enc w spare fuel _ _ hf;refine⟨a,h1,?_⟩
 have h2:=Rd.rc (μ:=emp w) _ _ h2;unfold Rv0;rw[hg a]
 cases g with
 | true=>
  obtain⟨cs,rfl⟩:=hv;exact⟨cs,rfl,h2⟩
 | false=>
  have hv':v.cells=#[v]:=hv;rw[hv'] at h2;exact h2
end
end Go.UK

open Array renaming getElem?_toList→cn,toList_inj→cz
open Bool renaming false_eq_true→ap
open List renaming append_assoc→ax,append_nil→bn,eq_nil_of_length_eq_zero→d9,getElem?_append_left→bp,getElem?_append_right→ci,getElem?_cons_succ→eu,getElem?_cons_zero→dn,getElem?_eq_getElem→af,getElem?_toArray→fe,length_append→am,length_map→bx
open Nat renaming add_mul→ef,beq→az,ble→dz,eq_of_beq_eq_true→ai,le_of_ble_eq_true→bm,le_refl→be,lt_irrefl→ez,lt_or_ge→ca,mul_le_mul_right→de,zero_add→dl
open Go.Result renaming andThen_ok→ak
open Go.Sem renaming run_bind→ar,run_pure→ba
namespace Go.UK
open Go
set_option linter.all false
variable [bA]
theorem vN(n:Nat):∀(r c:Nat),c<=2*n->256<=c->Builtin.growBy n r c<=2*n
 | 0,c,h,_=>h
 | r+1,c,h,h2=>by
  unfold Builtin.growBy;split
  ·exact h
  ·exact vN n r _ (by omega) (by omega)
theorem aEV{n c:Nat}(h:c < n):Builtin.nextslicecap n c<=2*n:=by
 unfold Builtin.nextslicecap;split
 ·omega
 ·split
  ·omega
  ·exact vN n 4 c (by omega) (by omega)
theorem oJ{c:Array Value}{o:Nat}{vs:List Value}(h:o+vs.length<=c.size){i:Nat}(hi:i < o):(eP c o vs)[i]? = c[i]? := by
 rw[<- cn,iI _ _ _ h,ax,bp (by simp;omega),List.getElem?_take,if_pos hi,cn]
theorem aAT{c:Array Value}{o:Nat}{vs:List Value}(h:o+vs.length<=c.size){i:Nat}{v:Value}(hi:vs[i]? = some v):(eP c o vs)[o+i]? = some v:=by
 have hl:=aO hi;rw[<- cn,iI _ _ _ h,ax,ci (by simp;omega),bp (by simp;omega)]
 have:o+i - (List.take o c.toList).length=i:=by simp;omega
 rw[this]
 exact hi
section
variable {P:Program} {T:TypeId→Option TI} {n:Fr}
structure Src(P:Program)(w:World)(k:Nat)(x:Value)(zs:List Value)(m:Nat):Prop where
 len:(Builtin.lenOf x).run P w = .ok m w
 cells:(Builtin.firstCells k m x).run P w = .ok zs.toArray w
theorem aCL{μ:Mem}{k ln:Nat}{ys:List AV}{x:Value}(h:Rv μ (.sl k ln ys) x):∃zs,RdL μ.w μ.M ys zs/\zs.length=ys.length*k/\∀w',w'.heap=μ.w.heap->Src P w' k x zs ys.length:=by
 obtain⟨a,cap,e,hcap,hk,hc⟩:=sL h;subst e;rcases hc with hc | ⟨b,off,zs,e,h1,h2⟩
 ·subst hc;refine⟨[],by simp[RdL],by simp,λw' _=>⟨by simp[Builtin.lenOf],?_⟩⟩
  cases a with
  | none=>simp[Builtin.firstCells]
  | some a=>simp[Builtin.firstCells,loadCells,loadCellsFrom]
 ·subst e;have hl:=RdL.length h1;rw[lZ hk] at hl;refine⟨zs,h1,hl,λw' hw=>⟨by simp[Builtin.lenOf],?_⟩⟩
  simp only[Builtin.firstCells]
  rw[<- hl]
  exact jJ λj y hy=>by
   have:=(h2 j y hy).1;simp only[World.cell?,hw] at this ⊢;exact this
def TK.noInt : TK->Bool
 | .sl _=>true
 | .str=>true
 | _=>false
theorem tI(hT:TOK P T){xt:TypeId}{xi:TI}(hxt:T xt=some xi)(hk:xi.kind.noInt=true):∃d,P.underlying xt=some d/\(match d with | .int _=>true | _=>false)=false:=by
 obtain⟨d,hd,hf⟩:=(hT xt _ hxt).kind;refine⟨d,hd,?_⟩
 cases hxk:xi.kind <;> rw[hxk] at hk hf <;> simp only[TK.noInt] at hk <;> first | (cases hk;done) | skip
 ·simp only[TK.fits] at hf;subst hf;rfl
 ·simp only[TK.fits] at hf;subst hf;rfl
theorem mR(hT:TOK P T){t xt e:TypeId}{sz b1:Nat}{z:AV}{ei xi:TI}(ht:T t=some ⟨sz,b1,z,.sl e⟩)(he:T e=some ei)(hxt:T xt=some xi)(hxk:xi.kind.noInt=true){w w':World}{base:Option Addr}{sl sc m:Nat}{x:Value}{zs:List Value}{ty:TypeId}
  (hs:Src P w ei.size x zs m) (hroom:sl+m<=sc) (hst:∀a,base=some a->(storeCells (a.add (sl*ei.size)) zs).run P w = .ok () w') (hno:base=none->w'=w) :
  (Builtin.append_ #[t,xt] ty #[.slice base sl sc,x]).run P w = .ok (.slice base (sl+m) sc) w':=by
 obtain⟨d,hd,hk⟩:=(hT t _ ht).kind;simp only[TK.fits] at hk;subst hk;obtain⟨d',hd',hz⟩:=tI hT hxt hxk;unfold Builtin.append_;simp only[fe,dn,eu,ar,run_underlying hd,run_underlying hd',ak,eV hT he,ba]
 cases base with
 | none=>
  rw[hno rfl]
  cases d' <;> first | (simp at hz;done) | simp[hs.len,hs.cells,hroom]
 | some a=>
  have:=hst a rfl;cases d' <;> first | (simp at hz;done) | simp[hs.len,hs.cells,hroom,this]
theorem rR(hT:TOK P T){t xt e:TypeId}{sz b1:Nat}{z:AV}{ei xi:TI}(ht:T t=some ⟨sz,b1,z,.sl e⟩)(he:T e=some ei)(hxt:T xt=some xi)(hxk:xi.kind.noInt=true){w:World}{base:Option Addr}{sl sc m:Nat}{x:Value}{zs old:List Value}{ty:TypeId}
  (hs:Src P w ei.size x zs m) (hs':Src P w.drew ei.size x zs m) (hold:(Builtin.firstCells ei.size sl (.slice base sl sc)).run P w.drew = .ok old.toArray w.drew) (hroom:¬sl+m<=sc) (hb:ei.bytes≠0) (hbound:(sl+m)*ei.bytes<=140737488355328) :
  ∃(cap:Nat) (more:List Value),sl+m<=cap/\more.length=(cap - (sl+m))*ei.size /\
   (Builtin.append_ #[t,xt] ty #[.slice base sl sc,x]).run P w = .ok (.slice (some ⟨w.heap.size,0,none⟩) (sl+m) cap) (w.drew.alloc (.cells (old++zs++more).toArray e)):=by
 obtain⟨d,hd,hk⟩:=(hT t _ ht).kind;simp only[TK.fits] at hk;subst hk;obtain⟨d',hd',hz⟩:=tI hT hxt hxk;obtain⟨zv,zz,g1,g2,g3,g4,g5⟩:=kG hT he w.drew;obtain⟨te,k1,k2,k3⟩:=qE hT he w;obtain⟨te',k1',k2',k3'⟩:=qE hT he w.drew
 let q:=Question.appendCap (sl+m) sc e
 let cap:=q.cut (w.tape w.drawn q)
 refine⟨cap,(Builtin.zeroCells zz.toArray (cap - (sl+m))).toList,?_,?_,?_⟩
 ·show sl+m<=(sl+m)+_ % _;omega
 ·simp[Builtin.zeroCells,g4]
 ·have hnext:=aEV (n:=sl+m) (c:=sc) (by omega)
  have hn2:¬Builtin.nextslicecap (sl+m) sc*te.bytes > 2 ^ 48:=by
   rw[k2]
   have:Builtin.nextslicecap (sl+m) sc*ei.bytes<=(2*(sl+m))*ei.bytes:=de _ hnext;have e2:(2*(sl+m))*ei.bytes=2*((sl+m)*ei.bytes):=by rw[Nat.mul_assoc]
   omega
  have hb':te.bytes≠0:=by rw[k2];exact hb
  have harr:old.toArray++zs.toArray++Builtin.zeroCells zz.toArray (cap - (sl+m))=(old++zs++(Builtin.zeroCells zz.toArray (cap - (sl+m))).toList).toArray:=by rw[<- cz];simp
  have hcap:(Question.appendCap (sl+m) sc e).cut (w.tape w.drawn (Question.appendCap (sl+m) sc e))=cap:=rfl;have hlen:=hs.len;unfold Builtin.append_;simp only[fe,dn,eu,ar,run_underlying hd,run_underlying hd',ak,eV hT he,ba]
  have hc:=hs'.cells;cases d' <;> first
   | (simp at hz;done)
   | (simp only[ap,if_false,hlen,ak,Sem.run_ite,if_neg hroom,ar,k1,hb',hn2,false_or,and_false,run_choose,ba];simp only[show Question.forced (.appendCap (sl+m) sc e)=false from rfl,ap,if_false,ak,World.drew_eq,k1',run_askRoom,hold,Bool.not_false,if_true,hc,g1,g3,hcap];simp only[newRow,ar,run_newObj,ak,ba,World.alloc_eq];rw[harr];rfl)
def aBF : AV->Option (Nat×List AV)
 | .v (.string s)=>some (1,s.data.toList.map λb => .v (.int .u8 b.toNat))
 | x=>iY x
theorem vH{w:World}{M:Nat->Nat->Prop}:∀(l:List UInt8),RdL w M (l.map λb=>AV.v (.int .u8 b.toNat)) (l.map λb=>Value.int .u8 b.toNat)
 | []=>by simp[RdL]
 | b :: l=>by
  simp only[List.map_cons,RdL]
  exact⟨[_],_,rfl,by simp[Rd,Value.oneCell'],vH l⟩
theorem aD5{μ:Mem}{k k':Nat}{ys:List AV}{v:AV}{x:Value}(hv:aBF v=some (k,ys))(hk:k=k')(h:Rv μ v x):∃zs,RdL μ.w μ.M ys zs/\zs.length=ys.length*k/\(∀e∈ys,e.n=k)/\∀w',w'.heap=μ.w.heap->Src P w' k' x zs ys.length:=by
 subst hk;have sl:iY v=some (k,ys)->∃zs,RdL μ.w μ.M ys zs/\zs.length=ys.length*k/\(∀e∈ys,e.n=k)/\∀w',w'.heap=μ.w.heap->Src P w' k x zs ys.length:=by
  intro hv;have h':=kJ hv h;obtain⟨_,_,_,_,hk,_⟩:=sL h';obtain⟨zs,h1,h2,h3⟩:=aCL (P:=P) h';exact⟨zs,h1,h2,hk,h3⟩
 cases v with
 | v y=>
  cases y with
  | string s=>
   simp only[aBF,Option.some.injEq,Prod.mk.injEq] at hv;obtain⟨rfl,rfl⟩:=hv;have e:=bH h;subst e;refine⟨_,vH s.data.toList,by simp,by intro e he;obtain⟨b,_,e2⟩:=List.mem_map.1 he;subst e2;rfl,λw' _=>⟨by simp[Builtin.lenOf],?_⟩⟩
   simp only[Builtin.firstCells,ba]
   congr 1;rw[<- cz]
   have:(s.extract 0 s.size)=s:=by simp
   simp
  | _=>exact sl hv
 | _=>exact sl hv
theorem aGL{μ:Mem}{id k ln:Nat}{es:List AV}{y:Value}(h:Rv μ (.own id k ln es) y):es.length=ln/\∃a cap,y = .slice a es.length cap/\es.length<=cap/\(∀e∈es,e.n=k) /\
   (es=[]\/∃b off zs,a=some ⟨b,off,none⟩/\RdL μ.w μ.M es zs/\μ.at b off zs)/\μ.tok id k es.length a cap:=by
 simpa[Rv,Rv0,AV.isAgg,Rc] using h
theorem yR(hT:TOK P T){o:Oper}{t xt e:TypeId}{sz b1:Nat}{z:AV}{ei xi:TI}{p q:Operand}{id k m:Nat}{es ys:List AV}{v:AV}{ln:Nat}{a:Act}{H:List Box}{bs:List (Option Nat)}{w:World}{F:Nat->Nat->Prop}
  (ho:o.op = .call { callee := .builtin .append,args:=#[p,q],argTypes:=#[t,xt] }) (ht:T t=some ⟨sz,b1,z,.sl e⟩) (he:T e=some ei) (hek:ei.size=k) (hxt:T xt=some xi) (hxk:xi.kind.noInt=true)
  (hmok:(⟨H,bs,w,F⟩:Mem).OK) (hv1:Rv ⟨H,bs,w,F⟩ (.own id k ln es) (a.eval p)) (hv2:Rv ⟨H,bs,w,F⟩ v (a.eval q)) (hv:aBF v=some (k,ys)) (hH:H[id]? = some (.tail m)) (hm:es.length*k=m) (hk0:0 < k) (hb0:ei.bytes≠0)
  (hbound:(es.length+ys.length)*ei.bytes<=140737488355328):∃bs' w',cX P o a ⟨H,bs,w,F⟩ (.own id k (es++ys).length (es++ys)) ⟨H.set id (.tail ((es++ys).length*k)),bs',w',F⟩:=by
 obtain⟨hln,ad,cap,g1,g2,g3,g4,g5⟩:=aGL hv1;obtain⟨zs,k1,k2,k3,k4⟩:=aD5 (P:=P) hv rfl hv2;obtain⟨cs,hexec⟩:=iK ho a.eval;have hbl:bs.length=H.length:=hmok.len;obtain⟨hidlt,htok⟩:=g5;have htok':=(htok m hH).2 hm;have hcase:∃v' bs' w',(Builtin.append_ #[t,xt] o.type #[a.eval p,a.eval q]).run P w = .ok v' w'/\Ext ⟨H,bs,w,F⟩ ⟨H.set id (.tail ((es++ys).length*k)),bs',w',F⟩ /\
   (⟨H.set id (.tail ((es++ys).length*k)),bs',w',F⟩:Mem).OK/\Rv ⟨H.set id (.tail ((es++ys).length*k)),bs',w',F⟩ (.own id k (es++ys).length (es++ys)) v':=by
  have hlenk:(es++ys).length*k=m+zs.length:=by rw[am,ef,hm,k2]
  -- the old elements, as cells
  have hold:∃old:List Value,RdL w (⟨H,bs,w,F⟩:Mem).M es old/\old.length=m/\(∀w',w'.heap=w.heap->(Builtin.firstCells k es.length (.slice ad es.length cap)).run P w' = .ok old.toArray w')/\(es=[]\/∃b off,ad=some ⟨b,off,none⟩/\(⟨H,bs,w,F⟩:Mem).at b off old):=by
   rcases g4 with g4 | ⟨b,off,old,q1,q2,q3⟩
   ·subst g4;refine⟨[],by simp[RdL],by simpa using hm,λw' _=>?_,.inl rfl⟩
    cases ad with
    | none=>simp[Builtin.firstCells]
    | some a=>simp[Builtin.firstCells,loadCells,loadCellsFrom]
   ·have hl:=RdL.length q2;rw[lZ g3] at hl;refine⟨old,q2,by omega,λw' hw=>?_,.inr ⟨b,off,q1,q3⟩⟩
    subst q1;simp only[Builtin.firstCells]
    rw[<- hl]
    exact jJ λj y hy=>by
     have:=(q3 j y hy).1;simp only[World.cell?,hw] at this ⊢;exact this
  obtain⟨old,o1,o2,o3,o4⟩:=hold;have hall:∀e∈es++ys,e.n=k:=by
   intro e he;rcases List.mem_append.1 he with h' | h'
   ·exact g3 e h'
   ·exact k3 e h'
  by_cases hroom:es.length+ys.length<=cap
  ·rcases htok' with ⟨b,t1,t2,c,TT,t3,t4⟩ | t2
   ·-- into its own block
    subst t2;have hsz:m+zs.length<=c.size:=by
     rw[t4]
     have:(es.length+ys.length)*k<=cap*k:=de _ hroom;rw[ef] at this;omega
    have hstore:(storeCells ⟨b,m,none⟩ zs).run P w = .ok () (bE w b (.cells (eP c m zs) TT (0,0))):=by
     have:=iP (P:=P) zs m 0 w c t3 (by omega) (RcL.oneCell _ _ (RdL.rc (μ:=⟨H,bs,w,F⟩) _ _ k1))
     simpa using this
    have ext:=Ext.grow (m':=(es++ys).length*k) t1 hH t3 hmok (by omega) (jR zs c m) (λi hi=>oJ hsz hi)
    have ok:=OK.grow (m':=(es++ys).length*k) t1 hH t3 hmok (by omega) (jR zs c m) (λi hi=>oJ hsz hi) (by rw[jR];omega)
    refine⟨.slice (some ⟨b,0,none⟩) (es.length+ys.length) cap,bs,_,?_,ext,ok,?_⟩
    ·rw[g1]
     refine mR hT ht he hxt hxk (zs:=zs) (by rw[hek];exact k4 w rfl) hroom ?_ (by intro h;cases h)
     intro a' e';cases e';rw[iN,hek,hm,dl]
     exact hstore
    ·show Rv0 _ _ _;simp only[Rv0,AV.isAgg,Rc,ap,if_false]
     refine⟨trivial,some ⟨b,0,none⟩,cap,by rw[am],by rw[am];exact hroom,hall,.inr ⟨b,0,old++zs,rfl,?_,?_⟩,?_⟩
     ·exact RdL.append (RdL.mono ext.keeps _ _ o1) (RdL.mono ext.keeps _ _ k1)
     ·intro j y hy;rw[dl]
      have hjl:=aO hy;rw[am,o2] at hjl;have hcell:(bE w b (.cells (eP c m zs) TT (0,0))).cell? ⟨b,j,none⟩=(eP c m zs)[j]? := by
       simp only[World.cell?,cC (cQ t3)]
       simp
      have hF:¬F b j:=by
       rcases ca j m with hj | hj
       ·rcases o4 with o4 | ⟨b',off',e',q3⟩
        ·subst o4;simp at hm;omega
        ·cases e';obtain⟨q4,q5⟩:=q3 j (old[j]'(by omega)) (af (by omega))
         rw[dl] at q5;exact λhf=>q5 (.inl hf)
       ·exact hmok.clear b j ⟨id,t1,.inr ⟨m,hH,hj⟩⟩
      refine⟨?_,?_⟩
      ·show(bE w b (.cells (eP c m zs) TT (0,0))).cell? ⟨b,j,none⟩=some y;rw[hcell]
       rcases ca j m with hj | hj
       ·rw[oJ hsz hj]
        rcases o4 with o4 | ⟨b',off',e',q3⟩
        ·subst o4;simp at hm;omega
        ·cases e';rw[bp (by omega)] at hy;obtain⟨q4,q5⟩:=q3 j y hy;rw[dl] at q4;simp only[World.cell?,t3] at q4;simpa using q4
       ·rw[ci (by omega),o2] at hy;have:=aAT hsz hy;rw[show m+(j - m)=j by omega] at this;exact this
      ·rintro(hf | hown)
       ·exact hF hf
       ·obtain⟨i,i1,i2⟩:=hown;dsimp only at i1 i2;rcases i2 with ⟨c',i2,i4⟩ | ⟨q,i2,i3⟩
        ·rcases eN i2 with ⟨_,e'⟩ | ⟨hne,e'⟩
         ·rw[e'] at i4;cases i4
         ·exact hne (hmok.apart id i b _ _ t1 i1 hH e' (by simp) (Box.whole_live i4))
        ·rcases eN i2 with ⟨_,e'⟩ | ⟨hne,e'⟩
         ·cases e';omega
         ·exact hne (hmok.apart id i b _ _ t1 i1 hH e' (by simp) (by simp))
     ·refine⟨by simpa using hidlt,λq hq=>?_⟩
      dsimp only at hq;rw[cB hH] at hq;cases hq;exact⟨be _,λ_ => .inl ⟨b,t1,rfl,_,TT,cC (cQ t3),by rw[jR];exact t4⟩⟩
   ·-- no room but for nothing
    have hys:ys=[]:=d9 (by omega)
    subst hys;have hzs:zs=[]:=d9 (by simpa using k2)
    subst hzs;have hset:H.set id (.tail ((es++[]).length*k))=H:=by
     simp only[bn,hm]
     apply List.ext_getElem?;intro i;by_cases hi:id=i
     ·subst hi;rw[cB hH,hH]
     ·rw[aX hi]
    rw[hset]
    refine⟨.slice ad es.length cap,bs,w,?_,Ext.refl _,hmok,?_⟩
    ·rw[g1]
     have:=mR (P:=P) (w:=w) (w':=w) (base:=ad) (sl:=es.length) (sc:=cap) (ty:=o.type) hT ht he hxt hxk (zs:=[]) (by rw[hek];exact k4 w rfl) hroom (by intro a' _;simp[storeCells]) (λ_=>rfl)
     simpa using this
    ·rw[g1] at hv1;rw[hln]
     simp only[bn,hln]
     rw[hln] at hv1;exact hv1
  ·-- to a new block
   have hheap:w.drew.heap=w.heap:=rfl;obtain⟨cap',more,c1,c2,c3⟩:=rR (P:=P) (w:=w) (base:=ad) (sl:=es.length) (sc:=cap) (m:=ys.length) (x:=a.eval q) (zs:=zs) (old:=old) (ty:=o.type) hT ht he hxt hxk (by rw[hek];exact k4 w rfl) (by rw[hek];exact k4 w.drew rfl) (by rw[hek];exact o3 w.drew rfl) hroom hb0 hbound;have hlt:m < (es++ys).length*k:=by
    have:0 < ys.length:=by omega
    have:0 < ys.length*k:=Nat.mul_pos this hk0;omega
   obtain⟨ob,hob⟩:∃ob,bs[id]? = some ob:=⟨bs[id]'(by dsimp only at hidlt;omega),af (by dsimp only at hidlt;omega)⟩
   have hlater:bV w (w.drew.alloc (.cells (old++zs++more).toArray e)):=(bV.drew w).trans (bV.alloc _ _ _)
   have hrowlen:(old++zs++more).length=cap'*k:=by
    simp only[am,o2,c2,hek]
    rw[k2,<- hm,<- ef,<- ef]
    congr 1;omega
   have hnewb:(w.drew.alloc (.cells (old++zs++more).toArray e)).heap[w.heap.size]? = some (.cells (old++zs++more).toArray e (0,0)):=cZ (w:=w.drew)
   have ext:=Ext.move (F:=F) (m':=(es++ys).length*k) hob hH hlater (be _) hlt;have ok:=OK.move (m':=(es++ys).length*k) hob hH hmok hlater (be _) hlt ⟨cap'*k,⟨_,e,hnewb,by simpa using hrowlen⟩,by
    rw[am];exact de _ c1⟩
   refine⟨.slice (some ⟨w.heap.size,0,none⟩) (es.length+ys.length) cap',_,_,by rw[g1];exact c3,ext,ok,?_⟩
   show Rv0 _ _ _;simp only[Rv0,AV.isAgg,Rc,ap,if_false]
   refine⟨trivial,some ⟨w.heap.size,0,none⟩,cap',by rw[am],by rw[am];exact c1,hall,.inr ⟨w.heap.size,0,old++zs,rfl,?_,?_⟩,?_⟩
   ·exact RdL.append (RdL.mono ext.keeps _ _ o1) (RdL.mono ext.keeps _ _ k1)
   ·intro j y hy;rw[dl]
    have hjl:=aO hy;refine⟨?_,?_⟩
    ·simp only[World.cell?,hnewb]
     have:(old++zs++more)[j]? = some y:=by rw[bp hjl];exact hy
     simpa using this
    ·rintro(hf | hown)
     ·exact ez _ (hmok.foreign _ _ hf)
     ·obtain⟨i,i1,i2⟩:=hown;dsimp only at i1 i2;by_cases hi:id=i
      ·subst hi;rcases i2 with ⟨c',i2,i4⟩ | ⟨q,i2,i3⟩
       ·rw[cB hH] at i2;cases i2;cases i4
       ·rw[cB hH] at i2;cases i2;rw[am,o2] at hjl;omega
      ·rw[aX hi] at i1;rcases i2 with ⟨c',i2,i4⟩ | ⟨q,i2,i3⟩
       ·rw[aX hi] at i2;exact ez _ (bP hmok (b:=w.heap.size) i1 i2 (Box.whole_live i4))
       ·rw[aX hi] at i2;exact ez _ (bP hmok (b:=w.heap.size) i1 i2 (by simp))
   ·refine⟨by simpa using hidlt,λq hq=>?_⟩
    dsimp only at hq;rw[cB hH] at hq;cases hq;exact⟨be _,λ_ => .inl ⟨w.heap.size,cB hob,rfl,_,e,hnewb,by simpa using hrowlen⟩⟩
 obtain⟨v',bs',w',c1,c2,c3,c4⟩:=hcase;have hargs:(#[p,q]:Array Operand).map a.eval=#[a.eval p,a.eval q]:=by simp
 refine⟨bs',w',v',?_,c4,c2,c3⟩
 rw[hexec,hargs]
 simp only[builtin,ar,c1,ak,ba]
structure App where
 id:Nat
 k:Nat
 es:List AV
 ys:List AV
 bytes:Nat
def appE(T:TypeId->Option TI)(o:Oper)(need:Env)(H:List Box):Option (App×Nat×Nat):=
 match o.op with
 | .call { callee := .builtin .append,args,argTypes }=>match args.toList,argTypes.toList with
  | [p,q],[t,xt]=>match opd need none p,opd need none q,T t,T xt with
   | some (.own id k l es),some v,some ⟨_,_,_,.sl e⟩,some xi=>match T e,aBF v,H[id]? with
    | some ei,some (k',ys),some (.tail m)=>match xi.kind.noInt,az ei.size k&&(az k' k&&(Nat.blt 0 k && !(az ei.bytes 0))) with
     | true,true=>some (⟨id,k,es,ys,ei.bytes⟩,l,m)
     | _,_=>none
    | _,_,_=>none
   | _,_,_,_=>none
  | _,_=>none
 | _=>none
theorem arr2{α:Type}{x:Array α}{p q:α}(h:x.toList=[p,q]):x=#[p,q]:=by rw[<- cz,h]
theorem aAm(hT:TOK P T){o:Oper}{need:Env}{H:List Box}{α:Type}(f:α->AV){id k b:Nat}{l r:List α}(hx:(l.length+r.length)*b<=140737488355328)(hd:dOK n.n o.dst=true)
  (h:appE T o need H=some (⟨id,k,l.map f,r.map f,b⟩,l.length,l.length*k)):Big P n o need H (.own id k (l++r).length ((l++r).map f)) (H.set id (.tail ((l++r).length*k))):=by
 unfold appE at h;split at h <;> try cases h
 rename_i args tys ho;split at h <;> try cases h
 rename_i p q t xt hargs htys;split at h <;> try cases h
 rename_i id' k' l' es v sz b1 z e xi hp hq ht hxt;split at h <;> try cases h
 rename_i ei k'' ys m he hv hHm;split at h <;> cases h;rename_i hni hc;simp only[Bool.and_eq_true,Bool.not_eq_true'] at hc;obtain⟨c1,c2,c3,c6⟩:=hc;have c1:=ai c1;have c2:=ai c2;have hk0:0 < k:=by have h':dz (0+1) k=true:=c3;have:=bm h';omega
 have hb0:ei.bytes≠0:=by intro e0;rw[e0] at c6;cases c6
 subst c2;refine eQ hd λa μ ok hH hE=>?_;obtain⟨H0,bs,w,F⟩:=μ;dsimp only at hH;subst hH;have hv1:=aY hE noG hp;have hv2:=aY hE noG hq;rw[arr2 hargs,arr2 htys] at ho;obtain⟨bs',w',hr⟩:=yR (P:=P) (a:=a) hT ho ht he c1 hxt hni ok hv1 hv2 hv hHm (by rw[bx]) hk0 hb0 (by rw[bx,bx];exact hx)
 rw[<- List.map_append,bx] at hr;exact⟨_,hr,rfl⟩
end
def oD{α:Type}(b:Nat)(l r:List α):Option (List α):=cond (dz ((l.length+r.length)*b) 140737488355328) (some (l++r)) none
theorem aF7{α:Type}{b:Nat}{l r x:List α}(h:oD b l r=some x):(l.length+r.length)*b<=140737488355328/\x=l++r:=by
 unfold oD at h;cases hc:dz ((l.length+r.length)*b) 140737488355328 with
 | true=>rw[hc] at h;exact⟨bm hc,(Option.some.inj h).symm⟩
 | false=>rw[hc] at h;cases h
section
variable {P:Program} {T:TypeId→Option TI} {n:Fr}
theorem iW(hT:TOK P T){o:Oper}{need:Env}{H:List Box}{α:Type}(f:α->AV){id k b:Nat}{l r x:List α}(hx:oD b l r=some x)(hd:dOK n.n o.dst=true:=by kernel_rfl)
  (h:appE T o need H=some (⟨id,k,l.map f,r.map f,b⟩,l.length,l.length*k):=by kernel_rfl):Big P n o need H (eO id k f x) (H.set id (.tail (x.length*k))):=by
 obtain⟨h1,rfl⟩:=aF7 hx;exact aAm hT f h1 hd h
def aCe(s k:Nat)(st:ASt):ASt:=⟨(s,some (none,.own st.H.length k 0 [])) :: st.env,st.H++[.tail 0]⟩
def aAk(st:ASt)(s:Nat):Bool:=match get st.env s with | some (.v (.slice none 0 0))=>true | _=>false
theorem yW{st:ASt}{s k:Nat}(hg:aAk st s=true){ctx:Mem}{a:Act}{w:World}(h:Sat n ctx st a w):Sat n ctx (aCe s k st) a w:=by
 obtain⟨bs,hm⟩:=h;unfold aAk at hg;split at hg
 ·rename_i hg';obtain⟨y,h1,h2⟩:=hm.env.get hg';have e:=bH h2;subst e;have hl:bs.length=st.H.length:=hm.ok.len;have ext:=Ext.snoc (F:=ctx.F) hm.ok.len (bV.refl w) (.tail 0) none (by intro b e;cases e)
  have ok:=OK.snoc hm.ok (bV.refl w) (x := .tail 0) (o:=none) (by intro b e;cases e) (by intro b e;cases e)
  refine⟨bs++[none],rfl,ok,hm.ext.trans ext,?_,hm.size,hm.low,hm.defers,hm.nod,λp hp=>(hm.outs p hp).ext ext⟩
  intro i e hl';simp only[aCe,bI] at hl';split at hl'
  ·rename_i hi;have hi:=ai hi;subst hi;cases hl';refine⟨_,h1,?_⟩
   unfold lR Rv Rv0;simp only[AV.isAgg,Rc,ap,if_false]
   refine⟨rfl,none,0,rfl,be _,by simp,.inl trivial,by simp[aCe],λm hmm=>?_⟩
   simp[aCe] at hmm;subst hmm;exact⟨by simp,λ_ => .inr rfl⟩
  ·exact(hm.env.ext ext) i e hl'
 ·cases hg
end
end Go.UK

namespace Go.UK
open Go
set_option linter.all false
variable [bA]
section
variable {P:Program} {T:TypeId→Option TI} {t e:TypeId}
end
section
variable {P:Program} {T:TypeId→Option TI} {n:Fr}
def eqE(o:Oper)(need:Env)(op:BinOp):Option (TypeId×AV×AV):=
 match o.op with
 | .binOp b t x y _=>match b,op with
  | .eql,.eql=>match opd need none x,opd need none y with | some u,some v=>some (t,u,v) | _,_=>none
  | .neq,.neq=>match opd need none x,opd need none y with | some u,some v=>some (t,u,v) | _,_=>none
  | _,_=>none
 | _=>none
theorem aDw{o:Oper}{need:Env}{op:BinOp}{t:TypeId}{u v:AV}(h:eqE o need op=some (t,u,v)):∃x y t',o.op = .binOp op t x y t'/\opd need none x=some u/\opd need none y=some v:=by
 unfold eqE at h;split at h <;> try cases h
 rename_i b t0 x y t' ho;split at h <;> try cases h
 all_goals
  split at h <;> cases h;exact⟨_,_,_,ho,by assumption,by assumption⟩
end
end Go.UK

open Array renaming range→fk,toArray_toList→d8,toList_map→ee
open List renaming length_map→bx,replicate→bf
open Go.Result renaming andThen_ok→ak
open Go.Sem renaming run_bind→ar,run_pure→ba
namespace Go.UK
open Go
set_option linter.all false
variable [bA]
section
variable {P:Program} {T:TypeId→Option TI} {n:Fr}
theorem wE(H:List Box):bU H [] []=H:=by simp[bU,eH]
theorem nU{f:FuncId}{args:List AV}{ret x:AV}(C:FnM P f [] args ret [])(hf:fH P f){o:Oper}{need:Env}{H:List Box}
  (hB:xP n o H [] [] args=true) (hE:zE o need H [] [] args=(some (f,renL (rn [] H.length) args),List.map (cY (rn [] H.length)) [])) (hx:ren (rn [] H.length) ret=x):Big P n o need H x H:=by
 have:=eK (n:=n) [] C hf hB hE;rw[wE,hx] at this;exact this
theorem lD{o:Oper}{need:Env}{H H' H'':List Box}{x x':AV}(h:Big P n o need H x H')(e:(x,H')=(x',H''):=by kernel_rfl):Big P n o need H x' H'':=by cases e;exact h
end
section
variable {P:Program} {T:TypeId→Option TI} {n:Fr} {μ:Mem} {a:Act}
theorem aAC(hT:TOK P T){o:Oper}{t:TypeId}{len k:Nat}{parts:Array (Nat×Operand)}{l:List (Nat×AV)}{es:List AV}(ho:o.op = .buildSlice t len parts)(ok:μ.OK)
  (hf:l.map Prod.fst=parts.toList.map Prod.fst) (hl:∀(i:Nat) q p,l[i]? = some q->parts.toList[i]? = some p->Rv μ q.2 (a.eval p.2)/\eR q.2=true) (h:vJ T t len l=some (k,es)) :
  ∃(ys:List Value) (e:TypeId) (sz b1:Nat) (z:AV),T t=some ⟨sz,b1,z,.sl e⟩/\(execOp a.eval o).run P μ.w = .ok (.value (.slice (some ⟨μ.w.heap.size,0,none⟩) len len)) (μ.w.alloc (.cells ys.toArray e))/\RdL μ.w μ.M es ys/\(∀e∈es,e.n=k)/\es.length=len:=by
 have hvs:l.map Prod.fst=((parts.map λ(i,x)=>(i,a.eval x)).toList).map Prod.fst:=by rw[hf];simp
 have hv:∀(i:Nat) (q:Nat×AV) (v:Nat×Value),l[i]? = some q->(parts.map λ(i,x)=>(i,a.eval x)).toList[i]? = some v->Rc μ q.2 v.2.cells.toList:=by
  intro i q v hq hv;rw[ee,List.getElem?_map] at hv;cases hp:parts.toList[i]? with
  | none=>rw[hp] at hv;cases hv
  | some p=>
   rw[hp] at hv;simp only[Option.map_some,Option.some.injEq] at hv;subst hv;obtain⟨h1,h2⟩:=hl i q p hq hp;exact h1.cells (fD h2)
 unfold vJ at h;split at h <;> try cases h
 rename_i sz b1 z e ht;split at h <;> try cases h
 rename_i ie he;split at h <;> try cases h
 rename_i hle;split at h <;> try cases h
 rename_i x hx;split at h <;> try cases h
 rename_i es' hes;split at h <;> cases h;rename_i hb;simp only[Bool.and_eq_true] at hb;obtain⟨d,hd,hk⟩:=(hT t _ ht).kind;simp only[TK.fits] at hk;subst hk;obtain⟨zv,zs,g1,g2,g3,g4,g5⟩:=kG hT he μ.w;have hz:Rc μ ie.zero zs:=oQ _ _ g2;have hrow:Rc μ (.arr (len*ie.size) ie.size (bf len ie.zero)) (bf len zs).flatten:=by
  simp only[Rc]
  refine⟨by rw[fI,g4],?_,wM (tR _ _ g2) len⟩
  intro e' he';rw[List.eq_of_mem_replicate he',<- Rc.length _ _ hz,g4]
 obtain⟨ys',k1,k2,k3,k4⟩:=kS l _ _ x (bf len zs).flatten.toArray hvs hv hx (by simpa using hrow)
 cases x <;> simp only[tA] at hes <;> try cases hes
 rename_i m k';simp only[Rc] at k2;obtain⟨H,bs,w,F⟩:=μ;have hlen:=Nat.eq_of_beq_eq_true hb.1;refine⟨ys'.toList,e,sz,b1,z,ht,?_,k2.2.2,pY hb.2.1,hlen⟩
 have hble:¬len*ie.size > 2 ^ 24:=by have:=Nat.le_of_ble_eq_true hle;omega
 have hpm:(parts.map λ(i,x)=>(i,a.eval x))=(parts.map λx=>(x.fst,a.eval x.snd)):=rfl;simp only[execOp,ho,Instr.buildSlice,ar,run_underlying hd,ak,eV hT he,Sem.run_ite,if_neg hble]
 by_cases h0:len*ie.size=0
 ·have hfl:(bf len zs).flatten=[]:=List.eq_nil_of_length_eq_zero (by rw[fI,g4];exact h0)
  rw[hfl] at k1;rw[if_pos h0,h0]
  simp only[ba,ak]
  rw[show(Array.map (λx:Nat=>(#[]:Array Value)[x % (#[]:Array Value).size]!) (fk 0))=[].toArray from by simp]
  rw[hpm] at k1;simp only[k1,newRow,ar,run_newObj,ak,ba,World.alloc_eq,d8]
 ·have hinit:(fk (len*ie.size)).map (λi=>zs.toArray[i % zs.toArray.size]!)=(bf len zs).flatten.toArray:=by
   rw[<- Array.toList_inj,ee,Array.toList_range]
   exact nQ g4 len
  rw[if_neg h0]
  simp only[g1,ak,g3,ba]
  rw[hinit]
  rw[hpm] at k1;simp only[k1,newRow,ar,run_newObj,ak,ba,World.alloc_eq,d8]
theorem aEf{w w':World}{H:List Box}{bs:List (Option Nat)}{F:Nat->Nat->Prop}(ok:(⟨H,bs,w,F⟩:Mem).OK)(hl:bV w w'){es:List AV}{k:Nat}{ys:List Value}(hk:∀e∈es,e.n=k)(hc:RdL w (⟨H,bs,w,F⟩:Mem).M es ys)
  (hcell:∀j y,ys[j]? = some y->w'.cell? ⟨w.heap.size,j,none⟩=some y) :
  Ext ⟨H,bs,w,F⟩ ⟨H++[.tail (es.length*k)],bs++[none],w',F⟩/\(⟨H++[.tail (es.length*k)],bs++[none],w',F⟩:Mem).OK /\
  Rv ⟨H++[.tail (es.length*k)],bs++[none],w',F⟩ (.own H.length k es.length es) (.slice (some ⟨w.heap.size,0,none⟩) es.length es.length):=by
 have hbl:bs.length=H.length:=ok.len;have ext:=Ext.snoc (F:=F) ok.len hl (.tail (es.length*k)) none (by intro b e;cases e)
 have ok':=OK.snoc ok hl (x := .tail (es.length*k)) (o:=none) (by intro b e;cases e) (by intro b e;cases e)
 refine⟨ext,ok',?_⟩
 show Rv0 _ _ _;simp only[Rv0,AV.isAgg,Rc,Bool.false_eq_true,if_false]
 refine⟨trivial,some ⟨w.heap.size,0,none⟩,es.length,rfl,Nat.le_refl _,hk,.inr ⟨w.heap.size,0,ys,rfl,RdL.mono ext.keeps _ _ hc,?_⟩,by simp,λm hm=>?_⟩
 ·intro j y hy;rw[Nat.zero_add]
  refine⟨hcell j y hy,?_⟩
  rintro(hf | ⟨id,h1,h2⟩)
  ·exact Nat.lt_irrefl _ (ok.foreign _ _ hf)
  ·dsimp only at h1 h2;have hid:bs[id]? = some (some w.heap.size):=by
    rcases lV h1 with h3 | ⟨h3,h4⟩
    ·exact h3
    ·cases h4
   have hlt:=aO hid;have hH:(H++[Box.tail (es.length*k)])[id]? = H[id]? := cE (by omega)
   rw[hH] at h2;have:w.heap.size < w.heap.size:=by
    rcases h2 with ⟨c,h2,hw⟩ | ⟨m,h2,_⟩
    ·exact bP ok (b:=w.heap.size) hid h2 (Box.whole_live hw)
    ·exact bP ok (b:=w.heap.size) hid h2 (by simp)
   omega
 ·dsimp only at hm;have hm':es.length*k=m:=by simpa using hm
  exact⟨by omega,λ_ => .inr rfl⟩
end
section
variable {P:Program} {T:TypeId→Option TI} {n:Fr}
def rowK(T:TypeId->Option TI)(o:Oper)(need:Env):Option (Nat×Nat×List AV):=
 match o.op with
 | .buildSlice t len parts=>match aAS (opd need none) parts.toList with
  | some l=>match vJ T t len l with
   | some (k,es)=>some (k,len,es)
   | none=>none
  | none=>none
 | _=>none
theorem aDp(hT:TOK P T){o:Oper}{need:Env}{k len:Nat}{es:List AV}(h:rowK T o need=some (k,len,es)){a:Act}{μ:Mem}(ok:μ.OK)(hE:dM μ need a.tmps) :
  ∃(t:TypeId) (parts:Array (Nat×Operand)) (ys:List Value) (e:TypeId) (sz b1:Nat) (z:AV),o.op = .buildSlice t len parts/\T t=some ⟨sz,b1,z,.sl e⟩/\(execOp a.eval o).run P μ.w = .ok (.value (.slice (some ⟨μ.w.heap.size,0,none⟩) len len)) (μ.w.alloc (.cells ys.toArray e))/\RdL μ.w μ.M es ys/\(∀e∈es,e.n=k)/\es.length=len:=by
 unfold rowK at h;split at h <;> try cases h
 rename_i t len parts ho;split at h <;> try cases h
 rename_i l hl;split at h <;> cases h;rename_i hr;obtain⟨h1,h2⟩:=nV _ _ hl;obtain⟨ys,e,sz,b1,z,g1,g2,g3⟩:=aAC (P:=P) (a:=a) hT ho ok h1 (λi q p hq hp=>⟨aY hE noG (h2 i q p hq hp).1,(h2 i q p hq hp).2⟩) hr;exact⟨t,parts,ys,e,sz,b1,z,ho,g1,g2,g3⟩
theorem aC8{w:World}{ys:List Value}{e:TypeId}{fr:Nat×Nat}{j:Nat}{y:Value}(hy:ys[j]? = some y):(w.alloc (.cells ys.toArray e fr)).cell? ⟨w.heap.size,j,none⟩=some y:=by
 simp only[World.cell?,cZ]
 simpa using hy
theorem aDN(hT:TOK P T){o:Oper}{need:Env}{H:List Box}{α:Type}(f:α->AV){k:Nat}(l:List α)(hd:dOK n.n o.dst=true)(h:rowK T o need=some (k,l.length,l.map f)):Big P n o need H (eO H.length k f l) (H++[.tail (l.length*k)]):=by
 refine eQ hd λa μ ok hH hE=>?_;obtain⟨t,parts,ys,e,sz,b1,z,ho,ht,hrun,h1,h2,h3⟩:=aDp (P:=P) hT h ok hE;obtain⟨H0,bs,w,F⟩:=μ;dsimp only at hH;subst hH;obtain⟨ext,ok',hv⟩:=aEf ok (bV.alloc w ys.toArray e) h2 h1 (λj y hy=>aC8 hy)
 simp only[bx] at ext ok' hv;exact⟨_,⟨_,hrun,hv,ext,ok'⟩,rfl⟩
def fL(s:ByteArray):List Int:=s.data.toList.map λb=>(b.toNat:Int)
def mA(l:List Int):ByteArray:=⟨(l.map λx=>UInt8.ofNat x.toNat).toArray⟩
def cvE(T:TypeId->Option TI)(o:Oper)(need:Env):Option (AV×TK×TK×Option TK):=
 match o.op with
 | .convert s t x=>match opd need none x,T s,T t with
  | some v,some i,some j=>match i.kind,j.kind with
   | .sl e,b=>match T e with | some ei=>some (v,.sl e,b,some ei.kind) | none=>none
   | b,.sl e=>match T e with | some ei=>some (v,b,.sl e,some ei.kind) | none=>none
   | _,_=>none
  | _,_,_=>none
 | _=>none
theorem fz_os(w:World)(e:TypeId)(s:ByteArray):(Go.Lib.bytesWorld w e s).os=w.os:=by unfold Go.Lib.bytesWorld World.freeze;split <;> rfl
theorem aEq(w:World)(e:TypeId)(s:ByteArray):(Go.Lib.bytesWorld w e s).tape=w.tape:=by unfold Go.Lib.bytesWorld World.freeze;split <;> rfl
theorem aF8(w:World)(e:TypeId)(s:ByteArray):(Go.Lib.bytesWorld w e s).output=w.output:=by unfold Go.Lib.bytesWorld World.freeze;split <;> rfl
theorem aD1{w:World}{M:Nat->Nat->Prop}:∀{l:List Int} {zs:List Value},RdL w M (l.map k8) zs->zs=l.map (Value.int .u8)
 | [],zs,h=>by simpa[RdL] using h
 | x :: l,zs,h=>by
  simp only[List.map_cons,RdL] at h;obtain⟨y1,y2,rfl,h1,h2⟩:=h;simp only[k8,eI,Rd] at h1;rw[h1.1,aD1 h2]
  rfl
theorem sM(l:List Int):l.foldl (λr n=>r.push (UInt8.ofNat n.toNat)) ByteArray.empty=mA l:=by
 rw[foldl_push_bytes]
 simp[mA,ByteArray.empty,ByteArray.emptyWithCapacity]
 rfl
theorem wW(hT:TOK P T)(l:List Int){v:AV}{e:TypeId}{o:Oper}{need:Env}{H:List Box}(hd:dOK n.n o.dst=true)(h:cvE T o need=some (v,.sl e,.str,some (.int .u8)))(hl:iY v=some (1,l.map k8)):Big P n o need H (eS (mA l)) H:=by
 unfold cvE at h;split at h <;> try cases h
 rename_i src t x ho;split at h <;> try cases h
 rename_i v' i j hv hi hj;split at h
 ·rename_i e' hie;split at h <;> try cases h
  rename_i ei he;simp only[Option.some.injEq,Prod.mk.injEq] at h;obtain⟨rfl,hik,hjk,hei⟩:=h;have:=TK.sl.inj hik;subst this;obtain⟨d1,hd1,k1⟩:=(hT src _ hi).kind;obtain⟨d2,hd2,k2⟩:=(hT t _ hj).kind;obtain⟨d3,hd3,k3⟩:=(hT e' _ he).kind;rw[hie] at k1;rw[hjk] at k2;rw[hei] at k3;simp only[TK.fits] at k1 k2 k3;subst k1 k2 k3;refine eQ hd λa μ ok hH hE=>?_;obtain⟨ad,cap,hx,hc,hk,hr⟩:=sL (kJ hl (aY hE noG hv))
  simp only[bx] at hx hc;have hrun:(convert src t (.slice ad l.length cap)).run P μ.w = .ok (.string (mA l)) μ.w:=by
   rw[run_convert_bytes_string μ.w src t e' ad l.length cap hd1 hd3 hd2]
   rcases hr with hr | ⟨b,off,zs,rfl,h1,h2⟩
   ·have:l=[]:=by simpa using hr
    subst this;cases ad with
    | none=>simp[Conv.bytesToString,mA];rfl
    | some ad=>
     have:=run_bytesToString (P:=P) μ.w ad 0 cap [] (by simp[loadCells,loadCellsFrom])
     rw[sM] at this;exact this
   ·have hz:=aD1 h1;subst hz;have:=run_bytesToString (P:=P) μ.w ⟨b,off,none⟩ l.length cap l (by
     have:=jJ (P:=P) (w:=μ.w) (b:=b) (off:=off) (zs:=l.map (Value.int .u8)) (λj y hy=>(h2 j y hy).1)
     simpa using this)
    rw[sM] at this;exact this
  refine⟨μ,cX.here (y := .string (mA l)) ok ?_ (lN rfl),hH⟩
  simp only[execOp,ho,hx,ar,hrun,ak,ba]
 ·rename_i e' hje hne;split at h <;> try cases h
  rename_i ei he;simp only[Option.some.injEq,Prod.mk.injEq] at h;exact absurd h.2.1 (hne e)
 ·cases h
end
end Go.UK

namespace Go.UK
open Go
set_option linter.all false
variable [bA]
section
variable {P:Program} {T:TypeId→Option TI} {n:Fr}
end
end Go.UK

