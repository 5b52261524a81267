/- The own layer: abstract values, their memory, and the steps of the model over them: for any program. -/
import Derived.Test.YtbfieohdmihfpaaGreatDoorLib4
import Derived.RowKit3
import Derived.OpenShut
import Derived.Deep.Slices
import Derived.Carry
import Derived.ChangeKeysEq
import Derived.Laws.StructEq
import Derived.Lib.ConvBytes
import Derived.Lib.SlBytesConst
import Derived.Laws.BytesArg
open List renaming all_eq_true→eg,append_nil→dp,flatMap_append→l6,flatMap_cons→d8,flatMap_nil→mg,getElem?_eq_getElem→af,getElem?_map→ci,mem_append→d9,mem_map→dh,range→bq,range_succ→mz
open Nat renaming eq_zero_or_pos→ma,le_refl→ca,le_trans→fp,succ_mul→np
open Vector renaming toList→iq
namespace Go.UK
open Go
set_option linter.all false
variable [bL]
open Go.RowKit (Below)
theorem aWB{x:Int}(h:(Lit.int .i64 x).wf=true) : -9223372036854775808<=x/\x < 9223372036854775808:=by
 simp[Lit.wf,IntKind.min,IntKind.max] at h;simp[IntKind.bits,IntKind.signed] at h;omega
def aJ2[bL](w:World):Prop:=∀g∈bL.l,∃ys T fr,w.heap[g.1]? = some (.cells ys T fr)/\aNG g.2 ys
theorem aQi(w:World)(hG:aJ2 w):(⟨[],[],w,λ_ _=>False⟩:Mem).OK where
 glob g hg:=⟨hG g hg,λo h=>by
  rcases h with h | ⟨id,h,_⟩
  ·exact h
  ·simp at h⟩
 foreign _ _ h:=h.elim
 clear _ _ _ h:=h
 len:=rfl
 box id o x h:=by simp at h
 apart i j b x y h:=by simp at h
abbrev emp(w:World):Mem:=⟨[],[],w,λ_ _=>False⟩
theorem emp_M{w:World}{b o:Nat}:¬(emp w).M b o:=by
 rintro(h | h)
 ·exact h
 ·obtain⟨id,h,_⟩:=h;simp at h
theorem aLI(b o n:Nat):(⟨b,o,none⟩:Addr).add n=⟨b,o+n,none⟩:=by
 unfold Addr.add;split
 ·rename_i h;subst h;rfl
 ·rfl
theorem aOY{w:World}{a:Addr}{y:Value}(h:w.cell? a=some y):a.spot=none:=by
 unfold World.cell? at h;split at h
 ·cases hs:a.spot with
  | none=>rfl
  | some _=>simp[hs] at h
 ·cases h
def tF(P:Program)(t:TypeId){α:Type}(f:α->AV)(ok:α->Prop):Prop:=
 ∀{H:Type} (enc:TypeId×Value->H) (w:World) (spare:Nat->Bool) (fuel:Nat) (cs:List Value) (x:DataW H×List MemPlace),
  DataW.trod enc P w 0 spare true fuel t cs=some x->(x.1.weights P t).all (·<=reachBytes)=true->∃a,ok a/\Rd w (emp w).M (f a) cs
theorem aEY{H:Type}{P:Program}{e:TypeId}{d:DataW H}:∀{l:List (DataW H)},d∈l->∀n∈d.weights P e,n∈DataW.weightsAll P e l
 | [],h,_,_=>by cases h
 | x :: l,h,n,hn=>by
  unfold DataW.weightsAll;rw[d9]
  rcases List.mem_cons.1 h with rfl | h
  ·exact .inl hn
  ·exact .inr (aEY h n hn)
theorem aGk{H:Type}{P:Program}:∀{ts:List TypeId} {ds:List (DataW H)} {i:Nat} {t:TypeId} {d:DataW H},ts[i]? = some t->ds[i]? = some d->∀n∈d.weights P t,n∈DataW.weightsEach P ts ds
 | [],_,_,_,_,h,_,_,_=>by simp at h
 | _ :: _,[],_,_,_,_,h,_,_=>by simp at h
 | t0 :: ts,d0 :: ds,i,t,d,h,h',n,hn=>by
  unfold DataW.weightsEach;rw[d9]
  cases i with
  | zero=>
   simp only[List.getElem?_cons_zero,Option.some.injEq] at h h';subst h h';exact .inl hn
  | succ i=>exact .inr (aGk (by simpa using h) (by simpa using h') n hn)
theorem aOR{H:Type}{P:Program}{ts:List TypeId}{ds:List (DataW H)}{i:Nat}{t:TypeId}{d:DataW H}(h:(DataW.weightsEach P ts ds).all (·<=reachBytes)=true)(ht:ts[i]? = some t)(hd:ds[i]? = some d):(d.weights P t).all (·<=reachBytes)=true:=
 eg.2 λn hn=>eg.1 h n (aGk ht hd n hn)
theorem pS{H:Type}{P:Program}{t:TypeId}{fs:Array Field}{ds:List (DataW H)}(ht:P.underlying t=some (.struct fs))(h:((DataW.agg ds).weights P t).all (·<=reachBytes)=true):(DataW.weightsEach P (fs.toList.map (·.type)) ds).all (·<=reachBytes)=true:=by
 unfold DataW.weights at h;rw[ht] at h;exact h
section
variable {P:Program} {t e:TypeId}
theorem bZ{k:IntKind}(ht:P.underlying t=some (.int k)):tF P t (eI k) (λx=>(Lit.int k x).wf=true):=by
 intro H enc w spare fuel cs x h _;obtain⟨n,rfl,_,hw⟩:=DataW.trod_int ht h;exact⟨n,hw,by simp[eI,Rd,Value.oneCell']⟩
theorem aJ6{α:Type}{w:World}{M:Nat->Nat->Prop}{f:α->AV}(x:Nat->α)(c:Nat->List Value):∀(L:List Nat),(∀i∈L,Rd w M (f (x i)) (c i))->RdL w M ((L.map x).map f) (L.flatMap c)
 | [],_=>by simp[RdL]
 | i :: L,h=>by
  simp only[List.map_cons,d8,RdL]
  exact⟨_,_,rfl,h i (by simp),aJ6 x c L λj hj=>h j (by simp[hj])⟩
theorem wO{α:Type}{f:α->AV}{ok:α->Prop}{k b0:Nat}(ht:P.underlying t=some (.slice e))(hb:P.bytesOf e=b0)(hk:P.cellsOf e=k)(hk0:0 < k)(hn:∀a,(f a).n=k)(hf:tF P e f ok) :
  tF P t (eL k f) (λl=>(l.length<=maxLen/\l.length*b0<=140737488351232)/\∀a∈l,ok a):=by
 intro H enc w spare fuel cs x h hwt;rcases Go.Deep.open_slice ht h with ⟨rfl,_⟩ | ⟨a,len,cap,m,n,D,Pl,rfl,_,hle,hmax,hm,hx0,hel⟩
 ·exact⟨[],⟨⟨by simp,by simp⟩,by simp⟩,by simp[eL,Rd]⟩
 ·have hlm:len<=m:=by rw[hm];split <;> omega
  rw[hx0] at hwt;unfold DataW.weights at hwt;rw[ht] at hwt;dsimp only at hwt;rw[List.all_cons,Bool.and_eq_true,List.all_append,Bool.and_eq_true] at hwt;obtain⟨hw1,hw2,_⟩:=hwt;have hw1:len*b0<=140737488351232:=by
   have hw1:=of_decide_eq_true hw1;rw[hb] at hw1;simp only[List.length_map,List.length_range] at hw1;exact fp (Nat.mul_le_mul_right _ (Nat.le_add_right _ _)) hw1
  have hw2:∀i,i < len->((D i).weights P e).all (·<=reachBytes)=true:=λi hi=>eg.2 λn hn=>eg.1 hw2 n (aEY (dh.2 ⟨i,by simpa using hi,rfl⟩) n hn)
  rcases ma len with h0 | hpos
  ·subst h0;exact⟨[],⟨⟨by simp,by simp⟩,by simp⟩,by simp[eL,Rd]⟩
  obtain⟨ab,ao,as⟩:=a;have:as=none:=by
   obtain⟨c,hc,htr⟩:=hel 0 (by omega)
   rw[hk] at hc;unfold World.cells? at hc;rw[if_pos (by omega)] at hc;have h1:=mapM_some_get hc 0 0 (by simp[hk0])
   have h2:c.length=k:=by simpa using mapM_some_length hc
   have h3:c[0]? = some c[0]:=af (by omega)
   rw[h3] at h1;have:=aOY h1;simpa[Addr.add] using this
  subst this;have hx:∀i,∃(c:List Value) (b:Option α),i < len->c.length=k/\(∀j,j < k->w.cell? ⟨ab,ao+(i*k+j),none⟩=c[j]?)/\∃b',b=some b'/\ok b'/\Rd w (emp w).M (f b') c:=by
   intro i;by_cases hi:i < len
   ·obtain⟨c,hc,htr⟩:=hel i (by omega)
    obtain⟨b,hb1,hb2⟩:=hf enc w spare n c _ htr (hw2 i hi)
    refine⟨c,some b,λ_=>?_⟩
    rw[hk] at hc;unfold World.cells? at hc;rw[if_pos (by omega)] at hc;refine⟨by simpa using mapM_some_length hc,λj hj=>?_,b,rfl,hb1,hb2⟩
    have:=mapM_some_get hc j j (by simp[hj])
    rw[<- this,aLI,aLI,Nat.add_assoc]
   ·exact⟨[],none,λh'=>absurd h' hi⟩
  obtain⟨c,hc⟩:=Classical.axiomOfChoice hx;obtain⟨b,hb⟩:=Classical.axiomOfChoice hc;obtain⟨_,_,y0,hy0,_⟩:=hb 0 hpos
  let g:Nat->α:=λi=>(b i).getD y0
  have hg:∀i,i < len->ok (g i)/\Rd w (emp w).M (f (g i)) (c i):=by
   intro i hi;obtain⟨_,_,y,hy,h1,h2⟩:=hb i hi;have:g i=y:=by simp[g,hy]
   rw[this]
   exact⟨h1,h2⟩
  have key:∀n,n<=len->((bq n).flatMap c).length=n*k/\∀j y,((bq n).flatMap c)[j]? = some y->w.cell? ⟨ab,ao+j,none⟩=some y:=by
   intro n
   induction n with
   | zero=>intro _;simp
   | succ n ih=>
    intro hle';obtain⟨i1,i2⟩:=ih (by omega)
    obtain⟨c1,c2,_⟩:=hb n (by omega)
    rw[mz,l6]
    refine⟨by simp[i1,c1,np],λj y hj=>?_⟩
    rw[List.getElem?_append] at hj;split at hj
    ·exact i2 j y hj
    ·rename_i hge;simp only[d8,mg,dp] at hj;rw[i1] at hj hge;have hlt:j - n*k < k:=by
      have:=(List.getElem?_eq_some_iff.1 hj).1;omega
     have:=c2 (j - n*k) hlt;rw[show n*k+(j - n*k)=j by omega] at this;rw[this]
     exact hj
  obtain⟨l1,l2⟩:=key len (ca _)
  refine⟨(bq len).map g,⟨⟨by simpa using fp hle hmax,by simpa using hw1⟩,λy hy=>?_⟩,?_⟩
  ·obtain⟨i,hi,rfl⟩:=dh.1 hy;exact(hg i (by simpa using hi)).1
  ·have hrl:=aJ6 (w:=w) (M:=(emp w).M) (f:=f) g c (bq len) (λi hi=>(hg i (by simpa using hi)).2)
   simp only[eL,Rd]
   refine⟨by simp,some ⟨ab,ao,none⟩,cap,by simp,by simpa using hle,λz hz=>?_,?_⟩
   ·obtain⟨y,_,rfl⟩:=dh.1 hz;exact hn y
   ·by_cases hz:(bq len).flatMap c=[]
    ·left;have hkz:len*k=0:=by rw[<- l1,hz];rfl
     exfalso;rcases Nat.mul_eq_zero.1 hkz with h | h
     ·omega
     ·omega
    ·right;exact⟨ab,ao,_,rfl,hrl,λj y hj=>⟨l2 j y hj,emp_M⟩⟩
end
theorem cL.below{w w':World}(h:cL w w'):Below w.heap.size w w':=⟨h.os,h.tape,h.output,h.size,h.block⟩
theorem aOw{P:Program}{f:FuncId}{args:List AV}{vs:List Value}(h:FnM P f [] args (eB true) [])(w:World)(hG:aJ2 w)(hr:RvL (emp w) args vs) :
  Calls P f vs.toArray w λe w'=>e = .returned (.bool true)/\Below w.heap.size w w':=by
 refine(h.later w _ vs (aQi w hG) hr).mono ?_;rintro e w' ⟨y,rfl,hl,hy⟩
 exact⟨by rw[bH hy],hl.below⟩
section
variable {P:Program} {t e:TypeId}
theorem qC{α:Type}{f:α->AV}{ok:α->Prop}{n k m:Nat}(ht:P.underlying t=some (.array n e))(hs:P.cellsOf t=m)(hk:P.cellsOf e=k)(hmk:m=n*k)(hn:∀a,(f a).n=k)(hf:tF P e f ok) :
  tF P t (eA m k f:Vector α n->AV) (λv=>∀a∈v.toList,ok a):=by
 intro H enc w spare fuel cs x h hwt;obtain⟨xs,n',_,hx0,hl,hx,hel⟩:=DataW.trod_array ht h;rw[hx0] at hwt;unfold DataW.weights at hwt;rw[ht] at hwt;dsimp only at hwt;have hx:∀i,∃b:Option α,i < n->∃b',b=some b'/\ok b'/\Rd w (emp w).M (f b') ((cs.drop (i*k)).take k):=by
  intro i;by_cases hi:i < n
  ·have h1:=hel i hi;rw[hk,af (by omega)] at h1;obtain⟨b,hb1,hb2⟩:=hf enc w spare n' _ _ h1 (eg.2 λn hn=>eg.1 hwt n (aEY (dh.2 ⟨xs[i],List.getElem_mem _,rfl⟩) n hn))
   exact⟨some b,λ_=>⟨b,rfl,hb1,hb2⟩⟩
  ·exact⟨none,λh'=>absurd h' hi⟩
 obtain⟨b,hb⟩:=Classical.axiomOfChoice hx;have hlen:cs.length=n*k:=by rw[hl,hs,hmk]
 have key:∀j,j<=n->(bq j).flatMap (λi=>(cs.drop (i*k)).take k)=cs.take (j*k):=by
  intro j
  induction j with
  | zero=>intro _;simp
  | succ j ih=>
   intro hj;rw[mz,l6,ih (by omega)]
   simp only[d8,mg,dp]
   rw[np,List.take_add]
 rcases ma n with h0 | hpos
 ·subst h0;refine⟨⟨#[],rfl⟩,by simp[iq],?_⟩
  have hc0:cs=[]:=by simpa using hlen
  subst hc0;simp[eA,iq,Rd,RdL]
  omega
 ·obtain⟨y0,_⟩:=hb 0 hpos
  let g:Nat->α:=λi=>(b i).getD y0
  have hg:∀i,i < n->ok (g i)/\Rd w (emp w).M (f (g i)) ((cs.drop (i*k)).take k):=by
   intro i hi;obtain⟨y,hy,h1,h2⟩:=hb i hi;have:g i=y:=by simp[g,hy]
   rw[this]
   exact⟨h1,h2⟩
  refine⟨⟨((bq n).map g).toArray,by simp⟩,λy hy=>?_,?_⟩
  ·simp only[iq] at hy;obtain⟨i,hi,rfl⟩:=dh.1 hy;exact(hg i (by simpa using hi)).1
  ·have hrl:=aJ6 (w:=w) (M:=(emp w).M) (f:=f) g (λi=>(cs.drop (i*k)).take k) (bq n) (λi hi=>(hg i (by simpa using hi)).2)
   rw[key n (ca _),List.take_of_length_le (by omega)] at hrl;simp only[eA,iq,Rd]
   refine⟨by omega,λz hz=>?_,hrl⟩
   obtain⟨y,_,rfl⟩:=dh.1 hz;exact hn y
theorem bI{H:Type}{enc:TypeId×Value->H}{w:World}{spare:Nat->Bool}{n:Nat}{cs:List Value}{xs:List (DataW H×List MemPlace)}{fs:Array Field}(hx:xs.length=fs.size)
  (hf:∀(i:Nat) (f:Field),fs[i]? = some f->DataW.trod enc P w 0 spare true n f.type ((cs.drop f.offset).take (P.cellsOf f.type))=xs[i]?) (i o s:Nat) (f:Field) (hi:fs[i]? = some f) (ho:f.offset=o) (hs:P.cellsOf f.type=s)
  {β:Type} {g:β->AV} {ok:β->Prop} (hop:tF P f.type g ok) (hwt:(DataW.weightsEach P (fs.toList.map (·.type)) (xs.map (·.1))).all (·<=reachBytes)=true):∃b,ok b/\Rd w (emp w).M (g b) ((cs.drop o).take s):=by
 have h1:=hf i f hi;have hlt:i < xs.length:=by rw[hx];exact(Array.getElem?_eq_some_iff.1 hi).1
 rw[af hlt,ho,hs] at h1;exact hop enc w spare n _ _ h1 (aOR hwt (i:=i) (by rw[ci,Array.getElem?_toList,hi];rfl) (by rw[ci,af hlt];rfl))
theorem bQ{w:World}{M:Nat->Nat->Prop}{p:AV}{ps:List AV}{cs:List Value}{o s:Nat}(h:Rd w M p ((cs.drop o).take s))(hs:RdL w M ps (cs.drop (o+s))):RdL w M (p :: ps) (cs.drop o):=by
 simp only[RdL]
 exact⟨_,_,(List.take_append_drop s (cs.drop o)).symm,h,by rw[List.drop_drop];exact hs⟩
theorem uH{w:World}{M:Nat->Nat->Prop}{cs:List Value}{o:Nat}(h:cs.length=o):RdL w M [] (cs.drop o):=by
 simp only[RdL]
 exact List.drop_of_length_le (by omega)
theorem aBu{w:World}{M:Nat->Nat->Prop}{ps:List AV}{cs:List Value}{n:Nat}(hl:cs.length=n)(h:RdL w M ps (cs.drop 0)):Rd w M (.st n ps) cs:=by
 simp only[Rd]
 exact⟨hl,h⟩
def Form(v:Value)(agg:Bool):Prop:=if agg then ∃cs,v = .agg cs else v.cells=#[v]
theorem aMT{w:World}{r:Reach}{b:Nat}{v:Value}(ht:P.underlying t=some (.slice e))(h:Value.okWide P w r b t v):Form v false:=by
 obtain⟨a,l,c,rfl⟩:=Go.WideShapes.okWide_slice ht h;rfl
theorem aKY{w:World}{r:Reach}{b:Nat}{v:Value}{fs:Array Field}(ht:P.underlying t=some (.struct fs))(h:Value.okWide P w r b t v):Form v true:=by
 obtain⟨cs,rfl,_⟩:=Go.WideShapes.okWide_struct ht h;exact⟨cs,rfl⟩
theorem aMn{w:World}{r:Reach}{b:Nat}{v:Value}{n:Nat}(ht:P.underlying t=some (.array n e))(h:Value.okWide P w r b t v):Form v true:=by
 unfold Value.okWide at h;rw[ht] at h;obtain⟨cs,rfl,_⟩:=h;exact⟨cs,rfl⟩
theorem aEu{α:Type}{f:α->AV}{ok:α->Prop}{g:Bool}{H:Type}{enc:TypeId×Value->H}{w:World}{spare:Nat->Bool}{v:Value}{d:DataW H}{ps:List MemPlace}
  (ho:tF P t f ok) (hv:Form v g) (hg:∀a,(f a).isAgg=g) (hwt:(d.weights P t).all (·<=reachBytes)=true) (h:DataW.Trod enc P w 0 spare true t v d ps):∃a,ok a/\Rv0 (emp w) (f a) v:=by
 obtain⟨fuel,hf⟩:=h;obtain⟨a,h1,h2⟩:=ho enc w spare fuel _ _ hf hwt;refine⟨a,h1,?_⟩
 have h2:=Rd.rc (μ:=emp w) _ _ h2;unfold Rv0;rw[hg a]
 cases g with
 | true=>
  obtain⟨cs,rfl⟩:=hv;exact⟨cs,rfl,h2⟩
 | false=>
  have hv':v.cells=#[v]:=hv;rw[hv'] at h2;exact h2
end
end Go.UK

open Array renaming getElem?_toList→f9,toList_inj→gd
open Bool renaming false_eq_true→au
open List renaming append_assoc→an,append_nil→dp,eq_nil_of_length_eq_zero→dx,getElem?_append_left→bx,getElem?_append_right→cf,getElem?_cons_succ→ij,getElem?_cons_zero→du,getElem?_eq_getElem→af,getElem?_toArray→kg,length_append→ai,length_map→cg
open Nat renaming add_mul→io,beq→bp,ble→hL,eq_of_beq_eq_true→ak,le_of_ble_eq_true→cn,le_refl→ca,lt_irrefl→jq,lt_or_ge→eo,mul_assoc→jp,mul_le_mul_right→fx,zero_add→fy
open Go.Result renaming andThen_ok→am
open Go.Sem renaming run_bind→bf,run_pure→ck
namespace Go.UK
open Go
set_option linter.all false
variable [bL]
theorem aI7(n:Nat):∀(r c:Nat),c<=2*n->256<=c->Builtin.growBy n r c<=2*n
 | 0,c,h,_=>h
 | r+1,c,h,h2=>by
  unfold Builtin.growBy;split
  ·exact h
  ·exact aI7 n r _ (by omega) (by omega)
theorem aSO{n c:Nat}(h:c < n):Builtin.nextslicecap n c<=2*n:=by
 unfold Builtin.nextslicecap;split
 ·omega
 ·split
  ·omega
  ·exact aI7 n 4 c (by omega) (by omega)
theorem aHu(n:Nat):∀(r c:Nat),c<=n+(n+768) / 4->Builtin.growBy n r c<=n+(n+768) / 4
 | 0,c,h=>h
 | r+1,c,h=>by
  unfold Builtin.growBy;split
  ·exact h
  ·exact aHu n r _ (by omega)
theorem aRB{n c:Nat}(h:c < n):Builtin.nextslicecap n c<=n+n / 4+512:=by
 unfold Builtin.nextslicecap;split
 ·omega
 ·split
  ·omega
  ·have:=aHu n 4 c (by omega)
   omega
def okA(n b:Nat):Bool:=hL (n*b) 140737488355328||(hL 1024 n&&hL (n*b) 150000000000000)
theorem aVW{n b:Nat}(h:n*b<=140737488355328):okA n b=true:=by unfold okA;rw[Nat.ble_eq_true_of_le h];rfl
theorem aPt{n c b:Nat}(h:okA n b=true)(hc:c < n):Builtin.nextslicecap n c*b<=281474976710656:=by
 unfold okA at h;rcases Bool.or_eq_true_iff.1 h with h | h
 ·have h1:=cn h;have:=fx b (aSO hc)
  rw[jp] at this;omega
 ·obtain⟨h1,h2⟩:=Bool.and_eq_true_iff.1 h;have h1:=cn h1;have h2:=cn h2;have h3:=fx b (show 4*Builtin.nextslicecap n c<=7*n by have:=aRB hc;omega)
  rw[jp,jp] at h3;omega
theorem aDU{c:Array Value}{o:Nat}{vs:List Value}(h:o+vs.length<=c.size){i:Nat}(hi:i < o):(jM c o vs)[i]? = c[i]? := by
 rw[<- f9,oN _ _ _ h,an,bx (by simp;omega),List.getElem?_take,if_pos hi,f9]
theorem aMG{c:Array Value}{o:Nat}{vs:List Value}(h:o+vs.length<=c.size){i:Nat}{v:Value}(hi:vs[i]? = some v):(jM c o vs)[o+i]? = some v:=by
 have hl:=aX hi;rw[<- f9,oN _ _ _ h,an,cf (by simp;omega),bx (by simp;omega)]
 have:o+i - (List.take o c.toList).length=i:=by simp;omega
 rw[this]
 exact hi
section
variable {P:Program} {T:TypeId→Option TI} {n:Fr}
structure Src(P:Program)(w:World)(k:Nat)(x:Value)(zs:List Value)(m:Nat):Prop where
 len:(Builtin.lenOf x).run P w = .ok m w
 cells:(Builtin.firstCells k m x).run P w = .ok zs.toArray w
theorem aPC{μ:Mem}{k ln:Nat}{ys:List AV}{x:Value}(h:Rv μ (.sl k ln ys) x):∃zs,RdL μ.w μ.M ys zs/\zs.length=ys.length*k/\∀w',w'.heap=μ.w.heap->Src P w' k x zs ys.length:=by
 obtain⟨a,cap,e,hcap,hk,hc⟩:=aCi h;subst e;rcases hc with hc | ⟨b,off,zs,e,h1,h2⟩
 ·subst hc;refine⟨[],by simp[RdL],by simp,λw' _=>⟨by simp[Builtin.lenOf],?_⟩⟩
  cases a with
  | none=>simp[Builtin.firstCells]
  | some a=>simp[Builtin.firstCells,loadCells,loadCellsFrom]
 ·subst e;have hl:=RdL.length h1;rw[tL hk] at hl;refine⟨zs,h1,hl,λw' hw=>⟨by simp[Builtin.lenOf],?_⟩⟩
  simp only[Builtin.firstCells]
  rw[<- hl]
  exact tI λj y hy=>by
   have:=(h2 j y hy).1;simp only[World.cell?,hw] at this ⊢;exact this
def TK.noInt : TK->Bool
 | .sl _=>true
 | .str=>true
 | _=>false
theorem aHg(hT:TOK P T){xt:TypeId}{xi:TI}(hxt:T xt=some xi)(hk:xi.kind.noInt=true):∃d,P.underlying xt=some d/\(match d with | .int _=>true | _=>false)=false:=by
 obtain⟨d,hd,hf⟩:=(hT xt _ hxt).kind;refine⟨d,hd,?_⟩
 cases hxk:xi.kind <;> rw[hxk] at hk hf <;> simp only[TK.noInt] at hk <;> first | (cases hk;done) | skip
 ·simp only[TK.fits] at hf;subst hf;rfl
 ·simp only[TK.fits] at hf;subst hf;rfl
theorem tK(hT:TOK P T){t xt e:TypeId}{sz b1:Nat}{z:AV}{ei xi:TI}(ht:T t=some ⟨sz,b1,z,.sl e⟩)(he:T e=some ei)(hxt:T xt=some xi)(hxk:xi.kind.noInt=true){w w':World}{base:Option Addr}{sl sc m:Nat}{x:Value}{zs:List Value}{ty:TypeId}
  (hs:Src P w ei.size x zs m) (hroom:sl+m<=sc) (hst:∀a,base=some a->(storeCells (a.add (sl*ei.size)) zs).run P w = .ok () w') (hno:base=none->w'=w) :
  (Builtin.append_ #[t,xt] ty #[.slice base sl sc,x]).run P w = .ok (.slice base (sl+m) sc) w':=by
 obtain⟨d,hd,hk⟩:=(hT t _ ht).kind;simp only[TK.fits] at hk;subst hk;obtain⟨d',hd',hz⟩:=aHg hT hxt hxk;unfold Builtin.append_;simp only[kg,du,ij,bf,run_underlying hd,run_underlying hd',am,lU hT he,ck]
 cases base with
 | none=>
  rw[hno rfl]
  cases d' <;> first | (simp at hz;done) | simp[hs.len,hs.cells,hroom]
 | some a=>
  have:=hst a rfl;cases d' <;> first | (simp at hz;done) | simp[hs.len,hs.cells,hroom,this]
theorem aAz(hT:TOK P T){t xt e:TypeId}{sz b1:Nat}{z:AV}{ei xi:TI}(ht:T t=some ⟨sz,b1,z,.sl e⟩)(he:T e=some ei)(hxt:T xt=some xi)(hxk:xi.kind.noInt=true){w:World}{base:Option Addr}{sl sc m:Nat}{x:Value}{zs old:List Value}{ty:TypeId}
  (hs:Src P w ei.size x zs m) (hs':Src P w.drew ei.size x zs m) (hold:(Builtin.firstCells ei.size sl (.slice base sl sc)).run P w.drew = .ok old.toArray w.drew) (hroom:¬sl+m<=sc) (hb:ei.bytes≠0) (hbound:okA (sl+m) ei.bytes=true) :
  ∃(cap:Nat) (more:List Value),sl+m<=cap/\more.length=(cap - (sl+m))*ei.size /\
   (Builtin.append_ #[t,xt] ty #[.slice base sl sc,x]).run P w = .ok (.slice (some ⟨w.heap.size,0,none⟩) (sl+m) cap) (w.drew.alloc (.cells (old++zs++more).toArray e)):=by
 obtain⟨d,hd,hk⟩:=(hT t _ ht).kind;simp only[TK.fits] at hk;subst hk;obtain⟨d',hd',hz⟩:=aHg hT hxt hxk;obtain⟨zv,zz,g1,g2,g3,g4,g5⟩:=uL hT he w.drew;obtain⟨te,k1,k2,k3⟩:=aEx hT he w;obtain⟨te',k1',k2',k3'⟩:=aEx hT he w.drew
 let q:=Question.appendCap (sl+m) sc e
 let cap:=q.cut (w.tape w.drawn q)
 refine⟨cap,(Builtin.zeroCells zz.toArray (cap - (sl+m))).toList,?_,?_,?_⟩
 ·show sl+m<=(sl+m)+_ % _;omega
 ·simp[Builtin.zeroCells,g4]
 ·have hn2:¬Builtin.nextslicecap (sl+m) sc*te.bytes > 2 ^ 48:=by
   rw[k2]
   have:=aPt hbound (show sc < sl+m by omega)
   omega
  have hb':te.bytes≠0:=by rw[k2];exact hb
  have harr:old.toArray++zs.toArray++Builtin.zeroCells zz.toArray (cap - (sl+m))=(old++zs++(Builtin.zeroCells zz.toArray (cap - (sl+m))).toList).toArray:=by rw[<- gd];simp
  have hcap:(Question.appendCap (sl+m) sc e).cut (w.tape w.drawn (Question.appendCap (sl+m) sc e))=cap:=rfl;have hlen:=hs.len;unfold Builtin.append_;simp only[kg,du,ij,bf,run_underlying hd,run_underlying hd',am,lU hT he,ck]
  have hc:=hs'.cells;cases d' <;> first
   | (simp at hz;done)
   | (simp only[au,if_false,hlen,am,Sem.run_ite,if_neg hroom,bf,k1,hb',hn2,false_or,and_false,run_choose,ck];simp only[show Question.forced (.appendCap (sl+m) sc e)=false from rfl,au,if_false,am,World.drew_eq,k1',run_askRoom,hold,Bool.not_false,if_true,hc,g1,g3,hcap];simp only[newRow,bf,run_newObj,am,ck,World.alloc_eq];rw[harr];rfl)
def aGV : AV->Option (Nat×List AV)
 | .v (.string s)=>some (1,s.data.toList.map λb => .v (.int .u8 b.toNat))
 | x=>rE x
theorem aB3{w:World}{M:Nat->Nat->Prop}:∀(l:List UInt8),RdL w M (l.map λb=>AV.v (.int .u8 b.toNat)) (l.map λb=>Value.int .u8 b.toNat)
 | []=>by simp[RdL]
 | b :: l=>by
  simp only[List.map_cons,RdL]
  exact⟨[_],_,rfl,by simp[Rd,Value.oneCell'],aB3 l⟩
theorem aKP{μ:Mem}{k k':Nat}{ys:List AV}{v:AV}{x:Value}(hv:aGV v=some (k,ys))(hk:k=k')(h:Rv μ v x):∃zs,RdL μ.w μ.M ys zs/\zs.length=ys.length*k/\(∀e∈ys,e.n=k)/\∀w',w'.heap=μ.w.heap->Src P w' k' x zs ys.length:=by
 subst hk;have sl:rE v=some (k,ys)->∃zs,RdL μ.w μ.M ys zs/\zs.length=ys.length*k/\(∀e∈ys,e.n=k)/\∀w',w'.heap=μ.w.heap->Src P w' k x zs ys.length:=by
  intro hv;have h':=sB hv h;obtain⟨_,_,_,_,hk,_⟩:=aCi h';obtain⟨zs,h1,h2,h3⟩:=aPC (P:=P) h';exact⟨zs,h1,h2,hk,h3⟩
 cases v with
 | v y=>
  cases y with
  | string s=>
   simp only[aGV,Option.some.injEq,Prod.mk.injEq] at hv;obtain⟨rfl,rfl⟩:=hv;have e:=bH h;subst e;refine⟨_,aB3 s.data.toList,by simp,by intro e he;obtain⟨b,_,e2⟩:=List.mem_map.1 he;subst e2;rfl,λw' _=>⟨by simp[Builtin.lenOf],?_⟩⟩
   simp only[Builtin.firstCells,ck]
   congr 1;rw[<- gd]
   have:(s.extract 0 s.size)=s:=by simp
   simp
  | _=>exact sl hv
 | _=>exact sl hv
theorem aV2{μ:Mem}{id k ln:Nat}{es:List AV}{y:Value}(h:Rv μ (.own id k ln es) y):es.length=ln/\∃a cap,y = .slice a es.length cap/\es.length<=cap/\(∀e∈es,e.n=k) /\
   (es=[]\/∃b off zs,a=some ⟨b,off,none⟩/\RdL μ.w μ.M es zs/\μ.at b off zs)/\μ.tok id k es.length a cap:=by
 simpa[Rv,Rv0,AV.isAgg,Rc] using h
theorem aKd(hT:TOK P T){o:Oper}{t xt e:TypeId}{sz b1:Nat}{z:AV}{ei xi:TI}{p q:Operand}{id k m:Nat}{es ys:List AV}{v:AV}{ln:Nat}{a:Act}{H:List Box}{bs:List (Option Nat)}{w:World}{F:Nat->Nat->Prop}
  (ho:o.op = .call { callee := .builtin .append,args:=#[p,q],argTypes:=#[t,xt] }) (ht:T t=some ⟨sz,b1,z,.sl e⟩) (he:T e=some ei) (hek:ei.size=k) (hxt:T xt=some xi) (hxk:xi.kind.noInt=true)
  (hmok:(⟨H,bs,w,F⟩:Mem).OK) (hv1:Rv ⟨H,bs,w,F⟩ (.own id k ln es) (a.eval p)) (hv2:Rv ⟨H,bs,w,F⟩ v (a.eval q)) (hv:aGV v=some (k,ys)) (hH:H[id]? = some (.tail m)) (hm:es.length*k=m) (hk0:0 < k) (hb0:ei.bytes≠0)
  (hbound:okA (es.length+ys.length) ei.bytes=true):∃bs' w',eQ P o a ⟨H,bs,w,F⟩ (.own id k (es++ys).length (es++ys)) ⟨H.set id (.tail ((es++ys).length*k)),bs',w',F⟩:=by
 obtain⟨hln,ad,cap,g1,g2,g3,g4,g5⟩:=aV2 hv1;obtain⟨zs,k1,k2,k3,k4⟩:=aKP (P:=P) hv rfl hv2;obtain⟨cs,hexec⟩:=mZ ho a.eval;have hbl:bs.length=H.length:=hmok.len;obtain⟨hidlt,htok⟩:=g5;have htok':=(htok m hH).2 hm;have hcase:∃v' bs' w',(Builtin.append_ #[t,xt] o.type #[a.eval p,a.eval q]).run P w = .ok v' w'/\Ext ⟨H,bs,w,F⟩ ⟨H.set id (.tail ((es++ys).length*k)),bs',w',F⟩ /\
   (⟨H.set id (.tail ((es++ys).length*k)),bs',w',F⟩:Mem).OK/\Rv ⟨H.set id (.tail ((es++ys).length*k)),bs',w',F⟩ (.own id k (es++ys).length (es++ys)) v':=by
  have hlenk:(es++ys).length*k=m+zs.length:=by rw[ai,io,hm,k2]
  -- the old elements, as cells
  have hold:∃old:List Value,RdL w (⟨H,bs,w,F⟩:Mem).M es old/\old.length=m/\(∀w',w'.heap=w.heap->(Builtin.firstCells k es.length (.slice ad es.length cap)).run P w' = .ok old.toArray w')/\(es=[]\/∃b off,ad=some ⟨b,off,none⟩/\(⟨H,bs,w,F⟩:Mem).at b off old):=by
   rcases g4 with g4 | ⟨b,off,old,q1,q2,q3⟩
   ·subst g4;refine⟨[],by simp[RdL],by simpa using hm,λw' _=>?_,.inl rfl⟩
    cases ad with
    | none=>simp[Builtin.firstCells]
    | some a=>simp[Builtin.firstCells,loadCells,loadCellsFrom]
   ·have hl:=RdL.length q2;rw[tL g3] at hl;refine⟨old,q2,by omega,λw' hw=>?_,.inr ⟨b,off,q1,q3⟩⟩
    subst q1;simp only[Builtin.firstCells]
    rw[<- hl]
    exact tI λj y hy=>by
     have:=(q3 j y hy).1;simp only[World.cell?,hw] at this ⊢;exact this
  obtain⟨old,o1,o2,o3,o4⟩:=hold;have hall:∀e∈es++ys,e.n=k:=by
   intro e he;rcases List.mem_append.1 he with h' | h'
   ·exact g3 e h'
   ·exact k3 e h'
  by_cases hroom:es.length+ys.length<=cap
  ·rcases htok' with ⟨b,t1,t2,c,TT,t3,t4⟩ | t2
   ·-- into its own block
    subst t2;have hsz:m+zs.length<=c.size:=by
     rw[t4]
     have:(es.length+ys.length)*k<=cap*k:=fx _ hroom;rw[io] at this;omega
    have hstore:(storeCells ⟨b,m,none⟩ zs).run P w = .ok () (aZ w b (.cells (jM c m zs) TT (0,0))):=by
     have:=nU (P:=P) zs m 0 w c t3 (by omega) (RcL.oneCell _ _ (RdL.rc (μ:=⟨H,bs,w,F⟩) _ _ k1))
     simpa using this
    have ext:=Ext.grow (m':=(es++ys).length*k) t1 hH t3 hmok (by omega) (nC zs c m) (λi hi=>aDU hsz hi)
    have ok:=OK.grow (m':=(es++ys).length*k) t1 hH t3 hmok (by omega) (nC zs c m) (λi hi=>aDU hsz hi) (by rw[nC];omega)
    refine⟨.slice (some ⟨b,0,none⟩) (es.length+ys.length) cap,bs,_,?_,ext,ok,?_⟩
    ·rw[g1]
     refine tK hT ht he hxt hxk (zs:=zs) (by rw[hek];exact k4 w rfl) hroom ?_ (by intro h;cases h)
     intro a' e';cases e';rw[pV,hek,hm,fy]
     exact hstore
    ·show Rv0 _ _ _;simp only[Rv0,AV.isAgg,Rc,au,if_false]
     refine⟨trivial,some ⟨b,0,none⟩,cap,by rw[ai],by rw[ai];exact hroom,hall,.inr ⟨b,0,old++zs,rfl,?_,?_⟩,?_⟩
     ·exact RdL.append (RdL.mono ext.keeps _ _ o1) (RdL.mono ext.keeps _ _ k1)
     ·intro j y hy;rw[fy]
      have hjl:=aX hy;rw[ai,o2] at hjl;have hcell:(aZ w b (.cells (jM c m zs) TT (0,0))).cell? ⟨b,j,none⟩=(jM c m zs)[j]? := by
       simp only[World.cell?,bK (cG t3)]
       simp
      have hF:¬F b j:=by
       rcases eo j m with hj | hj
       ·rcases o4 with o4 | ⟨b',off',e',q3⟩
        ·subst o4;simp at hm;omega
        ·cases e';obtain⟨q4,q5⟩:=q3 j (old[j]'(by omega)) (af (by omega))
         rw[fy] at q5;exact λhf=>q5 (.inl hf)
       ·exact hmok.clear b j ⟨id,t1,.inr ⟨m,hH,hj⟩⟩
      refine⟨?_,?_⟩
      ·show(aZ w b (.cells (jM c m zs) TT (0,0))).cell? ⟨b,j,none⟩=some y;rw[hcell]
       rcases eo j m with hj | hj
       ·rw[aDU hsz hj]
        rcases o4 with o4 | ⟨b',off',e',q3⟩
        ·subst o4;simp at hm;omega
        ·cases e';rw[bx (by omega)] at hy;obtain⟨q4,q5⟩:=q3 j y hy;rw[fy] at q4;simp only[World.cell?,t3] at q4;simpa using q4
       ·rw[cf (by omega),o2] at hy;have:=aMG hsz hy;rw[show m+(j - m)=j by omega] at this;exact this
      ·rintro(hf | hown)
       ·exact hF hf
       ·obtain⟨i,i1,i2⟩:=hown;dsimp only at i1 i2;rcases i2 with ⟨c',i2,i4⟩ | ⟨q,i2,i3⟩
        ·rcases dV i2 with ⟨_,e'⟩ | ⟨hne,e'⟩
         ·rw[e'] at i4;cases i4
         ·exact hne (hmok.apart id i b _ _ t1 i1 hH e' (by simp) (Box.whole_live i4))
        ·rcases dV i2 with ⟨_,e'⟩ | ⟨hne,e'⟩
         ·cases e';omega
         ·exact hne (hmok.apart id i b _ _ t1 i1 hH e' (by simp) (by simp))
     ·refine⟨by simpa using hidlt,λq hq=>?_⟩
      dsimp only at hq;rw[bW hH] at hq;cases hq;exact⟨ca _,λ_ => .inl ⟨b,t1,rfl,_,TT,bK (cG t3),by rw[nC];exact t4⟩⟩
   ·-- no room but for nothing
    have hys:ys=[]:=dx (by omega)
    subst hys;have hzs:zs=[]:=dx (by simpa using k2)
    subst hzs;have hset:H.set id (.tail ((es++[]).length*k))=H:=by
     simp only[dp,hm]
     apply List.ext_getElem?;intro i;by_cases hi:id=i
     ·subst hi;rw[bW hH,hH]
     ·rw[aW hi]
    rw[hset]
    refine⟨.slice ad es.length cap,bs,w,?_,Ext.refl _,hmok,?_⟩
    ·rw[g1]
     have:=tK (P:=P) (w:=w) (w':=w) (base:=ad) (sl:=es.length) (sc:=cap) (ty:=o.type) hT ht he hxt hxk (zs:=[]) (by rw[hek];exact k4 w rfl) hroom (by intro a' _;simp[storeCells]) (λ_=>rfl)
     simpa using this
    ·rw[g1] at hv1;rw[hln]
     simp only[dp,hln]
     rw[hln] at hv1;exact hv1
  ·-- to a new block
   have hheap:w.drew.heap=w.heap:=rfl;obtain⟨cap',more,c1,c2,c3⟩:=aAz (P:=P) (w:=w) (base:=ad) (sl:=es.length) (sc:=cap) (m:=ys.length) (x:=a.eval q) (zs:=zs) (old:=old) (ty:=o.type) hT ht he hxt hxk (by rw[hek];exact k4 w rfl) (by rw[hek];exact k4 w.drew rfl) (by rw[hek];exact o3 w.drew rfl) hroom hb0 hbound;have hlt:m < (es++ys).length*k:=by
    have:0 < ys.length:=by omega
    have:0 < ys.length*k:=Nat.mul_pos this hk0;omega
   obtain⟨ob,hob⟩:∃ob,bs[id]? = some ob:=⟨bs[id]'(by dsimp only at hidlt;omega),af (by dsimp only at hidlt;omega)⟩
   have hlater:cL w (w.drew.alloc (.cells (old++zs++more).toArray e)):=(cL.drew w).trans (cL.alloc _ _ _)
   have hrowlen:(old++zs++more).length=cap'*k:=by
    simp only[ai,o2,c2,hek]
    rw[k2,<- hm,<- io,<- io]
    congr 1;omega
   have hnewb:(w.drew.alloc (.cells (old++zs++more).toArray e)).heap[w.heap.size]? = some (.cells (old++zs++more).toArray e (0,0)):=eV (w:=w.drew)
   have ext:=Ext.move (F:=F) (m':=(es++ys).length*k) hob hH hlater (ca _) hlt;have ok:=OK.move (m':=(es++ys).length*k) hob hH hmok hlater (ca _) hlt ⟨cap'*k,⟨_,e,hnewb,by simpa using hrowlen⟩,by
    rw[ai];exact fx _ c1⟩
   refine⟨.slice (some ⟨w.heap.size,0,none⟩) (es.length+ys.length) cap',_,_,by rw[g1];exact c3,ext,ok,?_⟩
   show Rv0 _ _ _;simp only[Rv0,AV.isAgg,Rc,au,if_false]
   refine⟨trivial,some ⟨w.heap.size,0,none⟩,cap',by rw[ai],by rw[ai];exact c1,hall,.inr ⟨w.heap.size,0,old++zs,rfl,?_,?_⟩,?_⟩
   ·exact RdL.append (RdL.mono ext.keeps _ _ o1) (RdL.mono ext.keeps _ _ k1)
   ·intro j y hy;rw[fy]
    have hjl:=aX hy;refine⟨?_,?_⟩
    ·simp only[World.cell?,hnewb]
     have:(old++zs++more)[j]? = some y:=by rw[bx hjl];exact hy
     simpa using this
    ·rintro(hf | hown)
     ·exact jq _ (hmok.foreign _ _ hf)
     ·obtain⟨i,i1,i2⟩:=hown;dsimp only at i1 i2;by_cases hi:id=i
      ·subst hi;rcases i2 with ⟨c',i2,i4⟩ | ⟨q,i2,i3⟩
       ·rw[bW hH] at i2;cases i2;cases i4
       ·rw[bW hH] at i2;cases i2;rw[ai,o2] at hjl;omega
      ·rw[aW hi] at i1;rcases i2 with ⟨c',i2,i4⟩ | ⟨q,i2,i3⟩
       ·rw[aW hi] at i2;exact jq _ (bU hmok (b:=w.heap.size) i1 i2 (Box.whole_live i4))
       ·rw[aW hi] at i2;exact jq _ (bU hmok (b:=w.heap.size) i1 i2 (by simp))
   ·refine⟨by simpa using hidlt,λq hq=>?_⟩
    dsimp only at hq;rw[bW hH] at hq;cases hq;exact⟨ca _,λ_ => .inl ⟨w.heap.size,bW hob,rfl,_,e,hnewb,by simpa using hrowlen⟩⟩
 obtain⟨v',bs',w',c1,c2,c3,c4⟩:=hcase;have hargs:(#[p,q]:Array Operand).map a.eval=#[a.eval p,a.eval q]:=by simp
 refine⟨bs',w',v',?_,c4,c2,c3⟩
 rw[hexec,hargs]
 simp only[builtin,bf,c1,am,ck]
structure App where
 id:Nat
 k:Nat
 es:List AV
 ys:List AV
 bytes:Nat
def aLB(T:TypeId->Option TI)(o:Oper)(need:Env)(H:List Box):Option (App×Nat×Nat):=
 match o.op with
 | .call { callee := .builtin .append,args,argTypes }=>match args.toList,argTypes.toList with
  | [p,q],[t,xt]=>match opd need none p,opd need none q,T t,T xt with
   | some (.own id k l es),some v,some ⟨_,_,_,.sl e⟩,some xi=>match T e,aGV v,H[id]? with
    | some ei,some (k',ys),some (.tail m)=>match xi.kind.noInt,bp ei.size k&&(bp k' k&&(Nat.blt 0 k && !(bp ei.bytes 0))) with
     | true,true=>some (⟨id,k,es,ys,ei.bytes⟩,l,m)
     | _,_=>none
    | _,_,_=>none
   | _,_,_,_=>none
  | _,_=>none
 | _=>none
theorem arr2{α:Type}{x:Array α}{p q:α}(h:x.toList=[p,q]):x=#[p,q]:=by rw[<- gd,h]
theorem aML(hT:TOK P T){o:Oper}{need:Env}{H:List Box}{α:Type}(f:α->AV){id k b:Nat}{l r:List α}(hx:okA (l.length+r.length) b=true)(hd:dOK n.n o.dst=true)
  (h:aLB T o need H=some (⟨id,k,l.map f,r.map f,b⟩,l.length,l.length*k)):Big P n o need H (.own id k (l++r).length ((l++r).map f)) (H.set id (.tail ((l++r).length*k))):=by
 unfold aLB at h;split at h <;> try cases h
 rename_i args tys ho;split at h <;> try cases h
 rename_i p q t xt hargs htys;split at h <;> try cases h
 rename_i id' k' l' es v sz b1 z e xi hp hq ht hxt;split at h <;> try cases h
 rename_i ei k'' ys m he hv hHm;split at h <;> cases h;rename_i hni hc;simp only[Bool.and_eq_true,Bool.not_eq_true'] at hc;obtain⟨c1,c2,c3,c6⟩:=hc;have c1:=ak c1;have c2:=ak c2;have hk0:0 < k:=by have h':hL (0+1) k=true:=c3;have:=cn h';omega
 have hb0:ei.bytes≠0:=by intro e0;rw[e0] at c6;cases c6
 subst c2;refine cY hd λa μ ok hH hE=>?_;obtain⟨H0,bs,w,F⟩:=μ;dsimp only at hH;subst hH;have hv1:=aR hE noG hp;have hv2:=aR hE noG hq;rw[arr2 hargs,arr2 htys] at ho;obtain⟨bs',w',hr⟩:=aKd (P:=P) (a:=a) hT ho ht he c1 hxt hni ok hv1 hv2 hv hHm (by rw[cg]) hk0 hb0 (by rw[cg,cg];exact hx)
 rw[<- List.map_append,cg] at hr;exact⟨_,hr,rfl⟩
end
def fL{α:Type}(b:Nat)(l r:List α):Option (List α):=cond (okA (l.length+r.length) b) (some (l++r)) none
theorem aRR{α:Type}{b:Nat}{l r x:List α}(h:fL b l r=some x):okA (l.length+r.length) b=true/\x=l++r:=by
 unfold fL at h;cases hc:okA (l.length+r.length) b with
 | true=>rw[hc] at h;exact⟨rfl,(Option.some.inj h).symm⟩
 | false=>rw[hc] at h;cases h
section
variable {P:Program} {T:TypeId→Option TI} {n:Fr}
theorem aTO(hT:TOK P T){o:Oper}{need:Env}{H:List Box}{α:Type}(f:α->AV){id k b:Nat}{l r x:List α}(hx:fL b l r=some x)(hd:dOK n.n o.dst=true:=by kernel_rfl)
  (h:aLB T o need H=some (⟨id,k,l.map f,r.map f,b⟩,l.length,l.length*k):=by kernel_rfl):Big P n o need H (eO id k f x) (H.set id (.tail (x.length*k))):=by
 obtain⟨h1,rfl⟩:=aRR hx;exact aML hT f h1 hd h
def aQV(s k:Nat)(st:ASt):ASt:=⟨(s,some (none,.own st.H.length k 0 [])) :: st.env,st.H++[.tail 0]⟩
def aEq(st:ASt)(s:Nat):Bool:=match get st.env s with | some (.v (.slice none 0 0))=>true | _=>false
theorem aKO{st:ASt}{s k:Nat}(hg:aEq st s=true){ctx:Mem}{a:Act}{w:World}(h:Sat n ctx st a w):Sat n ctx (aQV s k st) a w:=by
 obtain⟨bs,hm⟩:=h;unfold aEq at hg;split at hg
 ·rename_i hg';obtain⟨y,h1,h2⟩:=hm.env.get hg';have e:=bH h2;subst e;have hl:bs.length=st.H.length:=hm.ok.len;have ext:=Ext.snoc (F:=ctx.F) hm.ok.len (cL.refl w) (.tail 0) none (by intro b e;cases e)
  have ok:=OK.snoc hm.ok (cL.refl w) (x := .tail 0) (o:=none) (by intro b e;cases e) (by intro b e;cases e)
  refine⟨bs++[none],rfl,ok,hm.ext.trans ext,?_,hm.size,hm.low,hm.defers,hm.nod,λp hp=>(hm.outs p hp).ext ext⟩
  intro i e hl';simp only[aQV,bY] at hl';split at hl'
  ·rename_i hi;have hi:=ak hi;subst hi;cases hl';refine⟨_,h1,?_⟩
   unfold yF Rv Rv0;simp only[AV.isAgg,Rc,au,if_false]
   refine⟨rfl,none,0,rfl,ca _,by simp,.inl trivial,by simp[aQV],λm hmm=>?_⟩
   simp[aQV] at hmm;subst hmm;exact⟨by simp,λ_ => .inr rfl⟩
  ·exact(hm.env.ext ext) i e hl'
 ·cases hg
end
end Go.UK

open List renaming append_assoc→an,drop_eq_getElem_cons→co,drop_of_length_le→ed,getElem?_eq_getElem→af,getElem?_map→ci,length_append→ai,length_take→bj,map_take→gr
open Nat renaming ble→hL,le_of_ble_eq_true→cn
open Go.Result renaming andThen_ok→am
open Go.Sem renaming run_bind→bf,run_pure→ck
namespace Go.UK
open Go
set_option linter.all false
variable [bL]
def EqT(P:Program)(t:TypeId){α:Type}(f:α->AV)(eq:α->α->Bool)(m:Nat):Prop:=
 ∀(d:Nat) (w:World) (μ:Mem) (a b:α) (x y:Value),Rv0 μ (f a) x->Rv0 μ (f b) y->(Op.equalIn (d+m) t x y).run P w = .ok (eq a b) w
def eqL{α:Type}(eq:α->α->Bool):List α->List α->Bool
 | [],[]=>true
 | a :: as,b :: bs=>eq a b&&eqL eq as bs
 | _,_=>false
def eqV{α:Type}{n:Nat}(eq:α->α->Bool)(v w:Vector α n):Bool:=eqL eq v.toList w.toList
section
variable {P:Program} {T:TypeId→Option TI} {t e:TypeId}
theorem aUI{μ:Mem}{x y:Value}(h:Rv0 μ (.v x) y):y=x:=by
 simp[Rv0,AV.isAgg,Rc] at h;exact h.1
theorem aNW{k:IntKind}(ht:P.underlying t=some (.int k)):EqT P t (eI k) (λa b=>a==b) 1:=by
 intro d w μ a b x y hx hy;rw[aUI hx,aUI hy]
 exact run_equalIn_int w d t k k a b ht
theorem aDi{α:Type}{f:α->AV}{k:Nat}(hn:∀a,(f a).n=k)(l:List α){μ:Mem}{ys:List Value}(h:RdL μ.w μ.M (l.map f) ys):ys.length=l.length*k:=by
 have:=RdL.length h;rw[this]
 clear this h
 induction l with
 | nil=>simp[xD]
 | cons a l ih=>rw[List.map_cons,aC2,ih,hn,List.length_cons,Nat.succ_mul,Nat.add_comm]
theorem aEs{α:Type}{f:α->AV}{eq:α->α->Bool}{n k M m:Nat}{ei:TI}(hT:TOK P T)(he:T e=some ei)(ht:P.underlying t=some (.array n e))(hk:P.cellsOf e=k)(hn:∀a,(f a).n=k)(hek:ei.size=k)
  (hag:∀a,(f a).isAgg=ei.kind.agg) (NT:∀a,fK (f a)=true) (h:EqT P e f eq m):EqT P t (eA M k f:Vector α n->AV) (eqV eq) (m+1):=by
 intro d w μ a b x y hx hy;have hx':∃xs,x = .agg xs/\Rc μ (eA M k f a) xs.toList:=by simpa[Rv0,eA,AV.isAgg] using hx
 have hy':∃ys,y = .agg ys/\Rc μ (eA M k f b) ys.toList:=by simpa[Rv0,eA,AV.isAgg] using hy
 clear hx hy;obtain⟨xs,rfl,hx⟩:=hx';obtain⟨ys,rfl,hy⟩:=hy';unfold eA at hx hy;simp only[Rc] at hx hy
 replace hx:=hx.2.2
 replace hy:=hy.2.2
 obtain⟨ti,_,hi,_⟩:=(hT e _ he).info;rw[show d+(m+1)=(d+m)+1 from rfl,run_equalIn_array w (d+m) xs ys ht hi,hk]
 have la:a.toList.length=n:=by simp
 have lb:b.toList.length=n:=by simp
 unfold eqV;generalize a.toList=A at *;generalize b.toList=B at *;have key:∀r s,s+r=n->(Op.eqItems (d+m) e k xs ys (List.range' s r)).run P w = .ok (eqL eq (A.drop s) (B.drop s)) w:=by
  intro r
  induction r with
  | zero=>
   intro s hs;rw[ed (by omega),ed (by omega)]
   simp[Op.eqItems,eqL]
  | succ r ih=>
   intro s hs;have ha:A[s]? = some A[s]:=af (by omega)
   have hb:B[s]? = some B[s]:=af (by omega)
   obtain⟨x1,x2,x3,g1,g2,g3,_⟩:=hx.pick (j:=s) (p:=f A[s]) (by rw[ci,ha];rfl)
   obtain⟨y1,y2,y3,k1,k2,k3,_⟩:=hy.pick (j:=s) (p:=f B[s]) (by rw[ci,hb];rfl)
   have l1:x1.length=s*k:=by
    rw[<- gr] at g2;rw[aDi hn _ g2,bj];congr 1;omega
   have l2:y1.length=s*k:=by
    rw[<- gr] at k2;rw[aDi hn _ k2,bj];congr 1;omega
   obtain⟨u,u1,u2⟩:=aAC hT he (cs:=xs) g1 (Rd.rc _ _ g3) (hag _) (by rw[hn,hek]) w;obtain⟨v,v1,v2⟩:=aAC hT he (cs:=ys) k1 (Rd.rc _ _ k3) (hag _) (by rw[hn,hek]) w;rw[l1] at u1;rw[l2] at v1;have u3:Rv0 μ (f A[s]) u:=yO u2 (NT _)
   have v3:Rv0 μ (f B[s]) v:=yO v2 (NT _)
   have hq:=h d w μ _ _ _ _ u3 v3;rw[List.range'_succ]
   simp only[Op.eqItems,bf,u1,v1,hq,am]
   rw[co (show s < A.length by omega),co (show s < B.length by omega)]
   simp only[eqL]
   cases hqq:eq A[s] B[s] with
   | false=>simp
   | true=>simpa using ih (s+1) (by omega)
 have:=key n 0 (by omega)
 rw[List.range_eq_range']
 simpa using this
def EqFs(P:Program)(fs:List Field)(ps qs:List AV)(o:Nat)(r:Bool)(m:Nat):Prop:=
 ∀(d:Nat) (w:World) (μ:Mem) (xs ys:Array Value) (x1 x2 y1 y2:List Value),xs.toList=x1++x2->ys.toList=y1++y2->x1.length=o->y1.length=o->RcL μ ps x2->RcL μ qs y2 ->
  (Op.eqFields (d+m) xs ys fs).run P w = .ok r w
theorem aJB{o m:Nat}:EqFs P [] [] [] o true m:=by
 intro d w μ xs ys x1 x2 y1 y2 _ _ _ _ _ _;simp[Op.eqFields]
theorem sD(hT:TOK P T){f:Field}{fs:List Field}{ps qs:List AV}{o k m m':Nat}{r:Bool}{ei:TI}{α:Type}{g:α->AV}{eq:α->α->Bool}(a b:α)(hn:(f.name == "_")=false)(ho:f.offset=o)(he:T f.type=some ei)(hk:ei.size=k)
  (hsz:∀a,(g a).n=k) (hag:∀a,(g a).isAgg=ei.kind.agg) (NT:∀a,fK (g a)=true) (h:EqT P f.type g eq m') (hm:hL m' m=true) (hr:EqFs P fs ps qs (o+k) r m):EqFs P (f :: fs) (g a :: ps) (g b :: qs) o (eq a b&&r) m:=by
 intro d w μ xs ys x1 x2 y1 y2 ex ey lx ly rx ry;have hm:=cn hm;simp only[RcL] at rx ry;obtain⟨x3,x4,rfl,gx,rx⟩:=rx;obtain⟨y3,y4,rfl,gy,ry⟩:=ry;obtain⟨u,u1,u2⟩:=aAC hT he (cs:=xs) (ex.trans (an _ _ _).symm) gx (hag _) (by rw[hsz,hk]) w;obtain⟨v,v1,v2⟩:=aAC hT he (cs:=ys) (ey.trans (an _ _ _).symm) gy (hag _) (by rw[hsz,hk]) w;have hq:=h (d+m - m') w μ a b u v (yO u2 (NT _)) (yO v2 (NT _))
 rw[show d+m - m'+m'=d+m by omega] at hq;have l3:=Rc.length _ _ gx;have l4:=Rc.length _ _ gy;have hn':f.name ≠ "_" := by simpa using hn
 rw[lx] at u1;rw[ly] at v1;simp only[Op.eqFields,if_pos hn',bf,ho,u1,v1,hq,am]
 cases hqq:eq a b with
 | false=>simp
 | true=>
  simp only[Bool.not_true,Bool.false_eq_true,if_false,Bool.true_and]
  exact hr d w μ xs ys (x1++x3) x4 (y1++y3) y4 (by rw[ex,an]) (by rw[ey,an]) (by rw[ai,lx,l3,hsz]) (by rw[ai,ly,l4,hsz]) rx ry
theorem aDF{α:Type}{f:α->AV}{ps:α->List AV}{eq:α->α->Bool}{N m:Nat}{fs:Array Field}(ht':P.underlying t=some (.struct fs))(hp:P.stoodInHeld t=false)(hf:∀a,f a = .st N (ps a))
  (h:∀a b,EqFs P fs.toList (ps a) (ps b) 0 (eq a b) m):EqT P t f eq (m+1):=by
 have hfs:P.fieldsOf t=fs:=by unfold Program.fieldsOf;rw[ht']
 have ht:P.underlying t=some (.struct (P.fieldsOf t)):=by rw[hfs];exact ht'
 rw[<- hfs] at h;intro d w μ a b x y hx hy;have hx':∃xs,x = .agg xs/\Rc μ (f a) xs.toList:=by simpa[Rv0,hf,AV.isAgg] using hx
 have hy':∃ys,y = .agg ys/\Rc μ (f b) ys.toList:=by simpa[Rv0,hf,AV.isAgg] using hy
 clear hx hy;obtain⟨xs,rfl,hx⟩:=hx';obtain⟨ys,rfl,hy⟩:=hy';rw[hf] at hx hy;simp only[Rc] at hx hy;rw[show d+(m+1)=(d+m)+1 from rfl,run_equalIn_struct w (d+m) t xs ys ht hp]
 exact h a b d w μ xs ys [] xs.toList [] ys.toList rfl rfl rfl rfl hx.2 hy.2
end
section
variable {P:Program} {T:TypeId→Option TI} {n:Fr}
theorem aNk{t:TypeId}{x y:Operand}{α:Type}{f:α->AV}{eq:α->α->Bool}{m:Nat}{a b:α}{vx vy:Value}{μ:Mem}(hE:EqT P t f eq m)(hm:hL m 10000=true)(hg:P.eqGuardType P.depth t=false)
  (hag:∀a,(f a).isAgg=true) (hx:Rv0 μ (f a) vx) (hy:Rv0 μ (f b) vy) (w:World) :
  (do eqGuard .eql t x y vx vy;binOp .eql t vx vy).run P w = .ok (.bool (eq a b)) w/\(do eqGuard .neq t x y vx vy;binOp .neq t vx vy).run P w = .ok (.bool !(eq a b)) w:=by
 have hm:=cn hm;have he:(Op.equal t vx vy).run P w = .ok (eq a b) w:=by
  have:=hE (10000 - m) w μ a b vx vy hx hy;rw[show 10000 - m+m=10000 by omega] at this;exact this
 have hx':∃xs,vx = .agg xs/\Rc μ (f a) xs.toList:=by simpa[Rv0,hag] using hx
 have hy':∃ys,vy = .agg ys/\Rc μ (f b) ys.toList:=by simpa[Rv0,hag] using hy
 obtain⟨xs,rfl,_⟩:=hx';obtain⟨ys,rfl,_⟩:=hy';constructor <;>
  simp only[eqGuard,binOp,bf,run_program,am,hg,Bool.not_false,Bool.not_true,if_true,ck,he,Bool.false_eq_true,if_false] <;> rfl
def eqE(o:Oper)(need:Env)(op:BinOp):Option (TypeId×AV×AV):=
 match o.op with
 | .binOp b t x y _=>match b,op with
  | .eql,.eql=>match opd need none x,opd need none y with | some u,some v=>some (t,u,v) | _,_=>none
  | .neq,.neq=>match opd need none x,opd need none y with | some u,some v=>some (t,u,v) | _,_=>none
  | _,_=>none
 | _=>none
theorem aBc{o:Oper}{need:Env}{op:BinOp}{t:TypeId}{u v:AV}(h:eqE o need op=some (t,u,v)):∃x y t',o.op = .binOp op t x y t'/\opd need none x=some u/\opd need none y=some v:=by
 unfold eqE at h;split at h <;> try cases h
 rename_i b t0 x y t' ho;split at h <;> try cases h
 all_goals
  split at h <;> cases h;exact⟨_,_,_,ho,by assumption,by assumption⟩
theorem aSQ{o:Oper}{need:Env}{H:List Box}{t:TypeId}{α:Type}{f:α->AV}{eq:α->α->Bool}{m:Nat}(hE:EqT P t f eq m)(a b:α)(hm:hL m 10000=true)(hg:P.eqGuardType P.depth t=false)(hag:∀a,(f a).isAgg=true)(hnt:∀a,fK (f a)=true)(hd:dOK n.n o.dst=true)
  (h:eqE o need .eql=some (t,f a,f b)):Big P n o need H (eB (eq a b)) H:=by
 obtain⟨x,y,t',ho,hx,hy⟩:=aBc h;refine cY hd λa' μ ok hH hE'=>?_;have h1:=yO (aR hE' noG hx) (hnt _)
 have h2:=yO (aR hE' noG hy) (hnt _)
 have:=(aNk (x:=x) (y:=y) hE hm hg hag h1 h2 μ.w).1;refine⟨μ,eQ.here (y := .bool (eq a b)) ok ?_ (tQ rfl),hH⟩
 rw[bf] at this;simp only[execOp,ho,bf,this,am,ck]
theorem aSG{o:Oper}{need:Env}{H:List Box}{t:TypeId}{α:Type}{f:α->AV}{eq:α->α->Bool}{m:Nat}(hE:EqT P t f eq m)(a b:α)(hm:hL m 10000=true)(hg:P.eqGuardType P.depth t=false)(hag:∀a,(f a).isAgg=true)(hnt:∀a,fK (f a)=true)(hd:dOK n.n o.dst=true)
  (h:eqE o need .neq=some (t,f a,f b)):Big P n o need H (eB !(eq a b)) H:=by
 obtain⟨x,y,t',ho,hx,hy⟩:=aBc h;refine cY hd λa' μ ok hH hE'=>?_;have h1:=yO (aR hE' noG hx) (hnt _)
 have h2:=yO (aR hE' noG hy) (hnt _)
 have:=(aNk (x:=x) (y:=y) hE hm hg hag h1 h2 μ.w).2;refine⟨μ,eQ.here (y := .bool !(eq a b)) ok ?_ (tQ rfl),hH⟩
 rw[bf] at this;simp only[execOp,ho,bf,this,am,ck]
end
end Go.UK

open Array renaming range→kq,toArray_toList→ki,toList_map→jm
open List renaming getElem?_eq_getElem→af,getElem?_map→ci,length_map→cg,replicate→aj
open Nat renaming eq_of_beq_eq_true→ak,lt_irrefl→jq,zero_add→fy
open Go.Result renaming andThen_ok→am
open Go.Sem renaming run_bind→bf,run_pure→ck
namespace Go.UK
open Go
set_option linter.all false
variable [bL]
section
variable {P:Program} {T:TypeId→Option TI} {n:Fr}
theorem aKG(H:List Box):cB H [] []=H:=by simp[cB,mT]
theorem aPE{f:FuncId}{args:List AV}{ret x:AV}(C:FnM P f [] args ret [])(hf:nP P f){o:Oper}{need:Env}{H:List Box}
  (hB:zN n o H [] [] args=true) (hE:zK o need H [] [] args=(some (f,renL (rn [] H.length) args),List.map (jS (rn [] H.length)) [])) (hx:ren (rn [] H.length) ret=x):Big P n o need H x H:=by
 have:=wD (n:=n) [] C hf hB hE;rw[aKG,hx] at this;exact this
end
section
variable {P:Program} {T:TypeId→Option TI} {n:Fr} {μ:Mem} {a:Act}
theorem aMJ(hT:TOK P T){o:Oper}{t:TypeId}{len k:Nat}{parts:Array (Nat×Operand)}{l:List (Nat×AV)}{es:List AV}(ho:o.op = .buildSlice t len parts)(ok:μ.OK)
  (hf:l.map Prod.fst=parts.toList.map Prod.fst) (hl:∀(i:Nat) q p,l[i]? = some q->parts.toList[i]? = some p->Rv μ q.2 (a.eval p.2)/\fK q.2=true) (h:aI0 T t len l=some (k,es)) :
  ∃(ys:List Value) (e:TypeId) (sz b1:Nat) (z:AV),T t=some ⟨sz,b1,z,.sl e⟩/\(execOp a.eval o).run P μ.w = .ok (.value (.slice (some ⟨μ.w.heap.size,0,none⟩) len len)) (μ.w.alloc (.cells ys.toArray e))/\RdL μ.w μ.M es ys/\(∀e∈es,e.n=k)/\es.length=len:=by
 have hvs:l.map Prod.fst=((parts.map λ(i,x)=>(i,a.eval x)).toList).map Prod.fst:=by rw[hf];simp
 have hv:∀(i:Nat) (q:Nat×AV) (v:Nat×Value),l[i]? = some q->(parts.map λ(i,x)=>(i,a.eval x)).toList[i]? = some v->Rc μ q.2 v.2.cells.toList:=by
  intro i q v hq hv;rw[jm,ci] at hv;cases hp:parts.toList[i]? with
  | none=>rw[hp] at hv;cases hv
  | some p=>
   rw[hp] at hv;simp only[Option.map_some,Option.some.injEq] at hv;subst hv;obtain⟨h1,h2⟩:=hl i q p hq hp;exact h1.cells (mX h2)
 unfold aI0 at h;split at h <;> try cases h
 rename_i sz b1 z e ht;split at h <;> try cases h
 rename_i ie he;split at h <;> try cases h
 rename_i hle;split at h <;> try cases h
 rename_i x hx;split at h <;> try cases h
 rename_i es' hes;split at h <;> cases h;rename_i hb;simp only[Bool.and_eq_true] at hb;obtain⟨d,hd,hk⟩:=(hT t _ ht).kind;simp only[TK.fits] at hk;subst hk;obtain⟨zv,zs,g1,g2,g3,g4,g5⟩:=uL hT he μ.w;have hz:Rc μ ie.zero zs:=aBs _ _ g2;have hrow:Rc μ (.arr (len*ie.size) ie.size (aj len ie.zero)) (aj len zs).flatten:=by
  simp only[Rc]
  refine⟨by rw[oB,g4],?_,aGI (aEh _ _ g2) len⟩
  intro e' he';rw[List.eq_of_mem_replicate he',<- Rc.length _ _ hz,g4]
 obtain⟨ys',k1,k2,k3,k4⟩:=zI l _ _ x (aj len zs).flatten.toArray hvs hv hx (by simpa using hrow)
 cases x <;> simp only[aHY] at hes <;> try cases hes
 rename_i m k';simp only[Rc] at k2;obtain⟨H,bs,w,F⟩:=μ;have hlen:=ak hb.1;refine⟨ys'.toList,e,sz,b1,z,ht,?_,k2.2.2,aEw hb.2.1,hlen⟩
 have hble:¬len*ie.size > 2 ^ 24:=by have:=Nat.le_of_ble_eq_true hle;omega
 have hpm:(parts.map λ(i,x)=>(i,a.eval x))=(parts.map λx=>(x.fst,a.eval x.snd)):=rfl;simp only[execOp,ho,Instr.buildSlice,bf,run_underlying hd,am,lU hT he,Sem.run_ite,if_neg hble]
 by_cases h0:len*ie.size=0
 ·have hfl:(aj len zs).flatten=[]:=List.eq_nil_of_length_eq_zero (by rw[oB,g4];exact h0)
  rw[hfl] at k1;rw[if_pos h0,h0]
  simp only[ck,am]
  rw[show(Array.map (λx:Nat=>(#[]:Array Value)[x % (#[]:Array Value).size]!) (kq 0))=[].toArray from by simp]
  rw[hpm] at k1;simp only[k1,newRow,bf,run_newObj,am,ck,World.alloc_eq,ki]
 ·have hinit:(kq (len*ie.size)).map (λi=>zs.toArray[i % zs.toArray.size]!)=(aj len zs).flatten.toArray:=by
   rw[<- Array.toList_inj,jm,Array.toList_range]
   exact aB1 g4 len
  rw[if_neg h0]
  simp only[g1,am,g3,ck]
  rw[hinit]
  rw[hpm] at k1;simp only[k1,newRow,bf,run_newObj,am,ck,World.alloc_eq,ki]
theorem aNS{w w':World}{H:List Box}{bs:List (Option Nat)}{F:Nat->Nat->Prop}(ok:(⟨H,bs,w,F⟩:Mem).OK)(hl:cL w w'){es:List AV}{k:Nat}{ys:List Value}(hk:∀e∈es,e.n=k)(hc:RdL w (⟨H,bs,w,F⟩:Mem).M es ys)
  (hcell:∀j y,ys[j]? = some y->w'.cell? ⟨w.heap.size,j,none⟩=some y) :
  Ext ⟨H,bs,w,F⟩ ⟨H++[.tail (es.length*k)],bs++[none],w',F⟩/\(⟨H++[.tail (es.length*k)],bs++[none],w',F⟩:Mem).OK /\
  Rv ⟨H++[.tail (es.length*k)],bs++[none],w',F⟩ (.own H.length k es.length es) (.slice (some ⟨w.heap.size,0,none⟩) es.length es.length):=by
 have hbl:bs.length=H.length:=ok.len;have ext:=Ext.snoc (F:=F) ok.len hl (.tail (es.length*k)) none (by intro b e;cases e)
 have ok':=OK.snoc ok hl (x := .tail (es.length*k)) (o:=none) (by intro b e;cases e) (by intro b e;cases e)
 refine⟨ext,ok',?_⟩
 show Rv0 _ _ _;simp only[Rv0,AV.isAgg,Rc,Bool.false_eq_true,if_false]
 refine⟨trivial,some ⟨w.heap.size,0,none⟩,es.length,rfl,Nat.le_refl _,hk,.inr ⟨w.heap.size,0,ys,rfl,RdL.mono ext.keeps _ _ hc,?_⟩,by simp,λm hm=>?_⟩
 ·intro j y hy;rw[fy]
  refine⟨hcell j y hy,?_⟩
  rintro(hf | ⟨id,h1,h2⟩)
  ·exact jq _ (ok.foreign _ _ hf)
  ·dsimp only at h1 h2;have hid:bs[id]? = some (some w.heap.size):=by
    rcases aAQ h1 with h3 | ⟨h3,h4⟩
    ·exact h3
    ·cases h4
   have hlt:=aX hid;have hH:(H++[Box.tail (es.length*k)])[id]? = H[id]? := fA (by omega)
   rw[hH] at h2;have:w.heap.size < w.heap.size:=by
    rcases h2 with ⟨c,h2,hw⟩ | ⟨m,h2,_⟩
    ·exact bU ok (b:=w.heap.size) hid h2 (Box.whole_live hw)
    ·exact bU ok (b:=w.heap.size) hid h2 (by simp)
   omega
 ·dsimp only at hm;have hm':es.length*k=m:=by simpa using hm
  exact⟨by omega,λ_ => .inr rfl⟩
end
section
variable {P:Program} {T:TypeId→Option TI} {n:Fr}
def aP2(T:TypeId->Option TI)(o:Oper)(need:Env):Option (Nat×Nat×List AV):=
 match o.op with
 | .buildSlice t len parts=>match aL2 (opd need none) parts.toList with
  | some l=>match aI0 T t len l with
   | some (k,es)=>some (k,len,es)
   | none=>none
  | none=>none
 | _=>none
theorem aKW(hT:TOK P T){o:Oper}{need:Env}{k len:Nat}{es:List AV}(h:aP2 T o need=some (k,len,es)){a:Act}{μ:Mem}(ok:μ.OK)(hE:eY μ need a.tmps) :
  ∃(t:TypeId) (parts:Array (Nat×Operand)) (ys:List Value) (e:TypeId) (sz b1:Nat) (z:AV),o.op = .buildSlice t len parts/\T t=some ⟨sz,b1,z,.sl e⟩/\(execOp a.eval o).run P μ.w = .ok (.value (.slice (some ⟨μ.w.heap.size,0,none⟩) len len)) (μ.w.alloc (.cells ys.toArray e))/\RdL μ.w μ.M es ys/\(∀e∈es,e.n=k)/\es.length=len:=by
 unfold aP2 at h;split at h <;> try cases h
 rename_i t len parts ho;split at h <;> try cases h
 rename_i l hl;split at h <;> cases h;rename_i hr;obtain⟨h1,h2⟩:=aB0 _ _ hl;obtain⟨ys,e,sz,b1,z,g1,g2,g3⟩:=aMJ (P:=P) (a:=a) hT ho ok h1 (λi q p hq hp=>⟨aR hE noG (h2 i q p hq hp).1,(h2 i q p hq hp).2⟩) hr;exact⟨t,parts,ys,e,sz,b1,z,ho,g1,g2,g3⟩
theorem aLQ{w:World}{ys:List Value}{e:TypeId}{fr:Nat×Nat}{j:Nat}{y:Value}(hy:ys[j]? = some y):(w.alloc (.cells ys.toArray e fr)).cell? ⟨w.heap.size,j,none⟩=some y:=by
 simp only[World.cell?,eV]
 simpa using hy
theorem aPF(w:World)(c:Array Value)(t:TypeId)(fr:Nat×Nat):cL w (w.alloc (.cells c t fr)):=⟨by simp,λ_ h=>tD h,rfl,rfl,rfl⟩
theorem oJ(hT:TOK P T){o:Oper}{need:Env}{H:List Box}{α:Type}(f:α->AV){k:Nat}(l:List α)(hd:dOK n.n o.dst=true)(h:aP2 T o need=some (k,l.length,l.map f)):Big P n o need H (eO H.length k f l) (H++[.tail (l.length*k)]):=by
 refine cY hd λa μ ok hH hE=>?_;obtain⟨t,parts,ys,e,sz,b1,z,ho,ht,hrun,h1,h2,h3⟩:=aKW (P:=P) hT h ok hE;obtain⟨H0,bs,w,F⟩:=μ;dsimp only at hH;subst hH;obtain⟨ext,ok',hv⟩:=aNS ok (cL.alloc w ys.toArray e) h2 h1 (λj y hy=>aLQ hy)
 simp only[cg] at ext ok' hv;exact⟨_,⟨_,hrun,hv,ext,ok'⟩,rfl⟩
theorem aQN(hT:TOK P T){ops:Array Oper}{o1 o2:Oper}{l:List Oper}{st:ASt}{K:ASt->Prop}{d1 d2 t e:TypeId}{α:Type}(f:α->AV){k sz b1:Nat}{z:AV}{i:TI}(es:List α)
  (g1:o1.guard=none) (hd1:o1.dst=some d1) (g2:o2.guard=none) (hd2:o2.dst=some d2) (ho2:o2.op = .convert t t (.tmp d1)) (hn:(Nat.ble n.n d1||Nat.ble n.n d2)=false)
  (ht:T t=some ⟨sz,b1,z,.sl e⟩) (he:T e=some i) (hi:i.kind = .int .u8) (ho1:(match o1.op with | .buildSlice t' _ _=>Nat.beq t' t | _=>false)=true) (h:aP2 T o1 st.env=some (k,es.length,es.map f))
  (hk:awl P n ops l K ⟨(st.env.set d1 (none,eO st.H.length k f es)).set d2 (none,eO st.H.length k f es),st.H++[.tail (es.length*k)]⟩):awl P n ops (o1 :: o2 :: l) K st:=by
 intro ctx a w hs;obtain⟨bs,hm⟩:=hs;simp only[Bool.or_eq_false_iff] at hn;obtain⟨t',parts,ys,e',sz',b1',z',hop,ht',hrun,h1,h2,h3⟩:=aKW (P:=P) hT h hm.ok hm.env;rw[hop] at ho1;have e0:=ak ho1;rw[e0] at ht';rw[ht] at ht';cases ht';obtain⟨env,H0⟩:=st;dsimp only at *;have hlat:cL w (w.alloc (.cells ys.toArray e (ys.toArray.size,ys.toArray.size+1))):=aPF _ _ _ _;obtain⟨ext,ok',hv⟩:=aNS hm.ok hlat h2 h1 (λj y hy=>aLQ hy)
 simp only[cg] at ext ok' hv;have hlen:es.length=es.length:=rfl;obtain⟨d,hd,hkk⟩:=(hT t _ ht).kind;simp only[TK.fits] at hkk;subst hkk;obtain⟨d',hd',hkk'⟩:=(hT e _ he).kind;rw[hi] at hkk';simp only[TK.fits] at hkk';subst hkk';refine wpListIn_step λK' hK'=>?_;rw[if_pos (by simp[Region.wanted,g1])]
 refine aAo rfl (aAd hrun) ?_;unfold Oper.wp;rw[hrun]
 simp only[Oper.upon]
 refine hK' _ _ ?_;rw[hd1]
 refine wpListIn_step λK'' hK''=>?_;rw[if_pos (by simp[Region.wanted,g2])]
 have hev:(a.put (some d1) (.slice (some ⟨w.heap.size,0,none⟩) es.length es.length)).eval (.tmp d1) = .slice (some ⟨w.heap.size,0,none⟩) es.length es.length:=by
  have hlt:d1 < a.tmps.size:=by rw[hm.size];exact yK hn.1
  simp only[Act.eval,Act.put]
  simp[hlt]
 have hrun2:(execOp (a.put (some d1) (.slice (some ⟨w.heap.size,0,none⟩) es.length es.length)).eval o2).run P (w.alloc (.cells ys.toArray e)) = .ok (.value (.slice (some ⟨w.heap.size,0,none⟩) es.length es.length)) (w.alloc (.cells ys.toArray e (ys.toArray.size,ys.toArray.size+1))):=by
  have:=Go.Lib.run_convert_bytes_const (P:=P) w t e ys.toArray es.length es.length hd hd';simp only[execOp,ho2,hev,bf,this,am,ck]
 refine aAo rfl (aAd hrun2) ?_;unfold Oper.wp;rw[hrun2]
 simp only[Oper.upon]
 rw[hd2]
 refine hK'' _ _ (hk ctx _ _ ?_)
 exact((hm.put ext ok' (yK hn.1) hv).put (Ext.refl _) ok' (yK hn.2) hv).sat
def tB(s:ByteArray):List Int:=s.data.toList.map λb=>(b.toNat:Int)
def aJS(l:List Int):ByteArray:=⟨(l.map λx=>UInt8.ofNat x.toNat).toArray⟩
def cvE(T:TypeId->Option TI)(o:Oper)(need:Env):Option (AV×TK×TK×Option TK):=
 match o.op with
 | .convert s t x=>match opd need none x,T s,T t with
  | some v,some i,some j=>match i.kind,j.kind with
   | .sl e,b=>match T e with | some ei=>some (v,.sl e,b,some ei.kind) | none=>none
   | b,.sl e=>match T e with | some ei=>some (v,b,.sl e,some ei.kind) | none=>none
   | _,_=>none
  | _,_,_=>none
 | _=>none
theorem aUP(w:World)(e:TypeId)(s:ByteArray):(Go.Lib.bytesWorld w e s).os=w.os:=by unfold Go.Lib.bytesWorld World.freeze;split <;> rfl
theorem aOQ(w:World)(e:TypeId)(s:ByteArray):(Go.Lib.bytesWorld w e s).tape=w.tape:=by unfold Go.Lib.bytesWorld World.freeze;split <;> rfl
theorem aQj(w:World)(e:TypeId)(s:ByteArray):(Go.Lib.bytesWorld w e s).output=w.output:=by unfold Go.Lib.bytesWorld World.freeze;split <;> rfl
theorem aNv(hT:TOK P T)(s:ByteArray){e:TypeId}{o:Oper}{need:Env}{H:List Box}(hd:dOK n.n o.dst=true)(h:cvE T o need=some (eS s,.str,.sl e,some (.int .u8))):Big P n o need H (eL 1 k8 (tB s)) H:=by
 unfold cvE at h;split at h <;> try cases h
 rename_i src t x ho;split at h <;> try cases h
 rename_i v i j hv hi hj;split at h
 ·rename_i e' hie;split at h <;> cases h
 ·rename_i e' hje hne;split at h <;> try cases h
  rename_i ei he;simp only[Option.some.injEq,Prod.mk.injEq] at h;obtain⟨rfl,hik,hek,hei⟩:=h;have:=TK.sl.inj hek;subst this;obtain⟨d1,hd1,k1⟩:=(hT src _ hi).kind;obtain⟨d2,hd2,k2⟩:=(hT t _ hj).kind;obtain⟨d3,hd3,k3⟩:=(hT e' _ he).kind;rw[hik] at k1;rw[hje] at k2;rw[hei] at k3;simp only[TK.fits] at k1 k2 k3;subst k1 k2 k3;refine cY hd λa μ ok hH hE=>?_;have hx:=bH (aR hE noG hv)
  obtain⟨H0,bs,w,F⟩:=μ;dsimp only at hH;subst hH;have hrun:=Go.Lib.run_convert_string_bytes (P:=P) w src t e' s hd1 hd2 hd3;have hlat:cL w (Go.Lib.bytesWorld w e' s):=⟨by rw[Go.Lib.bytesWorld_size];omega,λb hb=>Go.Lib.bytesWorld_at_old w e' s b hb,aUP w e' s,aOQ w e' s,aQj w e' s⟩
  have ext:Ext ⟨H0,bs,w,F⟩ ⟨H0,bs,Go.Lib.bytesWorld w e' s,F⟩:=Ext.later hlat;refine⟨_,⟨.slice (some ⟨w.heap.size,0,none⟩) s.size (grownCap w s.size 0 e'),by simp only[execOp,ho,hx,bf,hrun,am,ck],?_,ext,OK.later hlat ok⟩,rfl⟩
  have hlen:(tB s).length=s.size:=by simp[tB]
  show Rv0 _ _ _;simp only[Rv0,eL,AV.isAgg,Rc,Bool.false_eq_true,if_false,cg]
  refine⟨trivial,_,_,by rw[hlen],?_,by intro z hz;obtain⟨y,_,rfl⟩:=List.mem_map.1 hz;rfl,.inr ⟨w.heap.size,0,s.data.toList.map λb=>Value.int .u8 b.toNat,rfl,?_,?_⟩⟩
  ·rw[hlen];exact grownCap_le w s e'
  ·have:=aB3 (w:=Go.Lib.bytesWorld w e' s) (M:=(⟨H0,bs,Go.Lib.bytesWorld w e' s,F⟩:Mem).M) s.data.toList;rw[tB,List.map_map]
   exact this
  ·intro j y hy;rw[fy]
   have hj:j < s.size:=by have:=aX hy;simpa using this
   refine⟨?_,?_⟩
   ·show(Go.Lib.bytesWorld w e' s).cell? ⟨w.heap.size,j,none⟩=some y;rw[Go.Lib.bytesWorld_cell w e' s j hj]
    have hj':j < s.data.toList.length:=by simpa using hj
    rw[ci,af hj'] at hy;rw[List.getD_eq_getElem?_getD,af hj']
    exact hy
   ·rintro(hf | ⟨id,h1,h2⟩)
    ·exact jq _ (ok.foreign _ _ hf)
    ·have:w.heap.size < w.heap.size:=by
      rcases h2 with ⟨c,h2,hw⟩ | ⟨m,h2,_⟩
      ·exact bU ok (b:=w.heap.size) h1 h2 (Box.whole_live hw)
      ·exact bU ok (b:=w.heap.size) h1 h2 (by simp)
     omega
 ·cases h
where
 grownCap_le (w:World) (s:ByteArray) (e:TypeId):s.size<=grownCap w s.size 0 e:=by unfold grownCap;show s.size<=s.size+_ % _;omega
theorem aRE{w:World}{M:Nat->Nat->Prop}:∀{l:List Int} {zs:List Value},RdL w M (l.map k8) zs->zs=l.map (Value.int .u8)
 | [],zs,h=>by simpa[RdL] using h
 | x :: l,zs,h=>by
  simp only[List.map_cons,RdL] at h;obtain⟨y1,y2,rfl,h1,h2⟩:=h;simp only[k8,eI,Rd] at h1;rw[h1.1,aRE h2]
  rfl
theorem aH9(l:List Int):l.foldl (λr n=>r.push (UInt8.ofNat n.toNat)) ByteArray.empty=aJS l:=by
 rw[foldl_push_bytes]
 simp[aJS,ByteArray.empty,ByteArray.emptyWithCapacity]
 rfl
theorem aNw(hT:TOK P T)(l:List Int){v:AV}{e:TypeId}{o:Oper}{need:Env}{H:List Box}(hd:dOK n.n o.dst=true)(h:cvE T o need=some (v,.sl e,.str,some (.int .u8)))(hl:rE v=some (1,l.map k8)):Big P n o need H (eS (aJS l)) H:=by
 unfold cvE at h;split at h <;> try cases h
 rename_i src t x ho;split at h <;> try cases h
 rename_i v' i j hv hi hj;split at h
 ·rename_i e' hie;split at h <;> try cases h
  rename_i ei he;simp only[Option.some.injEq,Prod.mk.injEq] at h;obtain⟨rfl,hik,hjk,hei⟩:=h;have:=TK.sl.inj hik;subst this;obtain⟨d1,hd1,k1⟩:=(hT src _ hi).kind;obtain⟨d2,hd2,k2⟩:=(hT t _ hj).kind;obtain⟨d3,hd3,k3⟩:=(hT e' _ he).kind;rw[hie] at k1;rw[hjk] at k2;rw[hei] at k3;simp only[TK.fits] at k1 k2 k3;subst k1 k2 k3;refine cY hd λa μ ok hH hE=>?_;obtain⟨ad,cap,hx,hc,hk,hr⟩:=aCi (sB hl (aR hE noG hv))
  simp only[cg] at hx hc;have hrun:(convert src t (.slice ad l.length cap)).run P μ.w = .ok (.string (aJS l)) μ.w:=by
   rw[run_convert_bytes_string μ.w src t e' ad l.length cap hd1 hd3 hd2]
   rcases hr with hr | ⟨b,off,zs,rfl,h1,h2⟩
   ·have:l=[]:=by simpa using hr
    subst this;cases ad with
    | none=>simp[Conv.bytesToString,aJS];rfl
    | some ad=>
     have:=run_bytesToString (P:=P) μ.w ad 0 cap [] (by simp[loadCells,loadCellsFrom])
     rw[aH9] at this;exact this
   ·have hz:=aRE h1;subst hz;have:=run_bytesToString (P:=P) μ.w ⟨b,off,none⟩ l.length cap l (by
     have:=tI (P:=P) (w:=μ.w) (b:=b) (off:=off) (zs:=l.map (Value.int .u8)) (λj y hy=>(h2 j y hy).1)
     simpa using this)
    rw[aH9] at this;exact this
  refine⟨μ,eQ.here (y := .string (aJS l)) ok ?_ (tQ rfl),hH⟩
  simp only[execOp,ho,hx,bf,hrun,am,ck]
 ·rename_i e' hje hne;split at h <;> try cases h
  rename_i ei he;simp only[Option.some.injEq,Prod.mk.injEq] at h;exact absurd h.2.1 (hne e)
 ·cases h
end
end Go.UK

open Bool renaming and_eq_true→b9
open List renaming getElem?_cons_zero→du,mem_append→d9
open Nat renaming beq→bp,eq_of_beq_eq_true→ak,zero_add→fy
namespace Go.UK
open Go
set_option linter.all false
variable [bL]
mutual
def fz(id k q:Nat)(es:List AV):AV->AV
 | .bsl i p o k' lo len=>match bp i id with | true => .sl k q es | false => .bsl i p o k' lo len
 | .st n ps => .st n (fzL id k q es ps)
 | .tup ps => .tup (fzL id k q es ps)
 | .fn F a c => .fn F (fzL id k q es a) (fzL id k q es c)
 | .ifc t x => .ifc t (fz id k q es x)
 | .gro i k' ln j=>match bp i id with | true => .sl k q es | false => .gro i k' ln j
 | x=>x
def fzL(id k q:Nat)(es:List AV):List AV->List AV
 | []=>[]
 | p :: ps=>fz id k q es p :: fzL id k q es ps
end
mutual
def aBa(g:Bool)(id k:Nat):AV->Bool
 | .bsl i p o k' lo _=>match bp i id with | true=>(match p with | []=>true | _=>false)&&(bp o 0&&(bp k' k&&bp lo 0)) | false=>true
 | .ref i _ _=>match bp i id with | true=>false | false=>true
 | .st _ ps=>fzOKL g id k ps
 | .tup ps=>fzOKL g id k ps
 | .fn _ a c=>match fzOKL g id k a with | true=>fzOKL g id k c | false=>false
 | .ifc _ x=>aBa g id k x
 | .gro i k' _ j=>match bp i id with | true=>g&&((match j with | .all=>true | _=>false)&&bp k' k) | false=>true
 | _=>true
def fzOKL(g:Bool)(id k:Nat):List AV->Bool
 | []=>true
 | p :: ps=>match aBa g id k p with | true=>fzOKL g id k ps | false=>false
end
mutual
def rQ(id:Nat):AV->List Nat
 | .bsl i _ _ _ _ len=>match bp i id with | true=>[len] | false=>[]
 | .st _ ps=>fzLensL id ps
 | .tup ps=>fzLensL id ps
 | .fn _ a c=>fzLensL id a++fzLensL id c
 | .ifc _ x=>rQ id x
 | .gro i _ ln _=>match bp i id with | true=>[ln] | false=>[]
 | _=>[]
def fzLensL(id:Nat):List AV->List Nat
 | []=>[]
 | p :: ps=>rQ id p++fzLensL id ps
end
mutual
theorem aRM(id k q:Nat)(es:List AV):∀x:AV,(fz id k q es x).isAgg=x.isAgg
 | .bsl i p o k' lo len=>by simp only[fz];split <;> rfl
 | .st _ _=>rfl
 | .arr .. => rfl
 | .v _=>rfl
 | .sl .. => rfl
 | .own .. => rfl
 | .ref .. => rfl
 | .im _=>rfl
 | .tup _=>rfl
 | .fn .. => rfl
 | .ifc .. => rfl
 | .mp _=>rfl
 | .it _=>rfl
 | .yld _=>rfl
 | .gro .. => by simp only[fz];split <;> rfl
end
structure Fz(g:Bool)(id k q:Nat)(es:List AV)(μ μ':Mem):Prop where
 q:es.length=q
 w:μ'.w=μ.w
 bs:μ'.bs=μ.bs
 len:μ'.H.length=μ.H.length
 keeps:∀b o y,μ.w.cell? ⟨b,o,none⟩=some y->¬μ.M b o->μ'.w.cell? ⟨b,o,none⟩=some y/\¬μ'.M b o
 tail:∀(i m:Nat),μ'.H[i]? = some (.tail m)->μ.H[i]? = some (.tail m)
 var:∀(i:Nat) c,i≠id->μ.H[i]? = some (.var c)->∃c',μ'.H[i]? = some (.var c')
 mp:∀(i:Nat) c,μ.H[i]? = some (.mp c)->μ'.H[i]? = some (.mp c)
 loop:∀(i:Nat) c,μ.H[i]? = some (.loop c)->μ'.H[i]? = some (.loop c)
 gro:∀(i k:Nat) es,μ'.H[i]? = some (.gro k es)->μ.H[i]? = some (.gro k es)
 isg:g=true->μ.H[id]? = some (.gro k es)
 nob:μ.bs[id]? = some none->es=[]
 data:∀b,μ.bs[id]? = some (some b)->(∀e∈es,e.n=k)/\∃zs,RdL μ'.w μ'.M es zs/\μ'.at b 0 zs
theorem Fz.typd{g:Bool}{id k q:Nat}{es:List AV}{μ μ':Mem}(F:Fz g id k q es μ μ'){i n:Nat}{e:TypeId}(ht:μ.typd i n e):μ'.typd i n e:=by
 refine⟨by rw[F.len];exact ht.1,λk1 es1 hH=>?_⟩
 obtain⟨h3,h4⟩:=ht.2 k1 es1 (F.gro i k1 es1 hH)
 refine⟨h3,λe1 b hb=>?_⟩
 obtain⟨s,c,g1,g2⟩:=h4 e1 b (by rw[<- F.bs];exact hb)
 exact⟨s,c,by rw[F.w];exact g1,g2⟩
mutual
theorem aI1{g:Bool}{id k q:Nat}{es:List AV}{μ μ':Mem}(h:Fz g id k q es μ μ'):∀(x:AV) (ys:List Value),aBa g id k x=true->(∀n∈rQ id x,n=es.length)->Rc μ x ys->Rc μ' (fz id k q es x) ys
 | .v _,_,_,_,hr=>by simpa[fz,Rc] using hr
 | .st n ps,ys,ho,hl,hr=>by
  simp only[fz,Rc] at hr ⊢;exact⟨hr.1,fzL_rc h ps ys (by simpa[aBa] using ho) (by simpa[rQ] using hl) hr.2⟩
 | .arr n k es,ys,_,_,hr=>by
  simp only[fz,Rc] at hr ⊢;exact⟨hr.1,hr.2.1,RdL.mono h.keeps es ys hr.2.2⟩
 | .sl k ln es,ys,_,_,hr=>by
  simp only[fz,Rc] at hr ⊢;obtain⟨hn,a,cap,h1,h2,h3,h4⟩:=hr;refine⟨hn,a,cap,h1,h2,h3,h4.imp (λh=>h) ?_⟩
  rintro⟨b,off,zs,h5,h6,h7⟩
  exact⟨b,off,zs,h5,RdL.mono h.keeps es zs h6,λj y hy=>h.keeps _ _ _ (h7 j y hy).1 (h7 j y hy).2⟩
 | .own i k ln es,ys,_,_,hr=>by
  simp only[fz,Rc] at hr ⊢;obtain⟨hn,a,cap,h1,h2,h3,h4,h5,h6⟩:=hr;refine⟨hn,a,cap,h1,h2,h3,?_,by rw[h.len];exact h5,λm hm=>?_⟩
  ·refine h4.imp (λh=>h) ?_;rintro⟨b,off,zs,h5,h6,h7⟩
   exact⟨b,off,zs,h5,RdL.mono h.keeps es zs h6,λj y hy=>h.keeps _ _ _ (h7 j y hy).1 (h7 j y hy).2⟩
  ·obtain⟨k1,k2⟩:=h6 m (h.tail i m hm)
   refine⟨k1,λe=>?_⟩
   rw[h.bs]
   rcases k2 e with ⟨b,g1,g2,c,T,g3,g4⟩ | g1
   ·exact .inl ⟨b,g1,g2,c,T,by rw[h.w];exact g3,g4⟩
   ·exact .inr g1
 | .ref i p o,ys,ho,_,hr=>by
  have hne:i≠id:=by
   simp only[aBa] at ho;split at ho
   ·cases ho
   ·rename_i hb;intro e;subst e;simp at hb
  simp only[fz,Rc] at hr ⊢;obtain⟨b,c,h1,h2,h3⟩:=hr;obtain⟨c',h4⟩:=h.var i c hne h2;exact⟨b,c',by rw[h.bs];exact h1,h4,h3⟩
 | .bsl i p o k' lo len,ys,ho,hl,hr=>by
  simp only[fz]
  split
  ·rename_i hb;have hi:=ak hb;subst hi;simp only[aBa,hb,b9] at ho;obtain⟨o1,o2,o3,o4⟩:=ho;have o2:=ak o2;have o3:=ak o3;have o4:=ak o4;subst o2 o3 o4;have hlen:len=es.length:=hl len (by simp only[rQ,hb];simp)
   subst hlen;simp only[Rc] at hr ⊢;obtain⟨b,c,cap,h1,h2,h3,h4⟩:=hr;obtain⟨g1,zs,g2,g3⟩:=h.data b h1;refine⟨h.q,some ⟨b,0,none⟩,cap,by rw[h4];simp,h3,g1,.inr ⟨b,0,zs,rfl,g2,g3⟩⟩
  ·rename_i hb;have hne:i≠id:=by intro e;subst e;simp at hb
   simp only[Rc] at hr ⊢;obtain⟨b,c,cap,h1,h2,h3,h4⟩:=hr;obtain⟨c',h5⟩:=h.var i c hne h2;exact⟨b,c',cap,by rw[h.bs];exact h1,h5,h3,h4⟩
 | .im x,ys,_,_,hr=>by
  simp only[fz,Rc] at hr ⊢;obtain⟨b,off,zs,h1,h2,h3⟩:=hr;exact⟨b,off,zs,h1,Rd.mono h.keeps x zs h2,λj y hy=>h.keeps _ _ _ (h3 j y hy).1 (h3 j y hy).2⟩
 | .tup _,_,_,_,hr=>by simp[Rc] at hr
 | .fn F first cap,ys,ho,hl,hr=>by
  simp only[fz,Rc] at hr ⊢;simp only[aBa] at ho;split at ho
  ·rename_i ho1;obtain⟨as,cs,h1,h2,h3⟩:=hr;simp only[rQ,d9] at hl;exact⟨as,cs,h1,fzL_rc h first as ho1 (λn hn=>hl n (.inl hn)) h2,fzL_rc h cap cs ho (λn hn=>hl n (.inr hn)) h3⟩
  ·cases ho
 | .ifc t x,ys,ho,hl,hr=>by
  simp only[fz,Rc] at hr ⊢;obtain⟨y,h1,h2⟩:=hr;refine⟨y,h1,?_⟩
  have h3:=mS (λzs hz=>aI1 h x zs (by simpa[aBa] using ho) (by simpa[rQ] using hl) hz) h2;unfold vOf at h3 ⊢;rw[aRM]
  exact h3
 | .mp i,ys,_,_,hr=>by
  simp only[fz,Rc] at hr ⊢;obtain⟨b,c,h1,h2,h3⟩:=hr;exact⟨b,c,by rw[h.bs];exact h1,h.mp i c h2,h3⟩
 | .it i,ys,_,_,hr=>by
  simp only[fz,Rc] at hr ⊢;obtain⟨b,c,h1,h2,h3⟩:=hr;exact⟨b,c,by rw[h.bs];exact h1,h.mp i c h2,h3⟩
 | .yld i,ys,_,_,hr=>by
  simp only[fz,Rc] at hr ⊢;obtain⟨b,c,h1,h2,h3⟩:=hr;exact⟨b,c,by rw[h.bs];exact h1,h.loop i c h2,h3⟩
 | .gro i k' ln j,ys,ho,hl,hr=>by
  simp only[fz]
  split
  ·rename_i hb;have hi:=ak hb;subst hi;simp only[aBa,hb,b9] at ho;obtain⟨o1,o2,o3⟩:=ho;have o3:=ak o3;subst o3;have hlen:ln=es.length:=hl ln (by simp only[rQ,hb];simp)
   cases j with
   | ptr _ _=>cases o2
   | sub _ _=>cases o2
   | all=>
    simp only[Rc] at hr ⊢;obtain⟨y,e,h1,a,cap,e0,h0,h2⟩:=hr;obtain⟨k1,k2⟩:=h2 _ _ (h.isg o1)
    obtain⟨_,g1,_⟩:=k2 hlen;have h0:=h0.1;refine⟨h.q,a.map (λb=>⟨b,0,none⟩),cap,by rw[e,e0,<- hlen];rfl,by omega,?_⟩
    cases a with
    | none=>
     have e:=h.nob g1;exact⟨by rw[e];simp,.inl e⟩
    | some b=>
     obtain⟨g2,zs,g3,g4⟩:=h.data b g1;exact⟨g2,.inr ⟨b,0,zs,rfl,g3,g4⟩⟩
  ·rename_i hb;simp only[Rc] at hr ⊢;obtain⟨y,e,h1,a,cap,e0,h0,h2⟩:=hr;refine⟨y,e,by rw[h.len];exact h1,a,cap,e0,h0,λk' es hm=>?_⟩
   obtain⟨k1,k2⟩:=h2 k' es (h.gro i k' es hm)
   refine⟨k1,λe=>?_⟩
   rw[h.bs]
   obtain⟨g0,g1,g2⟩:=k2 e;refine⟨g0,g1,g2.imp ?_ (λh=>h)⟩
   rintro⟨b,rfl,c,T,g3,g4⟩
   exact⟨b,rfl,c,T,by rw[h.w];exact g3,g4⟩
theorem fzL_rc{g:Bool}{id k q:Nat}{es:List AV}{μ μ':Mem}(h:Fz g id k q es μ μ'):∀(ps:List AV) (ys:List Value),fzOKL g id k ps=true->(∀n∈fzLensL id ps,n=es.length)->RcL μ ps ys->RcL μ' (fzL id k q es ps) ys
 | [],_,_,_,hr=>by simpa[fzL,RcL] using hr
 | p :: ps,ys,ho,hl,hr=>by
  simp only[fzOKL] at ho;split at ho
  ·rename_i ho1;simp only[fzLensL,d9] at hl;simp only[fzL,RcL] at hr ⊢;obtain⟨y1,y2,h1,h2,h3⟩:=hr;exact⟨y1,y2,h1,aI1 h p y1 ho1 (λn hn=>hl n (.inl hn)) h2,fzL_rc h ps y2 ho (λn hn=>hl n (.inr hn)) h3⟩
  ·cases ho
end
theorem aJW{g:Bool}{id k q:Nat}{es:List AV}{μ μ':Mem}(h:Fz g id k q es μ μ'){x:AV}{y:Value}(ho:aBa g id k x=true)(hl:∀n∈rQ id x,n=es.length)(hr:Rv0 μ x y):Rv0 μ' (fz id k q es x) y:=by
 have h2:=mS (λzs hz=>aI1 h x zs ho hl hz) (rG.1 hr)
 refine rG.2 ?_;unfold vOf at h2 ⊢;rw[aRM]
 exact h2
theorem aP0{g:Bool}{id k q:Nat}{es:List AV}{μ μ':Mem}(h:Fz g id k q es μ μ'):∀{xs:List AV} {vs:List Value},fzOKL g id k xs=true->(∀n∈fzLensL id xs,n=es.length)->RvL μ xs vs->RvL μ' (fzL id k q es xs) vs
 | [],vs,_,_,hr=>hr
 | x :: xs,vs,ho,hl,⟨v,r,e,h1,h2⟩=>by
  simp only[fzOKL] at ho;split at ho
  ·rename_i ho1;simp only[fzLensL,d9] at hl;exact⟨v,r,e,aJW h ho1 (λn hn=>hl n (.inl hn)) h1,aP0 h ho (λn hn=>hl n (.inr hn)) h2⟩
  ·cases ho
theorem aUH{g:Bool}{id k q:Nat}{es:List AV}{μ μ':Mem}(h:Fz g id k q es μ μ'){x:AV}{y:Value}(ho:aBa g id k x=true)(hl:∀n∈rQ id x,n=es.length)(hr:Rv μ x y):Rv μ' (fz id k q es x) y:=by
 cases x with
 | tup vs=>
  obtain⟨ws,e,h1⟩:=hr;exact⟨ws,e,aP0 h (by simpa[aBa] using ho) (by simpa[rQ] using hl) h1⟩
 | bsl i p o k' lo len=>
  have:=aJW h ho hl hr;have e:∀z:AV,z=fz id k q es (.bsl i p o k' lo len)->Rv μ' z y:=by
   intro z hz;rw[<- hz] at this;simp only[fz] at hz;split at hz <;> subst hz <;> exact this
  exact e _ rfl
 | gro i k' ln j=>
  have:=aJW h ho hl hr;have e:∀z:AV,z=fz id k q es (.gro i k' ln j)->Rv μ' z y:=by
   intro z hz;rw[<- hz] at this;simp only[fz] at hz;split at hz <;> subst hz <;> exact this
  exact e _ rfl
 | _=>exact aJW h ho hl hr
def fzB(id k q:Nat)(es:List AV):Box->Box
 | .var c => .var (fz id k q es c)
 | x=>x
def lC(id k q:Nat)(es:List AV):Nat->List Box->List Box
 | _,[]=>[]
 | i,x :: r=>(match bp i id with | true => .dead | false=>fzB id k q es x) :: lC id k q es (i+1) r
def aHa(id k q:Nat)(es:List AV):Env->Env
 | []=>[]
 | (i,none) :: r=>(i,none) :: aHa id k q es r
 | (i,some (g,x)) :: r=>(i,some (g,fz id k q es x)) :: aHa id k q es r
def fzS(id k q:Nat)(es:List AV)(st:ASt):ASt:=⟨aHa id k q es st.env,lC id k q es 0 st.H⟩
def zJ(g:Bool)(id k:Nat):Nat->List Box->Bool
 | _,[]=>true
 | i,x :: r=>(match bp i id with | true=>true | false=>match x with | .var c=>aBa g id k c | .mp (.bl _ _ m _) => !(bp m id) | _=>true)&&zJ g id k (i+1) r
def qT(id:Nat):Nat->List Box->List Nat
 | _,[]=>[]
 | i,x :: r=>(match bp i id with | true=>[] | false=>match x with | .var c=>rQ id c | _=>[])++qT id (i+1) r
def aDp(g:Bool)(id k:Nat):Env->Bool
 | []=>true
 | (_,none) :: r=>aDp g id k r
 | (_,some (_,x)) :: r=>aBa g id k x&&aDp g id k r
def qX(id:Nat):Env->List Nat
 | []=>[]
 | (_,none) :: r=>qX id r
 | (_,some (_,x)) :: r=>rQ id x++qX id r
def aJG : Option Box->Bool
 | some (.gro ..)=>true
 | _=>false
def aPl(n:Fr)(id k:Nat)(st:ASt)(H':List Box):Bool:=Nat.ble n.lo id&&(aDp (aJG st.H[id]?) id k st.env&&(zJ (aJG st.H[id]?) id k 0 st.H&&aB8 H' n.outs))
def fzAt(id:Nat)(st:ASt):Option (Nat×List AV):=match st.H[id]? with | some (.var (.arr _ k es))=>some (k,es) | some (.gro k es)=>some (k,es) | _=>none
theorem aFX{id k q:Nat}{es:List AV}:∀{H:List Box} {j i:Nat},(lC id k q es j H)[i]? = (H[i]?).map λx=>match bp (j+i) id with | true => .dead | false=>fzB id k q es x
 | [],j,i=>by simp[lC]
 | x :: r,j,0=>by simp[lC]
 | x :: r,j,i+1=>by
  simp only[lC,List.getElem?_cons_succ]
  rw[aFX (H:=r),show j+1+i=j+(i+1) by omega]
theorem aFK{id k q:Nat}{es:List AV}:∀{H:List Box} {j:Nat},(lC id k q es j H).length=H.length
 | [],_=>rfl
 | x :: r,j=>by simp[lC,aFK (H:=r)]
theorem aFk{g:Bool}{id k:Nat}:∀{H:List Box} {j i:Nat} {c:AV},zJ g id k j H=true->H[i]? = some (.var c)->j+i≠id->aBa g id k c=true
 | [],_,_,_,_,h,_=>by simp at h
 | x :: r,j,0,c,ho,h,hne=>by
  simp only[du,Option.some.injEq] at h;subst h;simp only[zJ,b9] at ho;have hb:bp j id=false:=pR (by omega)
  rw[hb] at ho;exact ho.1
 | x :: r,j,i+1,c,ho,h,hne=>by
  simp only[zJ,b9] at ho;exact aFk (H:=r) (j:=j+1) ho.2 (by simpa using h) (by omega)
theorem aHx{g:Bool}{id k:Nat}:∀{H:List Box} {j i:Nat} {m:Nat} {t e:TypeId} {s:ByteArray},zJ g id k j H=true->H[i]? = some (.mp (.bl t e m s))->j+i≠id->bp m id=false
 | [],_,_,_,_,_,_,_,h,_=>by simp at h
 | x :: r,j,0,c,_,_,_,ho,h,hne=>by
  simp only[du,Option.some.injEq] at h;subst h;simp only[zJ,b9] at ho;have hb:bp j id=false:=pR (by omega)
  rw[hb] at ho;simpa using ho.1
 | x :: r,j,i+1,c,_,_,_,ho,h,hne=>by
  simp only[zJ,b9] at ho;exact aHx (H:=r) (j:=j+1) ho.2 (by simpa using h) (by omega)
theorem aCk{id:Nat}:∀{H:List Box} {j i:Nat} {c:AV} {n:Nat},H[i]? = some (.var c)->j+i≠id->n∈rQ id c->n∈qT id j H
 | [],_,_,_,_,h,_,_=>by simp at h
 | x :: r,j,0,c,n,h,hne,hn=>by
  simp only[du,Option.some.injEq] at h;subst h;simp only[qT,d9]
  have hb:bp j id=false:=pR (by omega)
  rw[hb]
  exact .inl hn
 | x :: r,j,i+1,c,n,h,hne,hn=>by
  simp only[qT,d9]
  exact .inr (aCk (H:=r) (j:=j+1) (by simpa using h) (by omega) hn)
theorem aEl{id k q:Nat}{es:List AV}:∀{env:Env} {i:Nat} {e:EV},bY (aHa id k q es env) i=some e->∃x,bY env i=some (e.1,x)/\e.2=fz id k q es x
 | [],_,_,h=>by simp[aHa,bY] at h
 | (j,none) :: r,i,e,h=>by
  simp only[aHa,bY] at h ⊢;cases hb:bp j i with
  | true=>rw[hb] at h;cases h
  | false=>rw[hb] at h;exact aEl h
 | (j,some (g,x)) :: r,i,e,h=>by
  simp only[aHa,bY] at h ⊢;cases hb:bp j i with
  | true=>rw[hb] at h;cases h;exact⟨x,rfl,rfl⟩
  | false=>rw[hb] at h;exact aEl h
theorem aBI{gb:Bool}{id k:Nat}:∀{env:Env} {i:Nat} {g:Option (Nat×Bool)} {x:AV},aDp gb id k env=true->bY env i=some (g,x)->aBa gb id k x=true
 | [],_,_,_,_,h=>by simp[bY] at h
 | (j,none) :: r,i,g,x,ho,h=>by
  simp only[bY] at h;cases hb:bp j i with
  | true=>rw[hb] at h;cases h
  | false=>rw[hb] at h;exact aBI (env:=r) ho h
 | (j,some (g0,x0)) :: r,i,g,x,ho,h=>by
  simp only[aDp,b9] at ho;simp only[bY] at h;cases hb:bp j i with
  | true=>rw[hb] at h;cases h;exact ho.1
  | false=>rw[hb] at h;exact aBI ho.2 h
theorem aAA{id:Nat}:∀{env:Env} {i:Nat} {g:Option (Nat×Bool)} {x:AV} {n:Nat},bY env i=some (g,x)->n∈rQ id x->n∈qX id env
 | [],_,_,_,_,h,_=>by simp[bY] at h
 | (j,none) :: r,i,g,x,n,h,hn=>by
  simp only[bY] at h;cases hb:bp j i with
  | true=>rw[hb] at h;cases h
  | false=>rw[hb] at h;exact aAA (env:=r) h hn
 | (j,some (g0,x0)) :: r,i,g,x,n,h,hn=>by
  simp only[bY] at h;simp only[qX,d9]
  cases hb:bp j i with
  | true=>rw[hb] at h;cases h;exact .inl hn
  | false=>rw[hb] at h;exact .inr (aAA h hn)
section
variable {P:Program} {T:TypeId→Option TI} {n:Fr}
theorem aWP{st:ASt}{id k ln q:Nat}{es:List AV}(hq:es.length=q)(hat:fzAt id st=some (k,es))(hk:aPl n id k st (lC id k q es 0 st.H)=true)(hln:es.length=ln)(hl:qX id st.env++qT id 0 st.H=List.replicate (qX id st.env++qT id 0 st.H).length ln)
  {ctx:Mem} {a:Act} {w:World} (h:Sat n ctx st a w):Sat n ctx (fzS id k q es st) a w:=by
 obtain⟨bs,hm⟩:=h;obtain⟨env,H⟩:=st;have hat:∃x0,H[id]? = some x0/\x0.whole=true/\((∃N,x0 = .var (.arr N k es))\/x0 = .gro k es):=by
  unfold fzAt at hat;split at hat <;> cases hat
  ·rename_i N hH;exact⟨_,hH,rfl,.inl ⟨N,rfl⟩⟩
  ·rename_i hH;exact⟨_,hH,rfl,.inr rfl⟩
 obtain⟨x0,hH,hx0w,hx0⟩:=hat;have hisg:aJG (some x0)=true->x0 = .gro k es:=by
  intro h;rcases hx0 with ⟨N,rfl⟩ | rfl
  ·cases h
  ·rfl
 simp only[aPl,b9] at hk;obtain⟨c1,c2,c3,c4⟩:=hk;have c1:=Nat.le_of_ble_eq_true c1;dsimp only at hH c2 c3 c4 hl hm ⊢;rw[hH] at c2 c3;have hlens:∀m,m∈qX id env\/m∈qT id 0 H->m=es.length:=by
  intro m hmem;rw[hln]
  have h1:m∈qX id env++qT id 0 H:=d9.2 hmem;rw[hl] at h1;exact List.eq_of_mem_replicate h1
 have hlo:ctx.H.length<=id:=Nat.le_trans hm.low c1;have get':∀i:Nat,(lC id k q es 0 H)[i]? = (H[i]?).map λx=>match bp i id with | true => .dead | false=>fzB id k q es x:=by
  intro i;rw[aFX]
  simp
 have getid:(lC id k q es 0 H)[id]? = some .dead:=by rw[get',hH];simp
 have getne:∀i:Nat,i≠id->(lC id k q es 0 H)[i]? = (H[i]?).map (fzB id k q es):=by
  intro i hi;rw[get',pR hi]
 have kindof:∀(i:Nat) x',(lC id k q es 0 H)[i]? = some x'->x' ≠ .dead->i≠id/\∃x,H[i]? = some x/\x'=fzB id k q es x:=by
  intro i x' hx hd;by_cases hi:i=id
  ·subst hi;rw[getid] at hx;cases hx;exact absurd rfl hd
  ·rw[getne i hi] at hx;obtain⟨x,g1,g2⟩:=Option.map_eq_some_iff.1 hx;exact⟨hi,x,g1,g2.symm⟩
 have ownsub:∀b o,(⟨lC id k q es 0 H,bs,w,ctx.F⟩:Mem).own b o->(⟨H,bs,w,ctx.F⟩:Mem).own b o:=by
  rintro b o ⟨i,h1,h2⟩
  refine⟨i,h1,?_⟩
  rcases h2 with ⟨x',h2,h3⟩ | ⟨m,h2,h3⟩
  ·obtain⟨_,x,g1,g2⟩:=kindof i x' h2 (Box.whole_live h3)
   exact .inl ⟨x,g1,by rw[g2] at h3;cases x <;> first | rfl | exact h3⟩
  ·obtain⟨_,x,g1,g2⟩:=kindof i _ h2 (by simp)
   cases x <;> simp only[fzB] at g2 <;> cases g2;exact .inr ⟨m,g1,h3⟩
 have keeps:∀b o y,(⟨H,bs,w,ctx.F⟩:Mem).w.cell? ⟨b,o,none⟩=some y->¬(⟨H,bs,w,ctx.F⟩:Mem).M b o->(⟨lC id k q es 0 H,bs,w,ctx.F⟩:Mem).w.cell? ⟨b,o,none⟩=some y/\¬(⟨lC id k q es 0 H,bs,w,ctx.F⟩:Mem).M b o:=by
  intro b o y h1 h2;refine⟨h1,λh3=>h2 ?_⟩
  rcases h3 with h3 | h3
  ·exact .inl h3
  ·exact .inr (ownsub b o h3)
 have F:Fz (aJG (some x0)) id k q es ⟨H,bs,w,ctx.F⟩ ⟨lC id k q es 0 H,bs,w,ctx.F⟩:={
  q:=hq,w:=rfl,bs:=rfl,len:=aFK,keeps:=keeps
  tail:=λi m hx=>by
   obtain⟨_,x,g1,g2⟩:=kindof i _ hx (by simp)
   cases x <;> simp only[fzB] at g2 <;> cases g2;exact g1
  var:=λi c hi hc=>⟨fz id k q es c,by dsimp only at hc ⊢;rw[getne i hi,hc];rfl⟩
  mp:=λi c hc=>by
   dsimp only at hc ⊢;have hi:i≠id:=λe=>by subst e;rw[hH] at hc;cases hc;rcases hx0 with ⟨N,e⟩ | e <;> cases e
   rw[getne i hi,hc];rfl
  loop:=λi c hc=>by
   dsimp only at hc ⊢;have hi:i≠id:=λe=>by subst e;rw[hH] at hc;cases hc;rcases hx0 with ⟨N,e⟩ | e <;> cases e
   rw[getne i hi,hc];rfl
  gro:=λi k es hx=>by
   obtain⟨_,x,g1,g2⟩:=kindof i _ hx (by simp)
   cases x <;> simp only[fzB] at g2 <;> cases g2;exact g1
  isg:=λh=>by rw[<- hisg h];exact hH
  nob:=λhb=>by
   have hbox:=hm.ok.box id _ _ hb hH;rcases hx0 with ⟨N,rfl⟩ | rfl
   ·obtain⟨b',ys,TT,e1,_⟩:=hbox;cases e1
   ·obtain⟨_,⟨_,e⟩ | ⟨b',ys,TT,e1,_⟩⟩:=hbox
    ·exact e
    ·cases e1
  data:=λb hb=>by
   have hbox:=hm.ok.box id _ _ hb hH;have:∃ys TT zs,w.heap[b]? = some (.cells ys TT (0,0))/\(∀e∈es,e.n=k)/\RdL w (⟨H,bs,w,ctx.F⟩:Mem).M es zs/\∀(j:Nat) y,zs[j]? = some y->ys[j]? = some y:=by
    rcases hx0 with ⟨N,rfl⟩ | rfl
    ·obtain⟨b',ys,TT,e1,e2,e3⟩:=hbox;cases e1;simp only[Rc] at e3;exact⟨ys,TT,ys.toList,e2,e3.2.1,e3.2.2,λj y hy=>by simpa using hy⟩
    ·obtain⟨e0,⟨e1,_⟩ | ⟨b',ys,TT,e1,e2,y1,y2,e3,e4⟩⟩:=hbox
     ·cases e1
     ·cases e1;exact⟨ys,TT,y1,e2,e0,e4,λj y hy=>by
       have:ys.toList[j]? = some y:=by rw[e3,List.getElem?_append_left (aX hy)];exact hy
       simpa using this⟩
   obtain⟨ys,TT,zs,e2,e3,e4,e5⟩:=this;refine⟨e3,zs,RdL.mono keeps _ _ e4,λj y hy=>?_⟩
   refine⟨?_,?_⟩
   ·rw[fy]
    simp only[World.cell?,e2]
    simpa using e5 j y hy
   ·rw[fy]
    rintro(hf | ⟨i,h1,h2⟩)
    ·exact hm.ok.clear b j ⟨id,hb,.inl ⟨_,hH,hx0w⟩⟩ hf
    ·have hdead:∀x',(lC id k q es 0 H)[i]? = some x'->x' ≠ .dead->False:=by
      intro x' hx hd;obtain⟨hi,x,g1,g2⟩:=kindof i x' hx hd;exact hi (hm.ok.apart i id b _ _ h1 hb g1 hH (by intro e;subst e;rw[g2] at hd;exact hd rfl) (Box.whole_live hx0w))
     rcases h2 with ⟨x',h2,h3⟩ | ⟨m,h2,h3⟩
     ·exact hdead x' h2 (Box.whole_live h3)
     ·exact hdead _ h2 (by simp) }
 have less:aBj (λi=>i) ⟨H,bs,w,ctx.F⟩ ⟨lC id k q es 0 H,bs,w,ctx.F⟩:={
  w:=rfl
  M:=λb o hM=>by
   rcases hM with h3 | h3
   ·exact .inl h3
   ·exact .inr (ownsub b o h3)
  bs:=λi _ _=>rfl
  tail:=λi m hx=>F.tail i m hx
  gro:=λi k es hx=>F.gro i k es hx
  lt:=λi hi=>by rw[<- F.len];exact hi }
 have ok:(⟨lC id k q es 0 H,bs,w,ctx.F⟩:Mem).OK:={
  foreign:=hm.ok.foreign
  glob:=λg hg=>less.globAt (hm.ok.glob g hg)
  clear:=λb o ho=>hm.ok.clear b o (ownsub b o ho)
  len:=by have:=hm.ok.len;have:=F.len;simp only at *;omega
  box:=λi o x' ho hx=>by
   by_cases hd:x' = .dead
   ·subst hd;trivial
   ·obtain⟨hi,x,g1,g2⟩:=kindof i x' hx hd;subst g2;have hb:=hm.ok.box i o x ho g1;cases x with
    | dead=>trivial
    | var c=>
     obtain⟨b,ys,TT,e1,e2,e3⟩:=hb;exact⟨b,ys,TT,e1,e2,aI1 F c _ (aFk (j:=0) c3 g1 (by omega)) (λm hmm=>hlens m (.inr (aCk g1 (by omega) hmm))) e3⟩
    | tail m=>exact hb
    | mp c0=>
     cases c0 with
     | kv kvs=>
      obtain⟨b,es',clock,e1,e2,e3⟩:=hb;exact⟨b,es',clock,e1,e2,e3.mono keeps⟩
     | it _ _=>exact hb
     | mi m=>
      obtain⟨b,c,t,e1,e2,e3⟩:=hb;exact⟨b,c,t,e1,e2,aI1 F (.mp m) _ rfl (λ_ h=>by cases h) e3⟩
     | bl t e0 id' s=>
      obtain⟨b,p,v,e1,e2,ep,e3⟩:=hb;have hne:=aHx (j:=0) c3 g1 (by omega)
      have:=aI1 F (.gro id' 1 s.size .all) _ (by simp only[aBa,hne]) (λm hmm=>by simp[rQ,hne] at hmm) e3.1;simp only[fz,hne] at this;exact⟨b,p,v,e1,e2,ep,this,F.typd e3.2⟩
    | loop r=>exact hb
    | gro q es=>
     obtain⟨g0,g1 | ⟨b,ys,U,g1,g2,y1,y2,g3,g4⟩⟩:=hb
     ·exact⟨g0,.inl g1⟩
     ·exact⟨g0,.inr ⟨b,ys,U,g1,g2,y1,y2,g3,RdL.mono keeps _ _ g4⟩⟩
  apart:=λi j b x y h1 h2 h3 h4 h5 h6=>by
   obtain⟨_,x0,g1,g2⟩:=kindof i x h3 h5;obtain⟨_,y0,g3,g4⟩:=kindof j y h4 h6;exact hm.ok.apart i j b x0 y0 h1 h2 g1 g3 (by intro e;subst e;exact h5 g2) (by intro e;subst e;exact h6 g4) }
 have ext:Ext ctx ⟨lC id k q es 0 H,bs,w,ctx.F⟩:={
  size:=hm.ext.size
  len:=by rw[F.len];exact hm.ext.len
  cells:=hm.ext.cells
  blocks:=hm.ext.blocks
  mm:=λb o hb ho=>hm.ext.mm b o hb (ownsub b o ho)
  same:=rfl
  vars:=λi c hc=>by
   obtain⟨⟨c',g1⟩,g2⟩:=hm.ext.vars i c hc;have hi:i≠id:=by have:=aX hc;omega
   exact⟨F.var i c' hi g1,g2⟩
  maps:=λi c hc=>by
   obtain⟨⟨c',g1⟩,g2⟩:=hm.ext.maps i c hc;exact⟨⟨c',F.mp i c' g1⟩,g2⟩
  loops:=λi c hc=>by
   obtain⟨⟨c',g1⟩,g2⟩:=hm.ext.loops i c hc;exact⟨⟨c',F.loop i c' g1⟩,g2⟩
  toks:=λi m' hi hx=>hm.ext.toks i m' hi (F.tail i m' hx)
  gros:=λi q es' hi hx=>hm.ext.gros i q es' hi (F.gro i q es' hx)
  os:=hm.ext.os
  tape:=hm.ext.tape
  output:=hm.ext.output }
 refine⟨bs,{ h:=rfl,ok:=ok,ext:=ext,env := ?_,size:=hm.size,low:=hm.low,defers:=hm.defers,nod:=hm.nod,outs:=λp hp=>?_ }⟩
 ·intro i e he;obtain⟨x,g1,g2⟩:=aEl he;obtain⟨y,g3,g4⟩:=hm.env i _ g1;refine⟨y,g3,?_⟩
  have g5:=aBI c2 g1;have g6:∀m∈rQ id x,m=es.length:=λm hmm=>hlens m (.inl (aAA g1 hmm))
  unfold yF at *;rw[g2]
  split
  ·rename_i hn;rw[hn] at g4;exact aUH F g5 g6 g4
  ·rename_i j want hn;rw[hn] at g4;exact λhj=>aUH F g5 g6 (g4 hj)
 ·intro i e hlk;obtain⟨y,g1,g2⟩:=hm.outs p hp i e hlk;have hlow:=tW (xN c4 hp) hlk;refine⟨y,g1,?_⟩
  unfold yF at *;split
  ·rename_i hn;rw[hn] at g2;exact vP less hlow (by rw[show(λi:Nat=>i)=_root_.id from rfl,uJ];exact g2)
  ·rename_i j want hn;rw[hn] at g2;exact λhj=>vP less hlow (by rw[show(λi:Nat=>i)=_root_.id from rfl,uJ];exact g2 hj)
end
end Go.UK

