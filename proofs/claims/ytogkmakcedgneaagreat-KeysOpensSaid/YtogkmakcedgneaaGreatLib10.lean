/- The own layer: abstract values, their memory, and the steps of the model over them: for any program. -/
import Derived.Test.YtogkmakcedgneaaGreatLib9
import Derived.MapFrom
import Derived.Carry
import Derived.Shelf.SlIterI.Nil
import Derived.Shelf.SortM.Plain
import Derived.Shelf.SortM.SortNone
import Derived.Shelf.Strings.Split
import Derived.Shelf.Strconv.ParseIntPublic10
import Derived.Shelf.Strconv.Itoa4
open List renaming getElem?_eq_getElem→af,getElem?_map→cw,map_append→ka
namespace Go.UK
open Go
set_option linter.all false
variable [bU]
section
variable {P:Program} {T:TypeId→Option TI} {n:Fr}
theorem aGS(w:World)(o:Obj):dM w (w.alloc o):=⟨by simp,λ_ h=>vZ h,rfl,rfl,rfl⟩
theorem aGw{α:Type}:∀(σ:List Nat) (A B:List α) (x y:α),B.length=σ.length->(∀s∈σ,s < A.length)->pC (A++[x]) (σ++[A.length]) (B++[y])=pC A σ B++[y]
 | [],A,[],x,y,_,_=>by simp[pC]
 | [],A,b :: B,x,y,h,_=>by simp at h
 | s :: σ,A,[],x,y,h,_=>by simp at h
 | s :: σ,A,b :: B,x,y,h,hs=>by
  have h1:=hs s (List.mem_cons_self ..)
  have ih:=aGw σ (A.set s b) B x y (by simpa using h) (λq hq=>by have:=hs q (List.mem_cons_of_mem _ hq);simpa using this)
  simp only[List.cons_append,pC]
  rw[List.set_append_left _ _ h1]
  rw[List.length_set] at ih;exact ih
def rngE(g:Operand)(need:Env):Option (FuncId×List AV):=
 match opd need none g with
 | some (.fn (.func f) [] cap)=>match zZ cap with | true=>some (f,cap) | false=>none
 | _=>none
def rngB(H:List Box)(σ0:List Nat)(Hc Hc':List Box)(args:List AV)(env:Env)(r:Loop):Bool:=
 aGM (σ0++[H.length])&&(aME H.length σ0&&(Nat.beq σ0.length Hc.length&&(Nat.beq Hc'.length Hc.length&&(oS (Hc++[.loop r]) (Hc++[.loop r])&&(lowL (Hc++[.loop r]) args&&zG (Hc++[.loop r]) env)))))
theorem aRV{s:aEl}{env:Env}{Hc Hc':List Box}{args:List AV}{ret:AV}{k:Option Code}{f:FuncId}(I:ItM P f s env Hc args ret Hc' k)(hf:vY P f){g:Operand}{c:Code}{σ0:List Nat}{st t:ASt}{caps:List AV}{Q:Exit->ASt->Prop}
  (hcode:c = .rangeFunc g s.ps.toArray s.assign s.body) (hn:n.ro=none) (hrg:n.rg=true) (hm:n.n=s.n) (hg:rngE g st.env=some (f,caps))
  (hB:∀r,rngB st.H σ0 Hc Hc' args env r=true)
  (hE:∀r,(wkL (.yld st.H.length :: caps) (renL (rn (σ0++[st.H.length]) (st.H.length+1)) args),rZ (st.H++[Box.loop r]) (σ0++[st.H.length]),aJn st.env (swE (rn (σ0++[st.H.length]) (st.H.length+1)) env))
   = (renL (rn (σ0++[st.H.length]) (st.H.length+1)) args,(Hc++[Box.loop r]).map (lZ (rn (σ0++[st.H.length]) (st.H.length+1))),swE (rn (σ0++[st.H.length]) (st.H.length+1)) env))
  (hj:∀r,JR n t ⟨st.env,pC st.H σ0 (Hc'.map (lZ (rn (σ0++[st.H.length]) (st.H.length+1))))++[.loop r]⟩)
  (hq:match k with | none=>Q .normal t | some c'=>aw P n c' Q t):aw P n c Q st:=by
 subst hcode;rintro ctx a w ⟨bs,hs⟩
 obtain⟨env0,H⟩:=st;dsimp only at *;refine wpIn_rangeFunc ?_;intro fn _;have hwide:n.F=Fence.wide:=Fr.wide hn;have hround:n.F.round=none:=by rw[hwide];rfl
 rw[hround]
 generalize hr:s.rcd fn a.tmps w.heap.size none=r;generalize hw1:(w.alloc (.deferred (some []))).alloc (.loop r)=w1;have hb:=hB r;unfold rngB at hb;simp only[Bool.and_eq_true] at hb;obtain⟨b1,b2,b3,b4,b5,b6,b7⟩:=hb;have b3:=Nat.eq_of_beq_eq_true b3;have b4:=Nat.eq_of_beq_eq_true b4;have hσ:=aEM b2;have he:=hE r;simp only[Prod.mk.injEq] at he;obtain⟨e1,e2,e3⟩:=he;have hbl:bs.length=H.length:=hs.ok.len
 -- the record and the mark are laid
 have later:dM w w1:=by rw[<- hw1];exact(aGS _ _).trans (aGS _ _)
 have hsz1:w1.heap.size=w.heap.size+2:=by rw[<- hw1];simp
 have hL1:w1.heap[w.heap.size+1]? = some (.loop r):=by
  rw[<- hw1]
  have:=World.alloc_heap_new (w.alloc (.deferred (some []))) (.loop r)
  rwa[World.size_alloc] at this
 have hD1:w1.heap[w.heap.size]? = some (.deferred (some [])):=by
  rw[<- hw1]
  exact(vZ (by simp)).trans (World.alloc_heap_new w _)
 have ext1:=Ext.snoc (F:=ctx.F) hs.ok.len later (.loop r) (some (w.heap.size+1)) (by intro b e;cases e;omega)
 have ok1:=OK.snoc hs.ok later (x := .loop r) (o:=some (w.heap.size+1)) (by intro b e;cases e;omega) ⟨_,rfl,hL1⟩
 -- what is ranged over
 unfold rngE at hg;split at hg <;> try cases hg
 rename_i f' cap hgo;split at hg <;> cases hg;rename_i hag;have hcv:=aW hs.env noG hgo;have hcv':∃cs:List Value,a.eval g = .func (.func f) #[] cs.toArray/\RcL ⟨H,bs,w,ctx.F⟩ caps cs:=by
  have:∃as1 cs:List Value,a.eval g = .func (.func f) as1.toArray cs.toArray/\RcL ⟨H,bs,w,ctx.F⟩ [] as1/\RcL ⟨H,bs,w,ctx.F⟩ caps cs:=by
   simpa[Rv,Rv0,AV.isAgg,Rc] using hcv
  obtain⟨as1,cs,h1,h2,h3⟩:=this;simp only[RcL] at h2;subst h2;exact⟨cs,h1,h3⟩
 obtain⟨cs,hgv,hcs⟩:=hcv';refine⟨w.heap.size+1,[{ target := .collected w.heap.size,args:=#[] }],w1,{ target := .fn (.func f) cs.toArray,args:=#[.func (.yield (w.heap.size+1)) #[] #[]] },w1,f,#[.func (.yield (w.heap.size+1)) #[] #[]]++cs.toArray,w1,?_,?_,λ_ _=>trivial,?_,λh=>(by rw[hwide] at h;cases h),?_⟩
 ·rw[<- hw1,<- hr]
  exact run_enterLoop_outer _ _ _ _ _
 ·simp only[resolve,hgv,Deferred.ofValue,Sem.run_pure]
  simp[Act.eval]
 ·obtain⟨⟨fd,h1,h2,h3⟩,_⟩:=hf;simp only[invoke,callFunc,Sem.run_bind,run_program,Result.andThen_ok,h1,h2,h3,Bool.false_eq_true,if_false,Sem.run_pure]
 ·rw[hwide]
  refine callsIn_wide.2 ?_
  -- its boxes among all
  have L:aJX (H++[Box.loop r]) (bs++[some (w.heap.size+1)]) (σ0++[H.length]) (Hc++[.loop r]):=⟨aA1 b1,by simp[b3],λi y hy=>by
   have hi:=bA hy;have hi2:i < (σ0++[H.length]).length:=by simp at hi ⊢;omega
   refine⟨_,af hi2,?_⟩
   have h2:(rZ (H++[Box.loop r]) (σ0++[H.length]))[i]? = some (lZ (rn (σ0++[H.length]) (H.length+1)) y):=by rw[e2,cw,hy];rfl
   unfold rZ at h2;rw[cw,af hi2] at h2;simp only[Option.map_some,Option.some.injEq] at h2;have h3:(σ0++[H.length])[i] < (H++[Box.loop r]).length:=by
    have:(σ0++[H.length])[i]∈σ0++[H.length]:=List.getElem_mem hi2;rcases List.mem_append.1 this with h | h
    ·have:=hσ _ h;simp;omega
    ·simp only[List.mem_singleton] at h;rw[h];simp
   rw[af h3] at h2 ⊢;rw[show(H++[Box.loop r]).length=H.length+1 by simp]
   simpa using h2⟩
  have okc:=aHU (w:=w1) (F:=ctx.F) L ok1 b5;have less:=aAN (w:=w1) (F:=ctx.F) L ok1.len;have hlen1:(H++[Box.loop r]).length=H.length+1:=by simp
  rw[hlen1] at less;have hbsc:(nS (H++[Box.loop r]) (bs++[some (w.heap.size+1)]) w1 ctx.F (σ0++[H.length]) (Hc++[.loop r])).bs=σ0.map (λs=>((bs++[some (w.heap.size+1)])[s]?).getD none)++[some (w.heap.size+1)]:=by
   show(σ0++[H.length]).map (λs=>((bs++[some (w.heap.size+1)])[s]?).getD none)=_;rw[ka]
   simp[<- hbl]
  have hmem:nS (H++[Box.loop r]) (bs++[some (w.heap.size+1)]) w1 ctx.F (σ0++[H.length]) (Hc++[.loop r])=⟨Hc++[.loop r],σ0.map (λs=>((bs++[some (w.heap.size+1)])[s]?).getD none)++[some (w.heap.size+1)],w1,λb o=>ctx.F b o\/rest (H++[Box.loop r]) (bs++[some (w.heap.size+1)]) (σ0++[H.length]) b o⟩:=by
   rw[<- hbsc];rfl
  have hyl:Rv0 ⟨H++[Box.loop r],bs++[some (w.heap.size+1)],w1,ctx.F⟩ (.yld H.length) (.func (.yield (w.heap.size+1)) #[] #[]):=by
   simp only[Rv0,AV.isAgg,Rc,Bool.false_eq_true,if_false]
   refine⟨w.heap.size+1,r,?_,?_,rfl⟩
   ·rw[<- hbl];simp
   ·simp
  have hall:RvL ⟨H++[Box.loop r],bs++[some (w.heap.size+1)],w1,ctx.F⟩ (.yld H.length :: caps) (.func (.yield (w.heap.size+1)) #[] #[] :: cs):=⟨_,_,rfl,hyl,(RcL.ext ext1 _ _ hcs).rvl (aAH hag)⟩
  have hargs:RvL ⟨H++[Box.loop r],bs++[some (w.heap.size+1)],w1,ctx.F⟩ (renL (rn (σ0++[H.length]) (H.length+1)) args) (.func (.yield (w.heap.size+1)) #[] #[] :: cs):=by
   rw[<- e1]
   exact aEt hall
  have hEnv:hU (nS (H++[Box.loop r]) (bs++[some (w.heap.size+1)]) w1 ctx.F (σ0++[H.length]) (Hc++[.loop r])) env a.tmps:=by
   refine aLq less b7 ?_;rw[<- e3]
   exact aOw (hs.env.ext ext1) _
  have hArg:=aBL less b6 hargs;have okc':=okc;rw[hmem] at okc' hEnv hArg;have hI:=I w1 _ _ (w.heap.size+1) _ fn a.tmps w.heap.size (by rw[hr];exact okc') (by rw[hs.size,hm]) (by rw[hr];exact hEnv) (by rw[hr];exact hArg)
  have hargs2:(Value.func (.yield (w.heap.size+1)) #[] #[] :: cs).toArray=#[.func (.yield (w.heap.size+1)) #[] #[]]++cs.toArray:=by
   rw[<- Array.toList_inj];simp
  rw[<- hargs2]
  refine hI.mono ?_;rintro e w3 ⟨y,bc,rfl,ext,ok',_⟩
  rw[hr,<- hmem] at ext;obtain⟨x1,x2,_⟩:=aEP ok1 L okc ext ok';have hout:cL (H++[Box.loop r]) (σ0++[H.length]) (Hc'++[.loop (s.rcd fn a.tmps w.heap.size k)])=pC H σ0 (Hc'.map (lZ (rn (σ0++[H.length]) (H.length+1))))++[.loop (s.rcd fn a.tmps w.heap.size k)]:=by
   unfold cL;rw[hlen1,List.take_of_length_le (by simp;omega),List.drop_of_length_le (by simp;omega),List.map_nil,List.append_nil,ka]
   exact aGw σ0 H _ _ _ (by simp;omega) hσ
  rw[hout] at x1 x2;generalize hbs3:xI (bs++[some (w.heap.size+1)]) (σ0++[H.length]) bc=bs3 at x1 x2;generalize hH3:pC H σ0 (Hc'.map (lZ (rn (σ0++[H.length]) (H.length+1))))=H3 at x1 x2 hj;have hl3:H3.length=H.length:=by rw[<- hH3,iV]
  have hbs4:bs3[H.length]? = some (some (w.heap.size+1)):=by
   obtain⟨_,g⟩:=x1.loops H.length r (by simp)
   refine g.trans ?_;dsimp only;rw[<- hbl]
   simp
  have hlp:(H3++[Box.loop (s.rcd fn a.tmps w.heap.size k)])[H.length]? = some (.loop (s.rcd fn a.tmps w.heap.size k)):=by rw[<- hl3];simp
  obtain⟨b',eb,hheap⟩:=x2.box H.length _ _ hbs4 hlp;cases eb;have hheap:w3.heap[w.heap.size+1]? = some (.loop (s.rcd fn a.tmps w.heap.size k)):=hheap;refine⟨_,_,run_endLoop hheap (by cases k <;> simp[aEl.rcd]),?_⟩
  have ext4:=Ext.put (x' := .loop { s.rcd fn a.tmps w.heap.size k with state := .exhausted }) (o' := .loop { s.rcd fn a.tmps w.heap.size k with state := .exhausted }) hbs4 hlp rfl rfl x2 (wO hheap)
  have ok4:=OK.put (x' := .loop { s.rcd fn a.tmps w.heap.size k with state := .exhausted }) (o' := .loop { s.rcd fn a.tmps w.heap.size k with state := .exhausted }) hbs4 hlp rfl rfl x2 (wO hheap) ⟨_,rfl,bZ (eR hheap)⟩
  have hset:(H3++[Box.loop (s.rcd fn a.tmps w.heap.size k)]).set H.length (.loop { s.rcd fn a.tmps w.heap.size k with state := .exhausted })=H3++[.loop { s.rcd fn a.tmps w.heap.size k with state := .exhausted }]:=by rw[<- hl3];simp
  rw[hset] at ext4 ok4;have hD3:w3.heap[w.heap.size]? = some (.deferred (some [])):=by
   rw[x1.blocks w.heap.size (by dsimp only;omega) (λo=>ok1.not_own hD1 o)]
   exact hD1
  have hD4:(bO w3 (w.heap.size+1) (.loop { s.rcd fn a.tmps w.heap.size k with state := .exhausted })).heap[w.heap.size]? = some (.deferred (some [])):=(bR (by omega)).trans hD3;have extA:Ext ⟨H,bs,w,ctx.F⟩ ⟨H3++[.loop { s.rcd fn a.tmps w.heap.size k with state := .exhausted }],bs3,bO w3 (w.heap.size+1) (.loop { s.rcd fn a.tmps w.heap.size k with state := .exhausted }),ctx.F⟩:=(ext1.trans x1).trans ext4;have sat:Sat n ctx t { a with defers:=[{ target := .collected w.heap.size,args:=#[] }]++a.defers } (bO w3 (w.heap.size+1) (.loop { s.rcd fn a.tmps w.heap.size k with state := .exhausted })):=by
   refine hj { s.rcd fn a.tmps w.heap.size k with state := .exhausted } ctx _ _ ⟨bs3,{ h:=rfl,ok:=ok4,ext:=hs.ext.trans extA,env := ?_,size:=hs.size,low:=hs.low,defers := ?_,nod:=λh=>(by rw[hrg] at h;cases h),outs:=λp hp=>(hs.outs p hp).ext extA }⟩
   ·exact hs.env.ext extA
   ·refine⟨⟨w.heap.size,rfl,hs.ext.size,hD4,?_⟩,wP.ext hs.ok extA hs.defers⟩
    intro d' hd' e;subst e;have key:∀(ds:List Deferred),wP ctx.w.heap.size w ds->({ target := .collected w.heap.size,args:=#[] }:Deferred)∈ds->False:=by
     intro ds
     induction ds with
     | nil=>intro _ h;cases h
     | cons d ds ih=>
      rintro⟨⟨D,g1,g2,g3,g4⟩,g5⟩ h;rcases List.mem_cons.1 h with h | h
      ·rw[g1] at h;simp only[Deferred.mk.injEq,Target.collected.injEq,and_true] at h;rw[<- h,Array.getElem?_eq_none (Nat.le_refl _)] at g3;cases g3
      ·exact ih g5 h
    exact key _ hs.defers hd'
  have hpend:(s.rcd fn a.tmps w.heap.size k).pending=k:=by cases k <;> rfl
  rw[hpend]
  cases k with
  | none=>exact⟨t,hq,sat⟩
  | some c'=>
   have:=hq ctx _ _ sat;rw[hwide] at this;exact this
end
def yE : Code->List Nat->Code
 | .seq a _,0 :: r=>yE a r
 | .seq _ b,1 :: r=>yE b r
 | .cond _ a _,0 :: r=>yE a r
 | .cond _ _ b,1 :: r=>yE b r
 | .block _ a,0 :: r=>yE a r
 | .loop a,0 :: r=>yE a r
 | .scope a,0 :: r=>yE a r
 | .rangeFunc _ _ a _,0 :: r=>yE a r
 | .rangeFunc _ _ _ b,1 :: r=>yE b r
 | c,_=>c
def aSO(n:Nat)(b:Option Code)(path:List Nat):aEl:=
 match b with
 | some c=>match yE c path with
  | .rangeFunc _ ps a b=>⟨n,ps.toList,a,b⟩
  | _=>⟨n,[],.skip,.skip⟩
 | none=>⟨n,[],.skip,.skip⟩
end Go.UK

open Array renaming toList_modify→mq,toList_push→jv
open List renaming modify→ph,modify_succ_cons→mg,pairwise_map→ld
namespace Go.UK
open Go
set_option linter.all false
variable [bU]
def wA{α:Type}:List (Int×α)->Int->Option α
 | [],_=>none
 | p :: r,k=>cond (decide (p.1=k)) (some p.2) (wA r k)
def uI{α:Type}:List (Int×α)->Int->α->List (Int×α)
 | [],k,v=>[(k,v)]
 | p :: r,k,v=>cond (decide (p.1=k)) ((k,v) :: r) (p :: uI r k v)
def aJ4{α:Type}(l:List (Int×α))(k:Int)(z:α):α:=(wA l k).getD z
def eMl{α:Type}(q:IntKind)(f:α->AV)(l:List (Int×α)):List (AV×AV):=l.map λp=>(.v (.int q p.1),f p.2)
def eM{α:Type}(q:IntKind)(f:α->AV)(l:List (Int×α)):MpC := .kv (eMl q f l)
section
variable {α:Type} {q:IntKind} {f:α→AV} {w:World} {M:Nat→Nat→Prop}
def mp2(q:IntKind)(f:α->AV)(w:World)(M:Nat->Nat->Prop):List (Int×α)->List MapEntry->Prop
 | [],es=>es=[]
 | p :: l,es=>∃e r,es=e :: r/\e.key = .int q p.1/\Rdv w M (f p.2) e.val/\mp2 q f w M l r
theorem aPF{k:Int}{y:Value}:Rdv w M (.v (.int q k)) y↔y = .int q k:=by
 simp[Rdv,vOf,AV.isAgg,Rd,Value.oneCell']
theorem aQz : ∀(l:List (Int×α)) (es:List MapEntry),es.length=(eMl q f l).length->(∀(i:Nat) p e,(eMl q f l)[i]? = some p->es[i]? = some e->Rdv w M p.1 e.key/\Rdv w M p.2 e.val)->mp2 q f w M l es
 | [],es,hl,_=>by simpa[eMl,mp2] using hl
 | p :: l,[],hl,_=>by simp[eMl] at hl
 | p :: l,e :: es,hl,h=>by
  have h0:=h 0 _ e (by simp[eMl];rfl) (by simp)
  refine⟨e,es,rfl,aPF.1 h0.1,h0.2,aQz l es (by simpa[eMl] using hl) λi p e hp he=>h (i+1) p e (by simpa[eMl] using hp) (by simpa using he)⟩
theorem aOk : ∀(l:List (Int×α)) (es:List MapEntry),mp2 q f w M l es->es.length=l.length
 | [],es,h=>by have h:es=[]:=h;simp[h]
 | p :: l,es,h=>by obtain⟨e,r,rfl,_,_,h⟩:=h;simp[aOk l r h]
theorem aRE : ∀(l:List (Int×α)) (es:List MapEntry),mp2 q f w M l es->∀(i:Nat) p e,(eMl q f l)[i]? = some p->es[i]? = some e->Rdv w M p.1 e.key/\Rdv w M p.2 e.val
 | [],es,_,i,p,e,hp,_=>by simp[eMl] at hp
 | x :: l,es,h,i,p,e,hp,he=>by
  obtain⟨e0,r,rfl,h1,h2,h3⟩:=h;cases i with
  | zero=>simp[eMl] at hp he;subst hp he;exact⟨aPF.2 h1,h2⟩
  | succ i=>exact aRE l r h3 i p e (by simpa[eMl] using hp) (by simpa using he)
theorem aLm{k:Int}{v:α}{u:Value}{c:Nat}(hu:Rdv w M (f v) u):∀(l:List (Int×α)) (es:List MapEntry),mp2 q f w M l es->mp2 q f w M (l++[(k,v)]) (es++[⟨.int q k,u,c⟩])
 | [],es,h=>by have h:es=[]:=h;subst h;exact⟨_,[],rfl,rfl,hu,rfl⟩
 | p :: l,es,h=>by obtain⟨e,r,rfl,h1,h2,h3⟩:=h;exact⟨e,_,rfl,h1,h2,aLm hu l r h3⟩
def aNe(q:IntKind)(k:Int)(u:Value)(e:MapEntry):MapEntry:={ e with key := .int q k,val:=u }
theorem aHd{k:Int}:∀(l:List (Int×α)) (es:List MapEntry) (i:Nat),mp2 q f w M l es ->
  (wA l k=none/\Instr.findNow (.int q) (.int q k) es i=some none/\∀v,uI l k v=l++[(k,v)]) \/
  ∃j e x,wA l k=some x/\Instr.findNow (.int q) (.int q k) es i=some (some (i+j,e.val))/\es[j]? = some e/\e.key = .int q k/\Rdv w M (f x) e.val /\
   ∀v u,Rdv w M (f v) u->mp2 q f w M (uI l k v) (es.modify j (aNe q k u))
 | [],es,i,h=>by have h:es=[]:=h;subst h;exact .inl ⟨rfl,rfl,λ_=>rfl⟩
 | p :: l,es,i,h=>by
  obtain⟨e,r,rfl,h1,h2,h3⟩:=h;by_cases hk:p.1=k
  ·refine .inr ⟨0,e,p.2,by simp[wA,hk],by simp[Instr.findNow,Instr.sameNow,h1,hk],rfl,by rw[h1,hk],h2,λv u hu=>?_⟩
   simp only[uI,hk,decide_true,cond_true]
   exact⟨aNe q k u e,r,by simp[ph],rfl,hu,h3⟩
  ·have hb:(k==p.1)=false:=by simp;exact λe=>hk e.symm
   rcases aHd (k:=k) l r (i+1) h3 with ⟨g1,g2,g3⟩ | ⟨j,e',x,g1,g2,g3,g4,g5,g6⟩
   ·refine .inl ⟨by simp[wA,hk,g1],by simp[Instr.findNow,Instr.sameNow,h1,hb,g2],λv=>by simp[uI,hk,g3]⟩
   ·refine .inr ⟨j+1,e',x,by simp[wA,hk,g1],by simp[Instr.findNow,Instr.sameNow,h1,hb,g2];omega,by simpa using g3,g4,g5,λv u hu=>?_⟩
    simp only[uI,hk,decide_false,cond_false]
    exact⟨e,r.modify j (aNe q k u),by simp[mg],h1,h2,g6 v u hu⟩
theorem aFH{l:List (Int×α)}{es:List MapEntry}{c:Nat}:aMX w M (eMl q f l) es c↔mp2 q f w M l es/\es.Pairwise (λa b=>a.born < b.born)/\∀e∈es,e.born < c:=by
 constructor
 ·rintro⟨h1,h2,h3⟩
  exact⟨aQz l es h1 h2,h3⟩
 ·rintro⟨h1,h3⟩
  exact⟨by rw[aOk l es h1,eMl,List.length_map],aRE l es h1,h3⟩
theorem aGT{k:Int}{u:Value}:∀(es:List MapEntry) (j:Nat),(es.modify j (aNe q k u)).map (·.born)=es.map (·.born)
 | [],j=>by cases j <;> rfl
 | e :: es,0=>by simp[ph,aNe]
 | e :: es,j+1=>by simp[mg,aGT es j]
end
section
variable {P:Program} {T:TypeId→Option TI} {n:Fr}
theorem aHz{w:World}{b:Nat}{es es':Array MapEntry}{c c':Nat}(h:w.heap[b]? = some (.map es c))(a:Addr):(bO w b (.map es' c')).frozen? a=w.frozen? a:=by
 unfold World.frozen? bO;by_cases h':b=a.block
 ·subst h';have hlt:=eR h;rw[h]
  simp[hlt]
 ·simp[Array.getElem?_setIfInBounds_ne h']
def mkmE(o:Oper):Option Unit:=
 match o.op with
 | .makeMap _ none=>some ()
 | _=>none
theorem aRB(w:World)(o:Obj):dM w (w.alloc o):=⟨by simp,λ_ h=>vZ h,rfl,rfl,rfl⟩
theorem aUB{α:Type}(q:IntKind)(f:α->AV){o:Oper}{need:Env}{H:List Box}(hd:dOK n.n o.dst=true)(h:mkmE o=some ()):Big P n o need H (.mp H.length) (H++[.mp (eM q f [])]):=by
 refine iD hd λa μ ok hH hE=>?_;obtain⟨H0,bs,w,F⟩:=μ;dsimp only at hH;subst hH;unfold mkmE at h;split at h <;> cases h;rename_i t ho;have hl:bs.length=H0.length:=ok.len;have hbox:(⟨H0++[.mp (eM q f [])],bs++[some w.heap.size],w.alloc (.map #[] 0),F⟩:Mem).boxOK (some w.heap.size) (.mp (eM q f [])):=
  ⟨w.heap.size,#[],0,rfl,mO,aFH.2 ⟨rfl,List.Pairwise.nil,λe he=>by cases he⟩⟩
 refine⟨⟨H0++[.mp (eM q f [])],bs++[some w.heap.size],w.alloc (.map #[] 0),F⟩,⟨.map (some w.heap.size),?_,?_,Ext.snoc ok.len (aRB w _) _ _ (λb e=>by cases e;exact Nat.le_refl _),OK.snoc ok (aRB w _) (λb e=>by cases e;exact Nat.le_refl _) hbox⟩,rfl⟩
 ·simp[execOp,ho,show ∀(t:TypeId) (w:World),(Instr.makeMap t none).run P w = .ok (.map (some w.heap.size)) (w.alloc (.map #[] 0)) from λ_ _=>rfl,Result.andThen]
 ·show Rv0 _ _ _;simp only[Rv0,AV.isAgg,Rc,Bool.false_eq_true,if_false]
  refine⟨w.heap.size,eM q f [],?_,?_,rfl⟩
  ·show(bs++[some w.heap.size])[H0.length]? = _;rw[<- hl];simp
  ·show(H0++[Box.mp (eM q f [])])[H0.length]? = _;simp
structure MpT(P:Program)(T:TypeId->Option TI)(t:TypeId)(q:IntKind)(ei:TI):Prop where
 ty:∃kt et,P.underlying t=some (.map kt et)/\P.underlying kt=some (.int q)/\T et=some ei
theorem aRR{μ:Mem}{id:Nat}{y:Value}(h:Rv μ (.mp id) y):∃b kvs,μ.bs[id]? = some (some b)/\μ.H[id]? = some (.mp kvs)/\y = .map (some b):=by
 have h:Rv0 μ (.mp id) y:=h;simp only[Rv0,AV.isAgg,Rc,Bool.false_eq_true,if_false] at h;obtain⟨b,kvs,h1,h2,h3⟩:=h;exact⟨b,kvs,h1,h2,by simpa using h3⟩
def mpuE(o:Oper)(need:Env):Option (TypeId×Nat×IntKind×Int×AV):=
 match o.op with
 | .mapUpdate t m x v=>match opd need none m,opd need none x,opd need none v with
  | some (.mp id),some (.v (.int q k)),some av=>some (t,id,q,k,av)
  | _,_,_=>none
 | _=>none
theorem aK4{α:Type}{f:α->AV}{t id:Nat}{q:IntKind}{k:Int}{v:α}{ei:TI}(ht:MpT P T t q ei)(hf:∀x,data (f x)=true){o:Oper}{need:Env}{H:List Box}(l:List (Int×α))
  (hd:aBt o.dst=true) (h:mpuE o need=some (t,id,q,k,f v)) (hH:H[id]? = some (.mp (eM q f l))):Big P n o need H (.v (.bool false)) (H.set id (.mp (eM q f (uI l k v)))):=by
 have hdst:o.dst=none:=by cases hq:o.dst with | none=>rfl | some _=>rw[hq] at hd;cases hd
 unfold mpuE at h;split at h <;> try cases h
 rename_i t' m xo vo ho;split at h <;> cases h;rename_i hm hx hv;intro env hsub;refine yU λctx a w hsat=>?_;obtain⟨bs,hs⟩:=hsat;have hE:=aA0 hsub hs.env;have hok:=hs.ok;dsimp only at hE hok;obtain⟨b,kvs,h1,h2,h3⟩:=aRR (aW hE noG hm)
 have ex:=bV (aW hE noG hx)
 have hv:=aW hE noG hv;obtain⟨b',es,c,e,hheap,hmp⟩:=hok.box id _ _ h1 hH;cases e;obtain⟨hmp,hp,hc⟩:=aFH.1 hmp;have hlt:b < w.heap.size:=eR hheap;obtain⟨kt,et,t1,t2,t3⟩:=ht.ty;have hvd:Rdv w (⟨H,bs,w,ctx.F⟩:Mem).M (f v) (a.eval vo):=by
  have hfv:=hf v;have:Rv0 ⟨H,bs,w,ctx.F⟩ (f v) (a.eval vo):=by cases hfx:f v <;> first | (rw[hfx] at hv;exact hv) | (rw[hfx] at hfv;simp[data] at hfv)
  exact pB (λys hy=>Rc.rd _ ys hfv hy) (uB.1 this)
 have fin:∀(es':Array MapEntry) (c':Nat),mp2 q f w (⟨H,bs,w,ctx.F⟩:Mem).M (uI l k v) es'.toList->es'.toList.Pairwise (λa b=>a.born < b.born)->(∀e∈es'.toList,e.born < c') ->
   Sat n ctx ⟨env.put o.dst (none,.v (.bool false)),H.set id (.mp (eM q f (uI l k v)))⟩ (a.put o.dst undef) (bO w b (.map es' c')):=by
  intro es' c' q1 q2 q3;have ext:=Ext.put (F:=ctx.F) (x' := .mp (eM q f (uI l k v))) (o' := .map es' c') h1 hH rfl rfl hok (aHz hheap)
  have ok2:=OK.put (F:=ctx.F) (x' := .mp (eM q f (uI l k v))) (o' := .map es' c') h1 hH rfl rfl hok (aHz hheap) ⟨b,es',c',rfl,bZ hlt,(aFH.2 ⟨q1,q2,q3⟩).mono ext.keeps⟩
  rw[hdst]
  exact(hs.putn ext ok2).sat
 rcases aHd (k:=k) l es.toList 0 hmp with ⟨g1,g2,g3⟩ | ⟨j,e,x,g1,g2,g3,g4,g5,g6⟩
 ·refine⟨bO w b (.map (es.push ⟨.int q k,a.eval vo,c⟩) (c+1)),?_,fin _ _ ?_ ?_ ?_⟩
  ·simp[execOp,ho,h3,ex,Instr.mapUpdate,run_underlying t1,MapKept.run_getObj_map hheap,MapKept.run_checkKey t2 (show MapKept.IsKey (.int q) (.int q k) from rfl),MapKept.run_findKey t2 g2,MapKept.run_setObj_map _ hheap,Result.andThen,bO]
  ·rw[g3,jv]
   exact aLm hvd l _ hmp
  ·rw[jv,List.pairwise_append]
   exact⟨hp,List.pairwise_singleton _ _,λx hx y hy=>by simp at hy;subst hy;exact hc x hx⟩
  ·intro e he;rw[jv,List.mem_append,List.mem_singleton] at he;rcases he with he | rfl
   ·exact Nat.lt_succ_of_lt (hc e he)
   ·exact Nat.lt_succ_self c
 ·have hj:es[j]? = some e:=by simpa using g3
  have hb:(es.modify j (aNe q k (a.eval vo))).toList.map (·.born)=es.toList.map (·.born):=by rw[mq,aGT]
  refine⟨bO w b (.map (es.modify j (aNe q k (a.eval vo))) c),?_,fin _ _ ?_ ?_ ?_⟩
  ·simp[execOp,ho,h3,ex,Instr.mapUpdate,run_underlying t1,MapKept.run_getObj_map hheap,MapKept.run_checkKey t2 (show MapKept.IsKey (.int q) (.int q k) from rfl),MapKept.run_findKey t2 g2,hj,g4,MapKept.run_keyThatStays (show MapKept.IsKey (.int q) (.int q k) from rfl),MapKept.run_setObj_map _ hheap,Result.andThen,bO]
   rfl
  ·rw[mq]
   exact g6 v _ hvd
  ·have h':=ld.2 hp;rw[<- hb] at h';exact ld.1 h'
  ·intro e' he';have:e'.born∈es.toList.map (·.born):=by rw[<- hb];exact List.mem_map_of_mem he'
   obtain⟨e0,m0,m1⟩:=List.mem_map.1 this;rw[<- m1];exact hc e0 m0
end
end Go.UK

namespace Go.UK
open Go Go.Proofs Go.Maps
set_option linter.all false
variable [bU]
def qI{α:Type}(l:List (Int×α)):List Int:=l.map λp=>p.1
section
variable {P:Program} {α:Type} {F:α→AV}
end
end Go.UK

namespace Go.UK
open Go
set_option linter.all false
variable [bU]
section
variable {P:Program} {T:TypeId→Option TI} {n:Fr}
end
end Go.UK

namespace Go.UK
open Go Go.Proofs
set_option linter.all false
variable [bU]
section
variable {P:Program} {ρ:Shelf.Ren}
end
end Go.UK

