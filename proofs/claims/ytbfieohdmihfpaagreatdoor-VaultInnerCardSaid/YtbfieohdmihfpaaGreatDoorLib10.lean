/- The own layer: abstract values, their memory, and the steps of the model over them: for any program. -/
import Derived.Test.YtbfieohdmihfpaaGreatDoorLib9
import Derived.MapFrom
import Derived.Carry
import Derived.Shelf.SlIterI.Nil
import Derived.Shelf.SortM.Plain
import Derived.Shelf.SortM.SortNone
import Derived.Shelf.Strings.Split
import Derived.Shelf.Strconv.ParseIntPublic10
import Derived.Shelf.Strconv.Itoa4
open List renaming getElem?_eq_getElem→af,getElem?_map→ci,map_append→j8
namespace Go.UK
open Go
set_option linter.all false
variable [bL]
section
variable {P:Program} {T:TypeId→Option TI} {n:Fr}
theorem aFL(w:World)(o:Obj):cL w (w.alloc o):=⟨by simp,λ_ h=>tD h,rfl,rfl,rfl⟩
theorem aFI{α:Type}:∀(σ:List Nat) (A B:List α) (x y:α),B.length=σ.length->(∀s∈σ,s < A.length)->mT (A++[x]) (σ++[A.length]) (B++[y])=mT A σ B++[y]
 | [],A,[],x,y,_,_=>by simp[mT]
 | [],A,b :: B,x,y,h,_=>by simp at h
 | s :: σ,A,[],x,y,h,_=>by simp at h
 | s :: σ,A,b :: B,x,y,h,hs=>by
  have h1:=hs s (List.mem_cons_self ..)
  have ih:=aFI σ (A.set s b) B x y (by simpa using h) (λq hq=>by have:=hs q (List.mem_cons_of_mem _ hq);simpa using this)
  simp only[List.cons_append,mT]
  rw[List.set_append_left _ _ h1]
  rw[List.length_set] at ih;exact ih
def rngE(g:Operand)(need:Env):Option (FuncId×List AV):=
 match opd need none g with
 | some (.fn (.func f) [] cap)=>match xW cap with | true=>some (f,cap) | false=>none
 | _=>none
def rngB(H:List Box)(σ0:List Nat)(Hc Hc':List Box)(args:List AV)(env:Env)(r:Loop):Bool:=
 aE6 (σ0++[H.length])&&(aLP H.length σ0&&(Nat.beq σ0.length Hc.length&&(Nat.beq Hc'.length Hc.length&&(lF (Hc++[.loop r]) (Hc++[.loop r])&&(lowL (Hc++[.loop r]) args&&wT (Hc++[.loop r]) env)))))
theorem aPz{s:aDz}{env:Env}{Hc Hc':List Box}{args:List AV}{ret:AV}{k:Option Code}{f:FuncId}(I:ItM P f s env Hc args ret Hc' k)(hf:nP P f){g:Operand}{c:Code}{σ0:List Nat}{st t:ASt}{caps:List AV}{Q:Exit->ASt->Prop}
  (hcode:c = .rangeFunc g s.ps.toArray s.assign s.body) (hn:n.ro=none) (hrg:n.rg=true) (hm:n.n=s.n) (hg:rngE g st.env=some (f,caps))
  (hB:∀r,rngB st.H σ0 Hc Hc' args env r=true)
  (hE:∀r,(wkL (.yld st.H.length :: caps) (renL (rn (σ0++[st.H.length]) (st.H.length+1)) args),pW (st.H++[Box.loop r]) (σ0++[st.H.length]),aID st.env (swE (rn (σ0++[st.H.length]) (st.H.length+1)) env))
   = (renL (rn (σ0++[st.H.length]) (st.H.length+1)) args,(Hc++[Box.loop r]).map (jS (rn (σ0++[st.H.length]) (st.H.length+1))),swE (rn (σ0++[st.H.length]) (st.H.length+1)) env))
  (hj:∀r,JR n t ⟨st.env,mT st.H σ0 (Hc'.map (jS (rn (σ0++[st.H.length]) (st.H.length+1))))++[.loop r]⟩)
  (hq:match k with | none=>Q .normal t | some c'=>aw P n c' Q t):aw P n c Q st:=by
 subst hcode;rintro ctx a w ⟨bs,hs⟩
 obtain⟨env0,H⟩:=st;dsimp only at *;refine wpIn_rangeFunc ?_;intro fn _;have hwide:n.F=Fence.wide:=Fr.wide hn;have hround:n.F.round=none:=by rw[hwide];rfl
 rw[hround]
 generalize hr:s.rcd fn a.tmps w.heap.size none=r;generalize hw1:(w.alloc (.deferred (some []))).alloc (.loop r)=w1;have hb:=hB r;unfold rngB at hb;simp only[Bool.and_eq_true] at hb;obtain⟨b1,b2,b3,b4,b5,b6,b7⟩:=hb;have b3:=Nat.eq_of_beq_eq_true b3;have b4:=Nat.eq_of_beq_eq_true b4;have hσ:=aCx b2;have he:=hE r;simp only[Prod.mk.injEq] at he;obtain⟨e1,e2,e3⟩:=he;have hbl:bs.length=H.length:=hs.ok.len
 -- the record and the mark are laid
 have later:cL w w1:=by rw[<- hw1];exact(aFL _ _).trans (aFL _ _)
 have hsz1:w1.heap.size=w.heap.size+2:=by rw[<- hw1];simp
 have hL1:w1.heap[w.heap.size+1]? = some (.loop r):=by
  rw[<- hw1]
  have:=World.alloc_heap_new (w.alloc (.deferred (some []))) (.loop r)
  rwa[World.size_alloc] at this
 have hD1:w1.heap[w.heap.size]? = some (.deferred (some [])):=by
  rw[<- hw1]
  exact(tD (by simp)).trans (World.alloc_heap_new w _)
 have ext1:=Ext.snoc (F:=ctx.F) hs.ok.len later (.loop r) (some (w.heap.size+1)) (by intro b e;cases e;omega)
 have ok1:=OK.snoc hs.ok later (x := .loop r) (o:=some (w.heap.size+1)) (by intro b e;cases e;omega) ⟨_,rfl,hL1⟩
 -- what is ranged over
 unfold rngE at hg;split at hg <;> try cases hg
 rename_i f' cap hgo;split at hg <;> cases hg;rename_i hag;have hcv:=aR hs.env noG hgo;have hcv':∃cs:List Value,a.eval g = .func (.func f) #[] cs.toArray/\RcL ⟨H,bs,w,ctx.F⟩ caps cs:=by
  have:∃as1 cs:List Value,a.eval g = .func (.func f) as1.toArray cs.toArray/\RcL ⟨H,bs,w,ctx.F⟩ [] as1/\RcL ⟨H,bs,w,ctx.F⟩ caps cs:=by
   simpa[Rv,Rv0,AV.isAgg,Rc] using hcv
  obtain⟨as1,cs,h1,h2,h3⟩:=this;simp only[RcL] at h2;subst h2;exact⟨cs,h1,h3⟩
 obtain⟨cs,hgv,hcs⟩:=hcv';refine⟨w.heap.size+1,[{ target := .collected w.heap.size,args:=#[] }],w1,{ target := .fn (.func f) cs.toArray,args:=#[.func (.yield (w.heap.size+1)) #[] #[]] },w1,f,#[.func (.yield (w.heap.size+1)) #[] #[]]++cs.toArray,w1,?_,?_,λ_ _=>trivial,?_,λh=>(by rw[hwide] at h;cases h),?_⟩
 ·rw[<- hw1,<- hr]
  exact run_enterLoop_outer _ _ _ _ _
 ·simp only[resolve,hgv,Deferred.ofValue,Sem.run_pure]
  simp[Act.eval]
 ·obtain⟨⟨fd,h1,h2,h3⟩,_⟩:=hf;simp only[invoke,callFunc,Sem.run_bind,run_program,Result.andThen_ok,h1,h2,h3,Bool.false_eq_true,if_false,Sem.run_pure]
 ·rw[hwide]
  refine callsIn_wide.2 ?_
  -- its boxes among all
  have L:aIE (H++[Box.loop r]) (bs++[some (w.heap.size+1)]) (σ0++[H.length]) (Hc++[.loop r]):=⟨zG b1,by simp[b3],λi y hy=>by
   have hi:=aX hy;have hi2:i < (σ0++[H.length]).length:=by simp at hi ⊢;omega
   refine⟨_,af hi2,?_⟩
   have h2:(pW (H++[Box.loop r]) (σ0++[H.length]))[i]? = some (jS (rn (σ0++[H.length]) (H.length+1)) y):=by rw[e2,ci,hy];rfl
   unfold pW at h2;rw[ci,af hi2] at h2;simp only[Option.map_some,Option.some.injEq] at h2;have h3:(σ0++[H.length])[i] < (H++[Box.loop r]).length:=by
    have:(σ0++[H.length])[i]∈σ0++[H.length]:=List.getElem_mem hi2;rcases List.mem_append.1 this with h | h
    ·have:=hσ _ h;simp;omega
    ·simp only[List.mem_singleton] at h;rw[h];simp
   rw[af h3] at h2 ⊢;rw[show(H++[Box.loop r]).length=H.length+1 by simp]
   simpa using h2⟩
  have okc:=aGE (w:=w1) (F:=ctx.F) L ok1 b5;have less:=yC (w:=w1) (F:=ctx.F) L ok1.len;have hlen1:(H++[Box.loop r]).length=H.length+1:=by simp
  rw[hlen1] at less;have hbsc:(lO (H++[Box.loop r]) (bs++[some (w.heap.size+1)]) w1 ctx.F (σ0++[H.length]) (Hc++[.loop r])).bs=σ0.map (λs=>((bs++[some (w.heap.size+1)])[s]?).getD none)++[some (w.heap.size+1)]:=by
   show(σ0++[H.length]).map (λs=>((bs++[some (w.heap.size+1)])[s]?).getD none)=_;rw[j8]
   simp[<- hbl]
  have hmem:lO (H++[Box.loop r]) (bs++[some (w.heap.size+1)]) w1 ctx.F (σ0++[H.length]) (Hc++[.loop r])=⟨Hc++[.loop r],σ0.map (λs=>((bs++[some (w.heap.size+1)])[s]?).getD none)++[some (w.heap.size+1)],w1,λb o=>ctx.F b o\/rest (H++[Box.loop r]) (bs++[some (w.heap.size+1)]) (σ0++[H.length]) b o⟩:=by
   rw[<- hbsc];rfl
  have hyl:Rv0 ⟨H++[Box.loop r],bs++[some (w.heap.size+1)],w1,ctx.F⟩ (.yld H.length) (.func (.yield (w.heap.size+1)) #[] #[]):=by
   simp only[Rv0,AV.isAgg,Rc,Bool.false_eq_true,if_false]
   refine⟨w.heap.size+1,r,?_,?_,rfl⟩
   ·rw[<- hbl];simp
   ·simp
  have hall:RvL ⟨H++[Box.loop r],bs++[some (w.heap.size+1)],w1,ctx.F⟩ (.yld H.length :: caps) (.func (.yield (w.heap.size+1)) #[] #[] :: cs):=⟨_,_,rfl,hyl,(RcL.ext ext1 _ _ hcs).rvl (yA hag)⟩
  have hargs:RvL ⟨H++[Box.loop r],bs++[some (w.heap.size+1)],w1,ctx.F⟩ (renL (rn (σ0++[H.length]) (H.length+1)) args) (.func (.yield (w.heap.size+1)) #[] #[] :: cs):=by
   rw[<- e1]
   exact aEA hall
  have hEnv:eY (lO (H++[Box.loop r]) (bs++[some (w.heap.size+1)]) w1 ctx.F (σ0++[H.length]) (Hc++[.loop r])) env a.tmps:=by
   refine aK9 less b7 ?_;rw[<- e3]
   exact aNV (hs.env.ext ext1) _
  have hArg:=aAM less b6 hargs;have okc':=okc;rw[hmem] at okc' hEnv hArg;have hI:=I w1 _ _ (w.heap.size+1) _ fn a.tmps w.heap.size (by rw[hr];exact okc') (by rw[hs.size,hm]) (by rw[hr];exact hEnv) (by rw[hr];exact hArg)
  have hargs2:(Value.func (.yield (w.heap.size+1)) #[] #[] :: cs).toArray=#[.func (.yield (w.heap.size+1)) #[] #[]]++cs.toArray:=by
   rw[<- Array.toList_inj];simp
  rw[<- hargs2]
  refine hI.mono ?_;rintro e w3 ⟨y,bc,rfl,ext,ok',_⟩
  rw[hr,<- hmem] at ext;obtain⟨x1,x2,_⟩:=aDV ok1 L okc ext ok';have hout:cB (H++[Box.loop r]) (σ0++[H.length]) (Hc'++[.loop (s.rcd fn a.tmps w.heap.size k)])=mT H σ0 (Hc'.map (jS (rn (σ0++[H.length]) (H.length+1))))++[.loop (s.rcd fn a.tmps w.heap.size k)]:=by
   unfold cB;rw[hlen1,List.take_of_length_le (by simp;omega),List.drop_of_length_le (by simp;omega),List.map_nil,List.append_nil,j8]
   exact aFI σ0 H _ _ _ (by simp;omega) hσ
  rw[hout] at x1 x2;generalize hbs3:uR (bs++[some (w.heap.size+1)]) (σ0++[H.length]) bc=bs3 at x1 x2;generalize hH3:mT H σ0 (Hc'.map (jS (rn (σ0++[H.length]) (H.length+1))))=H3 at x1 x2 hj;have hl3:H3.length=H.length:=by rw[<- hH3,fO]
  have hbs4:bs3[H.length]? = some (some (w.heap.size+1)):=by
   obtain⟨_,g⟩:=x1.loops H.length r (by simp)
   refine g.trans ?_;dsimp only;rw[<- hbl]
   simp
  have hlp:(H3++[Box.loop (s.rcd fn a.tmps w.heap.size k)])[H.length]? = some (.loop (s.rcd fn a.tmps w.heap.size k)):=by rw[<- hl3];simp
  obtain⟨b',eb,hheap⟩:=x2.box H.length _ _ hbs4 hlp;cases eb;have hheap:w3.heap[w.heap.size+1]? = some (.loop (s.rcd fn a.tmps w.heap.size k)):=hheap;refine⟨_,_,run_endLoop hheap (by cases k <;> simp[aDz.rcd]),?_⟩
  have ext4:=Ext.put (x' := .loop { s.rcd fn a.tmps w.heap.size k with state := .exhausted }) (o' := .loop { s.rcd fn a.tmps w.heap.size k with state := .exhausted }) hbs4 hlp rfl rfl x2 (tX hheap)
  have ok4:=OK.put (x' := .loop { s.rcd fn a.tmps w.heap.size k with state := .exhausted }) (o' := .loop { s.rcd fn a.tmps w.heap.size k with state := .exhausted }) hbs4 hlp rfl rfl x2 (tX hheap) ⟨_,rfl,bK (cG hheap)⟩
  have hset:(H3++[Box.loop (s.rcd fn a.tmps w.heap.size k)]).set H.length (.loop { s.rcd fn a.tmps w.heap.size k with state := .exhausted })=H3++[.loop { s.rcd fn a.tmps w.heap.size k with state := .exhausted }]:=by rw[<- hl3];simp
  rw[hset] at ext4 ok4;have hD3:w3.heap[w.heap.size]? = some (.deferred (some [])):=by
   rw[x1.blocks w.heap.size (by dsimp only;omega) (λo=>ok1.not_own hD1 o)]
   exact hD1
  have hD4:(aZ w3 (w.heap.size+1) (.loop { s.rcd fn a.tmps w.heap.size k with state := .exhausted })).heap[w.heap.size]? = some (.deferred (some [])):=(bO (by omega)).trans hD3;have extA:Ext ⟨H,bs,w,ctx.F⟩ ⟨H3++[.loop { s.rcd fn a.tmps w.heap.size k with state := .exhausted }],bs3,aZ w3 (w.heap.size+1) (.loop { s.rcd fn a.tmps w.heap.size k with state := .exhausted }),ctx.F⟩:=(ext1.trans x1).trans ext4;have sat:Sat n ctx t { a with defers:=[{ target := .collected w.heap.size,args:=#[] }]++a.defers } (aZ w3 (w.heap.size+1) (.loop { s.rcd fn a.tmps w.heap.size k with state := .exhausted })):=by
   refine hj { s.rcd fn a.tmps w.heap.size k with state := .exhausted } ctx _ _ ⟨bs3,{ h:=rfl,ok:=ok4,ext:=hs.ext.trans extA,env := ?_,size:=hs.size,low:=hs.low,defers := ?_,nod:=λh=>(by rw[hrg] at h;cases h),outs:=λp hp=>(hs.outs p hp).ext extA }⟩
   ·exact hs.env.ext extA
   ·refine⟨⟨w.heap.size,rfl,hs.ext.size,hD4,?_⟩,tV.ext hs.ok extA hs.defers⟩
    intro d' hd' e;subst e;have key:∀(ds:List Deferred),tV ctx.w.heap.size w ds->({ target := .collected w.heap.size,args:=#[] }:Deferred)∈ds->False:=by
     intro ds
     induction ds with
     | nil=>intro _ h;cases h
     | cons d ds ih=>
      rintro⟨⟨D,g1,g2,g3,g4⟩,g5⟩ h;rcases List.mem_cons.1 h with h | h
      ·rw[g1] at h;simp only[Deferred.mk.injEq,Target.collected.injEq,and_true] at h;rw[<- h,Array.getElem?_eq_none (Nat.le_refl _)] at g3;cases g3
      ·exact ih g5 h
    exact key _ hs.defers hd'
  have hpend:(s.rcd fn a.tmps w.heap.size k).pending=k:=by cases k <;> rfl
  rw[hpend]
  cases k with
  | none=>exact⟨t,hq,sat⟩
  | some c'=>
   have:=hq ctx _ _ sat;rw[hwide] at this;exact this
end
def vL : Code->List Nat->Code
 | .seq a _,0 :: r=>vL a r
 | .seq _ b,1 :: r=>vL b r
 | .cond _ a _,0 :: r=>vL a r
 | .cond _ _ b,1 :: r=>vL b r
 | .block _ a,0 :: r=>vL a r
 | .loop a,0 :: r=>vL a r
 | .scope a,0 :: r=>vL a r
 | .rangeFunc _ _ a _,0 :: r=>vL a r
 | .rangeFunc _ _ _ b,1 :: r=>vL b r
 | c,_=>c
def aQt(n:Nat)(b:Option Code)(path:List Nat):aDz:=
 match b with
 | some c=>match vL c path with
  | .rangeFunc _ ps a b=>⟨n,ps.toList,a,b⟩
  | _=>⟨n,[],.skip,.skip⟩
 | none=>⟨n,[],.skip,.skip⟩
end Go.UK

open Array renaming toList_modify→ku,toList_push→iz
open List renaming modify→nq,modify_succ_cons→kj,pairwise_map→me
namespace Go.UK
open Go
set_option linter.all false
variable [bL]
def aKQ{α:Type}:List (Int×α)->Int->Option α
 | [],_=>none
 | p :: r,k=>cond (decide (p.1=k)) (some p.2) (aKQ r k)
def aCF{α:Type}:List (Int×α)->Int->α->List (Int×α)
 | [],k,v=>[(k,v)]
 | p :: r,k,v=>cond (decide (p.1=k)) ((k,v) :: r) (p :: aCF r k v)
def aLA{α:Type}(l:List (Int×α))(k:Int)(z:α):α:=(aKQ l k).getD z
def eMl{α:Type}(q:IntKind)(f:α->AV)(l:List (Int×α)):List (AV×AV):=l.map λp=>(.v (.int q p.1),f p.2)
def eM{α:Type}(q:IntKind)(f:α->AV)(l:List (Int×α)):MpC := .kv (eMl q f l)
section
variable {α:Type} {q:IntKind} {f:α→AV} {w:World} {M:Nat→Nat→Prop}
def mp2(q:IntKind)(f:α->AV)(w:World)(M:Nat->Nat->Prop):List (Int×α)->List MapEntry->Prop
 | [],es=>es=[]
 | p :: l,es=>∃e r,es=e :: r/\e.key = .int q p.1/\Rdv w M (f p.2) e.val/\mp2 q f w M l r
theorem aNl{k:Int}{y:Value}:Rdv w M (.v (.int q k)) y↔y = .int q k:=by
 simp[Rdv,vOf,AV.isAgg,Rd,Value.oneCell']
theorem aQO : ∀(l:List (Int×α)) (es:List MapEntry),es.length=(eMl q f l).length->(∀(i:Nat) p e,(eMl q f l)[i]? = some p->es[i]? = some e->Rdv w M p.1 e.key/\Rdv w M p.2 e.val)->mp2 q f w M l es
 | [],es,hl,_=>by simpa[eMl,mp2] using hl
 | p :: l,[],hl,_=>by simp[eMl] at hl
 | p :: l,e :: es,hl,h=>by
  have h0:=h 0 _ e (by simp[eMl];rfl) (by simp)
  refine⟨e,es,rfl,aNl.1 h0.1,h0.2,aQO l es (by simpa[eMl] using hl) λi p e hp he=>h (i+1) p e (by simpa[eMl] using hp) (by simpa using he)⟩
theorem aOF : ∀(l:List (Int×α)) (es:List MapEntry),mp2 q f w M l es->es.length=l.length
 | [],es,h=>by have h:es=[]:=h;simp[h]
 | p :: l,es,h=>by obtain⟨e,r,rfl,_,_,h⟩:=h;simp[aOF l r h]
theorem aPn : ∀(l:List (Int×α)) (es:List MapEntry),mp2 q f w M l es->∀(i:Nat) p e,(eMl q f l)[i]? = some p->es[i]? = some e->Rdv w M p.1 e.key/\Rdv w M p.2 e.val
 | [],es,_,i,p,e,hp,_=>by simp[eMl] at hp
 | x :: l,es,h,i,p,e,hp,he=>by
  obtain⟨e0,r,rfl,h1,h2,h3⟩:=h;cases i with
  | zero=>simp[eMl] at hp he;subst hp he;exact⟨aNl.2 h1,h2⟩
  | succ i=>exact aPn l r h3 i p e (by simpa[eMl] using hp) (by simpa using he)
theorem aK2{k:Int}{v:α}{u:Value}{c:Nat}(hu:Rdv w M (f v) u):∀(l:List (Int×α)) (es:List MapEntry),mp2 q f w M l es->mp2 q f w M (l++[(k,v)]) (es++[⟨.int q k,u,c⟩])
 | [],es,h=>by have h:es=[]:=h;subst h;exact⟨_,[],rfl,rfl,hu,rfl⟩
 | p :: l,es,h=>by obtain⟨e,r,rfl,h1,h2,h3⟩:=h;exact⟨e,_,rfl,h1,h2,aK2 hu l r h3⟩
def aMU(q:IntKind)(k:Int)(u:Value)(e:MapEntry):MapEntry:={ e with key := .int q k,val:=u }
theorem aHR{k:Int}:∀(l:List (Int×α)) (es:List MapEntry) (i:Nat),mp2 q f w M l es ->
  (aKQ l k=none/\Instr.findNow (.int q) (.int q k) es i=some none/\∀v,aCF l k v=l++[(k,v)]) \/
  ∃j e x,aKQ l k=some x/\Instr.findNow (.int q) (.int q k) es i=some (some (i+j,e.val))/\es[j]? = some e/\e.key = .int q k/\Rdv w M (f x) e.val /\
   ∀v u,Rdv w M (f v) u->mp2 q f w M (aCF l k v) (es.modify j (aMU q k u))
 | [],es,i,h=>by have h:es=[]:=h;subst h;exact .inl ⟨rfl,rfl,λ_=>rfl⟩
 | p :: l,es,i,h=>by
  obtain⟨e,r,rfl,h1,h2,h3⟩:=h;by_cases hk:p.1=k
  ·refine .inr ⟨0,e,p.2,by simp[aKQ,hk],by simp[Instr.findNow,Instr.sameNow,h1,hk],rfl,by rw[h1,hk],h2,λv u hu=>?_⟩
   simp only[aCF,hk,decide_true,cond_true]
   exact⟨aMU q k u e,r,by simp[nq],rfl,hu,h3⟩
  ·have hb:(k==p.1)=false:=by simp;exact λe=>hk e.symm
   rcases aHR (k:=k) l r (i+1) h3 with ⟨g1,g2,g3⟩ | ⟨j,e',x,g1,g2,g3,g4,g5,g6⟩
   ·refine .inl ⟨by simp[aKQ,hk,g1],by simp[Instr.findNow,Instr.sameNow,h1,hb,g2],λv=>by simp[aCF,hk,g3]⟩
   ·refine .inr ⟨j+1,e',x,by simp[aKQ,hk,g1],by simp[Instr.findNow,Instr.sameNow,h1,hb,g2];omega,by simpa using g3,g4,g5,λv u hu=>?_⟩
    simp only[aCF,hk,decide_false,cond_false]
    exact⟨e,r.modify j (aMU q k u),by simp[kj],h1,h2,g6 v u hu⟩
theorem aED{l:List (Int×α)}{es:List MapEntry}{c:Nat}:aLn w M (eMl q f l) es c↔mp2 q f w M l es/\es.Pairwise (λa b=>a.born < b.born)/\∀e∈es,e.born < c:=by
 constructor
 ·rintro⟨h1,h2,h3⟩
  exact⟨aQO l es h1 h2,h3⟩
 ·rintro⟨h1,h3⟩
  exact⟨by rw[aOF l es h1,eMl,List.length_map],aPn l es h1,h3⟩
theorem aFn{k:Int}{u:Value}:∀(es:List MapEntry) (j:Nat),(es.modify j (aMU q k u)).map (·.born)=es.map (·.born)
 | [],j=>by cases j <;> rfl
 | e :: es,0=>by simp[nq,aMU]
 | e :: es,j+1=>by simp[kj,aFn es j]
end
section
variable {P:Program} {T:TypeId→Option TI} {n:Fr}
theorem aHr{w:World}{b:Nat}{es es':Array MapEntry}{c c':Nat}(h:w.heap[b]? = some (.map es c))(a:Addr):(aZ w b (.map es' c')).frozen? a=w.frozen? a:=by
 unfold World.frozen? aZ;by_cases h':b=a.block
 ·subst h';have hlt:=cG h;rw[h]
  simp[hlt]
 ·simp[Array.getElem?_setIfInBounds_ne h']
def mkmE(o:Oper):Option Unit:=
 match o.op with
 | .makeMap _ none=>some ()
 | _=>none
theorem aHO(w:World)(o:Obj):cL w (w.alloc o):=⟨by simp,λ_ h=>tD h,rfl,rfl,rfl⟩
theorem aJQ{α:Type}(q:IntKind)(f:α->AV){o:Oper}{need:Env}{H:List Box}(hd:dOK n.n o.dst=true)(h:mkmE o=some ()):Big P n o need H (.mp H.length) (H++[.mp (eM q f [])]):=by
 refine cY hd λa μ ok hH hE=>?_;obtain⟨H0,bs,w,F⟩:=μ;dsimp only at hH;subst hH;unfold mkmE at h;split at h <;> cases h;rename_i t ho;have hl:bs.length=H0.length:=ok.len;have hbox:(⟨H0++[.mp (eM q f [])],bs++[some w.heap.size],w.alloc (.map #[] 0),F⟩:Mem).boxOK (some w.heap.size) (.mp (eM q f [])):=
  ⟨w.heap.size,#[],0,rfl,eV,aED.2 ⟨rfl,List.Pairwise.nil,λe he=>by cases he⟩⟩
 refine⟨⟨H0++[.mp (eM q f [])],bs++[some w.heap.size],w.alloc (.map #[] 0),F⟩,⟨.map (some w.heap.size),?_,?_,Ext.snoc ok.len (aHO w _) _ _ (λb e=>by cases e;exact Nat.le_refl _),OK.snoc ok (aHO w _) (λb e=>by cases e;exact Nat.le_refl _) hbox⟩,rfl⟩
 ·simp[execOp,ho,show ∀(t:TypeId) (w:World),(Instr.makeMap t none).run P w = .ok (.map (some w.heap.size)) (w.alloc (.map #[] 0)) from λ_ _=>rfl,Result.andThen]
 ·show Rv0 _ _ _;simp only[Rv0,AV.isAgg,Rc,Bool.false_eq_true,if_false]
  refine⟨w.heap.size,eM q f [],?_,?_,rfl⟩
  ·show(bs++[some w.heap.size])[H0.length]? = _;rw[<- hl];simp
  ·show(H0++[Box.mp (eM q f [])])[H0.length]? = _;simp
structure MpT(P:Program)(T:TypeId->Option TI)(t:TypeId)(q:IntKind)(ei:TI):Prop where
 ty:∃kt et,P.underlying t=some (.map kt et)/\P.underlying kt=some (.int q)/\T et=some ei
theorem aRV{μ:Mem}{id:Nat}{y:Value}(h:Rv μ (.mp id) y):∃b kvs,μ.bs[id]? = some (some b)/\μ.H[id]? = some (.mp kvs)/\y = .map (some b):=by
 have h:Rv0 μ (.mp id) y:=h;simp only[Rv0,AV.isAgg,Rc,Bool.false_eq_true,if_false] at h;obtain⟨b,kvs,h1,h2,h3⟩:=h;exact⟨b,kvs,h1,h2,by simpa using h3⟩
def mpuE(o:Oper)(need:Env):Option (TypeId×Nat×IntKind×Int×AV):=
 match o.op with
 | .mapUpdate t m x v=>match opd need none m,opd need none x,opd need none v with
  | some (.mp id),some (.v (.int q k)),some av=>some (t,id,q,k,av)
  | _,_,_=>none
 | _=>none
theorem aJY{α:Type}{f:α->AV}{t id:Nat}{q:IntKind}{k:Int}{v:α}{ei:TI}(ht:MpT P T t q ei)(hf:∀x,data (f x)=true){o:Oper}{need:Env}{H:List Box}(l:List (Int×α))
  (hd:aBR o.dst=true) (h:mpuE o need=some (t,id,q,k,f v)) (hH:H[id]? = some (.mp (eM q f l))):Big P n o need H (.v (.bool false)) (H.set id (.mp (eM q f (aCF l k v)))):=by
 have hdst:o.dst=none:=by cases hq:o.dst with | none=>rfl | some _=>rw[hq] at hd;cases hd
 unfold mpuE at h;split at h <;> try cases h
 rename_i t' m xo vo ho;split at h <;> cases h;rename_i hm hx hv;intro env hsub;refine vV λctx a w hsat=>?_;obtain⟨bs,hs⟩:=hsat;have hE:=zL hsub hs.env;have hok:=hs.ok;dsimp only at hE hok;obtain⟨b,kvs,h1,h2,h3⟩:=aRV (aR hE noG hm)
 have ex:=bH (aR hE noG hx)
 have hv:=aR hE noG hv;obtain⟨b',es,c,e,hheap,hmp⟩:=hok.box id _ _ h1 hH;cases e;obtain⟨hmp,hp,hc⟩:=aED.1 hmp;have hlt:b < w.heap.size:=cG hheap;obtain⟨kt,et,t1,t2,t3⟩:=ht.ty;have hvd:Rdv w (⟨H,bs,w,ctx.F⟩:Mem).M (f v) (a.eval vo):=by
  have hfv:=hf v;have:Rv0 ⟨H,bs,w,ctx.F⟩ (f v) (a.eval vo):=by cases hfx:f v <;> first | (rw[hfx] at hv;exact hv) | (rw[hfx] at hfv;simp[data] at hfv)
  exact mS (λys hy=>Rc.rd _ ys hfv hy) (rG.1 this)
 have fin:∀(es':Array MapEntry) (c':Nat),mp2 q f w (⟨H,bs,w,ctx.F⟩:Mem).M (aCF l k v) es'.toList->es'.toList.Pairwise (λa b=>a.born < b.born)->(∀e∈es'.toList,e.born < c') ->
   Sat n ctx ⟨env.put o.dst (none,.v (.bool false)),H.set id (.mp (eM q f (aCF l k v)))⟩ (a.put o.dst undef) (aZ w b (.map es' c')):=by
  intro es' c' q1 q2 q3;have ext:=Ext.put (F:=ctx.F) (x' := .mp (eM q f (aCF l k v))) (o' := .map es' c') h1 hH rfl rfl hok (aHr hheap)
  have ok2:=OK.put (F:=ctx.F) (x' := .mp (eM q f (aCF l k v))) (o' := .map es' c') h1 hH rfl rfl hok (aHr hheap) ⟨b,es',c',rfl,bK hlt,(aED.2 ⟨q1,q2,q3⟩).mono ext.keeps⟩
  rw[hdst]
  exact(hs.putn ext ok2).sat
 rcases aHR (k:=k) l es.toList 0 hmp with ⟨g1,g2,g3⟩ | ⟨j,e,x,g1,g2,g3,g4,g5,g6⟩
 ·refine⟨aZ w b (.map (es.push ⟨.int q k,a.eval vo,c⟩) (c+1)),?_,fin _ _ ?_ ?_ ?_⟩
  ·simp[execOp,ho,h3,ex,Instr.mapUpdate,run_underlying t1,MapKept.run_getObj_map hheap,MapKept.run_checkKey t2 (show MapKept.IsKey (.int q) (.int q k) from rfl),MapKept.run_findKey t2 g2,MapKept.run_setObj_map _ hheap,Result.andThen,aZ]
  ·rw[g3,iz]
   exact aK2 hvd l _ hmp
  ·rw[iz,List.pairwise_append]
   exact⟨hp,List.pairwise_singleton _ _,λx hx y hy=>by simp at hy;subst hy;exact hc x hx⟩
  ·intro e he;rw[iz,List.mem_append,List.mem_singleton] at he;rcases he with he | rfl
   ·exact Nat.lt_succ_of_lt (hc e he)
   ·exact Nat.lt_succ_self c
 ·have hj:es[j]? = some e:=by simpa using g3
  have hb:(es.modify j (aMU q k (a.eval vo))).toList.map (·.born)=es.toList.map (·.born):=by rw[ku,aFn]
  refine⟨aZ w b (.map (es.modify j (aMU q k (a.eval vo))) c),?_,fin _ _ ?_ ?_ ?_⟩
  ·simp[execOp,ho,h3,ex,Instr.mapUpdate,run_underlying t1,MapKept.run_getObj_map hheap,MapKept.run_checkKey t2 (show MapKept.IsKey (.int q) (.int q k) from rfl),MapKept.run_findKey t2 g2,hj,g4,MapKept.run_keyThatStays (show MapKept.IsKey (.int q) (.int q k) from rfl),MapKept.run_setObj_map _ hheap,Result.andThen,aZ]
   rfl
  ·rw[ku]
   exact g6 v _ hvd
  ·have h':=me.2 hp;rw[<- hb] at h';exact me.1 h'
  ·intro e' he';have:e'.born∈es.toList.map (·.born):=by rw[<- hb];exact List.mem_map_of_mem he'
   obtain⟨e0,m0,m1⟩:=List.mem_map.1 this;rw[<- m1];exact hc e0 m0
end
end Go.UK

namespace Go.UK
open Go Go.Proofs Go.Maps
set_option linter.all false
variable [bL]
section
variable {P:Program} {α:Type} {F:α→AV}
theorem aWH{μ:Mem}(ok:μ.OK){b o:Nat}(h:μ.own b o):b < μ.w.heap.size:=by
 obtain⟨id,h1,h2⟩:=h;rcases h2 with ⟨x,h2,h3⟩ | ⟨m,h2,h3⟩
 ·exact bU ok h1 h2 (Box.whole_live h3)
 ·exact bU ok h1 h2 (by simp)
end
end Go.UK

open Go.Result renaming andThen→dy,andThen_ok→am
namespace Go.UK
open Go
set_option linter.all false
variable [bL]
section
variable {P:Program} {T:TypeId→Option TI} {n:Fr}
theorem aH1{w:World}{b:Nat}{s s':ByteArray}{p p':Nat}(h:w.heap[b]? = some (.stringIter s p))(a:Addr):(aZ w b (.stringIter s' p')).frozen? a=w.frozen? a:=by
 unfold World.frozen? aZ;by_cases h':b=a.block
 ·subst h';have hlt:=cG h;rw[h]
  simp[hlt]
 ·simp[Array.getElem?_setIfInBounds_ne h']
def aUF(o:Oper)(need:Env):Option (TypeId×ByteArray):=
 match o.op with
 | .range t x=>match opd need none x with
  | some (.v (.string s))=>some (t,s)
  | _=>none
 | _=>none
theorem aSM{t:Nat}{s:ByteArray}{o:Oper}{need:Env}{H:List Box}(ht:P.underlying t=some .string)(hd:dOK n.n o.dst=true)(h:aUF o need=some (t,s)):Big P n o need H (.it H.length) (H++[.mp (.it s 0)]):=by
 refine cY hd λa μ ok hH hE=>?_;obtain⟨H0,bs,w,F⟩:=μ;dsimp only at hH;subst hH;unfold aUF at h;split at h <;> try cases h
 rename_i t' x ho;split at h <;> cases h;rename_i hx;have ex:=bH (aR hE noG hx)
 have hl:bs.length=H0.length:=ok.len;have hbox:(⟨H0++[.mp (.it s 0)],bs++[some w.heap.size],w.alloc (.stringIter s 0),F⟩:Mem).boxOK (some w.heap.size) (.mp (.it s 0)):=⟨w.heap.size,rfl,eV⟩
 refine⟨⟨H0++[.mp (.it s 0)],bs++[some w.heap.size],w.alloc (.stringIter s 0),F⟩,⟨.pointer (some ⟨w.heap.size,0,none⟩),?_,?_,Ext.snoc ok.len (aHO w _) _ _ (λb e=>by cases e;exact Nat.le_refl _),OK.snoc ok (aHO w _) (λb e=>by cases e;exact Nat.le_refl _) hbox⟩,rfl⟩
 ·simp[execOp,ho,ex,Instr.range,run_underlying ht,dy,run_newObj,World.alloc_eq]
 ·show Rv0 _ _ _;simp only[Rv0,AV.isAgg,Rc,Bool.false_eq_true,if_false]
  refine⟨w.heap.size,.it s 0,?_,?_,rfl⟩
  ·show(bs++[some w.heap.size])[H0.length]? = _;rw[<- hl];simp
  ·show(H0++[Box.mp (.it s 0)])[H0.length]? = _;simp
theorem aFg{μ:Mem}{x:Value}(h:x.oneCell'=true):Rv0 μ (.v x) x:=tQ h
def nxtE(o:Oper)(need:Env):Option Nat:=
 match o.op with
 | .next x true=>match opd need none x with
  | some (.it id)=>some id
  | _=>none
 | _=>none
theorem aUq{μ:Mem}{id:Nat}{y:Value}(h:Rv μ (.it id) y):∃b c,μ.bs[id]? = some (some b)/\μ.H[id]? = some (.mp c)/\y = .pointer (some ⟨b,0,none⟩):=by
 have h:Rv0 μ (.it id) y:=h;simp only[Rv0,AV.isAgg,Rc,Bool.false_eq_true,if_false] at h;obtain⟨b,kvs,h1,h2,h3⟩:=h;exact⟨b,kvs,h1,h2,by simpa using h3⟩
def aKH(s:ByteArray)(p:Nat):Int:=((Utf8.decode s p).1:Int)
def wM(s:ByteArray)(p:Nat):Nat:=p+(Utf8.decode s p).2
theorem aQG{s:ByteArray}{p id:Nat}(hp:decide (p < s.size)=true){o:Oper}{need:Env}{H:List Box}(hd:dOK n.n o.dst=true)(h:nxtE o need=some id)(hH:H[id]? = some (.mp (.it s p))) :
  Big P n o need H (.tup [.v (.bool true),.v (.int .i64 (p:Int)),.v (.int .i32 (aKH s p))]) (H.set id (.mp (.it s (wM s p)))):=by
 refine cY hd λa μ ok hH' hE=>?_;obtain⟨H0,bs,w,F⟩:=μ;dsimp only at hH';subst hH';unfold nxtE at h;split at h <;> try cases h
 rename_i x t' ho;split at h <;> cases h;rename_i hx;obtain⟨b,c,h1,h2,h3⟩:=aUq (aR hE noG hx)
 obtain⟨b',e,hheap⟩:=ok.box id _ _ h1 hH;cases e;have hp:p < s.size:=of_decide_eq_true hp;have hlt:b < w.heap.size:=cG hheap;have ext:=Ext.put (F:=F) (x' := .mp (.it s (wM s p))) (o' := .stringIter s (wM s p)) h1 hH rfl rfl ok (aH1 hheap)
 have ok2:=OK.put (F:=F) (x' := .mp (.it s (wM s p))) (o' := .stringIter s (wM s p)) h1 hH rfl rfl ok (aH1 hheap) ⟨b,rfl,bK hlt⟩
 have hset:∀o:Obj,(setObj b o).run P w = .ok () (aZ w b o):=λo=>by simp[setObj,Sem.run,hheap,aZ]
 have hget:(getObj b).run P w = .ok (.stringIter s p) w:=by simp[getObj,Sem.run,hheap]
 refine⟨_,⟨.tuple #[.bool true,.int .i64 (p:Int),.int .i32 (aKH s p)],?_,?_,ext,ok2⟩,rfl⟩
 ·simp[execOp,ho,h3,Instr.next,hget,hp,hset,dy,aKH,wM,goInt]
 ·exact⟨_,rfl,_,_,rfl,aFg rfl,_,_,rfl,aFg rfl,_,_,rfl,aFg rfl,rfl⟩
theorem aPw{s:ByteArray}{p id:Nat}(hp:decide (p < s.size)=false){o:Oper}{need:Env}{H:List Box}(hd:dOK n.n o.dst=true)(h:nxtE o need=some id)(hH:H[id]? = some (.mp (.it s p))) :
  Big P n o need H (.tup [.v (.bool false)]) H:=by
 refine cY hd λa μ ok hH' hE=>?_;obtain⟨H0,bs,w,F⟩:=μ;dsimp only at hH';subst hH';unfold nxtE at h;split at h <;> try cases h
 rename_i x t' ho;split at h <;> cases h;rename_i hx;obtain⟨b,c,h1,h2,h3⟩:=aUq (aR hE noG hx)
 obtain⟨b',e,hheap⟩:=ok.box id _ _ h1 hH;cases e;have hp:¬p < s.size:=of_decide_eq_false hp;have hget:(getObj b).run P w = .ok (.stringIter s p) w:=by simp[getObj,Sem.run,hheap]
 refine⟨_,⟨.tuple #[.bool false],?_,?_,Ext.refl _,ok⟩,rfl⟩
 ·simp[execOp,ho,h3,Instr.next,hget,hp,dy]
 ·exact⟨_,rfl,_,_,rfl,aFg rfl,rfl⟩
def catO(x y:ByteArray):Option ByteArray:=cond (decide (x.size+y.size<=9223372036854775807)) (some (x++y)) none
theorem aVJ{x y z:ByteArray}(h:catO x y=some z):z=x++y/\x.size+y.size<=9223372036854775807:=by
 unfold catO at h;cases hc:decide (x.size+y.size<=9223372036854775807) with
 | false=>rw[hc] at h;cases h
 | true=>rw[hc] at h;exact⟨(Option.some.inj h).symm,of_decide_eq_true hc⟩
def catE(o:Oper)(need:Env):Option (ByteArray×ByteArray):=
 match o.op with
 | .binOp .add _ x y _=>match opd need none x,opd need none y with
  | some (.v (.string a)),some (.v (.string b))=>some (a,b)
  | _,_=>none
 | _=>none
theorem aS3{x y z:ByteArray}(hx:catO x y=some z){o:Oper}{need:Env}{H:List Box}(hd:dOK n.n o.dst=true)(h:catE o need=some (x,y)):Big P n o need H (eS z) H:=by
 obtain⟨rfl,hl⟩:=aVJ hx;refine cY hd λa μ ok hH hE=>⟨μ,?_,hH⟩
 unfold catE at h;split at h <;> try cases h
 rename_i t xo yo t' ho;split at h <;> cases h;rename_i h1 h2;have e1:=bH (aR hE noG h1)
 have e2:=bH (aR hE noG h2)
 refine eQ.here (y := .string (x++y)) ok ?_ (tQ rfl)
 have hm:¬((x.size+y.size:Nat):Int) > IntKind.i64.max:=by
  rw[show IntKind.i64.max=9223372036854775807 from rfl]
  omega
 simp only[execOp,ho,e1,e2,Sem.run_bind]
 rw[aBw .add t xo yo (by simp) (by simp),am]
 simp only[binOp,Op.stringOp,if_neg hm,Sem.run_pure,am]
end
end Go.UK

namespace Go.UK
open Go Go.Proofs
set_option linter.all false
variable [bL]
def aHN(s sep:ByteArray):Option (List ByteArray):=cond (decide (s.size < 4294967281)&&decide (sep.size=1)) (some (Lib.splitB sep 0 (Lib.countB s sep) s)) none
theorem aRK{s sep:ByteArray}{r:List ByteArray}(h:aHN s sep=some r):r=Lib.splitB sep 0 (Lib.countB s sep) s/\s.size < 4294967281/\sep.size=1:=by
 unfold aHN at h;cases hc:(decide (s.size < 4294967281)&&decide (sep.size=1)) with
 | false=>rw[hc] at h;cases h
 | true=>
  rw[hc] at h;simp only[Bool.and_eq_true,decide_eq_true_eq] at hc;exact⟨by simpa using h.symm,hc.1,hc.2⟩
section
variable {P:Program} {ρ:Shelf.Ren}
theorem aLC{w:World}{M:Nat->Nat->Prop}:∀r:List ByteArray,RdL w M (r.map eS) (r.map Value.string)
 | []=>by simp[RdL]
 | x :: r=>by
  simp only[List.map_cons,RdL]
  exact⟨[.string x],_,rfl,by simp[Rd,eS,Value.oneCell'],aLC r⟩
theorem aQ4(L:Lays.n221 P ρ)(L1:Lays.n143 P ρ)(L2:Lays.n138 P ρ)(hi9:(P.info? (ρ.t 9)).map (λi=>(i.zero,i.size,i.bytes))=some (some (.string ByteArray.empty),1,16)){f:Nat}(hf:ρ.f 221=f){s sep:ByteArray}{r:List ByteArray}(h:aHN s sep=some r) :
  FnM P f [] [eS s,eS sep,.v (.int .i64 0),.v (.int .i64 (-1))] (eL 1 eS r) []:=by
 subst hf;obtain⟨rfl,h0,h1⟩:=aRK h;rintro w G bs vs ok ⟨y0,r0,rfl,g0,y1,r1,rfl,g1,y2,r2,rfl,g2,y3,r3,rfl,g3,rfl⟩
 have e0:=bH (uN g0)
 have e1:=bH (uN g1)
 have e2:=bH (uN g2)
 have e3:=bH (uN g3)
 subst e0 e1 e2 e3;obtain⟨c,rfl⟩:=Lib.one_byte sep h1;have hcnt:Lib.countB s ⟨#[c]⟩=Lib.count s.data.toList [c]:=rfl;have hle:=Lib.countB_le (⟨#[c]⟩:ByteArray) (by rw[h1];omega) s.size s (Nat.le_refl _)
 have hlen:=Lib.splitB_all (⟨#[c]⟩:ByteArray) (by rw[h1];omega) 0 _ s rfl;have C:=Any.strings_genSplit_core L hi9 s ⟨#[c]⟩ 0 (-1) (Lib.countB s ⟨#[c]⟩+1) w h0 (by rw[h1];omega) (Nat.zero_le _)
  (λx c' hx=>(Any.strings_Index_one L1 x c _).mono λe w' ⟨he,hw⟩=>⟨by
   rw[he]
   show _=Ending.returned (Value.int .i64 (Lib.index x.data.toList [c]))
   rw[Lib.index_one],hw⟩)
  ((Any.strings_Count_one L2 s c w).mono λe w' ⟨he,hw⟩=>⟨by
   rw[he]
   show _=Ending.returned (Value.int .i64 ((Lib.count s.data.toList [c]:Nat):Int))
   rw[Lib.count_one]
   rfl,hw⟩)
  (by decide) (by decide) (by rw[if_pos (by decide)];omega)
 rw[Nat.add_sub_cancel,hlen] at C;refine Calls.mono C ?_;rintro e w' ⟨rfl,rfl⟩
 have later:=aHO w (.cells (Lib.cellsOf (Lib.splitB ⟨#[c]⟩ 0 (Lib.countB s ⟨#[c]⟩) s) (Lib.countB s ⟨#[c]⟩+1)) (ρ.t 9))
 rw[show Lib.cellsOf (Lib.splitB ⟨#[c]⟩ 0 (Lib.countB s ⟨#[c]⟩) s) (Lib.countB s ⟨#[c]⟩+1)=((Lib.splitB ⟨#[c]⟩ 0 (Lib.countB s ⟨#[c]⟩) s).map Value.string).toArray by rw[<- hlen];exact Lib.cellsOf_full _] at later ⊢;generalize hR:Lib.splitB ⟨#[c]⟩ 0 (Lib.countB s ⟨#[c]⟩) s=R at *;rw[<- hlen]
 refine⟨_,bs,rfl,Ext.later later,OK.later later ok,?_⟩
 show Rv0 _ (.sl 1 R.length (R.map eS)) _;simp only[Rv0,AV.isAgg,Rc,Bool.false_eq_true,if_false]
 refine⟨by simp,some ⟨w.heap.size,0,none⟩,R.length,by simp,by simp,?_,.inr ⟨w.heap.size,0,R.map Value.string,rfl,aLC R,?_⟩⟩
 ·intro e he;obtain⟨x,_,rfl⟩:=List.mem_map.1 he;rfl
 ·intro j y hj;refine⟨?_,?_⟩
  ·simp only[Nat.zero_add,World.cell?,eV]
   simpa using hj
  ·rintro(hF | hO)
   ·have:=ok.foreign _ _ hF;dsimp only at this;omega
   ·have:=aWH ok (show(⟨_,bs,w,G⟩:Mem).own w.heap.size (0+j) from hO)
    dsimp only at this;omega
end
end Go.UK

