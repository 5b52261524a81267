/- The own layer: abstract values, their memory, and the steps of the model over them: for any program. -/
import Derived.Test.YtidamaopieegkaaGreatDoorLib9
import Derived.MapFrom
import Derived.Carry
import Derived.Shelf.SlIterI.Nil
import Derived.Shelf.SortM.Plain
import Derived.Shelf.SortM.SortNone
import Derived.Shelf.Strings.Split
import Derived.Shelf.Strconv.ParseIntPublic10
import Derived.Shelf.Strconv.Itoa4
open List renaming getElem?_eq_getElem→ag,getElem?_map→bm,map_append→er
namespace Go.UK
open Go
set_option linter.all false
variable [bJ]
section
variable {P:Program} {T:TypeId→Option TI} {n:Fr}
theorem vL(w:World)(o:Obj):cK w (w.alloc o):=⟨by simp,λ_ h=>jV h,rfl,rfl,rfl⟩
theorem vI{α:Type}:∀(σ:List Nat) (A B:List α) (x y:α),B.length=σ.length->(∀s∈σ,s < A.length)->fD (A++[x]) (σ++[A.length]) (B++[y])=fD A σ B++[y]
 | [],A,[],x,y,_,_=>by simp[fD]
 | [],A,b :: B,x,y,h,_=>by simp at h
 | s :: σ,A,[],x,y,h,_=>by simp at h
 | s :: σ,A,b :: B,x,y,h,hs=>by
  have h1:=hs s (List.mem_cons_self ..)
  have ih:=vI σ (A.set s b) B x y (by simpa using h) (λq hq=>by have:=hs q (List.mem_cons_of_mem _ hq);simpa using this)
  simp only[List.cons_append,fD]
  rw[List.set_append_left _ _ h1]
  rw[List.length_set] at ih;exact ih
def rngE(g:Operand)(need:Env):Option (FuncId×List AV):=
 match opd need none g with
 | some (.fn (.func f) [] cap)=>match rR cap with | true=>some (f,cap) | false=>none
 | _=>none
def rngB(H:List Box)(σ0:List Nat)(Hc Hc':List Box)(args:List AV)(env:Env)(r:Loop):Bool:=
 yK (σ0++[H.length])&&(aBR H.length σ0&&(Nat.beq σ0.length Hc.length&&(Nat.beq Hc'.length Hc.length&&(iN (Hc++[.loop r]) (Hc++[.loop r])&&(lowL (Hc++[.loop r]) args&&mU (Hc++[.loop r]) env)))))
theorem aEY{s:aEM}{env:Env}{Hc Hc':List Box}{args:List AV}{ret:AV}{k:Option Code}{f:FuncId}(I:ItM P f s env Hc args ret Hc' k)(hf:jS P f){g:Operand}{c:Code}{σ0:List Nat}{st t:ASt}{caps:List AV}{Q:Exit->ASt->Prop}
  (hcode:c = .rangeFunc g s.ps.toArray s.assign s.body) (hn:n.ro=none) (hrg:n.rg=true) (hm:n.n=s.n) (hg:rngE g st.env=some (f,caps))
  (hB:∀r,rngB st.H σ0 Hc Hc' args env r=true)
  (hE:∀r,(wkL (.yld st.H.length :: caps) (renL (rn (σ0++[st.H.length]) (st.H.length+1)) args),kH (st.H++[Box.loop r]) (σ0++[st.H.length]),zE st.env (swE (rn (σ0++[st.H.length]) (st.H.length+1)) env))
   = (renL (rn (σ0++[st.H.length]) (st.H.length+1)) args,(Hc++[Box.loop r]).map (dE (rn (σ0++[st.H.length]) (st.H.length+1))),swE (rn (σ0++[st.H.length]) (st.H.length+1)) env))
  (hj:∀r,JR n t ⟨st.env,fD st.H σ0 (Hc'.map (dE (rn (σ0++[st.H.length]) (st.H.length+1))))++[.loop r]⟩)
  (hq:match k with | none=>Q .normal t | some c'=>aw P n c' Q t):aw P n c Q st:=by
 subst hcode;rintro ctx a w ⟨bs,hs⟩
 obtain⟨env0,H⟩:=st;dsimp only at *;refine wpIn_rangeFunc ?_;intro fn _;have hwide:n.F=Fence.wide:=Fr.wide hn;have hround:n.F.round=none:=by rw[hwide];rfl
 rw[hround]
 generalize hr:s.rcd fn a.tmps w.heap.size none=r;generalize hw1:(w.alloc (.deferred (some []))).alloc (.loop r)=w1;have hb:=hB r;unfold rngB at hb;simp only[Bool.and_eq_true] at hb;obtain⟨b1,b2,b3,b4,b5,b6,b7⟩:=hb;have b3:=Nat.eq_of_beq_eq_true b3;have b4:=Nat.eq_of_beq_eq_true b4;have hσ:=sU b2;have he:=hE r;simp only[Prod.mk.injEq] at he;obtain⟨e1,e2,e3⟩:=he;have hbl:bs.length=H.length:=hs.ok.len
 -- the record and the mark are laid
 have later:cK w w1:=by rw[<- hw1];exact(vL _ _).trans (vL _ _)
 have hsz1:w1.heap.size=w.heap.size+2:=by rw[<- hw1];simp
 have hL1:w1.heap[w.heap.size+1]? = some (.loop r):=by
  rw[<- hw1]
  have:=World.alloc_heap_new (w.alloc (.deferred (some []))) (.loop r)
  rwa[World.size_alloc] at this
 have hD1:w1.heap[w.heap.size]? = some (.deferred (some [])):=by
  rw[<- hw1]
  exact(jV (by simp)).trans (World.alloc_heap_new w _)
 have ext1:=Ext.snoc (F:=ctx.F) hs.ok.len later (.loop r) (some (w.heap.size+1)) (by intro b e;cases e;omega)
 have ok1:=OK.snoc hs.ok later (x := .loop r) (o:=some (w.heap.size+1)) (by intro b e;cases e;omega) ⟨_,rfl,hL1⟩
 -- what is ranged over
 unfold rngE at hg;split at hg <;> try cases hg
 rename_i f' cap hgo;split at hg <;> cases hg;rename_i hag;have hcv:=aR hs.env noG hgo;have hcv':∃cs:List Value,a.eval g = .func (.func f) #[] cs.toArray/\RcL ⟨H,bs,w,ctx.F⟩ caps cs:=by
  have:∃as1 cs:List Value,a.eval g = .func (.func f) as1.toArray cs.toArray/\RcL ⟨H,bs,w,ctx.F⟩ [] as1/\RcL ⟨H,bs,w,ctx.F⟩ caps cs:=by
   simpa[Rv,Rv0,AV.isAgg,Rc] using hcv
  obtain⟨as1,cs,h1,h2,h3⟩:=this;simp only[RcL] at h2;subst h2;exact⟨cs,h1,h3⟩
 obtain⟨cs,hgv,hcs⟩:=hcv';refine⟨w.heap.size+1,[{ target := .collected w.heap.size,args:=#[] }],w1,{ target := .fn (.func f) cs.toArray,args:=#[.func (.yield (w.heap.size+1)) #[] #[]] },w1,f,#[.func (.yield (w.heap.size+1)) #[] #[]]++cs.toArray,w1,?_,?_,λ_ _=>trivial,?_,λh=>(by rw[hwide] at h;cases h),?_⟩
 ·rw[<- hw1,<- hr]
  exact run_enterLoop_outer _ _ _ _ _
 ·simp only[resolve,hgv,Deferred.ofValue,Sem.run_pure]
  simp[Act.eval]
 ·obtain⟨⟨fd,h1,h2,h3⟩,_⟩:=hf;simp only[invoke,callFunc,Sem.run_bind,run_program,Result.andThen_ok,h1,h2,h3,Bool.false_eq_true,if_false,Sem.run_pure]
 ·rw[hwide]
  refine callsIn_wide.2 ?_
  -- its boxes among all
  have L:aA2 (H++[Box.loop r]) (bs++[some (w.heap.size+1)]) (σ0++[H.length]) (Hc++[.loop r]):=⟨qQ b1,by simp[b3],λi y hy=>by
   have hi:=aQ hy;have hi2:i < (σ0++[H.length]).length:=by simp at hi ⊢;omega
   refine⟨_,ag hi2,?_⟩
   have h2:(kH (H++[Box.loop r]) (σ0++[H.length]))[i]? = some (dE (rn (σ0++[H.length]) (H.length+1)) y):=by rw[e2,bm,hy];rfl
   unfold kH at h2;rw[bm,ag hi2] at h2;simp only[Option.map_some,Option.some.injEq] at h2;have h3:(σ0++[H.length])[i] < (H++[Box.loop r]).length:=by
    have:(σ0++[H.length])[i]∈σ0++[H.length]:=List.getElem_mem hi2;rcases List.mem_append.1 this with h | h
    ·have:=hσ _ h;simp;omega
    ·simp only[List.mem_singleton] at h;rw[h];simp
   rw[ag h3] at h2 ⊢;rw[show(H++[Box.loop r]).length=H.length+1 by simp]
   simpa using h2⟩
  have okc:=aAs (w:=w1) (F:=ctx.F) L ok1 b5;have less:=oT (w:=w1) (F:=ctx.F) L ok1.len;have hlen1:(H++[Box.loop r]).length=H.length+1:=by simp
  rw[hlen1] at less;have hbsc:(fU (H++[Box.loop r]) (bs++[some (w.heap.size+1)]) w1 ctx.F (σ0++[H.length]) (Hc++[.loop r])).bs=σ0.map (λs=>((bs++[some (w.heap.size+1)])[s]?).getD none)++[some (w.heap.size+1)]:=by
   show(σ0++[H.length]).map (λs=>((bs++[some (w.heap.size+1)])[s]?).getD none)=_;rw[er]
   simp[<- hbl]
  have hmem:fU (H++[Box.loop r]) (bs++[some (w.heap.size+1)]) w1 ctx.F (σ0++[H.length]) (Hc++[.loop r])=⟨Hc++[.loop r],σ0.map (λs=>((bs++[some (w.heap.size+1)])[s]?).getD none)++[some (w.heap.size+1)],w1,λb o=>ctx.F b o\/rest (H++[Box.loop r]) (bs++[some (w.heap.size+1)]) (σ0++[H.length]) b o⟩:=by
   rw[<- hbsc];rfl
  have hyl:Rv0 ⟨H++[Box.loop r],bs++[some (w.heap.size+1)],w1,ctx.F⟩ (.yld H.length) (.func (.yield (w.heap.size+1)) #[] #[]):=by
   simp only[Rv0,AV.isAgg,Rc,Bool.false_eq_true,if_false]
   refine⟨w.heap.size+1,r,?_,?_,rfl⟩
   ·rw[<- hbl];simp
   ·simp
  have hall:RvL ⟨H++[Box.loop r],bs++[some (w.heap.size+1)],w1,ctx.F⟩ (.yld H.length :: caps) (.func (.yield (w.heap.size+1)) #[] #[] :: cs):=⟨_,_,rfl,hyl,(RcL.ext ext1 _ _ hcs).rvl (mJ hag)⟩
  have hargs:RvL ⟨H++[Box.loop r],bs++[some (w.heap.size+1)],w1,ctx.F⟩ (renL (rn (σ0++[H.length]) (H.length+1)) args) (.func (.yield (w.heap.size+1)) #[] #[] :: cs):=by
   rw[<- e1]
   exact wM hall
  have hEnv:eC (fU (H++[Box.loop r]) (bs++[some (w.heap.size+1)]) w1 ctx.F (σ0++[H.length]) (Hc++[.loop r])) env a.tmps:=by
   refine aE0 less b7 ?_;rw[<- e3]
   exact aDQ (hs.env.ext ext1) _
  have hArg:=qV less b6 hargs;have okc':=okc;rw[hmem] at okc' hEnv hArg;have hI:=I w1 _ _ (w.heap.size+1) _ fn a.tmps w.heap.size (by rw[hr];exact okc') (by rw[hs.size,hm]) (by rw[hr];exact hEnv) (by rw[hr];exact hArg)
  have hargs2:(Value.func (.yield (w.heap.size+1)) #[] #[] :: cs).toArray=#[.func (.yield (w.heap.size+1)) #[] #[]]++cs.toArray:=by
   rw[<- Array.toList_inj];simp
  rw[<- hargs2]
  refine hI.mono ?_;rintro e w3 ⟨y,bc,rfl,ext,ok',_⟩
  rw[hr,<- hmem] at ext;obtain⟨x1,x2,_⟩:=xQ ok1 L okc ext ok';have hout:bV (H++[Box.loop r]) (σ0++[H.length]) (Hc'++[.loop (s.rcd fn a.tmps w.heap.size k)])=fD H σ0 (Hc'.map (dE (rn (σ0++[H.length]) (H.length+1))))++[.loop (s.rcd fn a.tmps w.heap.size k)]:=by
   unfold bV;rw[hlen1,List.take_of_length_le (by simp;omega),List.drop_of_length_le (by simp;omega),List.map_nil,List.append_nil,er]
   exact vI σ0 H _ _ _ (by simp;omega) hσ
  rw[hout] at x1 x2;generalize hbs3:lW (bs++[some (w.heap.size+1)]) (σ0++[H.length]) bc=bs3 at x1 x2;generalize hH3:fD H σ0 (Hc'.map (dE (rn (σ0++[H.length]) (H.length+1))))=H3 at x1 x2 hj;have hl3:H3.length=H.length:=by rw[<- hH3,cY]
  have hbs4:bs3[H.length]? = some (some (w.heap.size+1)):=by
   obtain⟨_,g⟩:=x1.loops H.length r (by simp)
   refine g.trans ?_;dsimp only;rw[<- hbl]
   simp
  have hlp:(H3++[Box.loop (s.rcd fn a.tmps w.heap.size k)])[H.length]? = some (.loop (s.rcd fn a.tmps w.heap.size k)):=by rw[<- hl3];simp
  obtain⟨b',eb,hheap⟩:=x2.box H.length _ _ hbs4 hlp;cases eb;have hheap:w3.heap[w.heap.size+1]? = some (.loop (s.rcd fn a.tmps w.heap.size k)):=hheap;refine⟨_,_,run_endLoop hheap (by cases k <;> simp[aEM.rcd]),?_⟩
  have ext4:=Ext.put (x' := .loop { s.rcd fn a.tmps w.heap.size k with state := .exhausted }) (o' := .loop { s.rcd fn a.tmps w.heap.size k with state := .exhausted }) hbs4 hlp rfl rfl x2 (vR hheap)
  have ok4:=OK.put (x' := .loop { s.rcd fn a.tmps w.heap.size k with state := .exhausted }) (o' := .loop { s.rcd fn a.tmps w.heap.size k with state := .exhausted }) hbs4 hlp rfl rfl x2 (vR hheap) ⟨_,rfl,cZ (dN hheap)⟩
  have hset:(H3++[Box.loop (s.rcd fn a.tmps w.heap.size k)]).set H.length (.loop { s.rcd fn a.tmps w.heap.size k with state := .exhausted })=H3++[.loop { s.rcd fn a.tmps w.heap.size k with state := .exhausted }]:=by rw[<- hl3];simp
  rw[hset] at ext4 ok4;have hD3:w3.heap[w.heap.size]? = some (.deferred (some [])):=by
   rw[x1.blocks w.heap.size (by dsimp only;omega) (λo=>ok1.not_own hD1 o)]
   exact hD1
  have hD4:(bN w3 (w.heap.size+1) (.loop { s.rcd fn a.tmps w.heap.size k with state := .exhausted })).heap[w.heap.size]? = some (.deferred (some [])):=(cA (by omega)).trans hD3;have extA:Ext ⟨H,bs,w,ctx.F⟩ ⟨H3++[.loop { s.rcd fn a.tmps w.heap.size k with state := .exhausted }],bs3,bN w3 (w.heap.size+1) (.loop { s.rcd fn a.tmps w.heap.size k with state := .exhausted }),ctx.F⟩:=(ext1.trans x1).trans ext4;have sat:Sat n ctx t { a with defers:=[{ target := .collected w.heap.size,args:=#[] }]++a.defers } (bN w3 (w.heap.size+1) (.loop { s.rcd fn a.tmps w.heap.size k with state := .exhausted })):=by
   refine hj { s.rcd fn a.tmps w.heap.size k with state := .exhausted } ctx _ _ ⟨bs3,{ h:=rfl,ok:=ok4,ext:=hs.ext.trans extA,env := ?_,size:=hs.size,low:=hs.low,defers := ?_,nod:=λh=>(by rw[hrg] at h;cases h),outs:=λp hp=>(hs.outs p hp).ext extA }⟩
   ·exact hs.env.ext extA
   ·refine⟨⟨w.heap.size,rfl,hs.ext.size,hD4,?_⟩,kX.ext hs.ok extA hs.defers⟩
    intro d' hd' e;subst e;have key:∀(ds:List Deferred),kX ctx.w.heap.size w ds->({ target := .collected w.heap.size,args:=#[] }:Deferred)∈ds->False:=by
     intro ds
     induction ds with
     | nil=>intro _ h;cases h
     | cons d ds ih=>
      rintro⟨⟨D,g1,g2,g3,g4⟩,g5⟩ h;rcases List.mem_cons.1 h with h | h
      ·rw[g1] at h;simp only[Deferred.mk.injEq,Target.collected.injEq,and_true] at h;rw[<- h,Array.getElem?_eq_none (Nat.le_refl _)] at g3;cases g3
      ·exact ih g5 h
    exact key _ hs.defers hd'
  have hpend:(s.rcd fn a.tmps w.heap.size k).pending=k:=by cases k <;> rfl
  rw[hpend]
  cases k with
  | none=>exact⟨t,hq,sat⟩
  | some c'=>
   have:=hq ctx _ _ sat;rw[hwide] at this;exact this
end
end Go.UK

namespace Go.UK
open Go
set_option linter.all false
variable [bJ]
def eMl{α:Type}(q:IntKind)(f:α->AV)(l:List (Int×α)):List (AV×AV):=l.map λp=>(.v (.int q p.1),f p.2)
def eM{α:Type}(q:IntKind)(f:α->AV)(l:List (Int×α)):MpC := .kv (eMl q f l)
section
variable {α:Type} {q:IntKind} {f:α→AV} {w:World} {M:Nat→Nat→Prop}
def mp2(q:IntKind)(f:α->AV)(w:World)(M:Nat->Nat->Prop):List (Int×α)->List MapEntry->Prop
 | [],es=>es=[]
 | p :: l,es=>∃e r,es=e :: r/\e.key = .int q p.1/\Rdv w M (f p.2) e.val/\mp2 q f w M l r
theorem aCr{k:Int}{y:Value}:Rdv w M (.v (.int q k)) y↔y = .int q k:=by
 simp[Rdv,vOf,AV.isAgg,Rd,Value.oneCell']
theorem aE1 : ∀(l:List (Int×α)) (es:List MapEntry),es.length=(eMl q f l).length->(∀(i:Nat) p e,(eMl q f l)[i]? = some p->es[i]? = some e->Rdv w M p.1 e.key/\Rdv w M p.2 e.val)->mp2 q f w M l es
 | [],es,hl,_=>by simpa[eMl,mp2] using hl
 | p :: l,[],hl,_=>by simp[eMl] at hl
 | p :: l,e :: es,hl,h=>by
  have h0:=h 0 _ e (by simp[eMl];rfl) (by simp)
  refine⟨e,es,rfl,aCr.1 h0.1,h0.2,aE1 l es (by simpa[eMl] using hl) λi p e hp he=>h (i+1) p e (by simpa[eMl] using hp) (by simpa using he)⟩
theorem aAf : ∀(l:List (Int×α)) (es:List MapEntry),mp2 q f w M l es->es.length=l.length
 | [],es,h=>by have h:es=[]:=h;simp[h]
 | p :: l,es,h=>by obtain⟨e,r,rfl,_,_,h⟩:=h;simp[aAf l r h]
theorem aFi : ∀(l:List (Int×α)) (es:List MapEntry),mp2 q f w M l es->∀(i:Nat) p e,(eMl q f l)[i]? = some p->es[i]? = some e->Rdv w M p.1 e.key/\Rdv w M p.2 e.val
 | [],es,_,i,p,e,hp,_=>by simp[eMl] at hp
 | x :: l,es,h,i,p,e,hp,he=>by
  obtain⟨e0,r,rfl,h1,h2,h3⟩:=h;cases i with
  | zero=>simp[eMl] at hp he;subst hp he;exact⟨aCr.2 h1,h2⟩
  | succ i=>exact aFi l r h3 i p e (by simpa[eMl] using hp) (by simpa using he)
theorem aBs{l:List (Int×α)}{es:List MapEntry}{c:Nat}:aAF w M (eMl q f l) es c↔mp2 q f w M l es/\es.Pairwise (λa b=>a.born < b.born)/\∀e∈es,e.born < c:=by
 constructor
 ·rintro⟨h1,h2,h3⟩
  exact⟨aE1 l es h1 h2,h3⟩
 ·rintro⟨h1,h3⟩
  exact⟨by rw[aAf l es h1,eMl,List.length_map],aFi l es h1,h3⟩
end
section
variable {P:Program} {T:TypeId→Option TI} {n:Fr}
def mkmE(o:Oper):Option Unit:=
 match o.op with
 | .makeMap _ none=>some ()
 | _=>none
theorem vA(w:World)(o:Obj):cK w (w.alloc o):=⟨by simp,λ_ h=>jV h,rfl,rfl,rfl⟩
theorem tX{α:Type}(q:IntKind)(f:α->AV){o:Oper}{need:Env}{H:List Box}(hd:dOK n.n o.dst=true)(h:mkmE o=some ()):Big P n o need H (.mp H.length) (H++[.mp (eM q f [])]):=by
 refine dP hd λa μ ok hH hE=>?_;obtain⟨H0,bs,w,F⟩:=μ;dsimp only at hH;subst hH;unfold mkmE at h;split at h <;> cases h;rename_i t ho;have hl:bs.length=H0.length:=ok.len;have hbox:(⟨H0++[.mp (eM q f [])],bs++[some w.heap.size],w.alloc (.map #[] 0),F⟩:Mem).boxOK (some w.heap.size) (.mp (eM q f [])):=
  ⟨w.heap.size,#[],0,rfl,dM,aBs.2 ⟨rfl,List.Pairwise.nil,λe he=>by cases he⟩⟩
 refine⟨⟨H0++[.mp (eM q f [])],bs++[some w.heap.size],w.alloc (.map #[] 0),F⟩,⟨.map (some w.heap.size),?_,?_,Ext.snoc ok.len (vA w _) _ _ (λb e=>by cases e;exact Nat.le_refl _),OK.snoc ok (vA w _) (λb e=>by cases e;exact Nat.le_refl _) hbox⟩,rfl⟩
 ·simp[execOp,ho,show ∀(t:TypeId) (w:World),(Instr.makeMap t none).run P w = .ok (.map (some w.heap.size)) (w.alloc (.map #[] 0)) from λ_ _=>rfl,Result.andThen]
 ·show Rv0 _ _ _;simp only[Rv0,AV.isAgg,Rc,Bool.false_eq_true,if_false]
  refine⟨w.heap.size,eM q f [],?_,?_,rfl⟩
  ·show(bs++[some w.heap.size])[H0.length]? = _;rw[<- hl];simp
  ·show(H0++[Box.mp (eM q f [])])[H0.length]? = _;simp
theorem aC2{μ:Mem}{id:Nat}{y:Value}(h:Rv μ (.mp id) y):∃b kvs,μ.bs[id]? = some (some b)/\μ.H[id]? = some (.mp kvs)/\y = .map (some b):=by
 have h:Rv0 μ (.mp id) y:=h;simp only[Rv0,AV.isAgg,Rc,Bool.false_eq_true,if_false] at h;obtain⟨b,kvs,h1,h2,h3⟩:=h;exact⟨b,kvs,h1,h2,by simpa using h3⟩
end
end Go.UK

open Bool renaming false_eq_true→ap
open List renaming map_cons→cm,mem_cons→bq,pairwise_map→ga
namespace Go.UK
open Go Go.Proofs Go.Maps
set_option linter.all false
variable [bJ]
def iI{α:Type}(l:List (Int×α)):List Int:=l.map λp=>p.1
def aCT(ks:List Int):Bool:=decide ks.Nodup&&(ks.all (λk=>(Lit.int .i64 k).wf)&&decide (ks.length*8<=140737488355328))
def aBu{α:Type}(l:List (Int×α)):Option (List Int):=cond (aCT (iI l)) (some ((iI l).mergeSort λx y=>decide (x<=y))) none
theorem aGG{α:Type}{l:List (Int×α)}{r:List Int}(h:aBu l=some r):r=(iI l).mergeSort (λx y=>decide (x<=y))/\(iI l).Nodup/\(∀k∈iI l,(Lit.int .i64 k).wf=true)/\(iI l).length*8<=140737488355328:=by
 unfold aBu at h;cases hc:aCT (iI l) with
 | false=>rw[hc] at h;cases h
 | true=>
  rw[hc] at h;simp only[aCT,Bool.and_eq_true,decide_eq_true_eq,List.all_eq_true] at hc;exact⟨by simpa using h.symm,hc.1,hc.2.1,hc.2.2⟩
section
variable {P:Program} {α:Type} {F:α→AV}
theorem aGJ{ρ:Shelf.Ren}(L:SlLaysZI.n7 P ρ){f g:Nat}(hf:ρ.f 7=f)(hg:ρ.f 10=g)(l:List (Int×α)) :
  FnM P f [.mp (eM .i64 F l)] [.mp 0] (.fn (.func g) [] [.ref 1 [] 0]) [.mp (eM .i64 F l),.var (.mp 0)]:=by
 subst hf hg;rintro w G bs vs ok ⟨y0,r0,rfl,g0,rfl⟩
 obtain⟨b,kvs,h1,h2,rfl⟩:=aC2 (aCU g0)
 refine Calls.mono (callsIn_wide.1 (AnyZI.keys_in L Fence.wide 1 trivial rfl (some b) w)) ?_;rintro e w' ⟨rfl,rfl⟩
 have hl:bs.length=1:=ok.len;obtain⟨b0,rfl⟩:∃b0,bs=[b0]:=by
  cases bs with
  | nil=>simp at hl
  | cons x r=>cases r with
   | nil=>exact⟨x,rfl⟩
   | cons _ _=>simp at hl
 simp at h1;subst h1;have later:=vA w (.cells #[.map (some b)] (ρ.t 23))
 have ext:=Ext.snoc (F:=G) ok.len later (.var (.mp 0)) (some w.heap.size) (by intro b e;cases e;exact Nat.le_refl _)
 refine⟨_,[some b,some w.heap.size],rfl,ext,OK.snoc ok later (x := .var (.mp 0)) (o:=some w.heap.size) (by intro b e;cases e;exact Nat.le_refl _) ?_,?_⟩
 ·refine⟨w.heap.size,_,_,rfl,dM,?_⟩
  simp only[Rc]
  exact⟨b,_,rfl,rfl,rfl⟩
 ·show Rv0 _ (.fn (.func (ρ.f 10)) [] [.ref 1 [] 0]) _;simp only[Rv0,AV.isAgg,Rc,ap,if_false]
  refine⟨[],[.pointer (some ⟨w.heap.size,0,none⟩)],rfl,?_,?_⟩
  ·simp[RcL]
  ·simp only[RcL]
   refine⟨[_],[],rfl,?_,rfl⟩
   simp only[Rc]
   exact⟨w.heap.size,_,rfl,rfl,rfl⟩
theorem aIN{μ:Mem}(ok:μ.OK){b o:Nat}(h:μ.own b o):b < μ.w.heap.size:=by
 obtain⟨id,h1,h2⟩:=h;rcases h2 with ⟨x,h2,h3⟩ | ⟨m,h2,h3⟩
 ·exact bY ok h1 h2 (Box.whole_live h3)
 ·exact bY ok h1 h2 (by simp)
def aES : Value->Option (DataW Unit×List MemPlace):=λ_=>some (.nil,[])
theorem aCu{w:World}{M:Nat->Nat->Prop}{k:TypeId}(hk:P.underlying k=some (.int .i64)):∀(l:List (Int×α)) (es:List MapEntry),mp2 .i64 F w M l es->(∀x∈iI l,(Lit.int .i64 x).wf=true) ->
  (∀x∈es,∃y,Go.WideElems.rd P k aES x=some y)/\(es.map (Go.WideElems.rg P k aES)).map (λp=>intOf p.1)=iI l/\es.map (·.key)=(iI l).map (Value.int .i64)
 | [],es,h,_=>by have h:es=[]:=h;subst h;exact⟨by simp,rfl,rfl⟩
 | p :: l,es,h,hw=>by
  obtain⟨e,r,rfl,h1,h2,h3⟩:=h;have hw0:=hw p.1 (by simp[iI])
  obtain⟨i1,i2,i3⟩:=aCu hk l r h3 (λx hx=>hw x (by simp only[iI,cm,bq];exact .inr hx))
  have e1:Go.WideElems.rd P k aES e=some (.int .i64 p.1,.nil):=by
   simp[Go.WideElems.rd,h1,keyOf_int_mk hk hw0,aES]
  refine⟨?_,?_,?_⟩
  ·intro x hx;rcases bq.1 hx with rfl | hx
   ·exact⟨_,e1⟩
   ·exact i1 x hx
  ·rw[cm,cm,Go.WideElems.rg_of e1,i2]
   rfl
  ·simp only[cm,h1,i3]
   rfl
theorem aG6{w:World}{M:Nat->Nat->Prop}{k:TypeId}(hk:P.underlying k=some (.int .i64)){l:List (Int×α)}{b:Nat}{es:Array MapEntry}{c:Nat}(hb:w.heap[b]? = some (.map es c))(hm:aAF w M (eMl .i64 F l) es.toList c)
  (h1:(iI l).Nodup) (h2:∀x∈iI l,(Lit.int .i64 x).wf=true) (h3:(iI l).length*8<=140737488355328) :
  ∃D:DataW Unit,w.ownsMap P k aES b es.size D/\(intKeys D).Perm (iI l)/\Maps.size D=(iI l).length:=by
 obtain⟨hm,hp,hc⟩:=aBs.1 hm;obtain⟨i1,i2,i3⟩:=aCu (P:=P) hk l es.toList hm h2;have hlen:=aAf l _ hm;have hkl:(iI l).length=l.length:=by simp[iI]
 refine⟨_,⟨es,c,hb,⟨?_,?_,i1⟩,Nat.le_refl _,rfl⟩,?_,?_⟩
 ·simp at hlen;rw[hlen,<- hkl];unfold maxLen;omega
 ·refine(MapKept.stamped_iff es c).2 ⟨hc,?_,?_⟩
  ·exact(ga.2 hp).imp (λh=>Nat.ne_of_lt h)
  ·have:(es.toList.map (·.key)).Nodup:=by
    rw[i3]
    exact List.Pairwise.map _ (λa b h e=>h (by simpa using e)) h1
   exact ga.1 this
 ·show(List.map (λ(p:Lit×DataW Unit)=>intOf p.1) _).Perm _;refine((Go.WideShapes.sorted_perm _).map _).trans ?_;rw[i2]
 ·show List.length _=_;rw[length_sorted,List.length_map]
  simp at hlen;simp[hlen,hkl]
theorem aA7{w:World}{M:Nat->Nat->Prop}:∀r:List Int,RdL w M (r.map (eI .i64)) (r.map encZ)
 | []=>by simp[RdL]
 | x :: r=>by
  simp only[cm,RdL]
  exact⟨[encZ x],_,rfl,by simp[Rd,eI,encZ,Value.oneCell'],aA7 r⟩
theorem aDg{ρ ρ':Shelf.Ren}(L:SlLaysZI.n6 P ρ)(L':SlLaysZI.n10 P ρ')(hS:∀m,AnyZI.SortsIn P ρ Fence.wide m){f g:Nat}(hf:ρ.f 6=f)(hg:ρ'.f 10=g)
  (e9:∀args w,(callFunc (ρ.f 9) args).run P w = .ok (.enter (ρ.f 9) args) w) (eg:∀args w,(callFunc g args).run P w = .ok (.enter g args) w) {l:List (Int×α)} {r:List Int} (h:aBu l=some r) :
  FnM P f [.mp (eM .i64 F l),.var (.mp 0)] [.fn (.func g) [] [.ref 1 [] 0]] (eL 1 (eI .i64) r) [.mp (eM .i64 F l),.var (.mp 0)]:=by
 subst hf hg;obtain⟨hr,n1,n2,n3⟩:=aGG h;rintro w G bs vs ok ⟨y0,r0,rfl,g0,rfl⟩
 have g0:Rv0 _ (.fn (.func (ρ'.f 10)) [] [.ref 1 [] 0]) y0:=g0;simp only[Rv0,AV.isAgg,Rc,ap,if_false,RcL] at g0;obtain⟨as1,cs,e0,rfl,y1,y2,rfl,⟨b1,c1,q1,q2,rfl⟩,rfl⟩:=g0;simp at e0 q2;subst e0 q2;obtain⟨b1',ys,T,e,q3,q4⟩:=ok.box 1 _ _ q1 rfl;cases e;simp only[Rc] at q4;obtain⟨b0,kvs,q5,q6,q7⟩:=q4;obtain⟨b0',es,c,e,q8,q9⟩:=ok.box 0 _ _ q5 rfl;cases e;obtain⟨D,d1,d2,d3⟩:=aG6 (P:=P) L'.t26 q8 q9 n1 n2 n3;have hcell:w.cell? ⟨b1,0,none⟩=some (.map (some b0)):=by
  have:ys=#[.map (some b0)]:=by cases ys;simp at q7;rw[q7]
  simp[World.cell?,q3,this]
 have hseq:=AnyZI.keys_gives (P:=P) L' Fence.wide 5 trivial rfl (by omega) b1 b0 _ D w (dN q3) hcell d1;have cS:=AnyZI.sorted_in L Fence.wide 8 trivial trivial trivial trivial rfl (by omega) (hS _) e9 (ρ'.f 10) #[.pointer (some ⟨b1,0,none⟩)] trivial eg _ _ (by rw[d3];unfold maxLen;omega) (by rw[d3];omega) w hseq;refine Calls.mono (callsIn_wide.1 cS) ?_;rintro e w' ⟨v,ss,rfl,hp,hrow,hnil,hbel⟩
 have later:cK w w':=⟨hbel.size,hbel.block,hbel.os,hbel.tape,hbel.output⟩
 have hss:ss.mergeSort (λx y=>decide (x<=y))=r:=by rw[hr];exact mergeSort_of_perm_i (hp.trans d2)
 rw[hss] at hrow;have hlen:ss.length=r.length:=by rw[<- hss,List.length_mergeSort]
 rw[hlen] at hrow;refine⟨v,bs,rfl,Ext.later later,OK.later later ok,?_⟩
 show Rv0 _ (.sl 1 r.length (r.map (eI .i64))) v;simp only[Rv0,AV.isAgg,Rc,ap,if_false]
 refine⟨by simp,?_⟩
 obtain⟨_,⟨rfl,hz⟩ | ⟨gb,cap,cur,rfl,hbase,hgb,r1,r2,r3,r4⟩⟩:=hrow
 ·have:r=[]:=List.eq_nil_of_length_eq_zero hz;subst this;exact⟨none,0,rfl,Nat.le_refl _,by simp,.inl rfl⟩
 ·refine⟨some ⟨gb,0,none⟩,cap,by simp,by simpa using r1,?_,.inr ⟨gb,0,r.map encZ,rfl,?_,?_⟩⟩
  ·intro e he;obtain⟨x,_,rfl⟩:=List.mem_map.1 he;rfl
  ·exact aA7 r
  ·intro j y hj;refine⟨?_,?_⟩
   ·rw[<- r4] at hj;have hj':=hj;rw[List.getElem?_take] at hj';split at hj' <;> try cases hj'
    simp only[Nat.zero_add,World.cell?,hgb]
    simpa using hj'
   ·have hge:w.heap.size<=gb:=hbase;rintro(hF | hO)
    ·have:=ok.foreign _ _ hF;dsimp only at this;omega
    ·have:=aIN ok (show(⟨_,bs,w,G⟩:Mem).own gb (0+j) from hO)
     dsimp only at this;omega
end
end Go.UK

namespace Go.UK
open Go
set_option linter.all false
variable [bJ]
section
variable {P:Program} {T:TypeId→Option TI} {n:Fr}
theorem rv_v0{μ:Mem}{x:Value}(h:x.oneCell'=true):Rv0 μ (.v x) x:=oW h
theorem rv_it{μ:Mem}{id:Nat}{y:Value}(h:Rv μ (.it id) y):∃b c,μ.bs[id]? = some (some b)/\μ.H[id]? = some (.mp c)/\y = .pointer (some ⟨b,0,none⟩):=by
 have h:Rv0 μ (.it id) y:=h;simp only[Rv0,AV.isAgg,Rc,Bool.false_eq_true,if_false] at h;obtain⟨b,kvs,h1,h2,h3⟩:=h;exact⟨b,kvs,h1,h2,by simpa using h3⟩
end
end Go.UK

namespace Go.UK
open Go Go.Proofs
set_option linter.all false
variable [bJ]
section
variable {P:Program} {ρ:Shelf.Ren}
end
end Go.UK

