/- The own layer: abstract values, their memory, and the steps of the model over them: for any program. -/
import Derived.Test.YtmmabhkichiikaaGreatLib9
import Derived.MapFrom
import Derived.Carry
import Derived.Shelf.SlIterI.Nil
import Derived.Shelf.SortM.Plain
import Derived.Shelf.SortM.SortNone
import Derived.Shelf.Strings.Split
import Derived.Shelf.Strconv.ParseIntPublic10
import Derived.Shelf.Strconv.Itoa4
open List renaming getElem?_eq_getElem→af,getElem?_map→bq,map_append→d9
namespace Go.UK
open Go
set_option linter.all false
variable [bS]
section
variable {P:Program} {T:TypeId→Option TI} {n:Fr}
theorem aHn(w:World)(o:Obj):dG w (w.alloc o):=⟨by simp,λ_ h=>aAE h,rfl,rfl,rfl⟩
theorem aHd{α:Type}:∀(σ:List Nat) (A B:List α) (x y:α),B.length=σ.length->(∀s∈σ,s < A.length)->nW (A++[x]) (σ++[A.length]) (B++[y])=nW A σ B++[y]
 | [],A,[],x,y,_,_=>by simp[nW]
 | [],A,b :: B,x,y,h,_=>by simp at h
 | s :: σ,A,[],x,y,h,_=>by simp at h
 | s :: σ,A,b :: B,x,y,h,hs=>by
  have h1:=hs s (List.mem_cons_self ..)
  have ih:=aHd σ (A.set s b) B x y (by simpa using h) (λq hq=>by have:=hs q (List.mem_cons_of_mem _ hq);simpa using this)
  simp only[List.cons_append,nW]
  rw[List.set_append_left _ _ h1]
  rw[List.length_set] at ih;exact ih
def rngE(g:Operand)(need:Env):Option (FuncId×List AV):=
 match opd need none g with
 | some (.fn (.func f) [] cap)=>match aAw cap with | true=>some (f,cap) | false=>none
 | _=>none
def rngB(H:List Box)(σ0:List Nat)(Hc Hc':List Box)(args:List AV)(env:Env)(r:Loop):Bool:=
 aHC (σ0++[H.length])&&(aM0 H.length σ0&&(Nat.beq σ0.length Hc.length&&(Nat.beq Hc'.length Hc.length&&(nT (Hc++[.loop r]) (Hc++[.loop r])&&(lowL (Hc++[.loop r]) args&&aAX (Hc++[.loop r]) env)))))
theorem aTs{s:aFp}{env:Env}{Hc Hc':List Box}{args:List AV}{ret:AV}{k:Option Code}{f:FuncId}(I:ItM P f s env Hc args ret Hc' k)(hf:sC P f){g:Operand}{c:Code}{σ0:List Nat}{st t:ASt}{caps:List AV}{Q:Exit->ASt->Prop}
  (hcode:c = .rangeFunc g s.ps.toArray s.assign s.body) (hn:n.ro=none) (hrg:n.rg=true) (hm:n.n=s.n) (hg:rngE g st.env=some (f,caps))
  (hB:∀r,rngB st.H σ0 Hc Hc' args env r=true)
  (hE:∀r,(wkL (.yld st.H.length :: caps) (renL (rn (σ0++[st.H.length]) (st.H.length+1)) args),rC (st.H++[Box.loop r]) (σ0++[st.H.length]),aKD st.env (swE (rn (σ0++[st.H.length]) (st.H.length+1)) env))
   = (renL (rn (σ0++[st.H.length]) (st.H.length+1)) args,(Hc++[Box.loop r]).map (iK (rn (σ0++[st.H.length]) (st.H.length+1))),swE (rn (σ0++[st.H.length]) (st.H.length+1)) env))
  (hj:∀r,JR n t ⟨st.env,nW st.H σ0 (Hc'.map (iK (rn (σ0++[st.H.length]) (st.H.length+1))))++[.loop r]⟩)
  (hq:match k with | none=>Q .normal t | some c'=>aw P n c' Q t):aw P n c Q st:=by
 subst hcode;rintro ctx a w ⟨bs,hs⟩
 obtain⟨env0,H⟩:=st;dsimp only at *;refine wpIn_rangeFunc ?_;intro fn _;have hwide:n.F=Fence.wide:=Fr.wide hn;have hround:n.F.round=none:=by rw[hwide];rfl
 rw[hround]
 generalize hr:s.rcd fn a.tmps w.heap.size none=r;generalize hw1:(w.alloc (.deferred (some []))).alloc (.loop r)=w1;have hb:=hB r;unfold rngB at hb;simp only[Bool.and_eq_true] at hb;obtain⟨b1,b2,b3,b4,b5,b6,b7⟩:=hb;have b3:=Nat.eq_of_beq_eq_true b3;have b4:=Nat.eq_of_beq_eq_true b4;have hσ:=aFV b2;have he:=hE r;simp only[Prod.mk.injEq] at he;obtain⟨e1,e2,e3⟩:=he;have hbl:bs.length=H.length:=hs.ok.len
 -- the record and the mark are laid
 have later:dG w w1:=by rw[<- hw1];exact(aHn _ _).trans (aHn _ _)
 have hsz1:w1.heap.size=w.heap.size+2:=by rw[<- hw1];simp
 have hL1:w1.heap[w.heap.size+1]? = some (.loop r):=by
  rw[<- hw1]
  have:=World.alloc_heap_new (w.alloc (.deferred (some []))) (.loop r)
  rwa[World.size_alloc] at this
 have hD1:w1.heap[w.heap.size]? = some (.deferred (some [])):=by
  rw[<- hw1]
  exact(aAE (by simp)).trans (World.alloc_heap_new w _)
 have ext1:=Ext.snoc (F:=ctx.F) hs.ok.len later (.loop r) (some (w.heap.size+1)) (by intro b e;cases e;omega)
 have ok1:=OK.snoc hs.ok later (x := .loop r) (o:=some (w.heap.size+1)) (by intro b e;cases e;omega) ⟨_,rfl,hL1⟩
 -- what is ranged over
 unfold rngE at hg;split at hg <;> try cases hg
 rename_i f' cap hgo;split at hg <;> cases hg;rename_i hag;have hcv:=aV hs.env noG hgo;have hcv':∃cs:List Value,a.eval g = .func (.func f) #[] cs.toArray/\RcL ⟨H,bs,w,ctx.F⟩ caps cs:=by
  have:∃as1 cs:List Value,a.eval g = .func (.func f) as1.toArray cs.toArray/\RcL ⟨H,bs,w,ctx.F⟩ [] as1/\RcL ⟨H,bs,w,ctx.F⟩ caps cs:=by
   simpa[Rv,Rv0,AV.isAgg,Rc] using hcv
  obtain⟨as1,cs,h1,h2,h3⟩:=this;simp only[RcL] at h2;subst h2;exact⟨cs,h1,h3⟩
 obtain⟨cs,hgv,hcs⟩:=hcv';refine⟨w.heap.size+1,[{ target := .collected w.heap.size,args:=#[] }],w1,{ target := .fn (.func f) cs.toArray,args:=#[.func (.yield (w.heap.size+1)) #[] #[]] },w1,f,#[.func (.yield (w.heap.size+1)) #[] #[]]++cs.toArray,w1,?_,?_,λ_ _=>trivial,?_,λh=>(by rw[hwide] at h;cases h),?_⟩
 ·rw[<- hw1,<- hr]
  exact run_enterLoop_outer _ _ _ _ _
 ·simp only[resolve,hgv,Deferred.ofValue,Sem.run_pure]
  simp[Act.eval]
 ·obtain⟨⟨fd,h1,h2,h3⟩,_⟩:=hf;simp only[invoke,callFunc,Sem.run_bind,run_program,Result.andThen_ok,h1,h2,h3,Bool.false_eq_true,if_false,Sem.run_pure]
 ·rw[hwide]
  refine callsIn_wide.2 ?_
  -- its boxes among all
  have L:aKP (H++[Box.loop r]) (bs++[some (w.heap.size+1)]) (σ0++[H.length]) (Hc++[.loop r]):=⟨aCA b1,by simp[b3],λi y hy=>by
   have hi:=aZ hy;have hi2:i < (σ0++[H.length]).length:=by simp at hi ⊢;omega
   refine⟨_,af hi2,?_⟩
   have h2:(rC (H++[Box.loop r]) (σ0++[H.length]))[i]? = some (iK (rn (σ0++[H.length]) (H.length+1)) y):=by rw[e2,bq,hy];rfl
   unfold rC at h2;rw[bq,af hi2] at h2;simp only[Option.map_some,Option.some.injEq] at h2;have h3:(σ0++[H.length])[i] < (H++[Box.loop r]).length:=by
    have:(σ0++[H.length])[i]∈σ0++[H.length]:=List.getElem_mem hi2;rcases List.mem_append.1 this with h | h
    ·have:=hσ _ h;simp;omega
    ·simp only[List.mem_singleton] at h;rw[h];simp
   rw[af h3] at h2 ⊢;rw[show(H++[Box.loop r]).length=H.length+1 by simp]
   simpa using h2⟩
  have okc:=aIe (w:=w1) (F:=ctx.F) L ok1 b5;have less:=aBE (w:=w1) (F:=ctx.F) L ok1.len;have hlen1:(H++[Box.loop r]).length=H.length+1:=by simp
  rw[hlen1] at less;have hbsc:(mC (H++[Box.loop r]) (bs++[some (w.heap.size+1)]) w1 ctx.F (σ0++[H.length]) (Hc++[.loop r])).bs=σ0.map (λs=>((bs++[some (w.heap.size+1)])[s]?).getD none)++[some (w.heap.size+1)]:=by
   show(σ0++[H.length]).map (λs=>((bs++[some (w.heap.size+1)])[s]?).getD none)=_;rw[d9]
   simp[<- hbl]
  have hmem:mC (H++[Box.loop r]) (bs++[some (w.heap.size+1)]) w1 ctx.F (σ0++[H.length]) (Hc++[.loop r])=⟨Hc++[.loop r],σ0.map (λs=>((bs++[some (w.heap.size+1)])[s]?).getD none)++[some (w.heap.size+1)],w1,λb o=>ctx.F b o\/rest (H++[Box.loop r]) (bs++[some (w.heap.size+1)]) (σ0++[H.length]) b o⟩:=by
   rw[<- hbsc];rfl
  have hyl:Rv0 ⟨H++[Box.loop r],bs++[some (w.heap.size+1)],w1,ctx.F⟩ (.yld H.length) (.func (.yield (w.heap.size+1)) #[] #[]):=by
   simp only[Rv0,AV.isAgg,Rc,Bool.false_eq_true,if_false]
   refine⟨w.heap.size+1,r,?_,?_,rfl⟩
   ·rw[<- hbl];simp
   ·simp
  have hall:RvL ⟨H++[Box.loop r],bs++[some (w.heap.size+1)],w1,ctx.F⟩ (.yld H.length :: caps) (.func (.yield (w.heap.size+1)) #[] #[] :: cs):=⟨_,_,rfl,hyl,(RcL.ext ext1 _ _ hcs).rvl (aBD hag)⟩
  have hargs:RvL ⟨H++[Box.loop r],bs++[some (w.heap.size+1)],w1,ctx.F⟩ (renL (rn (σ0++[H.length]) (H.length+1)) args) (.func (.yield (w.heap.size+1)) #[] #[] :: cs):=by
   rw[<- e1]
   exact aGb hall
  have hEnv:iC (mC (H++[Box.loop r]) (bs++[some (w.heap.size+1)]) w1 ctx.F (σ0++[H.length]) (Hc++[.loop r])) env a.tmps:=by
   refine aM5 less b7 ?_;rw[<- e3]
   exact aQD (hs.env.ext ext1) _
  have hArg:=aCk less b6 hargs;have okc':=okc;rw[hmem] at okc' hEnv hArg;have hI:=I w1 _ _ (w.heap.size+1) _ fn a.tmps w.heap.size (by rw[hr];exact okc') (by rw[hs.size,hm]) (by rw[hr];exact hEnv) (by rw[hr];exact hArg)
  have hargs2:(Value.func (.yield (w.heap.size+1)) #[] #[] :: cs).toArray=#[.func (.yield (w.heap.size+1)) #[] #[]]++cs.toArray:=by
   rw[<- Array.toList_inj];simp
  rw[<- hargs2]
  refine hI.mono ?_;rintro e w3 ⟨y,bc,rfl,ext,ok',_⟩
  rw[hr,<- hmem] at ext;obtain⟨x1,x2,_⟩:=aFW ok1 L okc ext ok';have hout:cL (H++[Box.loop r]) (σ0++[H.length]) (Hc'++[.loop (s.rcd fn a.tmps w.heap.size k)])=nW H σ0 (Hc'.map (iK (rn (σ0++[H.length]) (H.length+1))))++[.loop (s.rcd fn a.tmps w.heap.size k)]:=by
   unfold cL;rw[hlen1,List.take_of_length_le (by simp;omega),List.drop_of_length_le (by simp;omega),List.map_nil,List.append_nil,d9]
   exact aHd σ0 H _ _ _ (by simp;omega) hσ
  rw[hout] at x1 x2;generalize hbs3:yW (bs++[some (w.heap.size+1)]) (σ0++[H.length]) bc=bs3 at x1 x2;generalize hH3:nW H σ0 (Hc'.map (iK (rn (σ0++[H.length]) (H.length+1))))=H3 at x1 x2 hj;have hl3:H3.length=H.length:=by rw[<- hH3,iM]
  have hbs4:bs3[H.length]? = some (some (w.heap.size+1)):=by
   obtain⟨_,g⟩:=x1.loops H.length r (by simp)
   refine g.trans ?_;dsimp only;rw[<- hbl]
   simp
  have hlp:(H3++[Box.loop (s.rcd fn a.tmps w.heap.size k)])[H.length]? = some (.loop (s.rcd fn a.tmps w.heap.size k)):=by rw[<- hl3];simp
  obtain⟨b',eb,hheap⟩:=x2.box H.length _ _ hbs4 hlp;cases eb;have hheap:w3.heap[w.heap.size+1]? = some (.loop (s.rcd fn a.tmps w.heap.size k)):=hheap;refine⟨_,_,run_endLoop hheap (by cases k <;> simp[aFp.rcd]),?_⟩
  have ext4:=Ext.put (x' := .loop { s.rcd fn a.tmps w.heap.size k with state := .exhausted }) (o' := .loop { s.rcd fn a.tmps w.heap.size k with state := .exhausted }) hbs4 hlp rfl rfl x2 (xG hheap)
  have ok4:=OK.put (x' := .loop { s.rcd fn a.tmps w.heap.size k with state := .exhausted }) (o' := .loop { s.rcd fn a.tmps w.heap.size k with state := .exhausted }) hbs4 hlp rfl rfl x2 (xG hheap) ⟨_,rfl,cH (fE hheap)⟩
  have hset:(H3++[Box.loop (s.rcd fn a.tmps w.heap.size k)]).set H.length (.loop { s.rcd fn a.tmps w.heap.size k with state := .exhausted })=H3++[.loop { s.rcd fn a.tmps w.heap.size k with state := .exhausted }]:=by rw[<- hl3];simp
  rw[hset] at ext4 ok4;have hD3:w3.heap[w.heap.size]? = some (.deferred (some [])):=by
   rw[x1.blocks w.heap.size (by dsimp only;omega) (λo=>ok1.not_own hD1 o)]
   exact hD1
  have hD4:(bK w3 (w.heap.size+1) (.loop { s.rcd fn a.tmps w.heap.size k with state := .exhausted })).heap[w.heap.size]? = some (.deferred (some [])):=(bQ (by omega)).trans hD3;have extA:Ext ⟨H,bs,w,ctx.F⟩ ⟨H3++[.loop { s.rcd fn a.tmps w.heap.size k with state := .exhausted }],bs3,bK w3 (w.heap.size+1) (.loop { s.rcd fn a.tmps w.heap.size k with state := .exhausted }),ctx.F⟩:=(ext1.trans x1).trans ext4;have sat:Sat n ctx t { a with defers:=[{ target := .collected w.heap.size,args:=#[] }]++a.defers } (bK w3 (w.heap.size+1) (.loop { s.rcd fn a.tmps w.heap.size k with state := .exhausted })):=by
   refine hj { s.rcd fn a.tmps w.heap.size k with state := .exhausted } ctx _ _ ⟨bs3,{ h:=rfl,ok:=ok4,ext:=hs.ext.trans extA,env := ?_,size:=hs.size,low:=hs.low,defers := ?_,nod:=λh=>(by rw[hrg] at h;cases h),outs:=λp hp=>(hs.outs p hp).ext extA }⟩
   ·exact hs.env.ext extA
   ·refine⟨⟨w.heap.size,rfl,hs.ext.size,hD4,?_⟩,vQ.ext hs.ok extA hs.defers⟩
    intro d' hd' e;subst e;have key:∀(ds:List Deferred),vQ ctx.w.heap.size w ds->({ target := .collected w.heap.size,args:=#[] }:Deferred)∈ds->False:=by
     intro ds
     induction ds with
     | nil=>intro _ h;cases h
     | cons d ds ih=>
      rintro⟨⟨D,g1,g2,g3,g4⟩,g5⟩ h;rcases List.mem_cons.1 h with h | h
      ·rw[g1] at h;simp only[Deferred.mk.injEq,Target.collected.injEq,and_true] at h;rw[<- h,Array.getElem?_eq_none (Nat.le_refl _)] at g3;cases g3
      ·exact ih g5 h
    exact key _ hs.defers hd'
  have hpend:(s.rcd fn a.tmps w.heap.size k).pending=k:=by cases k <;> rfl
  rw[hpend]
  cases k with
  | none=>exact⟨t,hq,sat⟩
  | some c'=>
   have:=hq ctx _ _ sat;rw[hwide] at this;exact this
end
def zX : Code->List Nat->Code
 | .seq a _,0 :: r=>zX a r
 | .seq _ b,1 :: r=>zX b r
 | .cond _ a _,0 :: r=>zX a r
 | .cond _ _ b,1 :: r=>zX b r
 | .block _ a,0 :: r=>zX a r
 | .loop a,0 :: r=>zX a r
 | .scope a,0 :: r=>zX a r
 | .rangeFunc _ _ a _,0 :: r=>zX a r
 | .rangeFunc _ _ _ b,1 :: r=>zX b r
 | c,_=>c
def aED(n:Nat)(b:Option Code)(path:List Nat):aFp:=
 match b with
 | some c=>match zX c path with
  | .rangeFunc _ ps a b=>⟨n,ps.toList,a,b⟩
  | _=>⟨n,[],.skip,.skip⟩
 | none=>⟨n,[],.skip,.skip⟩
end Go.UK

namespace Go.UK
open Go
set_option linter.all false
variable [bS]
section
variable {α:Type} {q:IntKind} {f:α→AV} {w:World} {M:Nat→Nat→Prop}
end
section
variable {P:Program} {T:TypeId→Option TI} {n:Fr}
end
end Go.UK

namespace Go.UK
open Go Go.Proofs Go.Maps
set_option linter.all false
variable [bS]
section
variable {P:Program} {α:Type} {F:α→AV}
end
end Go.UK

namespace Go.UK
open Go
set_option linter.all false
variable [bS]
section
variable {P:Program} {T:TypeId→Option TI} {n:Fr}
theorem aVL{μ:Mem}{x:Value}(h:x.oneCell'=true):Rv0 μ (.v x) x:=aBd h
end
end Go.UK

namespace Go.UK
open Go Go.Proofs
set_option linter.all false
variable [bS]
section
variable {P:Program} {ρ:Shelf.Ren}
end
end Go.UK

