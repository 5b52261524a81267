/- The own layer: abstract values, their memory, and the steps of the model over them: for any program. -/
import Derived.Test.YtfndgielkmppbaaDoorLib9
import Derived.MapFrom
import Derived.Carry
import Derived.Shelf.SlIterI.Nil
import Derived.Shelf.SortM.Plain
import Derived.Shelf.SortM.SortNone
import Derived.Shelf.Strings.Split
import Derived.Shelf.Strconv.ParseIntPublic10
import Derived.Shelf.Strconv.Itoa4
open List renaming getElem?_eq_getElem→af,getElem?_map→bq,map_append→cf
namespace Go.UK
open Go
set_option linter.all false
variable [bA]
section
variable {P:Program} {T:TypeId→Option TI} {n:Fr}
theorem qR(w:World)(o:Obj):bV w (w.alloc o):=⟨by simp,λ_ h=>jK h,rfl,rfl,rfl⟩
theorem rE{α:Type}:∀(σ:List Nat) (A B:List α) (x y:α),B.length=σ.length->(∀s∈σ,s < A.length)->eH (A++[x]) (σ++[A.length]) (B++[y])=eH A σ B++[y]
 | [],A,[],x,y,_,_=>by simp[eH]
 | [],A,b :: B,x,y,h,_=>by simp at h
 | s :: σ,A,[],x,y,h,_=>by simp at h
 | s :: σ,A,b :: B,x,y,h,hs=>by
  have h1:=hs s (List.mem_cons_self ..)
  have ih:=rE σ (A.set s b) B x y (by simpa using h) (λq hq=>by have:=hs q (List.mem_cons_of_mem _ hq);simpa using this)
  simp only[List.cons_append,eH]
  rw[List.set_append_left _ _ h1]
  rw[List.length_set] at ih;exact ih
def rngE(g:Operand)(need:Env):Option (FuncId×List AV):=
 match opd need none g with
 | some (.fn (.func f) [] cap)=>match kC cap with | true=>some (f,cap) | false=>none
 | _=>none
def rngB(H:List Box)(σ0:List Nat)(Hc Hc':List Box)(args:List AV)(env:Env)(r:Loop):Bool:=
 uH (σ0++[H.length])&&(zB H.length σ0&&(Nat.beq σ0.length Hc.length&&(Nat.beq Hc'.length Hc.length&&(hZ (Hc++[.loop r]) (Hc++[.loop r])&&(lowL (Hc++[.loop r]) args&&kM (Hc++[.loop r]) env)))))
theorem aEC{s:aCQ}{env:Env}{Hc Hc':List Box}{args:List AV}{ret:AV}{k:Option Code}{f:FuncId}(I:ItM P f s env Hc args ret Hc' k)(hf:fH P f){g:Operand}{c:Code}{σ0:List Nat}{st t:ASt}{caps:List AV}{Q:Exit->ASt->Prop}
  (hcode:c = .rangeFunc g s.ps.toArray s.assign s.body) (hn:n.ro=none) (hrg:n.rg=true) (hm:n.n=s.n) (hg:rngE g st.env=some (f,caps))
  (hB:∀r,rngB st.H σ0 Hc Hc' args env r=true)
  (hE:∀r,(wkL (.yld st.H.length :: caps) (renL (rn (σ0++[st.H.length]) (st.H.length+1)) args),iH (st.H++[Box.loop r]) (σ0++[st.H.length]),uP st.env (swE (rn (σ0++[st.H.length]) (st.H.length+1)) env))
   = (renL (rn (σ0++[st.H.length]) (st.H.length+1)) args,(Hc++[Box.loop r]).map (cY (rn (σ0++[st.H.length]) (st.H.length+1))),swE (rn (σ0++[st.H.length]) (st.H.length+1)) env))
  (hj:∀r,JR n t ⟨st.env,eH st.H σ0 (Hc'.map (cY (rn (σ0++[st.H.length]) (st.H.length+1))))++[.loop r]⟩)
  (hq:match k with | none=>Q .normal t | some c'=>aw P n c' Q t):aw P n c Q st:=by
 subst hcode;rintro ctx a w ⟨bs,hs⟩
 obtain⟨env0,H⟩:=st;dsimp only at *;refine wpIn_rangeFunc ?_;intro fn _;have hwide:n.F=Fence.wide:=Fr.wide hn;have hround:n.F.round=none:=by rw[hwide];rfl
 rw[hround]
 generalize hr:s.rcd fn a.tmps w.heap.size none=r;generalize hw1:(w.alloc (.deferred (some []))).alloc (.loop r)=w1;have hb:=hB r;unfold rngB at hb;simp only[Bool.and_eq_true] at hb;obtain⟨b1,b2,b3,b4,b5,b6,b7⟩:=hb;have b3:=Nat.eq_of_beq_eq_true b3;have b4:=Nat.eq_of_beq_eq_true b4;have hσ:=oO b2;have he:=hE r;simp only[Prod.mk.injEq] at he;obtain⟨e1,e2,e3⟩:=he;have hbl:bs.length=H.length:=hs.ok.len
 -- the record and the mark are laid
 have later:bV w w1:=by rw[<- hw1];exact(qR _ _).trans (qR _ _)
 have hsz1:w1.heap.size=w.heap.size+2:=by rw[<- hw1];simp
 have hL1:w1.heap[w.heap.size+1]? = some (.loop r):=by
  rw[<- hw1]
  have:=World.alloc_heap_new (w.alloc (.deferred (some []))) (.loop r)
  rwa[World.size_alloc] at this
 have hD1:w1.heap[w.heap.size]? = some (.deferred (some [])):=by
  rw[<- hw1]
  exact(jK (by simp)).trans (World.alloc_heap_new w _)
 have ext1:=Ext.snoc (F:=ctx.F) hs.ok.len later (.loop r) (some (w.heap.size+1)) (by intro b e;cases e;omega)
 have ok1:=OK.snoc hs.ok later (x := .loop r) (o:=some (w.heap.size+1)) (by intro b e;cases e;omega) ⟨_,rfl,hL1⟩
 -- what is ranged over
 unfold rngE at hg;split at hg <;> try cases hg
 rename_i f' cap hgo;split at hg <;> cases hg;rename_i hag;have hcv:=aY hs.env noG hgo;have hcv':∃cs:List Value,a.eval g = .func (.func f) #[] cs.toArray/\RcL ⟨H,bs,w,ctx.F⟩ caps cs:=by
  have:∃as1 cs:List Value,a.eval g = .func (.func f) as1.toArray cs.toArray/\RcL ⟨H,bs,w,ctx.F⟩ [] as1/\RcL ⟨H,bs,w,ctx.F⟩ caps cs:=by
   simpa[Rv,Rv0,AV.isAgg,Rc] using hcv
  obtain⟨as1,cs,h1,h2,h3⟩:=this;simp only[RcL] at h2;subst h2;exact⟨cs,h1,h3⟩
 obtain⟨cs,hgv,hcs⟩:=hcv';refine⟨w.heap.size+1,[{ target := .collected w.heap.size,args:=#[] }],w1,{ target := .fn (.func f) cs.toArray,args:=#[.func (.yield (w.heap.size+1)) #[] #[]] },w1,f,#[.func (.yield (w.heap.size+1)) #[] #[]]++cs.toArray,w1,?_,?_,λ_ _=>trivial,?_,λh=>(by rw[hwide] at h;cases h),?_⟩
 ·rw[<- hw1,<- hr]
  exact run_enterLoop_outer _ _ _ _ _
 ·simp only[resolve,hgv,Deferred.ofValue,Sem.run_pure]
  simp[Act.eval]
 ·obtain⟨⟨fd,h1,h2,h3⟩,_⟩:=hf;simp only[invoke,callFunc,Sem.run_bind,run_program,Result.andThen_ok,h1,h2,h3,Bool.false_eq_true,if_false,Sem.run_pure]
 ·rw[hwide]
  refine callsIn_wide.2 ?_
  -- its boxes among all
  have L:wV (H++[Box.loop r]) (bs++[some (w.heap.size+1)]) (σ0++[H.length]) (Hc++[.loop r]):=⟨nD b1,by simp[b3],λi y hy=>by
   have hi:=aO hy;have hi2:i < (σ0++[H.length]).length:=by simp at hi ⊢;omega
   refine⟨_,af hi2,?_⟩
   have h2:(iH (H++[Box.loop r]) (σ0++[H.length]))[i]? = some (cY (rn (σ0++[H.length]) (H.length+1)) y):=by rw[e2,bq,hy];rfl
   unfold iH at h2;rw[bq,af hi2] at h2;simp only[Option.map_some,Option.some.injEq] at h2;have h3:(σ0++[H.length])[i] < (H++[Box.loop r]).length:=by
    have:(σ0++[H.length])[i]∈σ0++[H.length]:=List.getElem_mem hi2;rcases List.mem_append.1 this with h | h
    ·have:=hσ _ h;simp;omega
    ·simp only[List.mem_singleton] at h;rw[h];simp
   rw[af h3] at h2 ⊢;rw[show(H++[Box.loop r]).length=H.length+1 by simp]
   simpa using h2⟩
  have okc:=wA (w:=w1) (F:=ctx.F) L ok1 b5;have less:=lG (w:=w1) (F:=ctx.F) L ok1.len;have hlen1:(H++[Box.loop r]).length=H.length+1:=by simp
  rw[hlen1] at less;have hbsc:(eU (H++[Box.loop r]) (bs++[some (w.heap.size+1)]) w1 ctx.F (σ0++[H.length]) (Hc++[.loop r])).bs=σ0.map (λs=>((bs++[some (w.heap.size+1)])[s]?).getD none)++[some (w.heap.size+1)]:=by
   show(σ0++[H.length]).map (λs=>((bs++[some (w.heap.size+1)])[s]?).getD none)=_;rw[cf]
   simp[<- hbl]
  have hmem:eU (H++[Box.loop r]) (bs++[some (w.heap.size+1)]) w1 ctx.F (σ0++[H.length]) (Hc++[.loop r])=⟨Hc++[.loop r],σ0.map (λs=>((bs++[some (w.heap.size+1)])[s]?).getD none)++[some (w.heap.size+1)],w1,λb o=>ctx.F b o\/rest (H++[Box.loop r]) (bs++[some (w.heap.size+1)]) (σ0++[H.length]) b o⟩:=by
   rw[<- hbsc];rfl
  have hyl:Rv0 ⟨H++[Box.loop r],bs++[some (w.heap.size+1)],w1,ctx.F⟩ (.yld H.length) (.func (.yield (w.heap.size+1)) #[] #[]):=by
   simp only[Rv0,AV.isAgg,Rc,Bool.false_eq_true,if_false]
   refine⟨w.heap.size+1,r,?_,?_,rfl⟩
   ·rw[<- hbl];simp
   ·simp
  have hall:RvL ⟨H++[Box.loop r],bs++[some (w.heap.size+1)],w1,ctx.F⟩ (.yld H.length :: caps) (.func (.yield (w.heap.size+1)) #[] #[] :: cs):=⟨_,_,rfl,hyl,(RcL.ext ext1 _ _ hcs).rvl (jY hag)⟩
  have hargs:RvL ⟨H++[Box.loop r],bs++[some (w.heap.size+1)],w1,ctx.F⟩ (renL (rn (σ0++[H.length]) (H.length+1)) args) (.func (.yield (w.heap.size+1)) #[] #[] :: cs):=by
   rw[<- e1]
   exact rW hall
  have hEnv:dM (eU (H++[Box.loop r]) (bs++[some (w.heap.size+1)]) w1 ctx.F (σ0++[H.length]) (Hc++[.loop r])) env a.tmps:=by
   refine aCn less b7 ?_;rw[<- e3]
   exact aBQ (hs.env.ext ext1) _
  have hArg:=mW less b6 hargs;have okc':=okc;rw[hmem] at okc' hEnv hArg;have hI:=I w1 _ _ (w.heap.size+1) _ fn a.tmps w.heap.size (by rw[hr];exact okc') (by rw[hs.size,hm]) (by rw[hr];exact hEnv) (by rw[hr];exact hArg)
  have hargs2:(Value.func (.yield (w.heap.size+1)) #[] #[] :: cs).toArray=#[.func (.yield (w.heap.size+1)) #[] #[]]++cs.toArray:=by
   rw[<- Array.toList_inj];simp
  rw[<- hargs2]
  refine hI.mono ?_;rintro e w3 ⟨y,bc,rfl,ext,ok',_⟩
  rw[hr,<- hmem] at ext;obtain⟨x1,x2,_⟩:=tZ ok1 L okc ext ok';have hout:bU (H++[Box.loop r]) (σ0++[H.length]) (Hc'++[.loop (s.rcd fn a.tmps w.heap.size k)])=eH H σ0 (Hc'.map (cY (rn (σ0++[H.length]) (H.length+1))))++[.loop (s.rcd fn a.tmps w.heap.size k)]:=by
   unfold bU;rw[hlen1,List.take_of_length_le (by simp;omega),List.drop_of_length_le (by simp;omega),List.map_nil,List.append_nil,cf]
   exact rE σ0 H _ _ _ (by simp;omega) hσ
  rw[hout] at x1 x2;generalize hbs3:jU (bs++[some (w.heap.size+1)]) (σ0++[H.length]) bc=bs3 at x1 x2;generalize hH3:eH H σ0 (Hc'.map (cY (rn (σ0++[H.length]) (H.length+1))))=H3 at x1 x2 hj;have hl3:H3.length=H.length:=by rw[<- hH3,cH]
  have hbs4:bs3[H.length]? = some (some (w.heap.size+1)):=by
   obtain⟨_,g⟩:=x1.loops H.length r (by simp)
   refine g.trans ?_;dsimp only;rw[<- hbl]
   simp
  have hlp:(H3++[Box.loop (s.rcd fn a.tmps w.heap.size k)])[H.length]? = some (.loop (s.rcd fn a.tmps w.heap.size k)):=by rw[<- hl3];simp
  obtain⟨b',eb,hheap⟩:=x2.box H.length _ _ hbs4 hlp;cases eb;have hheap:w3.heap[w.heap.size+1]? = some (.loop (s.rcd fn a.tmps w.heap.size k)):=hheap;refine⟨_,_,run_endLoop hheap (by cases k <;> simp[aCQ.rcd]),?_⟩
  have ext4:=Ext.put (x' := .loop { s.rcd fn a.tmps w.heap.size k with state := .exhausted }) (o' := .loop { s.rcd fn a.tmps w.heap.size k with state := .exhausted }) hbs4 hlp rfl rfl x2 (rH hheap)
  have ok4:=OK.put (x' := .loop { s.rcd fn a.tmps w.heap.size k with state := .exhausted }) (o' := .loop { s.rcd fn a.tmps w.heap.size k with state := .exhausted }) hbs4 hlp rfl rfl x2 (rH hheap) ⟨_,rfl,cC (cQ hheap)⟩
  have hset:(H3++[Box.loop (s.rcd fn a.tmps w.heap.size k)]).set H.length (.loop { s.rcd fn a.tmps w.heap.size k with state := .exhausted })=H3++[.loop { s.rcd fn a.tmps w.heap.size k with state := .exhausted }]:=by rw[<- hl3];simp
  rw[hset] at ext4 ok4;have hD3:w3.heap[w.heap.size]? = some (.deferred (some [])):=by
   rw[x1.blocks w.heap.size (by dsimp only;omega) (λo=>ok1.not_own hD1 o)]
   exact hD1
  have hD4:(bE w3 (w.heap.size+1) (.loop { s.rcd fn a.tmps w.heap.size k with state := .exhausted })).heap[w.heap.size]? = some (.deferred (some [])):=(bQ (by omega)).trans hD3;have extA:Ext ⟨H,bs,w,ctx.F⟩ ⟨H3++[.loop { s.rcd fn a.tmps w.heap.size k with state := .exhausted }],bs3,bE w3 (w.heap.size+1) (.loop { s.rcd fn a.tmps w.heap.size k with state := .exhausted }),ctx.F⟩:=(ext1.trans x1).trans ext4;have sat:Sat n ctx t { a with defers:=[{ target := .collected w.heap.size,args:=#[] }]++a.defers } (bE w3 (w.heap.size+1) (.loop { s.rcd fn a.tmps w.heap.size k with state := .exhausted })):=by
   refine hj { s.rcd fn a.tmps w.heap.size k with state := .exhausted } ctx _ _ ⟨bs3,{ h:=rfl,ok:=ok4,ext:=hs.ext.trans extA,env := ?_,size:=hs.size,low:=hs.low,defers := ?_,nod:=λh=>(by rw[hrg] at h;cases h),outs:=λp hp=>(hs.outs p hp).ext extA }⟩
   ·exact hs.env.ext extA
   ·refine⟨⟨w.heap.size,rfl,hs.ext.size,hD4,?_⟩,iT.ext hs.ok extA hs.defers⟩
    intro d' hd' e;subst e;have key:∀(ds:List Deferred),iT ctx.w.heap.size w ds->({ target := .collected w.heap.size,args:=#[] }:Deferred)∈ds->False:=by
     intro ds
     induction ds with
     | nil=>intro _ h;cases h
     | cons d ds ih=>
      rintro⟨⟨D,g1,g2,g3,g4⟩,g5⟩ h;rcases List.mem_cons.1 h with h | h
      ·rw[g1] at h;simp only[Deferred.mk.injEq,Target.collected.injEq,and_true] at h;rw[<- h,Array.getElem?_eq_none (Nat.le_refl _)] at g3;cases g3
      ·exact ih g5 h
    exact key _ hs.defers hd'
  have hpend:(s.rcd fn a.tmps w.heap.size k).pending=k:=by cases k <;> rfl
  rw[hpend]
  cases k with
  | none=>exact⟨t,hq,sat⟩
  | some c'=>
   have:=hq ctx _ _ sat;rw[hwide] at this;exact this
end
end Go.UK

namespace Go.UK
open Go
set_option linter.all false
variable [bA]
section
variable {α:Type} {q:IntKind} {f:α→AV} {w:World} {M:Nat→Nat→Prop}
end
section
variable {P:Program} {T:TypeId→Option TI} {n:Fr}
theorem aAV(w:World)(o:Obj):bV w (w.alloc o):=⟨by simp,λ_ h=>jK h,rfl,rfl,rfl⟩
end
end Go.UK

namespace Go.UK
open Go Go.Proofs Go.Maps
set_option linter.all false
variable [bA]
section
variable {P:Program} {α:Type} {F:α→AV}
theorem aDe{μ:Mem}(ok:μ.OK){b o:Nat}(h:μ.own b o):b < μ.w.heap.size:=by
 obtain⟨id,h1,h2⟩:=h;rcases h2 with ⟨x,h2,h3⟩ | ⟨m,h2,h3⟩
 ·exact bP ok h1 h2 (Box.whole_live h3)
 ·exact bP ok h1 h2 (by simp)
end
end Go.UK

open Go.Result renaming andThen→cv,andThen_ok→ak
namespace Go.UK
open Go
set_option linter.all false
variable [bA]
section
variable {P:Program} {T:TypeId→Option TI} {n:Fr}
theorem tS{w:World}{b:Nat}{s s':ByteArray}{p p':Nat}(h:w.heap[b]? = some (.stringIter s p))(a:Addr):(bE w b (.stringIter s' p')).frozen? a=w.frozen? a:=by
 unfold World.frozen? bE;by_cases h':b=a.block
 ·subst h';have hlt:=cQ h;rw[h]
  simp[hlt]
 ·simp[Array.getElem?_setIfInBounds_ne h']
def aFJ(o:Oper)(need:Env):Option (TypeId×ByteArray):=
 match o.op with
 | .range t x=>match opd need none x with
  | some (.v (.string s))=>some (t,s)
  | _=>none
 | _=>none
theorem aEX{t:Nat}{s:ByteArray}{o:Oper}{need:Env}{H:List Box}(ht:P.underlying t=some .string)(hd:dOK n.n o.dst=true)(h:aFJ o need=some (t,s)):Big P n o need H (.it H.length) (H++[.mp (.it s 0)]):=by
 refine eQ hd λa μ ok hH hE=>?_;obtain⟨H0,bs,w,F⟩:=μ;dsimp only at hH;subst hH;unfold aFJ at h;split at h <;> try cases h
 rename_i t' x ho;split at h <;> cases h;rename_i hx;have ex:=bH (aY hE noG hx)
 have hl:bs.length=H0.length:=ok.len;have hbox:(⟨H0++[.mp (.it s 0)],bs++[some w.heap.size],w.alloc (.stringIter s 0),F⟩:Mem).boxOK (some w.heap.size) (.mp (.it s 0)):=⟨w.heap.size,rfl,cZ⟩
 refine⟨⟨H0++[.mp (.it s 0)],bs++[some w.heap.size],w.alloc (.stringIter s 0),F⟩,⟨.pointer (some ⟨w.heap.size,0,none⟩),?_,?_,Ext.snoc ok.len (aAV w _) _ _ (λb e=>by cases e;exact Nat.le_refl _),OK.snoc ok (aAV w _) (λb e=>by cases e;exact Nat.le_refl _) hbox⟩,rfl⟩
 ·simp[execOp,ho,ex,Instr.range,run_underlying ht,cv,run_newObj,World.alloc_eq]
 ·show Rv0 _ _ _;simp only[Rv0,AV.isAgg,Rc,Bool.false_eq_true,if_false]
  refine⟨w.heap.size,.it s 0,?_,?_,rfl⟩
  ·show(bs++[some w.heap.size])[H0.length]? = _;rw[<- hl];simp
  ·show(H0++[Box.mp (.it s 0)])[H0.length]? = _;simp
theorem sU{μ:Mem}{x:Value}(h:x.oneCell'=true):Rv0 μ (.v x) x:=lN h
def nxtE(o:Oper)(need:Env):Option Nat:=
 match o.op with
 | .next x true=>match opd need none x with
  | some (.it id)=>some id
  | _=>none
 | _=>none
theorem aFV{μ:Mem}{id:Nat}{y:Value}(h:Rv μ (.it id) y):∃b c,μ.bs[id]? = some (some b)/\μ.H[id]? = some (.mp c)/\y = .pointer (some ⟨b,0,none⟩):=by
 have h:Rv0 μ (.it id) y:=h;simp only[Rv0,AV.isAgg,Rc,Bool.false_eq_true,if_false] at h;obtain⟨b,kvs,h1,h2,h3⟩:=h;exact⟨b,kvs,h1,h2,by simpa using h3⟩
def iS(s:ByteArray)(p:Nat):Int:=((Utf8.decode s p).1:Int)
def fU(s:ByteArray)(p:Nat):Nat:=p+(Utf8.decode s p).2
theorem aDK{s:ByteArray}{p id:Nat}(hp:decide (p < s.size)=true){o:Oper}{need:Env}{H:List Box}(hd:dOK n.n o.dst=true)(h:nxtE o need=some id)(hH:H[id]? = some (.mp (.it s p))) :
  Big P n o need H (.tup [.v (.bool true),.v (.int .i64 (p:Int)),.v (.int .i32 (iS s p))]) (H.set id (.mp (.it s (fU s p)))):=by
 refine eQ hd λa μ ok hH' hE=>?_;obtain⟨H0,bs,w,F⟩:=μ;dsimp only at hH';subst hH';unfold nxtE at h;split at h <;> try cases h
 rename_i x t' ho;split at h <;> cases h;rename_i hx;obtain⟨b,c,h1,h2,h3⟩:=aFV (aY hE noG hx)
 obtain⟨b',e,hheap⟩:=ok.box id _ _ h1 hH;cases e;have hp:p < s.size:=of_decide_eq_true hp;have hlt:b < w.heap.size:=cQ hheap;have ext:=Ext.put (F:=F) (x' := .mp (.it s (fU s p))) (o' := .stringIter s (fU s p)) h1 hH rfl rfl ok (tS hheap)
 have ok2:=OK.put (F:=F) (x' := .mp (.it s (fU s p))) (o' := .stringIter s (fU s p)) h1 hH rfl rfl ok (tS hheap) ⟨b,rfl,cC hlt⟩
 have hset:∀o:Obj,(setObj b o).run P w = .ok () (bE w b o):=λo=>by simp[setObj,Sem.run,hheap,bE]
 have hget:(getObj b).run P w = .ok (.stringIter s p) w:=by simp[getObj,Sem.run,hheap]
 refine⟨_,⟨.tuple #[.bool true,.int .i64 (p:Int),.int .i32 (iS s p)],?_,?_,ext,ok2⟩,rfl⟩
 ·simp[execOp,ho,h3,Instr.next,hget,hp,hset,cv,iS,fU,goInt]
 ·exact⟨_,rfl,_,_,rfl,sU rfl,_,_,rfl,sU rfl,_,_,rfl,sU rfl,rfl⟩
theorem aDF{s:ByteArray}{p id:Nat}(hp:decide (p < s.size)=false){o:Oper}{need:Env}{H:List Box}(hd:dOK n.n o.dst=true)(h:nxtE o need=some id)(hH:H[id]? = some (.mp (.it s p))) :
  Big P n o need H (.tup [.v (.bool false)]) H:=by
 refine eQ hd λa μ ok hH' hE=>?_;obtain⟨H0,bs,w,F⟩:=μ;dsimp only at hH';subst hH';unfold nxtE at h;split at h <;> try cases h
 rename_i x t' ho;split at h <;> cases h;rename_i hx;obtain⟨b,c,h1,h2,h3⟩:=aFV (aY hE noG hx)
 obtain⟨b',e,hheap⟩:=ok.box id _ _ h1 hH;cases e;have hp:¬p < s.size:=of_decide_eq_false hp;have hget:(getObj b).run P w = .ok (.stringIter s p) w:=by simp[getObj,Sem.run,hheap]
 refine⟨_,⟨.tuple #[.bool false],?_,?_,Ext.refl _,ok⟩,rfl⟩
 ·simp[execOp,ho,h3,Instr.next,hget,hp,cv]
 ·exact⟨_,rfl,_,_,rfl,sU rfl,rfl⟩
def xC(x y:ByteArray):Option ByteArray:=cond (decide (x.size+y.size<=9223372036854775807)) (some (x++y)) none
theorem aGO{x y z:ByteArray}(h:xC x y=some z):z=x++y/\x.size+y.size<=9223372036854775807:=by
 unfold xC at h;cases hc:decide (x.size+y.size<=9223372036854775807) with
 | false=>rw[hc] at h;cases h
 | true=>rw[hc] at h;exact⟨(Option.some.inj h).symm,of_decide_eq_true hc⟩
def catE(o:Oper)(need:Env):Option (ByteArray×ByteArray):=
 match o.op with
 | .binOp .add _ x y _=>match opd need none x,opd need none y with
  | some (.v (.string a)),some (.v (.string b))=>some (a,b)
  | _,_=>none
 | _=>none
theorem aBg{x y z:ByteArray}(hx:xC x y=some z){o:Oper}{need:Env}{H:List Box}(hd:dOK n.n o.dst=true)(h:catE o need=some (x,y)):Big P n o need H (eS z) H:=by
 obtain⟨rfl,hl⟩:=aGO hx;refine eQ hd λa μ ok hH hE=>⟨μ,?_,hH⟩
 unfold catE at h;split at h <;> try cases h
 rename_i t xo yo t' ho;split at h <;> cases h;rename_i h1 h2;have e1:=bH (aY hE noG h1)
 have e2:=bH (aY hE noG h2)
 refine cX.here (y := .string (x++y)) ok ?_ (lN rfl)
 have hm:¬((x.size+y.size:Nat):Int) > IntKind.i64.max:=by
  rw[show IntKind.i64.max=9223372036854775807 from rfl]
  omega
 simp only[execOp,ho,e1,e2,Sem.run_bind]
 rw[nZ .add t xo yo (by simp) (by simp),ak]
 simp only[binOp,Op.stringOp,if_neg hm,Sem.run_pure,ak]
end
end Go.UK

namespace Go.UK
open Go Go.Proofs
set_option linter.all false
variable [bA]
def oM(s sep:ByteArray):Option (List ByteArray):=cond (decide (s.size < 4294967281)&&decide (sep.size=1)) (some (Lib.splitB sep 0 (Lib.countB s sep) s)) none
theorem aDq{s sep:ByteArray}{r:List ByteArray}(h:oM s sep=some r):r=Lib.splitB sep 0 (Lib.countB s sep) s/\s.size < 4294967281/\sep.size=1:=by
 unfold oM at h;cases hc:(decide (s.size < 4294967281)&&decide (sep.size=1)) with
 | false=>rw[hc] at h;cases h
 | true=>
  rw[hc] at h;simp only[Bool.and_eq_true,decide_eq_true_eq] at hc;exact⟨by simpa using h.symm,hc.1,hc.2⟩
def lC(s:ByteArray):Option Int:=cond (decide (s.size<=140737488355328)) (match Lib.parseIntB 64 s.data.toList with | .ok v=>some v | _=>none) none
theorem aDm{s:ByteArray}{v:Int}(h:lC s=some v):Lib.parseIntB 64 s.data.toList = .ok v/\s.size<=140737488355328:=by
 unfold lC at h;cases hc:decide (s.size<=140737488355328) with
 | false=>rw[hc] at h;cases h
 | true=>
  rw[hc] at h;refine⟨?_,of_decide_eq_true hc⟩
  simp only[cond_true] at h;split at h
  ·rename_i e;cases h;exact e
  ·cases h
section
variable {P:Program} {ρ:Shelf.Ren}
theorem yV{w:World}{M:Nat->Nat->Prop}:∀r:List ByteArray,RdL w M (r.map eS) (r.map Value.string)
 | []=>by simp[RdL]
 | x :: r=>by
  simp only[List.map_cons,RdL]
  exact⟨[.string x],_,rfl,by simp[Rd,eS,Value.oneCell'],yV r⟩
theorem aDn(L:Lays.n221 P ρ)(L1:Lays.n143 P ρ)(L2:Lays.n138 P ρ)(hi9:(P.info? (ρ.t 9)).map (λi=>(i.zero,i.size,i.bytes))=some (some (.string ByteArray.empty),1,16)){f:Nat}(hf:ρ.f 221=f){s sep:ByteArray}{r:List ByteArray}(h:oM s sep=some r) :
  FnM P f [] [eS s,eS sep,.v (.int .i64 0),.v (.int .i64 (-1))] (eL 1 eS r) []:=by
 subst hf;obtain⟨rfl,h0,h1⟩:=aDq h;rintro w G bs vs ok ⟨y0,r0,rfl,g0,y1,r1,rfl,g1,y2,r2,rfl,g2,y3,r3,rfl,g3,rfl⟩
 have e0:=bH (iE g0)
 have e1:=bH (iE g1)
 have e2:=bH (iE g2)
 have e3:=bH (iE g3)
 subst e0 e1 e2 e3;obtain⟨c,rfl⟩:=Lib.one_byte sep h1;have hcnt:Lib.countB s ⟨#[c]⟩=Lib.count s.data.toList [c]:=rfl;have hle:=Lib.countB_le (⟨#[c]⟩:ByteArray) (by rw[h1];omega) s.size s (Nat.le_refl _)
 have hlen:=Lib.splitB_all (⟨#[c]⟩:ByteArray) (by rw[h1];omega) 0 _ s rfl;have C:=Any.strings_genSplit_core L hi9 s ⟨#[c]⟩ 0 (-1) (Lib.countB s ⟨#[c]⟩+1) w h0 (by rw[h1];omega) (Nat.zero_le _)
  (λx c' hx=>(Any.strings_Index_one L1 x c _).mono λe w' ⟨he,hw⟩=>⟨by
   rw[he]
   show _=Ending.returned (Value.int .i64 (Lib.index x.data.toList [c]))
   rw[Lib.index_one],hw⟩)
  ((Any.strings_Count_one L2 s c w).mono λe w' ⟨he,hw⟩=>⟨by
   rw[he]
   show _=Ending.returned (Value.int .i64 ((Lib.count s.data.toList [c]:Nat):Int))
   rw[Lib.count_one]
   rfl,hw⟩)
  (by decide) (by decide) (by rw[if_pos (by decide)];omega)
 rw[Nat.add_sub_cancel,hlen] at C;refine Calls.mono C ?_;rintro e w' ⟨rfl,rfl⟩
 have later:=aAV w (.cells (Lib.cellsOf (Lib.splitB ⟨#[c]⟩ 0 (Lib.countB s ⟨#[c]⟩) s) (Lib.countB s ⟨#[c]⟩+1)) (ρ.t 9))
 rw[show Lib.cellsOf (Lib.splitB ⟨#[c]⟩ 0 (Lib.countB s ⟨#[c]⟩) s) (Lib.countB s ⟨#[c]⟩+1)=((Lib.splitB ⟨#[c]⟩ 0 (Lib.countB s ⟨#[c]⟩) s).map Value.string).toArray by rw[<- hlen];exact Lib.cellsOf_full _] at later ⊢;generalize hR:Lib.splitB ⟨#[c]⟩ 0 (Lib.countB s ⟨#[c]⟩) s=R at *;rw[<- hlen]
 refine⟨_,bs,rfl,Ext.later later,OK.later later ok,?_⟩
 show Rv0 _ (.sl 1 R.length (R.map eS)) _;simp only[Rv0,AV.isAgg,Rc,Bool.false_eq_true,if_false]
 refine⟨by simp,some ⟨w.heap.size,0,none⟩,R.length,by simp,by simp,?_,.inr ⟨w.heap.size,0,R.map Value.string,rfl,yV R,?_⟩⟩
 ·intro e he;obtain⟨x,_,rfl⟩:=List.mem_map.1 he;rfl
 ·intro j y hj;refine⟨?_,?_⟩
  ·simp only[Nat.zero_add,World.cell?,cZ]
   simpa using hj
  ·rintro(hF | hO)
   ·have:=ok.foreign _ _ hF;dsimp only at this;omega
   ·have:=aDe ok (show(⟨_,bs,w,G⟩:Mem).own w.heap.size (0+j) from hO)
    dsimp only at this;omega
theorem aDV(L:LaysC.n174 P ρ){f:Nat}(hf:ρ.f 174=f){s:ByteArray}{v:Int}(h:lC s=some v):FnM P f [] [eS s,.v (.int .i64 10),.v (.int .i64 64)] (.tup [.v (.int .i64 v),.v .nilIface]) []:=by
 subst hf;obtain⟨h0,h1⟩:=aDm h;rintro w G bs vs ok ⟨y0,r0,rfl,g0,y1,r1,rfl,g1,y2,r2,rfl,g2,rfl⟩
 have e0:=bH (iE g0)
 have e1:=bH (iE g1)
 have e2:=bH (iE g2)
 subst e0 e1 e2;refine Calls.mono (Any.strconv_ParseInt_10_at64_ok L s (by omega) v h0 w) ?_;rintro e w' ⟨rfl,hw⟩
 have later:bV w w':=by
  rcases hw with rfl | ⟨t,rfl⟩
  ·exact bV.refl _
  ·exact⟨by rw[Go.Lib.bytesWorld_size];omega,λb hb=>Go.Lib.bytesWorld_at_old w _ t b hb,fz_os w _ t,aEq w _ t,aF8 w _ t⟩
 exact⟨_,bs,rfl,Ext.later later,OK.later later ok,⟨_,rfl,_,_,rfl,sU rfl,_,_,rfl,sU rfl,rfl⟩⟩
end
end Go.UK

