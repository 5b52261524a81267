/- A part of the proof: what the functions of the program compute. -/
import Derived.Test.YtghnafefpogjjaaGreatJ3
namespace Go.UK
open Go Go.Proofs
set_option maxRecDepth 20000
set_option maxHeartbeats 2000000
set_option linter.all false
theorem TU.map {ι ρ α β:Type} {f:ι→Option ρ} {P:α→Prop} {P':β→Prop} {S:ι→α→ρ→Prop} {S':ι→β→ρ→Prop} (h:TU f P S) (g:α→β) (hp:∀ a,P a→P' (g a)) (hs:∀ i a r,P a→S i a r→S' i (g a) r):TU f P' S':=by
 obtain ⟨a,pa,h⟩:=h
 refine ⟨g a,hp a pa,fun i=>?_⟩
 obtain ⟨r,e,s⟩:=h i
 exact ⟨r,e,hs i a r pa s⟩
theorem aCV (a k:Int):cV a (I64 (a+k)) k:=⟨bK (aJ9 _) (aIr _),fun _=>cS _⟩
def exC (c n:Int):Prop:=c=n
def amC (c n:Int):Prop:=0≤c∧c≤n
theorem aNN {a b n m:Int} (h:exC a n) (h':exC b m):exC (a+b) (n+m):=by unfold exC at *;omega
theorem aMg {a b n m:Int} (h:amC a n) (h':amC b m):amC (a+b) (n+m):=by unfold amC at *;omega
theorem aG0 {a n m:Int} (h:exC a n) (e:n=m):exC a m:=e▸h
theorem aGr {a n m:Int} (h:amC a n) (e:n=m):amC a m:=e▸h
theorem aKw {a n m:Int} (h:amC a n) (e:n≤m):amC a m:=by unfold amC at *;omega
theorem aPg : exC 0 0:=rfl
theorem aKg : amC 0 0:=⟨Int.le_refl _,Int.le_refl _⟩
def wt (d:List bA):Nat→Int→Nat
 | 0,_=>0
 | k+1,e=>match d[e.toNat]? with
  | none=>0
  | some nd=>if 0≤nd.gA9 then 1+wt d k nd.gA9+wt d k nd.gB3 else 1+nd.gC0.toNat
def aIG (n:Nat) (d:List bA):Prop:=∀ i,(h:i < d.length)→aIc n d.length i d[i]
theorem aPt {n:Nat} {d:List bA} (hd:aIG n d):∀ (k:Nat) (e:Int),0≤e→d.length≤e.toNat+k→wt d (k+1) e=wt d k e:=by
 intro k
 induction k with
 | zero=>
  intro e h0 h
  unfold wt
  rw [List.getElem?_eq_none (by omega)]
 | succ k ih=>
  intro e h0 h
  rw [wt,wt]
  by_cases c:e.toNat < d.length
  ·rw [List.getElem?_eq_getElem c]
   have g:=hd _ c
   dsimp only
   split
   ·rename_i h2
    have:=g.1 h2
    rw [ih _ (by omega) (by omega),ih _ (by omega) (by omega)]
   ·rfl
  ·rw [List.getElem?_eq_none (by omega)]
def wk1 (d:List bA) (e:Int):Nat:=wt d d.length e
theorem aIz {n:Nat} {d:List bA} (hd:aIG n d) {e:Int} (h0:0≤e) (h:e.toNat < d.length) (hl:0≤d[e.toNat].gA9):wk1 d e=1+wk1 d d[e.toNat].gA9+wk1 d d[e.toNat].gB3:=by
 have g:=(hd _ h).1 hl
 obtain ⟨m,hm⟩:∃ m,d.length=m+1:=⟨d.length - 1,by omega⟩
 unfold wk1
 rw [hm]
 conv=>lhs;rw [wt]
 rw [List.getElem?_eq_getElem h]
 dsimp only
 rw [if_pos hl,aPt hd m _ (by omega) (by omega),aPt hd m _ (by omega) (by omega)]
theorem aJk {n:Nat} {d:List bA} (hd:aIG n d) {e:Int} (h0:0≤e) (h:e.toNat < d.length) (hl:¬ 0≤d[e.toNat].gA9):wk1 d e=1+d[e.toNat].gC0.toNat:=by
 obtain ⟨m,hm⟩:∃ m,d.length=m+1:=⟨d.length - 1,by omega⟩
 unfold wk1
 rw [hm,wt,List.getElem?_eq_getElem h]
 dsimp only
 rw [if_neg hl]
theorem aJT {n:Nat} {d:List bA} (hd:aIG n d) {e:Int} (h0:0≤e) (h:e.toNat < d.length):1≤wk1 d e:=by
 by_cases c:0≤d[e.toNat].gA9
 ·rw [aIz hd h0 h c];omega
 ·rw [aJk hd h0 h c];omega
def wW1 (b:aX) (l:List Int):Nat:=(l.map (wk1 b.gA6)).sum
theorem wC (b:aX) (x y:List Int):wW1 b (x++y)=wW1 b x+wW1 b y:=by unfold wW1;rw [List.map_append,List.sum_append]
theorem aBg (b:aX) (x:Int):wW1 b [x]=wk1 b.gA6 x:=by unfold wW1;simp
theorem aM6 (b:aX) (x y:Int):wW1 b [x,y]=wk1 b.gA6 x+wk1 b.gA6 y:=by unfold wW1;simp
theorem aGB {n:Nat} {b:aX} (hd:aIG n b.gA6) {l:List Int} (h:aOf b l):l.length≤wW1 b l:=by
 induction l with
 | nil=>exact Nat.zero_le _
 | cons x l ih=>
  have h1:=ih fun y hy=>h y (List.mem_cons_of_mem _ hy)
  have h2:=h x (List.mem_cons_self ..)
  have h3:=aJT hd (e:=x) h2.1 (by omega)
  have:wW1 b (x :: l)=wW1 b [x]+wW1 b l:=wC b [x] l
  rw [this,aBg,List.length_cons]
  omega
theorem aQx {n:Nat} {d:List bA} (hd:aIG n d) {R:List aG} {o:List Int} {D:Int→Prop} {i:Int} {f c:Nat} {L:List aZ} (h:Cv R o d D i f c L):L=[]→0≤i→wk1 d i+1≤3*c∧1≤c:=by
 induction h with
 | pend=>intro e;cases e
 | leaf i f c nd _ h2 h3 h4 h5 _ _=>
  intro _ h0
  obtain ⟨q,e⟩:=List.getElem?_eq_some_iff.1 h2
  have g:=(hd _ q).2 (by rw [e];exact h3)
  rw [e] at g
  have w:=aJk hd h0 q (by rw [e];omega)
  rw [e] at w
  omega
 | node i f c1 c2 nd L1 L2 _ h2 h3 _ _ _ _ i1 i2=>
  intro e h0
  obtain ⟨e1,e2⟩:=List.append_eq_nil_iff.1 e
  obtain ⟨q,e'⟩:=List.getElem?_eq_some_iff.1 h2
  have g:=(hd _ q).1 (by rw [e'];exact h3)
  rw [e'] at g
  have w:=aIz hd h0 q (by rw [e'];exact h3)
  rw [e'] at w
  have a1:=i1 e1 (by omega)
  have a2:=i2 e2 (by omega)
  omega
theorem aNH {gl:List aG} {b:aX} (hb:aBN gl.length b) (ht:wO gl b):wk1 b.gA6 0≤3*gl.length:=by
 rcases ht with ⟨_,h2⟩ | ⟨_,_,h3⟩
 ·rw [h2];exact Nat.zero_le _
 ·have:=aQx (d:=b.gA6) hb.2.2.2 h3 rfl (by decide)
  omega
theorem aSz {ι:Type} (N:Nat) (hN:100 < N) {b:aX} {gl:List aG} (h20:gl.length≤20) (o d:aC) (m s:Int) (t0:ι→Int) {l:List Int} (hl:ord gl.length l) (hl':l.length≤20) (t:ι→Int) {mt:aS} {x:Int} (hm:x < (gl.length:Int)∧pX mt) :
  TU (fun i=>dG N l o d m s (wlk b gl (t0 i)) N (t i) mt x 0) (fun a:aS×Int=>a.2 < (gl.length:Int)∧pX a.1) (fun i a r=>∃ t',r=(t',a)∧cV (t i) t' (l.length:Int)):=by
 refine TU.loop0 (n:=l.length) (fun j (s:aS×Int) (t':ι→Int)=>(s.2 < (gl.length:Int)∧pX s.1)∧∀ i,cV (t i) (t' i) (j:Int)) (F:=fun i k t' (x:aS×Int) j=>dG N l o d m s (wlk b gl (t0 i)) k t' x.1 x.2 j) (fun k t' x j hj hx hk=>?_) (fun k t' x hx=>?_) (by omega) (s:=(mt,x)) (h:=t) ⟨hm,fun i=>jZ _⟩
 ·obtain ⟨hx,hu⟩:=hx
  simp only [dG,aR,dt (show (j:Int) < (l.length:Int) by omega),cond_true,iS,List.getElem?_eq_getElem hj,Option.bind_some]
  have he:=hl _ (List.getElem_mem hj)
  generalize l[j]=e at *
  obtain ⟨a,a1,a3⟩:=aMv N (by omega) b o d m s he
  have a3':∀ i,cX N o d m s e (aL.mk (wlk b gl (t0 i)).gO (wlk b gl (t0 i)).gA (wlk b gl (t0 i)).gl (I64 (t' i+1)))=some a:=fun i=>a3 _
  simp only [a3',Option.bind_some]
  refine TU.t (P:=fun p:aS×aS×Int=>p.2.2 < (gl.length:Int)∧pX p.1) ?_ fun p hp=>?_
  ·refine T.bind (P:=fun _=>True) ?_ fun p33 _=>T.cond (fun _=>T.ret ⟨he.2,a1⟩) (fun _=>T.ret hx)
   refine T.cond (fun _=>T.cond (fun _=>T.ret trivial) (fun _=>T.bind (aPJ N a1 hx.2) fun r34 _=>T.cond (fun _=>T.ret trivial) (fun _=>T.cond (fun _=>T.bind (aPJ N hx.2 a1) fun _ _=>T.ret trivial) (fun _=>T.ret trivial)))) (fun _=>T.ret trivial)
  ·rw [dX (by omega)]
   exact hk (p.1,p.2.2) (fun i=>I64 (t' i+1)) ⟨hp,fun i=>aCb (hu i)⟩
 ·simp only [dG,aR,df (show ¬ (l.length:Int) < (l.length:Int) by omega),cond_false]
  exact TU.ret x hx.1 fun i=>⟨t' i,rfl,hx.2 i⟩
theorem aS0 {ι:Type} (N:Nat) (hN:100 < N) {b:aX} {gl:List aG} (hb:aBN gl.length b) (h20:gl.length≤20) (o:aC) {d:aC} (hd:pin d) (m s:Int) (t0:ι→Int):∀ (k:Nat) (st:List Int) (t:ι→Int) (mt:aS) (x:Int) (l:Nat),l≤st.length→aOf b (st.take l)→wW1 b (st.take l) < k→wW1 b (st.take l) < 1000000000000→(x < (gl.length:Int)∧pX mt) →
  TU (fun i=>dE N (wlk b gl (t0 i)) o d m s k st (t i) mt x l) (fun a:(aS×Int)×Int=>(a.1.2 < (gl.length:Int)∧pX a.1.1)∧amC a.2 (wW1 b (st.take l):Int)) (fun i a r=>∃ t' st',r=(st',t',a.1)∧cV (t i) t' a.2):=by
 obtain ⟨b1,b2,b3,b4⟩:=hb
 intro k
 induction k with
 | zero=>intro st t mt x l _ _ h;omega
 | succ k ih=>
  intro st t mt x l hl hn hw hw' hm
  simp only [dE,aR]
  have lenT:(st.take l).length=l:=by rw [List.length_take];omega
  have wl:=aGB b4 hn
  rw [lenT] at wl
  refine TU.cond (fun hc=>?_) (fun hc=>?_)
  ·obtain ⟨l,rfl⟩:∃ l',l=l'+1:=⟨l - 1,by have:=of_decide_eq_true hc;omega⟩
   have im:I64 (((l+1:Nat):Int) - 1)=(l:Int):=by rw [bK (by omega) (by omega)];omega
   simp only [im,Int.toNat_natCast]
   obtain ⟨e,et⟩:∃ e,st[l]? = some e:=⟨_,List.getElem?_eq_getElem (by omega)⟩
   have hs:=aAv et
   rw [hs] at hn hw hw'
   rw [wC b,aBg] at hw hw'
   have he:=hn e (by simp)
   have hn':aOf b (st.take l):=fun y hy=>hn y (by simp [hy])
   have wl':=aGB b4 hn'
   rw [show (st.take l).length=l by rw [List.length_take];omega] at wl'
   refine TU.t (T.inRS (by omega) (by omega) (by omega)) fun _ _=>TU.e (fun i=>et) ?_
   have hidx:e.toNat < b.gA6.length:=by omega
   have w1:=aJT b4 he.1 hidx
   have wi:=aIz b4 he.1 hidx
   have wl3:=aJk b4 he.1 hidx
   rw [hs,wC b,aBg]
   refine TU.e (a:=b.gA6[e.toNat]) (fun i=>aIZ he.1 hidx) ?_
   have gd:=b4 e.toNat hidx
   generalize b.gA6[e.toNat]=nd at *
   refine TU.t (T.slcG (by omega) (by omega) (by omega) (by omega) (Or.inl rfl)) fun _ _=>TU.t (aSJ N (by omega) nd.gLo nd.gHi o hd) fun r18 h18=>?_
   refine TU.t (P:=fun _=>True) ?_ fun p19 _=>?_
   ·refine T.cond (fun _=>T.ret trivial) (fun _=>T.cond (fun _=>T.bind (aE1 N ⟨hm.2.1,hm.2.2.1⟩ h18) fun _ _=>T.ret trivial) (fun _=>T.ret trivial))
   refine TU.cond (fun _=>?_) (fun _=>TU.cond (fun hc=>?_) (fun hc=>?_))
   ·exact (ih st (fun i=>I64 (t i+1)) mt x l (by omega) hn' (by omega) (by omega) hm).map (fun a=>(a.1,1+a.2)) (fun _ h=>⟨h.1,by have:=h.2;unfold amC at *;omega⟩) fun i a r _ h=>by obtain ⟨t',st',e,u⟩:=h;exact ⟨t',st',e,nR (aCV _ 1) u⟩
   ·have g:=gd.1 (of_decide_eq_true hc)
    have w2:=wi (of_decide_eq_true hc)
    have w3:=aM6 b nd.gB3 nd.gA9
    refine TU.t (T.appG (by omega) (show (l+2)*8≤140737488355328 by omega)) fun z hz=>?_
    subst hz
    have tk:(uL st l [nd.gB3,nd.gA9]).take (l+2)=st.take l++[nd.gB3,nd.gA9]:=aEw st l [_,_] (by omega)
    refine (ih _ (fun i=>I64 (t i+1)) mt x (l+2) (aJn st l [_,_] (by omega)) ?_ ?_ ?_ hm).map (fun a=>(a.1,1+a.2)) (fun _ h=>⟨h.1,by have:=h.2;rw [tk,wC b] at this;unfold amC at *;omega⟩) fun i a r _ h=>by obtain ⟨t',st',e,u⟩:=h;exact ⟨t',st',e,nR (aCV _ 1) u⟩
    ·rw [tk]
     intro y hy
     rw [List.mem_append] at hy
     rcases hy with hy | hy
     ·exact hn' y hy
     ·simp at hy
      rcases hy with rfl | rfl <;> omega
    ·rw [tk,wC b];omega
    ·rw [tk,wC b];omega
   ·have g:=gd.2 (by have:=of_decide_eq_false hc;omega)
    rw [bK (x:=nd.gC6+nd.gC0) (by omega) (by omega)]
    refine TU.t (T.slcN (l:=b.gC9) g.1 (by omega) (by omega)) fun s23 h23=>?_
    refine TU.bind (aSz N hN h20 o d m s t0 (fun y hy=>b1 y (h23.2.1 y hy)) (by omega) (fun i=>I64 (t i+1)) hm) fun a ha r hr=>?_
    have h':∃ t':ι→Int,∀ i,r i=(t' i,a)∧cV (I64 (t i+1)) (t' i) (s23.length:Int):=⟨fun i=>(hr i).choose,fun i=>(hr i).choose_spec⟩
    obtain ⟨t',e'⟩:=h'
    simp only [fun i=>(e' i).1]
    have wlf:=wl3 (by have:=of_decide_eq_false hc;omega)
    have sl:s23.length≤nd.gC0.toNat:=by rw [h23.1,List.length_drop,List.length_take];omega
    exact (ih st t' a.1 a.2 l (by omega) hn' (by omega) (by omega) ha).map (fun a=>(a.1,1+(s23.length:Int)+a.2)) (fun _ h=>⟨h.1,by have:=h.2;unfold amC at *;omega⟩) fun i a r _ h=>by obtain ⟨t2,st',e,u⟩:=h;exact ⟨t2,st',e,nR (nR (aCV _ 1) (e' i).2) u⟩
  ·exact TU.ret ((mt,x),0) ⟨hm,by unfold amC;omega⟩ fun i=>⟨_,_,rfl,jZ _⟩
theorem aQP {ι:Type} (N:Nat) (hN:1000000000000 < N) {b:aX} {gl:List aG} (hb:aBN gl.length b) (ht:wO gl b) (h20:gl.length≤20) (o d:aC) (m s:Int) (t:ι→Int) :
  TU (fun i=>iR N o d m s (wlk b gl (t i))) (fun a:(Int×aS)×Int=>(a.1.1 < (gl.length:Int)∧pX a.1.2)∧amC a.2 (3*(gl.length:Int))) (fun i a r=>∃ t',r=(t',a.1)∧cV (t i) t' a.2):=by
 unfold iR jN
 simp only [show ∀ t,(wlk b gl t).gO=b from fun _=>rfl,show ∀ t,(wlk b gl t).gA=true from fun _=>rfl,show ∀ t,(wlk b gl t).gD0=t from fun _=>rfl,Option.bind_some,aR]
 refine TU.t (P:=fun p=>p=false→pin d∧0 < b.gA6.length) ?_ fun p1 h1=>TU.cond (fun _=>TU.ret ((-1,aS.mk 0 0 0 0),0) ⟨⟨by dsimp only;omega,aCw⟩,by unfold amC;omega⟩ fun i=>⟨_,rfl,jZ _⟩) (fun hc=>?_)
 ·refine T.cond (fun _=>T.ret fun h=>by cases h) (fun hc=>T.bind (aQG N o d) fun r4 h4=>T.ret fun e=>⟨aHY (h4 (by simpa using e)).2.1 (by decide),?_⟩)
  have:((b.gA6.length:Int)==0)=false:=hc
  have:(b.gA6.length:Int)≠0:=by simpa using this
  omega
 ·obtain ⟨hd,h0⟩:=h1 hc
  have wr:=aNH hb ht
  have w0:wW1 b ([0].take 1)=wk1 b.gA6 0:=by rw [show ([0]:List Int).take 1=[0] from rfl,aBg]
  refine TU.bind (aS0 N (by omega) hb h20 o hd m s t N [0] t (aS.mk 0 0 0 0) (-1) 1 (by simp) ?_ ?_ ?_ ⟨by omega,aCw⟩) fun a ha r hr=>?_
  ·intro x hx;have:x=0:=by simpa using hx
   subst this;omega
  ·rw [w0];omega
  ·rw [w0];omega
  ·refine TU.ret ((a.1.2,a.1.1),a.2) ⟨ha.1,by have:=ha.2;rw [w0] at this;unfold amC at *;omega⟩ fun i=>?_
   obtain ⟨t',st',e,u⟩:=hr i
   rw [e]
   exact ⟨t',rfl,u⟩
theorem anyK2 {ι:Type} (N:Nat) (hN:100 < N) {b:aX} {gl:List aG} (o d:aC) (m s:Int) (w:Bool) (t0:ι→Int) {l:List Int} (hl:ord gl.length l) (hl':l.length≤20) (t:ι→Int) :
  TU (fun i=>eC N l o d m s (wlk b gl (t0 i)) w N (t i) 0) (fun a:Bool×Int=>amC a.2 (l.length:Int)) (fun i a r=>∃ t',r=cond a.1 (Sum.inr (t',true)) (Sum.inl t')∧cV (t i) t' a.2):=by
 refine TU.loop0 (n:=l.length) (fun j (_:Unit) (t':ι→Int)=>∀ i,cV (t i) (t' i) (j:Int)) (F:=fun i k t' (x:Unit) j=>eC N l o d m s (wlk b gl (t0 i)) w k t' j) (fun k t' x j hj hx hk=>?_) (fun k t' x hx=>?_) (by omega) (s:=()) (h:=t) fun i=>jZ _
 ·simp only [eC,aR,dt (show (j:Int) < (l.length:Int) by omega),cond_true,iS,List.getElem?_eq_getElem hj,Option.bind_some]
  have he:=hl _ (List.getElem_mem hj)
  generalize l[j]=e at *
  obtain ⟨a,a1,a3⟩:=aMv N (by omega) b o d m s he
  have a3':∀ i,cX N o d m s e (aL.mk (wlk b gl (t0 i)).gO (wlk b gl (t0 i)).gA (wlk b gl (t0 i)).gl (I64 (t' i+1)))=some a:=fun i=>a3 _
  simp only [a3',Option.bind_some]
  refine TU.t (P:=fun _=>True) (T.cond (fun _=>T.ret trivial) (fun _=>T.ret trivial)) fun p24 _=>?_
  refine TU.cond (fun _=>TU.ret (true,((j+1:Nat):Int)) (by unfold amC;dsimp only;omega) fun i=>⟨_,rfl,aCb (hx i)⟩) (fun _=>?_)
  rw [dX (by omega)]
  exact hk () (fun i=>I64 (t' i+1)) fun i=>aCb (hx i)
 ·simp only [eC,aR,df (show ¬ (l.length:Int) < (l.length:Int) by omega),cond_false]
  exact TU.ret (false,(l.length:Int)) (by unfold amC;dsimp only;omega) fun i=>⟨t' i,rfl,hx i⟩
theorem anyK1 {ι:Type} (N:Nat) (hN:100 < N) {b:aX} {gl:List aG} (hb:aBN gl.length b) (h20:gl.length≤20) (o:aC) {d:aC} (hd:pin d) (m s:Int) (w:Bool) (t0:ι→Int):∀ (k:Nat) (st:List Int) (t:ι→Int) (l:Nat),l≤st.length→aOf b (st.take l)→wW1 b (st.take l) < k→wW1 b (st.take l) < 1000000000000 →
  TU (fun i=>eD N (wlk b gl (t0 i)) o d m s w k st (t i) l) (fun a:Bool×Int=>amC a.2 (wW1 b (st.take l):Int)) (fun i a r=>∃ t' st',r=cond a.1 (Sum.inr (t',true)) (Sum.inl (st',t'))∧cV (t i) t' a.2):=by
 obtain ⟨b1,b2,b3,b4⟩:=hb
 intro k
 induction k with
 | zero=>intro st t l _ _ h;omega
 | succ k ih=>
  intro st t l hl hn hw hw'
  simp only [eD,aR]
  have lenT:(st.take l).length=l:=by rw [List.length_take];omega
  have wl:=aGB b4 hn
  rw [lenT] at wl
  refine TU.cond (fun hc=>?_) (fun hc=>?_)
  ·obtain ⟨l,rfl⟩:∃ l',l=l'+1:=⟨l - 1,by have:=of_decide_eq_true hc;omega⟩
   have im:I64 (((l+1:Nat):Int) - 1)=(l:Int):=by rw [bK (by omega) (by omega)];omega
   simp only [im,Int.toNat_natCast]
   obtain ⟨e,et⟩:∃ e,st[l]? = some e:=⟨_,List.getElem?_eq_getElem (by omega)⟩
   have hs:=aAv et
   rw [hs] at hn hw hw'
   rw [wC b,aBg] at hw hw'
   have he:=hn e (by simp)
   have hn':aOf b (st.take l):=fun y hy=>hn y (by simp [hy])
   have wl':=aGB b4 hn'
   rw [show (st.take l).length=l by rw [List.length_take];omega] at wl'
   refine TU.t (T.inRS (by omega) (by omega) (by omega)) fun _ _=>TU.e (fun i=>et) ?_
   have hidx:e.toNat < b.gA6.length:=by omega
   have w1:=aJT b4 he.1 hidx
   have wi:=aIz b4 he.1 hidx
   have wl3:=aJk b4 he.1 hidx
   rw [hs,wC b,aBg]
   refine TU.e (a:=b.gA6[e.toNat]) (fun i=>aIZ he.1 hidx) ?_
   have gd:=b4 e.toNat hidx
   generalize b.gA6[e.toNat]=nd at *
   refine TU.t (T.slcG (by omega) (by omega) (by omega) (by omega) (Or.inl rfl)) fun _ _=>TU.t (aSJ N (by omega) nd.gLo nd.gHi o hd) fun r18 h18=>?_
   refine TU.cond (fun _=>?_) (fun _=>TU.cond (fun hc=>?_) (fun hc=>?_))
   ·exact (ih st (fun i=>I64 (t i+1)) l (by omega) hn' (by omega) (by omega)).map (fun a=>(a.1,1+a.2)) (fun _ h=>by unfold amC at *;dsimp only;omega) fun i a r _ h=>by obtain ⟨t',st',e,u⟩:=h;exact ⟨t',st',e,nR (aCV _ 1) u⟩
   ·have g:=gd.1 (of_decide_eq_true hc)
    have w2:=wi (of_decide_eq_true hc)
    have w3:=aM6 b nd.gB3 nd.gA9
    refine TU.t (T.appG (by omega) (show (l+2)*8≤140737488355328 by omega)) fun z hz=>?_
    subst hz
    have tk:(uL st l [nd.gB3,nd.gA9]).take (l+2)=st.take l++[nd.gB3,nd.gA9]:=aEw st l [_,_] (by omega)
    refine (ih _ (fun i=>I64 (t i+1)) (l+2) (aJn st l [_,_] (by omega)) ?_ ?_ ?_).map (fun a=>(a.1,1+a.2)) (fun _ h=>by rw [tk,wC b] at h;unfold amC at *;dsimp only;omega) fun i a r _ h=>by obtain ⟨t',st',e,u⟩:=h;exact ⟨t',st',e,nR (aCV _ 1) u⟩
    ·rw [tk]
     intro y hy
     rw [List.mem_append] at hy
     rcases hy with hy | hy
     ·exact hn' y hy
     ·simp at hy
      rcases hy with rfl | rfl <;> omega
    ·rw [tk,wC b];omega
    ·rw [tk,wC b];omega
   ·have g:=gd.2 (by have:=of_decide_eq_false hc;omega)
    rw [bK (x:=nd.gC6+nd.gC0) (by omega) (by omega)]
    refine TU.t (T.slcN (l:=b.gC9) g.1 (by omega) (by omega)) fun s23 h23=>?_
    refine TU.bind (anyK2 N hN o d m s w t0 (fun y hy=>b1 y (h23.2.1 y hy)) (by omega) (fun i=>I64 (t i+1))) fun a ha r hr=>?_
    have h':∃ t':ι→Int,∀ i,r i=cond a.1 (Sum.inr (t' i,true)) (Sum.inl (t' i))∧cV (I64 (t i+1)) (t' i) a.2:=⟨fun i=>(hr i).choose,fun i=>(hr i).choose_spec⟩
    obtain ⟨t',e'⟩:=h'
    simp only [fun i=>(e' i).1]
    have wlf:=wl3 (by have:=of_decide_eq_false hc;omega)
    have sl:s23.length≤nd.gC0.toNat:=by rw [h23.1,List.length_drop,List.length_take];omega
    obtain ⟨a,ac⟩:=a
    cases a with
    | true=>exact TU.ret (true,1+ac) (by unfold amC at *;dsimp only at *;omega) fun i=>⟨t' i,[],rfl,nR (aCV _ 1) (e' i).2⟩
    | false=>exact (ih st t' l (by omega) hn' (by omega) (by omega)).map (fun a=>(a.1,1+ac+a.2)) (fun _ h=>by unfold amC at *;dsimp only at *;omega) fun i a r _ h=>by obtain ⟨t2,st',e,u⟩:=h;exact ⟨t2,st',e,nR (nR (aCV _ 1) (e' i).2) u⟩
  ·exact TU.ret (false,0) (by unfold amC;dsimp only;omega) fun i=>⟨_,_,rfl,jZ _⟩
theorem anyK {ι:Type} (N:Nat) (hN:1000000000000 < N) {b:aX} {gl:List aG} (hb:aBN gl.length b) (ht:wO gl b) (h20:gl.length≤20) (o d:aC) (m s:Int) (w:Bool) (t:ι→Int) :
  TU (fun i=>iL N o d m s w (wlk b gl (t i))) (fun a:Bool×Int=>amC a.2 (3*(gl.length:Int))) (fun i a r=>∃ t',r=(t',a.1)∧cV (t i) t' a.2):=by
 unfold iL jN
 simp only [show ∀ t,(wlk b gl t).gO=b from fun _=>rfl,show ∀ t,(wlk b gl t).gA=true from fun _=>rfl,show ∀ t,(wlk b gl t).gD0=t from fun _=>rfl,Option.bind_some,aR]
 refine TU.t (P:=fun p=>p=false→pin d∧0 < b.gA6.length) ?_ fun p1 h1=>TU.cond (fun _=>TU.ret (false,0) (by unfold amC;dsimp only;omega) fun i=>⟨_,rfl,jZ _⟩) (fun hc=>?_)
 ·refine T.cond (fun _=>T.ret fun h=>by cases h) (fun hc=>T.bind (aQG N o d) fun r4 h4=>T.ret fun e=>⟨aHY (h4 (by simpa using e)).2.1 (by decide),?_⟩)
  have:((b.gA6.length:Int)==0)=false:=hc
  have:(b.gA6.length:Int)≠0:=by simpa using this
  omega
 ·obtain ⟨hd,h0⟩:=h1 hc
  have wr:=aNH hb ht
  have w0:wW1 b ([0].take 1)=wk1 b.gA6 0:=by rw [show ([0]:List Int).take 1=[0] from rfl,aBg]
  refine TU.bind (anyK1 N (by omega) hb h20 o hd m s w t N [0] t 1 (by simp) ?_ ?_ ?_) fun a ha r hr=>?_
  ·intro x hx;have:x=0:=by simpa using hx
   subst this;omega
  ·rw [w0];omega
  ·rw [w0];omega
  ·rw [w0] at ha
   have h':∃ t':ι→Int×List Int,∀ i,r i=cond a.1 (Sum.inr ((t' i).1,true)) (Sum.inl ((t' i).2,(t' i).1))∧cV (t i) (t' i).1 a.2:=⟨fun i=>((hr i).choose,(hr i).choose_spec.choose),fun i=>(hr i).choose_spec.choose_spec⟩
   obtain ⟨t',e'⟩:=h'
   simp only [fun i=>(e' i).1]
   obtain ⟨a,ac⟩:=a
   have hc:amC ac (3*(gl.length:Int)):=by unfold amC at *;dsimp only at *;omega
   cases a with
   | true=>exact TU.ret (true,ac) hc fun i=>⟨_,rfl,(e' i).2⟩
   | false=>exact TU.ret (false,ac) hc fun i=>⟨_,rfl,(e' i).2⟩
def aAI (s:aF) (m:aH):Prop:=((m.gA0 = -1∧m.gB2=0)∨((0≤m.gA0∧m.gA0 < (s.gN.length:Int))∧(m.gB2=0∨m.gB2=1)))∧cD m.gJ∧vin m.gB9
def aDJ (s:aF):Prop:=∀ t∈s.gL,0≤t.gA0∧t.gA0 < (s.gN.length:Int)
theorem sm0 (s:aF):aAI s (aH.mk (aA.mk 0 0 0) 0 0 (aA.mk 0 0 0) (-1)):=⟨Or.inl ⟨rfl,rfl⟩,z64,z64,z64,z64⟩
def aMh (c n:Int):Prop:=1≤c∧c≤n
theorem c04 : amC 0 4:=⟨by decide,by decide⟩
theorem c44 : amC 4 4:=⟨by decide,by decide⟩
set_option maxHeartbeats 4000000
section
variable {ι:Type} {N:Nat} (hN:4100 < N) {b:List (List aD)} {s:aF} {v:aI} {sky:aA} (hr:Rdy b s v sky)
structure DrkS (D:Prop) (s:aF) (sky:aA):Prop where
 sky:D→sky=v0
 lights:D→s.gK=[]
 mats:D→∀ m∈s.gA1,m.gA7≠4
include hN
theorem aIL (x:Int) (ray:ι→aK) (f l:ι→aA) (dep:Int) (ov:ι→Bool) (sm:ι→aH) (st:ι→aE) (src:aB) (sw:ι→aJ) :
  TC (fun i=>cW N b x (ray i) (f i) (l i) dep (ov i) (sm i) s v sky (st i) src (sw i)) (fun _=>True):=by
 obtain ⟨a,e,_⟩:=aR4 N (by omega) dep x src
 refine ⟨(a.1,a.2),trivial,fun i=>?_⟩
 unfold cW
 rw [e];rfl
theorem addS (D:Prop) {c:List aA} (hc:∀ x∈c,vin x) (hl:c.length≤2) (ray:ι→aK) {f l:aA} (hf:vin f) (hlv:vin l) (hd:D→l=v0∧c=[v0]) (dep:Int) (ov:Bool) (sm:ι→aH) (st:ι→aE) (src:ι→aB) (sw:ι→aJ) :
  TC (fun i=>fT N b c (ray i) f l dep ov (sm i) s v sky (st i) (src i) (sw i)) (fun r=>vin r∧(D→r=v0)):=by
 unfold fT
 refine TC.cond (fun _=>?_) (fun _=>TC.ret _ ⟨hlv,fun h=>(hd h).1⟩)
 refine TC.t (P:=fun z=>z=[f]++c) ⟨_,fX (by simp;omega),rfl⟩ fun z hz=>?_
 subst hz
 refine TC.t (P:=fun r=>vin r∧(D→r=v0)) ?_ fun r2 h2=>?_
 ·by_cases hD:D
  ·rw [(hd hD).2]
   exact ⟨_,aQV (by omega) hf,aC9,fun _=>rfl⟩
  ·exact (aJh (by omega) _ (by intro x hx;simp at hx;rcases hx with rfl | hx;exact hf;exact hc x hx) (by simp;omega)).mono fun r h=>⟨h,fun h=>absurd h hD⟩
 ·refine TC.t (P:=fun r=>r=aHM l r2) ⟨_,aR3 (by omega) hlv h2.1,rfl⟩ fun r3 h3=>TC.ret _ ⟨by rw [h3];exact tM _ _,fun h=>?_⟩
  rw [h3,h2.2 h,(hd h).1];rfl
omit hN in
theorem aOc (x:ι→Bool) (ray:ι→aK) (f l:ι→aA) (dep:Int) (ov:ι→Bool) (sm:ι→aH) (st:ι→aE) (src:ι→aB) (sw:ι→aJ) :
  TC (fun i=>dS N b (x i) (ray i) (f i) (l i) dep (ov i) (sm i) s v sky (st i) (src i) (sw i)) (fun _=>True):=⟨(),trivial,fun i=>rfl⟩
include hr
theorem meetS {gl:List aG} (hsw:aJF s.gL.length gl) (hcon:v.gQ=true) (hfit:(s.gK.length:Int)≤(bW v.gF).2) (hobj:aDJ s) {ray:aK} (hray:aDC ray) (f l:aA) (dep:Int) (ov:Bool) {sm:aH} (hsm:aAI s sm) (st:ι→aE) (src:aB) (t:ι→Int) :
  TU (fun i=>lE N b ray f l dep ov sm s v sky (st i) src (swp gl (t i))) (fun a:(aH×aV×Bool)×Int×Int=>(aGC a.1.2.1∧(a.1.2.1.gB0∈s.gA1∨a.1.2.1.gB0.gA7=0)∧aAI s a.1.1)∧exC a.2.1 (gl.length:Int)∧exC a.2.2 4) (fun i a r=>∃ x t',r=(a.1.1,x,swp gl t',a.1.2.1,a.1.2.2)∧cV (t i) t' a.2.1∧cV (st i).gM x a.2.2):=by
 unfold lE
 refine TU.t (P:=fun _=>True) (T.cond (fun _=>T.ret trivial) (fun _=>T.ret trivial)) fun p1 _=>?_
 refine TU.bind (aPp N (by omega) hsw ray.go ray.gd p1 ray.gE4 t) fun a ha r hr'=>?_
 have h':∃ t':ι→Int,∀ i,r i=(swp gl (t' i),a)∧cV (t i) (t' i) (gl.length:Int):=⟨fun i=>(hr' i).choose,fun i=>(hr' i).choose_spec⟩
 obtain ⟨t',e''⟩:=h'
 have e':∀ i,r i=(swp gl (t' i),a):=fun i=>(e'' i).1
 simp only [e']
 have hx:∀ i,∃ x,(cond v.gQ (some (I64 ((st i).gM+4))) (some (st i).gM))=some x∧cV (st i).gM x 4:=fun i=>⟨_,by rw [hcon];rfl,bK (aJ9 _) (aIr _),fun _=>cS _⟩
 have hx':∃ x:ι→Int,∀ i,(cond v.gQ (some (I64 ((st i).gM+4))) (some (st i).gM))=some (x i)∧cV (st i).gM (x i) 4:=⟨fun i=>(hx i).choose,fun i=>(hx i).choose_spec⟩
 obtain ⟨x,ex⟩:=hx'
 simp only [fun i=>(ex i).1,Option.bind_some]
 refine TU.cond (fun _=>?_) (fun hc=>?_)
 ·exact TU.ret ((sm,aV.mk 0 (aC.mk 0 0 0) (aA.mk 0 0 0) (aA.mk 0 0 0) (aO.mk 0 (#v[0,0,0]) 0) false,false),(gl.length:Int),4) ⟨⟨⟨⟨z64,z64,z64⟩,aC9,aC9,mat0⟩,Or.inr rfl,hsm⟩,rfl,rfl⟩ fun i=>⟨x i,t' i,rfl,(e'' i).2,(ex i).2⟩
 have h0:=of_decide_eq_false hc
 refine TU.t (T.idx (by omega) (by omega)) fun e4 h4=>?_
 have ht:=hr.tri e4 (List.mem_of_getElem? h4)
 refine TU.t (T.inRO (by decide) (by decide)) fun _ _=>TU.t (T.vg (i:=1) (by decide)) fun e6 _=>TU.t (T.inRO (by decide) (by decide)) fun _ _=>TU.t (T.vg (i:=0) (by decide)) fun e8 _=>TU.t (aKe N _ _) fun r9 _=>?_
 refine TU.t (T.inRO (by decide) (by decide)) fun _ _=>TU.t (T.vg (i:=2) (by decide)) fun e11 _=>TU.t (T.inRO (by decide) (by decide)) fun _ _=>TU.t (T.vg (i:=0) (by decide)) fun e13 _=>TU.t (aKe N _ _) fun r14 _=>?_
 refine TU.t (aIs N _ _) fun r15 _=>TU.t (aMw (by omega) r15) fun r16 h16=>?_
 refine TU.t (P:=fun p:aV=>pin p.gat∧vin p.gn∧aBw p.gB0∧p.gB0∈s.gA1) ?_ fun p17 h17=>?_
 ·refine T.bind (aOq (by omega) hray.1 hray.2 ha.2) fun r18 h18=>T.bind (aM2 (by omega) h16 ray.gd) fun r19 h19=>T.bind (T.idx ht.1.1 ht.1.2) fun e20 h20=>?_
  have hm:=List.mem_of_getElem? h20
  refine T.cond (fun _=>?_) (fun _=>T.ret ⟨h18,h19,hr.mat _ hm,hm⟩)
  rw [aR]
  exact T.ret ⟨h18,h19,hr.mat _ hm,hm⟩
 have hy:∃ (lv:List aD) (tc:Int),(aFj lv∧exC tc 4)∧∀ i,∃ y,(cond (decide (e4.gB4≥0)) (Option.bind (idx b e4.gB4) fun e23=>cond (!v.gQ) (some ((I64 (x i+4),e23))) (some ((x i,e23)))) (some ((x i,[]))))=some (y,lv)∧cV (st i).gM y tc:=by
  by_cases h:e4.gB4≥0
  ·obtain ⟨lv,e,hl⟩:=T.idx h ht.2.1
   refine ⟨lv,4,⟨hr.lev lv (List.mem_of_getElem? hl),rfl⟩,fun i=>?_⟩
   rw [dt h,cond_true,e,Option.bind_some,hcon]
   exact ⟨x i,rfl,(ex i).2⟩
  ·refine ⟨[],4,⟨⟨by simp,fun t h=>absurd h (by simp)⟩,rfl⟩,fun i=>?_⟩
   rw [df h,cond_false]
   exact ⟨x i,rfl,(ex i).2⟩
 obtain ⟨lv,tc,⟨hlv,htc⟩,hy⟩:=hy
 have hy':∃ y:ι→Int,∀ i,(cond (decide (e4.gB4≥0)) (Option.bind (idx b e4.gB4) fun e23=>cond (!v.gQ) (some ((I64 (x i+4),e23))) (some ((x i,e23)))) (some ((x i,[]))))=some (y i,lv)∧cV (st i).gM (y i) tc:=⟨fun i=>(hy i).choose,fun i=>(hy i).choose_spec⟩
 obtain ⟨y,ey⟩:=hy'
 simp only [fun i=>(ey i).1,Option.bind_some]
 refine TU.t (aK2 (by omega) h17.2.2.1.1 hlv ht.2.2.1 ha.2 _) fun r24 h24=>?_
 refine TU.t (P:=aAI s) ?_ fun p25 h25=>?_
 ·rw [aR]
  have ho:=hobj e4 (List.mem_of_getElem? h4)
  refine T.cond (fun _=>?_) (fun _=>T.ret hsm)
  refine T.eq (aA7 _ h17.1) (T.eq (aA7 _ hray.1) (T.eq (aF7 _ (aA3 _) (aA3 _)) (T.bind (aNS (by omega) (aGA _ _)) fun r hr=>T.cond (fun _=>T.ret ⟨Or.inr ⟨ho,Or.inl rfl⟩,hr,h17.2.1⟩) (fun _=>T.ret ⟨Or.inr ⟨ho,Or.inr rfl⟩,hr,h17.2.1⟩))))
 ·exact TU.ret ((p25,aV.mk p17.gi p17.gat p17.gn r24 p17.gB0 p17.gB8,true),(gl.length:Int),tc) ⟨⟨⟨h17.1,h17.2.1,h24,h17.2.2.1⟩,Or.inl h17.2.2.2,h25⟩,rfl,htc⟩ fun i=>⟨y i,t' i,rfl,(e'' i).2,(ey i).2⟩
end
section
variable {ι:Type} {N:Nat} (hN:1000000000000 < N) {b:List (List aD)} {s:aF} {v:aI} {sky:aA} (hr:Rdy b s v sky)
structure DrkW (D:Prop) (s:aF) (sky:aA):Prop where
 sky:D→sky=v0
 lights:D→s.gK=[]
 mats:D→∀ m∈s.gA1,m.gA7≠4
include hN
theorem aIV (x:Int) (ray:ι→aK) (f l:ι→aA) (dep:Int) (ov:ι→Bool) (sm:ι→aH) (st:ι→aE) (src:aB) (sw:ι→aL) :
  TC (fun i=>dM N b x (ray i) (f i) (l i) dep (ov i) (sm i) s v sky (st i) src (sw i)) (fun _=>True):=by
 obtain ⟨a,e,_⟩:=aR4 N (by omega) dep x src
 refine ⟨(a.1,a.2),trivial,fun i=>?_⟩
 unfold dM
 rw [e];rfl
theorem addW (D:Prop) {c:List aA} (hc:∀ x∈c,vin x) (hl:c.length≤2) (ray:ι→aK) {f l:aA} (hf:vin f) (hlv:vin l) (hd:D→l=v0∧c=[v0]) (dep:Int) (ov:Bool) (sm:ι→aH) (st:ι→aE) (src:ι→aB) (sw:ι→aL) :
  TC (fun i=>iV N b c (ray i) f l dep ov (sm i) s v sky (st i) (src i) (sw i)) (fun r=>vin r∧(D→r=v0)):=by
 unfold iV
 refine TC.cond (fun _=>?_) (fun _=>TC.ret _ ⟨hlv,fun h=>(hd h).1⟩)
 refine TC.t (P:=fun z=>z=[f]++c) ⟨_,fX (by simp;omega),rfl⟩ fun z hz=>?_
 subst hz
 refine TC.t (P:=fun r=>vin r∧(D→r=v0)) ?_ fun r2 h2=>?_
 ·by_cases hD:D
  ·rw [(hd hD).2]
   exact ⟨_,aQV (by omega) hf,aC9,fun _=>rfl⟩
  ·exact (aJh (by omega) _ (by intro x hx;simp at hx;rcases hx with rfl | hx;exact hf;exact hc x hx) (by simp;omega)).mono fun r h=>⟨h,fun h=>absurd h hD⟩
 ·refine TC.t (P:=fun r=>r=aHM l r2) ⟨_,aR3 (by omega) hlv h2.1,rfl⟩ fun r3 h3=>TC.ret _ ⟨by rw [h3];exact tM _ _,fun h=>?_⟩
  rw [h3,h2.2 h,(hd h).1];rfl
omit hN in
theorem aN4 (x:ι→Bool) (ray:ι→aK) (f l:ι→aA) (dep:Int) (ov:ι→Bool) (sm:ι→aH) (st:ι→aE) (src:ι→aB) (sw:ι→aL) :
  TC (fun i=>eS N b (x i) (ray i) (f i) (l i) dep (ov i) (sm i) s v sky (st i) (src i) (sw i)) (fun _=>True):=⟨(),trivial,fun i=>rfl⟩
include hr
theorem meetW {bv:aX} {gl:List aG} (hbv:aBN gl.length bv) (hgl:gl=s.gL) (htr:wO gl bv) (hcon:v.gQ=false) (hfit:(s.gK.length:Int)≤(bW v.gF).2) (hobj:aDJ s) {ray:aK} (hray:aDC ray) (f l:aA) (dep:Int) (ov:Bool) {sm:aH} (hsm:aAI s sm) (st:ι→aE) (src:aB) (t:ι→Int) :
  TU (fun i=>nA N b ray f l dep ov sm s v sky (st i) src (wlk bv gl (t i))) (fun a:(aH×aV×Bool)×Int×Int=>(aGC a.1.2.1∧(a.1.2.1.gB0∈s.gA1∨a.1.2.1.gB0.gA7=0)∧aAI s a.1.1)∧amC a.2.1 (3*(gl.length:Int))∧amC a.2.2 4) (fun i a r=>∃ x t',r=(a.1.1,x,t',a.1.2.1,a.1.2.2)∧cV (t i) t' a.2.1∧cV (st i).gM x a.2.2):=by
 unfold nA
 refine TU.t (P:=fun _=>True) (T.cond (fun _=>T.ret trivial) (fun _=>T.ret trivial)) fun p1 _=>?_
 subst hgl
 refine TU.bind (aQP N (by omega) hbv htr hr.few ray.go ray.gd p1 ray.gE4 t) fun a ha r hr'=>?_
 obtain ⟨a,nc⟩:=a
 obtain ⟨ha,hnc⟩:=ha
 dsimp only at ha hnc hr'
 have h':∃ t':ι→Int,∀ i,r i=(t' i,a)∧cV (t i) (t' i) nc:=⟨fun i=>(hr' i).choose,fun i=>(hr' i).choose_spec⟩
 obtain ⟨t',e''⟩:=h'
 have e':∀ i,r i=(t' i,a):=fun i=>(e'' i).1
 simp only [e']
 have hx:∀ i,∃ x,(cond v.gQ (some (I64 ((st i).gM+4))) (some (st i).gM))=some x∧cV (st i).gM x 0:=fun i=>⟨_,by rw [hcon];rfl,jZ _⟩
 have hx':∃ x:ι→Int,∀ i,(cond v.gQ (some (I64 ((st i).gM+4))) (some (st i).gM))=some (x i)∧cV (st i).gM (x i) 0:=⟨fun i=>(hx i).choose,fun i=>(hx i).choose_spec⟩
 obtain ⟨x,ex⟩:=hx'
 simp only [fun i=>(ex i).1,Option.bind_some]
 refine TU.cond (fun _=>?_) (fun hc=>?_)
 ·exact TU.ret ((sm,aV.mk 0 (aC.mk 0 0 0) (aA.mk 0 0 0) (aA.mk 0 0 0) (aO.mk 0 (#v[0,0,0]) 0) false,false),nc,0) ⟨⟨⟨⟨z64,z64,z64⟩,aC9,aC9,mat0⟩,Or.inr rfl,hsm⟩,hnc,c04⟩ fun i=>⟨x i,t' i,rfl,(e'' i).2,(ex i).2⟩
 have h0:=of_decide_eq_false hc
 refine TU.t (T.idx (by omega) (by omega)) fun e4 h4=>?_
 have ht:=hr.tri e4 (List.mem_of_getElem? h4)
 refine TU.t (T.inRO (by decide) (by decide)) fun _ _=>TU.t (T.vg (i:=1) (by decide)) fun e6 _=>TU.t (T.inRO (by decide) (by decide)) fun _ _=>TU.t (T.vg (i:=0) (by decide)) fun e8 _=>TU.t (aKe N _ _) fun r9 _=>?_
 refine TU.t (T.inRO (by decide) (by decide)) fun _ _=>TU.t (T.vg (i:=2) (by decide)) fun e11 _=>TU.t (T.inRO (by decide) (by decide)) fun _ _=>TU.t (T.vg (i:=0) (by decide)) fun e13 _=>TU.t (aKe N _ _) fun r14 _=>?_
 refine TU.t (aIs N _ _) fun r15 _=>TU.t (aMw (by omega) r15) fun r16 h16=>?_
 refine TU.t (P:=fun p:aV=>pin p.gat∧vin p.gn∧aBw p.gB0∧p.gB0∈s.gA1) ?_ fun p17 h17=>?_
 ·refine T.bind (aOq (by omega) hray.1 hray.2 ha.2) fun r18 h18=>T.bind (aM2 (by omega) h16 ray.gd) fun r19 h19=>T.bind (T.idx ht.1.1 ht.1.2) fun e20 h20=>?_
  have hm:=List.mem_of_getElem? h20
  refine T.cond (fun _=>?_) (fun _=>T.ret ⟨h18,h19,hr.mat _ hm,hm⟩)
  rw [aR]
  exact T.ret ⟨h18,h19,hr.mat _ hm,hm⟩
 have hy:∃ (lv:List aD) (tc:Int),(aFj lv∧amC tc 4)∧∀ i,∃ y,(cond (decide (e4.gB4≥0)) (Option.bind (idx b e4.gB4) fun e23=>cond (!v.gQ) (some ((I64 (x i+4),e23))) (some ((x i,e23)))) (some ((x i,[]))))=some (y,lv)∧cV (st i).gM y tc:=by
  by_cases h:e4.gB4≥0
  ·obtain ⟨lv,e,hl⟩:=T.idx h ht.2.1
   refine ⟨lv,4,⟨hr.lev lv (List.mem_of_getElem? hl),c44⟩,fun i=>?_⟩
   rw [dt h,cond_true,e,Option.bind_some,hcon]
   exact ⟨_,rfl,aPG (nR (ex i).2 (aCV _ 4)) (by decide)⟩
  ·refine ⟨[],0,⟨⟨by simp,fun t h=>absurd h (by simp)⟩,c04⟩,fun i=>?_⟩
   rw [df h,cond_false]
   exact ⟨x i,rfl,(ex i).2⟩
 obtain ⟨lv,tc,⟨hlv,htc⟩,hy⟩:=hy
 have hy':∃ y:ι→Int,∀ i,(cond (decide (e4.gB4≥0)) (Option.bind (idx b e4.gB4) fun e23=>cond (!v.gQ) (some ((I64 (x i+4),e23))) (some ((x i,e23)))) (some ((x i,[]))))=some (y i,lv)∧cV (st i).gM (y i) tc:=⟨fun i=>(hy i).choose,fun i=>(hy i).choose_spec⟩
 obtain ⟨y,ey⟩:=hy'
 simp only [fun i=>(ey i).1,Option.bind_some]
 refine TU.t (aK2 (by omega) h17.2.2.1.1 hlv ht.2.2.1 ha.2 _) fun r24 h24=>?_
 refine TU.t (P:=aAI s) ?_ fun p25 h25=>?_
 ·rw [aR]
  have ho:=hobj e4 (List.mem_of_getElem? h4)
  refine T.cond (fun _=>?_) (fun _=>T.ret hsm)
  refine T.eq (aA7 _ h17.1) (T.eq (aA7 _ hray.1) (T.eq (aF7 _ (aA3 _) (aA3 _)) (T.bind (aNS (by omega) (aGA _ _)) fun r hr=>T.cond (fun _=>T.ret ⟨Or.inr ⟨ho,Or.inl rfl⟩,hr,h17.2.1⟩) (fun _=>T.ret ⟨Or.inr ⟨ho,Or.inr rfl⟩,hr,h17.2.1⟩))))
 ·exact TU.ret ((p25,aV.mk p17.gi p17.gat p17.gn r24 p17.gB0 p17.gB8,true),nc,tc) ⟨⟨⟨h17.1,h17.2.1,h24,h17.2.2.1⟩,Or.inl h17.2.2.2,h25⟩,hnc,htc⟩ fun i=>⟨y i,t' i,rfl,(e'' i).2,(ey i).2⟩
end
section
variable {ι:Type} {N:Nat} (hN:4100 < N) {b:List (List aD)} {s:aF} {v:aI} {sky:aA} (hr:Rdy b s v sky)
include hN hr
theorem aTX {gl:List aG} (hsw:aJF s.gL.length gl) (hcon:v.gQ=true) (hfit:(s.gK.length:Int)≤(bW v.gF).2) {D:Prop} (hD:DrkS D s sky) {pl:aV} (hp:aGC pl) (ray:aK) {f l:aA} (hf:vin f) (hl:vin l) (hl0:D→l=v0) (dep:Int) (ov:Bool) (sm:aH) (st:ι→aE) (src:aB) (t:ι→Int) :
  TU (fun i=>jQ N b pl ray f l dep ov sm s v sky (st i) src (swp gl (t i))) (fun a:(aA×aB)×Int=>(vin a.1.1∧(D→a.1.1=v0))∧exC a.2 ((gl.length:Int)*(bW v.gF).2)) (fun i a r=>∃ t',r=(a.1.1,a.1.2,swp gl t')∧cV (t i) t' a.2):=by
 unfold jQ
 have l5:=hr.lights
 simp only [aR]
 refine TU.bind (P:=fun a:(aA×aB)×Int=>(vin a.1.1∧(D→a.1.1=v0))∧exC a.2 ((gl.length:Int)*(s.gK.length:Int))) (S:=fun i a r=>∃ t',r=(a.1.1,a.1.2,swp gl t')∧cV (t i) t' a.2) ?_ fun a ha r hr'=>?_
 ·refine TU.loop0 (n:=s.gK.length) (fun j (x:(aA×aB)×Int) t'=>((vin x.1.1∧(D→x.1.1=v0))∧exC x.2 ((gl.length:Int)*(j:Int)))∧∀ i,cV (t i) (t' i) x.2) (F:=fun i k t' (x:(aA×aB)×Int) j=>eX N (s.gK.length:Int) s b ray f dep ov sm v sky (st i) pl k x.1.1 x.1.2 (swp gl t') j) (fun k t' x j hj hx hk=>?_) (fun k t' x hx=>?_) (by omega) (s:=((l,src),0)) (h:=t) ⟨⟨⟨hl,hl0⟩,aG0 aPg (by rw [show ((0:Nat):Int)=0 from rfl,Int.mul_zero])⟩,fun i=>jZ _⟩
  ·have nd:¬ D:=fun h=>by have:=hD.lights h;rw [this] at hj;exact absurd hj (by simp)
   have hlj:=hr.light _ (List.getElem_mem hj)
   simp only [eX,dt (show (j:Int) < (s.gK.length:Int) by omega),cond_true,aR]
   refine TU.bind (P:=fun a:(aA×aB×aP×jM)×Int=>(vin a.1.1∧(D→a.1.1=v0))∧exC a.2 (gl.length:Int)) (S:=fun i a r=>∃ tn,r=(a.1.1,a.1.2.1,swp gl (tn),a.1.2.2.1,a.1.2.2.2)∧cV (t' i) tn a.2) ?_ fun a ha r hr'=>?_
   ·refine TU.e (a:=s.gK[j]) (fun i=>by rw [iS,List.getElem?_eq_getElem hj]) ?_
    refine TU.c (aIL hN _ _ _ _ _ _ _ _ _ _) fun r10 _=>TU.c (aIL hN _ _ _ _ _ _ _ _ _ _) fun r12 _=>?_
    refine TU.t (aR1 (by omega) hlj pl.gat hp.2.1 _) fun r13 h13=>?_
    refine TU.cond (fun hc=>by rw [hcon] at hc;cases hd:r13.gE1 <;> rw [hd] at hc <;> cases hc) (fun _=>?_)
    refine TU.bind (P:=fun a:Bool×Int=>exC a.2 (gl.length:Int)) (S:=fun i a r=>∃ tn,r=(swp gl (tn),a.1)∧cV (t' i) tn a.2) ?_ fun an han ra hra=>?_
    ·refine TU.bind (anyU N (by omega) hsw pl.gat r13.gE5 2 pl.gi (!r13.gE6) t') fun an _ ra hra=>?_
     have hnc:exC (gl.length:Int) (gl.length:Int):=rfl
     have hn:∃ tn:ι→Int,∀ i,ra i=(swp gl (tn i),an)∧cV (t' i) (tn i) (gl.length:Int):=⟨fun i=>(hra i).choose,fun i=>(hra i).choose_spec⟩
     obtain ⟨tn,en⟩:=hn
     simp only [fun i=>(en i).1]
     exact TU.cond (fun _=>TU.cond (fun _=>TU.ret (_,(gl.length:Int)) hnc fun i=>⟨tn i,rfl,(en i).2⟩) (fun _=>TU.ret (false,(gl.length:Int)) hnc fun i=>⟨tn i,rfl,(en i).2⟩)) (fun _=>TU.ret (false,(gl.length:Int)) hnc fun i=>⟨tn i,rfl,(en i).2⟩)
    ·have hn:∃ tn:ι→Int,∀ i,ra i=(swp gl (tn i),an.1)∧cV (t' i) (tn i) an.2:=⟨fun i=>(hra i).choose,fun i=>(hra i).choose_spec⟩
     obtain ⟨tn,en⟩:=hn
     simp only [fun i=>(en i).1]
     refine TU.cond (fun _=>?_) (fun _=>TU.ret ((_,_,_,_),an.2) ⟨hx.1.1,han⟩ fun i=>⟨tn i,rfl,(en i).2⟩)
     refine TU.c (addS hN D (by intro y hy;simp at hy;rcases hy with rfl | rfl;exact hp.2.2.1;exact h13) (by simp) _ hf hx.1.1.1 (fun h=>absurd h nd) _ _ _ _ _ _) fun r17 h17=>TU.ret ((_,_,_,_),an.2) ⟨h17,han⟩ fun i=>⟨tn i,rfl,(en i).2⟩
   ·have hn:∃ tn:ι→Int,∀ i,r i=(a.1.1,a.1.2.1,swp gl (tn i),a.1.2.2.1,a.1.2.2.2)∧cV (t' i) (tn i) a.2:=⟨fun i=>(hr' i).choose,fun i=>(hr' i).choose_spec⟩
    obtain ⟨tn,en⟩:=hn
    simp only [fun i=>(en i).1]
    rw [dX (by omega)]
    exact hk ((a.1.1,a.1.2.1),x.2+a.2) tn ⟨⟨ha.1,aG0 (aNN hx.1.2 ha.2) (by rw [show ((j+1:Nat):Int)=(j:Int)+1 from by omega,Int.mul_add,Int.mul_one])⟩,fun i=>nR (hx.2 i) (en i).2⟩
  ·simp only [eX,df (show ¬ (s.gK.length:Int) < (s.gK.length:Int) by omega),cond_false]
   exact TU.ret x hx.1 fun i=>⟨t' i,rfl,hx.2 i⟩
 have h2:∃ t2:ι→Int,∀ i,r i=(a.1.1,a.1.2,swp gl (t2 i))∧cV (t i) (t2 i) a.2:=⟨fun i=>(hr' i).choose,fun i=>(hr' i).choose_spec⟩
 obtain ⟨t2,e2⟩:=h2
 simp only [fun i=>(e2 i).1]
 simp only [hcon,Bool.not_true,cond_false,aJj,Option.bind_some,aR]
 obtain ⟨n,hn⟩:=Int.eq_ofNat_of_zero_le (show 0≤(bW v.gF).2 - (s.gK.length:Int) by omega)
 have cl:(bW v.gF).2 < 1000:=by unfold bW;cases (v.gF==0) <;> cases (v.gF==1) <;> cases (v.gF==2) <;> decide
 have ig:I64 ((bW v.gF).2 - (s.gK.length:Int))=(n:Int):=by rw [hn,bK (by omega) (by omega)]
 refine TU.bind (P:=fun _:Unit=>True) (S:=fun i _ r=>∃ t',r=swp gl t'∧cV (t2 i) t' ((gl.length:Int)*(n:Int))) ?_ fun _ _ r hr'=>?_
 ·refine TU.loop0 (n:=n) (fun j (_:Unit) t'=>∀ i,cV (t2 i) (t' i) ((gl.length:Int)*(j:Int))) (F:=fun i k t' (_:Unit) j=>eY N (bW v.gF) (s.gK.length:Int) pl k (swp gl t') j) (fun k t' _ j hj hx hk=>?_) (fun k t' _ hx=>?_) (by omega) (s:=()) (h:=t2) (fun i=>by rw [show ((0:Nat):Int)=0 from rfl,Int.mul_zero];exact jZ _)
  ·simp only [eY,aR,ig,dt (show (j:Int) < (n:Int) by omega),cond_true]
   refine TU.bind (anyU N (by omega) hsw pl.gat (aC.mk 0 0 0) 2 pl.gi false t') fun an _ ra hra=>?_
   have hn:∃ tn:ι→Int,∀ i,ra i=(swp gl (tn i),an)∧cV (t' i) (tn i) (gl.length:Int):=⟨fun i=>(hra i).choose,fun i=>(hra i).choose_spec⟩
   obtain ⟨tn,en⟩:=hn
   simp only [fun i=>(en i).1]
   rw [dX (by omega)]
   exact hk () tn fun i=>aPG (nR (hx i) (en i).2) (by rw [show ((j+1:Nat):Int)=(j:Int)+1 from by omega,Int.mul_add,Int.mul_one])
  ·simp only [eY,aR,ig,df (show ¬ (n:Int) < (n:Int) by omega),cond_false]
   exact TU.ret () trivial fun i=>⟨t' i,rfl,hx i⟩
 ·have h3:∃ t3:ι→Int,∀ i,r i=swp gl (t3 i)∧cV (t2 i) (t3 i) ((gl.length:Int)*(n:Int)):=⟨fun i=>(hr' i).choose,fun i=>(hr' i).choose_spec⟩
  obtain ⟨t3,e3⟩:=h3
  simp only [fun i=>(e3 i).1]
  exact TU.ret (a.1,a.2+(gl.length:Int)*(n:Int)) ⟨ha.1,by have h:=ha.2;unfold exC at *;dsimp only;rw [h,← Int.mul_add];congr 1;omega⟩ fun i=>⟨t3 i,rfl,nR (e2 i).2 (e3 i).2⟩
end
section
variable {ι:Type} {N:Nat} (hN:1000000000000 < N) {b:List (List aD)} {s:aF} {v:aI} {sky:aA} (hr:Rdy b s v sky)
include hN hr
theorem aSo {bv:aX} {gl:List aG} (hbv:aBN gl.length bv) (hgl:gl=s.gL) (htr:wO gl bv) (hcon:v.gQ=false) (hfit:(s.gK.length:Int)≤(bW v.gF).2) {D:Prop} (hD:DrkW D s sky) {pl:aV} (hp:aGC pl) (ray:aK) {f l:aA} (hf:vin f) (hl:vin l) (hl0:D→l=v0) (dep:Int) (ov:Bool) (sm:aH) (st:ι→aE) (src:aB) (t:ι→Int) :
  TU (fun i=>lB N b pl ray f l dep ov sm s v sky (st i) src (wlk bv gl (t i))) (fun a:(aA×aB)×Int=>(vin a.1.1∧(D→a.1.1=v0))∧amC a.2 ((3*(gl.length:Int))*(bW v.gF).2)) (fun i a r=>∃ t',r=(a.1.1,a.1.2,wlk bv gl t')∧cV (t i) t' a.2):=by
 unfold lB
 have l5:=hr.lights
 simp only [aR]
 refine TU.bind (P:=fun a:(aA×aB)×Int=>(vin a.1.1∧(D→a.1.1=v0))∧amC a.2 ((3*(gl.length:Int))*(s.gK.length:Int))) (S:=fun i a r=>∃ t',r=(a.1.1,a.1.2,wlk bv gl t')∧cV (t i) t' a.2) ?_ fun a ha r hr'=>?_
 ·refine TU.loop0 (n:=s.gK.length) (fun j (x:(aA×aB)×Int) t'=>((vin x.1.1∧(D→x.1.1=v0))∧amC x.2 ((3*(gl.length:Int))*(j:Int)))∧∀ i,cV (t i) (t' i) x.2) (F:=fun i k t' (x:(aA×aB)×Int) j=>fM N (s.gK.length:Int) s b ray f dep ov sm v sky (st i) pl k x.1.1 x.1.2 (wlk bv gl t') j) (fun k t' x j hj hx hk=>?_) (fun k t' x hx=>?_) (by omega) (s:=((l,src),0)) (h:=t) ⟨⟨⟨hl,hl0⟩,aGr aKg (by rw [show ((0:Nat):Int)=0 from rfl,Int.mul_zero])⟩,fun i=>jZ _⟩
  ·have nd:¬ D:=fun h=>by have:=hD.lights h;rw [this] at hj;exact absurd hj (by simp)
   have hlj:=hr.light _ (List.getElem_mem hj)
   simp only [fM,dt (show (j:Int) < (s.gK.length:Int) by omega),cond_true,aR]
   refine TU.bind (P:=fun a:(aA×aB×aP×jM)×Int=>(vin a.1.1∧(D→a.1.1=v0))∧amC a.2 (3*(gl.length:Int))) (S:=fun i a r=>∃ tn,r=(a.1.1,a.1.2.1,(tn),a.1.2.2.1,a.1.2.2.2)∧cV (t' i) tn a.2) ?_ fun a ha r hr'=>?_
   ·refine TU.e (a:=s.gK[j]) (fun i=>by rw [iS,List.getElem?_eq_getElem hj]) ?_
    refine TU.c (aIV hN _ _ _ _ _ _ _ _ _ _) fun r10 _=>TU.c (aIV hN _ _ _ _ _ _ _ _ _ _) fun r12 _=>?_
    refine TU.t (aR1 (by omega) hlj pl.gat hp.2.1 _) fun r13 h13=>?_
    refine TU.cond (fun _=>TU.ret ((x.1.1,aB.mk r12.1 ((aB.mk r10.1 x.1.2.gA x.1.2.gC x.1.2.gB x.1.2.gD).gA) ((aB.mk r10.1 x.1.2.gA x.1.2.gC x.1.2.gB x.1.2.gD).gC) ((aB.mk r10.1 x.1.2.gA x.1.2.gC x.1.2.gB x.1.2.gD).gB) ((aB.mk r10.1 x.1.2.gA x.1.2.gC x.1.2.gB x.1.2.gD).gD),s.gK[j],r13),0) ⟨hx.1.1,aKw aKg (by omega)⟩ fun i=>⟨t' i,rfl,jZ _⟩) (fun _=>?_)
    refine TU.bind (P:=fun a:Bool×Int=>amC a.2 (3*(gl.length:Int))) (S:=fun i a r=>∃ tn,r=((tn),a.1)∧cV (t' i) tn a.2) ?_ fun an han ra hra=>?_
    ·refine TU.bind (anyK N (by omega) hbv htr (by rw [hgl];exact hr.few) pl.gat r13.gE5 2 pl.gi (!r13.gE6) t') fun an hnc ra hra=>?_
     obtain ⟨an,nc⟩:=an
     dsimp only at hnc hra
     have hn:∃ tn:ι→Int,∀ i,ra i=(tn i,an)∧cV (t' i) (tn i) nc:=⟨fun i=>(hra i).choose,fun i=>(hra i).choose_spec⟩
     obtain ⟨tn,en⟩:=hn
     simp only [fun i=>(en i).1]
     exact TU.cond (fun _=>TU.cond (fun _=>TU.ret (_,nc) hnc fun i=>⟨tn i,rfl,(en i).2⟩) (fun _=>TU.ret (false,nc) hnc fun i=>⟨tn i,rfl,(en i).2⟩)) (fun _=>TU.ret (false,nc) hnc fun i=>⟨tn i,rfl,(en i).2⟩)
    ·have hn:∃ tn:ι→Int,∀ i,ra i=((tn i),an.1)∧cV (t' i) (tn i) an.2:=⟨fun i=>(hra i).choose,fun i=>(hra i).choose_spec⟩
     obtain ⟨tn,en⟩:=hn
     simp only [fun i=>(en i).1]
     refine TU.cond (fun _=>?_) (fun _=>TU.ret ((_,_,_,_),an.2) ⟨hx.1.1,han⟩ fun i=>⟨tn i,rfl,(en i).2⟩)
     refine TU.c (addW hN D (by intro y hy;simp at hy;rcases hy with rfl | rfl;exact hp.2.2.1;exact h13) (by simp) _ hf hx.1.1.1 (fun h=>absurd h nd) _ _ _ _ _ _) fun r17 h17=>TU.ret ((_,_,_,_),an.2) ⟨h17,han⟩ fun i=>⟨tn i,rfl,(en i).2⟩
   ·have hn:∃ tn:ι→Int,∀ i,r i=(a.1.1,a.1.2.1,(tn i),a.1.2.2.1,a.1.2.2.2)∧cV (t' i) (tn i) a.2:=⟨fun i=>(hr' i).choose,fun i=>(hr' i).choose_spec⟩
    obtain ⟨tn,en⟩:=hn
    simp only [fun i=>(en i).1]
    rw [dX (by omega)]
    exact hk ((a.1.1,a.1.2.1),x.2+a.2) tn ⟨⟨ha.1,aGr (aMg hx.1.2 ha.2) (by rw [show ((j+1:Nat):Int)=(j:Int)+1 from by omega,Int.mul_add,Int.mul_one])⟩,fun i=>nR (hx.2 i) (en i).2⟩
  ·simp only [fM,df (show ¬ (s.gK.length:Int) < (s.gK.length:Int) by omega),cond_false]
   exact TU.ret x hx.1 fun i=>⟨t' i,rfl,hx.2 i⟩
 have h2:∃ t2:ι→Int,∀ i,r i=(a.1.1,a.1.2,wlk bv gl (t2 i))∧cV (t i) (t2 i) a.2:=⟨fun i=>(hr' i).choose,fun i=>(hr' i).choose_spec⟩
 obtain ⟨t2,e2⟩:=h2
 simp only [fun i=>(e2 i).1]
 simp only [hcon,Bool.not_false,cond_true]
 exact TU.ret a ⟨ha.1,aKw ha.2 (Int.mul_le_mul_of_nonneg_left hfit (by omega))⟩ fun i=>⟨t2 i,rfl,(e2 i).2⟩
end
section
variable {ι:Type} {N:Nat} (hN:4100 < N) {b:List (List aD)} {s:aF} {v:aI} {sky:aA} (hr:Rdy b s v sky)
include hN hr
theorem stepS {gl:List aG} (hsw:aJF s.gL.length gl) (hcon:v.gQ=true) (hfit:(s.gK.length:Int)≤(bW v.gF).2) (hobj:aDJ s) {D:Prop} (hD:DrkS D s sky) {ray:aK} (hray:aDC ray) {f l:aA} (hf:vin f) (hl:vin l) (hl0:D→l=v0) (dep:Int) (ov:Bool) {sm:aH} (hsm:aAI s sm) (st:ι→aE) (src:aB) (t:ι→Int) :
  TU (fun i=>lC N b ray f l dep ov sm s v sky (st i) src (swp gl (t i))) (fun a:(aK×aA×aA×Bool×aH×aB)×Int×Int=>(aDC a.1.1∧vin a.1.2.1∧vin a.1.2.2.1∧(D→a.1.2.2.1=v0)∧aAI s a.1.2.2.2.2.1)∧exC a.2.1 ((gl.length:Int)*(1+(bW v.gF).2))∧exC a.2.2 4) (fun i a r=>∃ x t',r=(a.1.1,a.1.2.1,a.1.2.2.1,a.1.2.2.2.1,a.1.2.2.2.2.1,x,a.1.2.2.2.2.2,swp gl t')∧cV (t i) t' a.2.1∧cV (st i).gM x a.2.2):=by
 unfold lC
 refine TU.bind (meetS hN hr hsw hcon hfit hobj hray f l dep ov hsm st src t) fun a ha r hr'=>?_
 obtain ⟨a,mc,tc⟩:=a
 obtain ⟨ha,hmc,htc⟩:=ha
 dsimp only at ha hmc htc hr'
 have h1:∃ (x t1:ι→Int),∀ i,r i=(a.1,x i,swp gl (t1 i),a.2.1,a.2.2)∧cV (t i) (t1 i) mc∧cV (st i).gM (x i) tc:=⟨fun i=>(hr' i).choose,fun i=>(hr' i).choose_spec.choose,fun i=>(hr' i).choose_spec.choose_spec⟩
 obtain ⟨x,t1,e1⟩:=h1
 simp only [fun i=>(e1 i).1]
 obtain ⟨hp,hm,hs⟩:=ha
 have nd:∀ h:(a.2.1.gB0.gA7==4)=true,¬ D:=fun h d=>by
  have h4:a.2.1.gB0.gA7=4:=by simpa using h
  rcases hm with hm | hm
  ·exact hD.mats d _ hm h4
  ·rw [hm] at h4;cases h4
 generalize a.2.1=pl at *
 refine TU.c (P:=fun p:aA×Bool=>vin p.1∧(D→p.1=v0)) (TC.cond (fun _=>TC.bind (addS hN D (by intro y hy;simp at hy;rcases hy with rfl;exact hr.sky) (by simp) _ hf hl (fun d=>⟨hl0 d,by rw [hD.sky d]⟩) _ _ _ _ _ _) fun r3 h3=>TC.bind (aOc _ _ _ _ _ _ _ _ _ _) fun _ _=>TC.ret _ h3) (fun _=>TC.ret _ ⟨hl,hl0⟩)) fun p2 h2=>?_
 refine TU.c (aOc _ _ _ _ _ _ _ _ _ _) fun _ _=>?_
 simp only [aR]
 refine TU.c (P:=fun p:aA×Bool=>vin p.1∧(D→p.1=v0)) (TC.cond (fun hc=>TC.bind (addS hN D (by intro y hy;simp at hy;rcases hy with rfl;exact hp.2.2.1) (by simp) _ hf h2.1 (fun d=>absurd d (nd hc)) _ _ _ _ _ _) fun r3 h3=>TC.bind (aOc _ _ _ _ _ _ _ _ _ _) fun _ _=>TC.ret _ h3) (fun _=>TC.ret _ h2)) fun p6 p6l=>?_
 refine TU.bind (P:=fun z:(aA×aB)×Int=>(vin z.1.1∧(D→z.1.1=v0))∧exC z.2 ((gl.length:Int)*(bW v.gF).2)) (S:=fun i z r=>∃ t2,r=(z.1.1,z.1.2,swp gl t2)∧cV (t1 i) t2 z.2) ?_ fun z hz rz hrz=>?_
 ·simp only [hcon,cond_true,Option.bind_some]
  refine TU.bind (aTX hN hr hsw hcon hfit hD hp (ι:=ι) ray hf p6l.1 p6l.2 dep p6.2 a.1 _ src t1) fun z hz rz hrz=>?_
  have h2:∃ t2:ι→Int,∀ i,rz i=(z.1.1,z.1.2,swp gl (t2 i))∧cV (t1 i) (t2 i) z.2:=⟨fun i=>(hrz i).choose,fun i=>(hrz i).choose_spec⟩
  obtain ⟨t2,e2⟩:=h2
  simp only [fun i=>(e2 i).1]
  exact TU.ret ((z.1.1,z.1.2),z.2) hz fun i=>⟨t2 i,rfl,(e2 i).2⟩
 have h2':∃ t2:ι→Int,∀ i,rz i=(z.1.1,z.1.2,swp gl (t2 i))∧cV (t1 i) (t2 i) z.2:=⟨fun i=>(hrz i).choose,fun i=>(hrz i).choose_spec⟩
 obtain ⟨t2,e2⟩:=h2'
 simp only [fun i=>(e2 i).1]
 obtain ⟨z,zc⟩:=z
 obtain ⟨hz,hzc⟩:=hz
 dsimp only at hz hzc e2
 have rt:∀ i,cV (t i) (t2 i) (mc+zc):=fun i=>nR (e1 i).2.1 (e2 i).2
 have rc:exC (mc+zc) ((gl.length:Int)*(1+(bW v.gF).2)):=aG0 (aNN hmc hzc) (by rw [Int.mul_add,Int.mul_one])
 refine TU.t (P:=fun _=>True) (T.cond (fun _=>T.ret trivial) (fun _=>T.ret trivial)) fun p14 _=>TU.cond (fun _=>?_) (fun _=>?_)
 ·exact TU.c (aOc _ _ _ _ _ _ _ _ _ _) fun _ _=>TU.ret ((ray,f,z.1,_,a.1,z.2),mc+zc,tc) ⟨⟨hray,hf,hz.1,hz.2,hs⟩,rc,htc⟩ fun i=>⟨x i,t2 i,rfl,rt i,(e1 i).2.2⟩
 refine TU.c (aIL hN _ _ _ _ _ _ _ _ _ _) fun r16 _=>TU.c (aIL hN _ _ _ _ _ _ _ _ _ _) fun r17 _=>?_
 refine TU.t (aLR (by omega) hp.2.2.2 hp.2.2.1 hp.2.1 ray.gd _) fun r18 h18=>TU.t (aJh (by omega) _ (by intro y hy;simp at hy;rcases hy with rfl | rfl;exact hf;exact h18.2) (by simp)) fun r19 h19=>?_
 refine TU.c (aOc _ _ _ _ _ _ _ _ _ _) fun _ _=>?_
 refine TU.c (P:=fun p:aA×Bool×aB=>vin p.1) ?_ fun p21 h21=>?_
 ·refine TC.cond (fun _=>TC.bind (aIL hN _ _ _ _ _ _ _ _ _ _) fun r22 _=>TC.t (aIj (by omega) h19 _) fun r23 h23=>TC.bind (aOc _ _ _ _ _ _ _ _ _ _) fun _ _=>TC.ret _ h23) (fun _=>TC.ret _ h19)
 ·exact TU.ret ((_,p21.1,z.1,p21.2.1,a.1,p21.2.2),mc+zc,tc) ⟨⟨⟨hp.1,h18.1⟩,h21,hz.1,hz.2,hs⟩,rc,htc⟩ fun i=>⟨x i,t2 i,rfl,rt i,(e1 i).2.2⟩
def inVS (v:aI) (x y z:Int):Prop:=(0≤x∧x < v.gW)∧(0≤y∧y < v.gH)∧0≤z∧z < v.gA8
theorem pathS {gl:List aG} (hsw:aJF s.gL.length gl) (hcon:v.gQ=true) (hfit:(s.gK.length:Int)≤(bW v.gF).2) (hobj:aDJ s) {D:Prop} (hD:DrkS D s sky) (x y z:Int) (st:ι→aE) (t:ι→Int) :
  TU (fun i=>eW N b x y z s v sky (st i) (swp gl (t i))) (fun a:(aH×Int)×Int×Int×Int=>(D→a.1.1.gA4=v0)∧(inVS v x y z→a.1.2=0)∧(a.1.2=0∧(aAI s a.1.1∧vin a.1.1.gA4)∧exC a.2.1 ((gl.length:Int)*(1+(bW v.gF).2)*(v.gJ+1))∧exC a.2.2.1 (4*(v.gJ+1))∧exC a.2.2.2 (v.gJ+1)∨a.1.2=2)) (fun i a r=>∃ st' t',r=(st',swp gl t',a.1.1,a.1.2)∧st'.gI=(st i).gI∧cV (t i) t' a.2.1∧cV (st i).gM st'.gM a.2.2.1∧cV (st i).gG st'.gG a.2.2.2):=by
 unfold eW tK
 simp only [aR,Option.bind_some]
 refine TU.cond (fun hc=>TU.ret ((aH.mk (aA.mk 0 0 0) 0 0 (aA.mk 0 0 0) 0,2),0,0,0) ⟨fun _=>rfl,fun h=>?_,Or.inr rfl⟩ fun i=>⟨st i,t i,rfl,rfl,jZ _,jZ _,jZ _⟩) (fun _=>?_)
 ·exfalso
  obtain ⟨⟨h1,h2⟩,⟨h3,h4⟩,h5,h6⟩:=h
  rw [df (show ¬ x < 0 by omega),df (show ¬ x≥v.gW by omega),df (show ¬ y < 0 by omega),df (show ¬ y≥v.gH by omega),df (show ¬ z < 0 by omega),df (show ¬ z≥v.gA8 by omega)] at hc
  cases hc
 refine TU.c (P:=fun _=>True) ?_ fun p8 _=>?_
 ·have main:∀ (k j:Nat) (src:aB) (q:Vector Int 4),4 - j < k→j≤4→TC (fun i=>fB N b s v sky (st i) (swp gl (t i)) k src q (j:Int)) (fun _=>True):=by
   intro k
   induction k with
   | zero=>intro j src q h;omega
   | succ k ih=>
    intro j src q hk hj
    simp only [fB]
    refine TC.cond (fun hc=>?_) (fun _=>TC.ret _ trivial)
    have hj4:j < 4:=by have:=of_decide_eq_true hc;omega
    refine TC.bind (aIL (by omega) _ _ _ _ _ _ _ _ _ _) fun r12 _=>TC.t (T.inRO (by omega) (by omega)) fun _ _=>TC.t (T.vgI hj4) fun _ _=>?_
    rw [dX (by omega)]
    exact ih (j+1) _ _ (by omega) (by omega)
  exact main N 0 _ _ (by omega) (by decide)
 refine TU.t (rayN (by omega) _ _ _ _ _ _) fun r15 h15=>?_
 obtain ⟨_,_,⟨d0,d8⟩,_⟩:=hr.view
 obtain ⟨n,hn⟩:=Int.eq_ofNat_of_zero_le (show 0≤v.gJ+1 by omega)
 refine TU.bind (P:=fun a:(aB×aK×aA×aA×Bool×aH)×Int×Int×Int=>(aDC a.1.2.1∧vin a.1.2.2.1∧vin a.1.2.2.2.1∧(D→a.1.2.2.2.1=v0)∧aAI s a.1.2.2.2.2.2)∧exC a.2.1 ((gl.length:Int)*(1+(bW v.gF).2)*(n:Int))∧exC a.2.2.1 (4*(n:Int))∧exC a.2.2.2 (n:Int)) (S:=fun i a r=>∃ (st':aE) (t':Int),∃ dd:Int,r=(st',swp gl t',a.1.1,a.1.2.1,a.1.2.2.1,a.1.2.2.2.1,dd,a.1.2.2.2.2.1,a.1.2.2.2.2.2)∧st'.gI=(st i).gI∧cV (t i) t' a.2.1∧cV (st i).gM st'.gM a.2.2.1∧cV (st i).gG st'.gG a.2.2.2) ?_ fun a ha r hr'=>?_
 ·refine TU.loop0 (n:=n) (fun j (x:(aB×aK×aA×aA×Bool×aH)×Int×Int) (h:ι→aE×Int)=>(((aDC x.1.2.1∧vin x.1.2.2.1∧vin x.1.2.2.2.1∧(D→x.1.2.2.2.1=v0)∧aAI s x.1.2.2.2.2.2)∧exC x.2.1 ((gl.length:Int)*(1+(bW v.gF).2)*(j:Int))∧exC x.2.2 (4*(j:Int))))∧∀ i,(h i).1.gI=(st i).gI∧cV (t i) (h i).2 x.2.1∧cV (st i).gM (h i).1.gM x.2.2∧cV (st i).gG (h i).1.gG (j:Int)) (F:=fun i k (h:aE×Int) (x:(aB×aK×aA×aA×Bool×aH)×Int×Int) j=>dW N v b s sky k h.1 (swp gl h.2) x.1.1 x.1.2.1 x.1.2.2.1 x.1.2.2.2.1 j x.1.2.2.2.2.1 x.1.2.2.2.2.2) (fun k h x j hj hx hk=>?_) (fun k h x hx=>?_) (by omega) (s:=((p8.1,aK.mk r15.1 r15.2.1 (-1),aA.mk 4294967296 4294967296 4294967296,aA.mk 0 0 0,false,aH.mk (aA.mk 0 0 0) 0 0 (aA.mk 0 0 0) (-1)),0,0)) (h:=fun i=>(st i,t i)) ⟨⟨⟨h15,aSH,aC9,fun _=>rfl,sm0 s⟩,aG0 aPg (by rw [show ((0:Nat):Int)=0 from rfl,Int.mul_zero]),aG0 aPg (by rfl)⟩,fun i=>⟨rfl,jZ _,jZ _,jZ _⟩⟩
  ·simp only [dW,aR,dt (show (j:Int)≤v.gJ by omega),cond_true]
   simp only [hcon]
   refine TU.t (P:=fun r=>r=true) (by cases x.1.2.2.2.2.1 <;> exact ⟨_,rfl,rfl⟩) fun p26 h26=>?_
   rw [h26]
   simp only [cond_true]
   obtain ⟨⟨⟨x1,x2,x3,x4,x6⟩,x7,x8⟩,x5⟩:=hx
   refine TU.bind (stepS hN hr hsw hcon hfit hobj hD x1 x2 x3 x4 (j:Int) x.1.2.2.2.2.1 x6 (fun i=>(h i).1) x.1.1 (fun i=>(h i).2)) fun a ha r hr'=>?_
   have h1:∃ (y t1:ι→Int),∀ i,r i=(a.1.1,a.1.2.1,a.1.2.2.1,a.1.2.2.2.1,a.1.2.2.2.2.1,y i,a.1.2.2.2.2.2,swp gl (t1 i))∧cV (h i).2 (t1 i) a.2.1∧cV (h i).1.gM (y i) a.2.2:=⟨fun i=>(hr' i).choose,fun i=>(hr' i).choose_spec.choose,fun i=>(hr' i).choose_spec.choose_spec⟩
   obtain ⟨y,t1,e1⟩:=h1
   simp only [fun i=>(e1 i).1]
   rw [dX (by omega)]
   obtain ⟨ha,hc1,hc2⟩:=ha
   refine hk ((a.1.2.2.2.2.2,a.1.1,a.1.2.1,a.1.2.2.1,a.1.2.2.2.1,a.1.2.2.2.2.1),x.2.1+a.2.1,x.2.2+a.2.2) (fun i=>(aE.mk (h i).1.gI (y i) (I64 ((h i).1.gG+1)),t1 i)) ⟨⟨ha,?_,?_⟩,fun i=>⟨(x5 i).1,nR (x5 i).2.1 (e1 i).2.1,nR (x5 i).2.2.1 (e1 i).2.2,aCb (x5 i).2.2.2⟩⟩
   ·refine aG0 (aNN x7 hc1) ?_
    generalize (gl.length:Int)*(1+(bW v.gF).2)=X
    rw [show ((j+1:Nat):Int)=(j:Int)+1 from by omega,Int.mul_add,Int.mul_one]
   ·exact aG0 (aNN x8 hc2) (by omega)
  ·simp only [dW,aR,df (show ¬ (n:Int)≤v.gJ by omega),cond_false,Option.bind_some]
   exact TU.ret (x.1,x.2.1,x.2.2,(n:Int)) ⟨hx.1.1,hx.1.2.1,hx.1.2.2,rfl⟩ fun i=>⟨_,_,_,rfl,hx.2 i⟩
 ·have h1:∃ (st':ι→aE) (t':ι→Int) (dd:ι→Int),∀ i,r i=(st' i,swp gl (t' i),a.1.1,a.1.2.1,a.1.2.2.1,a.1.2.2.2.1,dd i,a.1.2.2.2.2.1,a.1.2.2.2.2.2)∧(st' i).gI=(st i).gI∧cV (t i) (t' i) a.2.1∧cV (st i).gM (st' i).gM a.2.2.1∧cV (st i).gG (st' i).gG a.2.2.2:=⟨fun i=>(hr' i).choose,fun i=>(hr' i).choose_spec.choose,fun i=>(hr' i).choose_spec.choose_spec.choose,fun i=>(hr' i).choose_spec.choose_spec.choose_spec⟩
  obtain ⟨st',t',dd,e1⟩:=h1
  simp only [fun i=>(e1 i).1]
  rw [hn]
  exact TU.ret ((aH.mk a.1.2.2.2.1 a.1.2.2.2.2.2.gB2 a.1.2.2.2.2.2.gJ a.1.2.2.2.2.2.gB9 a.1.2.2.2.2.2.gA0,0),a.2) ⟨ha.1.2.2.2.1,fun _=>rfl,Or.inl ⟨rfl,⟨ha.1.2.2.2.2,ha.1.2.2.1⟩,ha.2⟩⟩ fun i=>⟨st' i,t' i,rfl,(e1 i).2⟩
end
section
variable {ι:Type} {N:Nat} (hN:1000000000000 < N) {b:List (List aD)} {s:aF} {v:aI} {sky:aA} (hr:Rdy b s v sky)
include hN hr
theorem stepW {bv:aX} {gl:List aG} (hbv:aBN gl.length bv) (hgl:gl=s.gL) (htr:wO gl bv) (hcon:v.gQ=false) (hfit:(s.gK.length:Int)≤(bW v.gF).2) (hobj:aDJ s) {D:Prop} (hD:DrkW D s sky) {ray:aK} (hray:aDC ray) {f l:aA} (hf:vin f) (hl:vin l) (hl0:D→l=v0) (dep:Int) (ov:Bool) {sm:aH} (hsm:aAI s sm) (st:ι→aE) (src:aB) (t:ι→Int) :
  TU (fun i=>nD N b ray f l dep ov sm s v sky (st i) src (wlk bv gl (t i))) (fun a:(aK×aA×aA×Bool×aH×aB)×Int×Int=>(aDC a.1.1∧vin a.1.2.1∧vin a.1.2.2.1∧(D→a.1.2.2.1=v0)∧aAI s a.1.2.2.2.2.1)∧amC a.2.1 ((3*(gl.length:Int))*(1+(bW v.gF).2))∧amC a.2.2 4) (fun i a r=>∃ x t',r=(a.1.1,a.1.2.1,a.1.2.2.1,a.1.2.2.2.1,a.1.2.2.2.2.1,x,a.1.2.2.2.2.2,wlk bv gl t')∧cV (t i) t' a.2.1∧cV (st i).gM x a.2.2):=by
 unfold nD
 refine TU.bind (meetW hN hr hbv hgl htr hcon hfit hobj hray f l dep ov hsm st src t) fun a ha r hr'=>?_
 obtain ⟨a,mc,tc⟩:=a
 obtain ⟨ha,hmc,htc⟩:=ha
 dsimp only at ha hmc htc hr'
 have h1:∃ (x t1:ι→Int),∀ i,r i=(a.1,x i,(t1 i),a.2.1,a.2.2)∧cV (t i) (t1 i) mc∧cV (st i).gM (x i) tc:=⟨fun i=>(hr' i).choose,fun i=>(hr' i).choose_spec.choose,fun i=>(hr' i).choose_spec.choose_spec⟩
 obtain ⟨x,t1,e1⟩:=h1
 simp only [fun i=>(e1 i).1]
 obtain ⟨hp,hm,hs⟩:=ha
 have nd:∀ h:(a.2.1.gB0.gA7==4)=true,¬ D:=fun h d=>by
  have h4:a.2.1.gB0.gA7=4:=by simpa using h
  rcases hm with hm | hm
  ·exact hD.mats d _ hm h4
  ·rw [hm] at h4;cases h4
 generalize a.2.1=pl at *
 refine TU.c (P:=fun p:aA×Bool=>vin p.1∧(D→p.1=v0)) (TC.cond (fun _=>TC.bind (addW hN D (by intro y hy;simp at hy;rcases hy with rfl;exact hr.sky) (by simp) _ hf hl (fun d=>⟨hl0 d,by rw [hD.sky d]⟩) _ _ _ _ _ _) fun r3 h3=>TC.bind (aN4 _ _ _ _ _ _ _ _ _ _) fun _ _=>TC.ret _ h3) (fun _=>TC.ret _ ⟨hl,hl0⟩)) fun p2 h2=>?_
 refine TU.c (aN4 _ _ _ _ _ _ _ _ _ _) fun _ _=>?_
 simp only [aR]
 refine TU.c (P:=fun p:aA×Bool=>vin p.1∧(D→p.1=v0)) (TC.cond (fun hc=>TC.bind (addW hN D (by intro y hy;simp at hy;rcases hy with rfl;exact hp.2.2.1) (by simp) _ hf h2.1 (fun d=>absurd d (nd hc)) _ _ _ _ _ _) fun r3 h3=>TC.bind (aN4 _ _ _ _ _ _ _ _ _ _) fun _ _=>TC.ret _ h3) (fun _=>TC.ret _ h2)) fun p6 p6l=>?_
 refine TU.bind (P:=fun z:(aA×aB)×Int=>(vin z.1.1∧(D→z.1.1=v0))∧amC z.2 ((3*(gl.length:Int))*(bW v.gF).2)) (S:=fun i z r=>∃ t2,r=(z.1.1,z.1.2,wlk bv gl t2)∧cV (t1 i) t2 z.2) ?_ fun z hz rz hrz=>?_
 ·refine TU.t (P:=fun _=>True) (T.cond (fun _=>T.ret trivial) (fun _=>T.ret trivial)) fun p11 _=>TU.cond (fun _=>?_) (fun _=>TU.ret ((p6.1,src),0) ⟨p6l,aKw aKg (Int.mul_nonneg (by omega) (by omega))⟩ fun i=>⟨t1 i,rfl,jZ _⟩)
  refine TU.bind (aSo hN hr hbv hgl htr hcon hfit hD hp (ι:=ι) ray hf p6l.1 p6l.2 dep p6.2 a.1 _ src t1) fun z hz rz hrz=>?_
  have h2:∃ t2:ι→Int,∀ i,rz i=(z.1.1,z.1.2,wlk bv gl (t2 i))∧cV (t1 i) (t2 i) z.2:=⟨fun i=>(hrz i).choose,fun i=>(hrz i).choose_spec⟩
  obtain ⟨t2,e2⟩:=h2
  simp only [fun i=>(e2 i).1]
  exact TU.ret ((z.1.1,z.1.2),z.2) hz fun i=>⟨t2 i,rfl,(e2 i).2⟩
 have h2':∃ t2:ι→Int,∀ i,rz i=(z.1.1,z.1.2,wlk bv gl (t2 i))∧cV (t1 i) (t2 i) z.2:=⟨fun i=>(hrz i).choose,fun i=>(hrz i).choose_spec⟩
 obtain ⟨t2,e2⟩:=h2'
 simp only [fun i=>(e2 i).1]
 obtain ⟨z,zc⟩:=z
 obtain ⟨hz,hzc⟩:=hz
 dsimp only at hz hzc e2
 have rt:∀ i,cV (t i) (t2 i) (mc+zc):=fun i=>nR (e1 i).2.1 (e2 i).2
 have rc:amC (mc+zc) ((3*(gl.length:Int))*(1+(bW v.gF).2)):=aGr (aMg hmc hzc) (by rw [Int.mul_add,Int.mul_one])
 refine TU.t (P:=fun _=>True) (T.cond (fun _=>T.ret trivial) (fun _=>T.ret trivial)) fun p14 _=>TU.cond (fun _=>?_) (fun _=>?_)
 ·exact TU.c (aN4 _ _ _ _ _ _ _ _ _ _) fun _ _=>TU.ret ((ray,f,z.1,_,a.1,z.2),mc+zc,tc) ⟨⟨hray,hf,hz.1,hz.2,hs⟩,rc,htc⟩ fun i=>⟨x i,t2 i,rfl,rt i,(e1 i).2.2⟩
 refine TU.c (aIV hN _ _ _ _ _ _ _ _ _ _) fun r16 _=>TU.c (aIV hN _ _ _ _ _ _ _ _ _ _) fun r17 _=>?_
 refine TU.t (aLR (by omega) hp.2.2.2 hp.2.2.1 hp.2.1 ray.gd _) fun r18 h18=>TU.t (aJh (by omega) _ (by intro y hy;simp at hy;rcases hy with rfl | rfl;exact hf;exact h18.2) (by simp)) fun r19 h19=>?_
 refine TU.c (aN4 _ _ _ _ _ _ _ _ _ _) fun _ _=>?_
 refine TU.c (P:=fun p:aA×Bool×aB=>vin p.1) ?_ fun p21 h21=>?_
 ·refine TC.cond (fun _=>TC.bind (aIV hN _ _ _ _ _ _ _ _ _ _) fun r22 _=>TC.t (aIj (by omega) h19 _) fun r23 h23=>TC.bind (aN4 _ _ _ _ _ _ _ _ _ _) fun _ _=>TC.ret _ h23) (fun _=>TC.ret _ h19)
 ·exact TU.ret ((_,p21.1,z.1,p21.2.1,a.1,p21.2.2),mc+zc,tc) ⟨⟨⟨hp.1,h18.1⟩,h21,hz.1,hz.2,hs⟩,rc,htc⟩ fun i=>⟨x i,t2 i,rfl,rt i,(e1 i).2.2⟩
def inVW (v:aI) (x y z:Int):Prop:=(0≤x∧x < v.gW)∧(0≤y∧y < v.gH)∧0≤z∧z < v.gA8
theorem pathW {bv:aX} {gl:List aG} (hbv:aBN gl.length bv) (hgl:gl=s.gL) (htr:wO gl bv) (hcon:v.gQ=false) (hfit:(s.gK.length:Int)≤(bW v.gF).2) (hobj:aDJ s) {D:Prop} (hD:DrkW D s sky) (x y z:Int) (st:ι→aE) (t:ι→Int) :
  TU (fun i=>fK N b x y z s v sky (st i) (wlk bv gl (t i))) (fun a:(aH×Int)×Int×Int×Int=>(D→a.1.1.gA4=v0)∧(inVW v x y z→a.1.2=0)∧(a.1.2=0∧(aAI s a.1.1∧vin a.1.1.gA4)∧amC a.2.1 ((3*(gl.length:Int))*(1+(bW v.gF).2)*(v.gJ+1))∧amC a.2.2.1 (4*(v.gJ+1))∧aMh a.2.2.2 (v.gJ+1)∨a.1.2=2)) (fun i a r=>∃ st' t',r=(st',wlk bv gl t',a.1.1,a.1.2)∧st'.gI=(st i).gI∧cV (t i) t' a.2.1∧cV (st i).gM st'.gM a.2.2.1∧cV (st i).gG st'.gG a.2.2.2):=by
 unfold fK tK
 simp only [aR,Option.bind_some]
 refine TU.cond (fun hc=>TU.ret ((aH.mk (aA.mk 0 0 0) 0 0 (aA.mk 0 0 0) 0,2),0,0,0) ⟨fun _=>rfl,fun h=>?_,Or.inr rfl⟩ fun i=>⟨st i,t i,rfl,rfl,jZ _,jZ _,jZ _⟩) (fun _=>?_)
 ·exfalso
  obtain ⟨⟨h1,h2⟩,⟨h3,h4⟩,h5,h6⟩:=h
  rw [df (show ¬ x < 0 by omega),df (show ¬ x≥v.gW by omega),df (show ¬ y < 0 by omega),df (show ¬ y≥v.gH by omega),df (show ¬ z < 0 by omega),df (show ¬ z≥v.gA8 by omega)] at hc
  cases hc
 refine TU.c (P:=fun _=>True) ?_ fun p8 _=>?_
 ·have main:∀ (k j:Nat) (src:aB) (q:Vector Int 4),4 - j < k→j≤4→TC (fun i=>hO N b s v sky (st i) (wlk bv gl (t i)) k src q (j:Int)) (fun _=>True):=by
   intro k
   induction k with
   | zero=>intro j src q h;omega
   | succ k ih=>
    intro j src q hk hj
    simp only [hO]
    refine TC.cond (fun hc=>?_) (fun _=>TC.ret _ trivial)
    have hj4:j < 4:=by have:=of_decide_eq_true hc;omega
    refine TC.bind (aIV (by omega) _ _ _ _ _ _ _ _ _ _) fun r12 _=>TC.t (T.inRO (by omega) (by omega)) fun _ _=>TC.t (T.vgI hj4) fun _ _=>?_
    rw [dX (by omega)]
    exact ih (j+1) _ _ (by omega) (by omega)
  exact main N 0 _ _ (by omega) (by decide)
 refine TU.t (rayN (by omega) _ _ _ _ _ _) fun r15 h15=>?_
 obtain ⟨_,_,⟨d0,d8⟩,_⟩:=hr.view
 obtain ⟨n,hn⟩:=Int.eq_ofNat_of_zero_le (show 0≤v.gJ+1 by omega)
 refine TU.bind (P:=fun a:(aB×aK×aA×aA×Bool×aH)×Int×Int×Int=>(aDC a.1.2.1∧vin a.1.2.2.1∧vin a.1.2.2.2.1∧(D→a.1.2.2.2.1=v0)∧aAI s a.1.2.2.2.2.2)∧amC a.2.1 ((3*(gl.length:Int))*(1+(bW v.gF).2)*(n:Int))∧amC a.2.2.1 (4*(n:Int))∧aMh a.2.2.2 (n:Int)) (S:=fun i a r=>∃ (st':aE) (t':Int),∃ dd:Int,r=(st',wlk bv gl t',a.1.1,a.1.2.1,a.1.2.2.1,a.1.2.2.2.1,dd,a.1.2.2.2.2.1,a.1.2.2.2.2.2)∧st'.gI=(st i).gI∧cV (t i) t' a.2.1∧cV (st i).gM st'.gM a.2.2.1∧cV (st i).gG st'.gG a.2.2.2) ?_ fun a ha r hr'=>?_
 ·refine TU.loop0 (n:=n) (fun j (x:(aB×aK×aA×aA×Bool×aH)×Int×Int) (h:ι→aE×Int)=>(((aDC x.1.2.1∧vin x.1.2.2.1∧vin x.1.2.2.2.1∧(D→x.1.2.2.2.1=v0)∧aAI s x.1.2.2.2.2.2)∧amC x.2.1 ((3*(gl.length:Int))*(1+(bW v.gF).2)*(j:Int))∧amC x.2.2 (4*(j:Int)))∧(x.1.2.2.2.2.1=true→1≤(j:Int)))∧∀ i,(h i).1.gI=(st i).gI∧cV (t i) (h i).2 x.2.1∧cV (st i).gM (h i).1.gM x.2.2∧cV (st i).gG (h i).1.gG (j:Int)) (F:=fun i k (h:aE×Int) (x:(aB×aK×aA×aA×Bool×aH)×Int×Int) j=>eN N v b s sky k h.1 (wlk bv gl h.2) x.1.1 x.1.2.1 x.1.2.2.1 x.1.2.2.2.1 j x.1.2.2.2.2.1 x.1.2.2.2.2.2) (fun k h x j hj hx hk=>?_) (fun k h x hx=>?_) (by omega) (s:=((p8.1,aK.mk r15.1 r15.2.1 (-1),aA.mk 4294967296 4294967296 4294967296,aA.mk 0 0 0,false,aH.mk (aA.mk 0 0 0) 0 0 (aA.mk 0 0 0) (-1)),0,0)) (h:=fun i=>(st i,t i)) ⟨⟨⟨⟨h15,aSH,aC9,fun _=>rfl,sm0 s⟩,aGr aKg (by rw [show ((0:Nat):Int)=0 from rfl,Int.mul_zero]),aGr aKg (by rfl)⟩,fun h=>by cases h⟩,fun i=>⟨rfl,jZ _,jZ _,jZ _⟩⟩
  ·simp only [eN,aR,dt (show (j:Int)≤v.gJ by omega),cond_true]
   refine TU.t (P:=fun r=>r=false→1≤(j:Int)) (T.cond (fun _=>T.ret fun h=>by cases h) (fun hc=>T.ret fun _=>hx.1.2 (by simpa using hc))) fun p26 j0=>TU.cond (fun _=>?_) (fun hc=>TU.ret (x.1,x.2.1,x.2.2,(j:Int)) ⟨hx.1.1.1,aKw hx.1.1.2.1 (Int.mul_le_mul_of_nonneg_left (by omega) (Int.mul_nonneg (by omega) (by omega))),aKw hx.1.1.2.2 (by omega),j0 hc,by show (j:Int)≤n;omega⟩ fun i=>⟨_,_,_,rfl,hx.2 i⟩)
   obtain ⟨⟨⟨⟨x1,x2,x3,x4,x6⟩,x7,x8⟩,_⟩,x5⟩:=hx
   refine TU.bind (stepW hN hr hbv hgl htr hcon hfit hobj hD x1 x2 x3 x4 (j:Int) x.1.2.2.2.2.1 x6 (fun i=>(h i).1) x.1.1 (fun i=>(h i).2)) fun a ha r hr'=>?_
   have h1:∃ (y t1:ι→Int),∀ i,r i=(a.1.1,a.1.2.1,a.1.2.2.1,a.1.2.2.2.1,a.1.2.2.2.2.1,y i,a.1.2.2.2.2.2,wlk bv gl (t1 i))∧cV (h i).2 (t1 i) a.2.1∧cV (h i).1.gM (y i) a.2.2:=⟨fun i=>(hr' i).choose,fun i=>(hr' i).choose_spec.choose,fun i=>(hr' i).choose_spec.choose_spec⟩
   obtain ⟨y,t1,e1⟩:=h1
   simp only [fun i=>(e1 i).1]
   rw [dX (by omega)]
   obtain ⟨ha,hc1,hc2⟩:=ha
   refine hk ((a.1.2.2.2.2.2,a.1.1,a.1.2.1,a.1.2.2.1,a.1.2.2.2.1,a.1.2.2.2.2.1),x.2.1+a.2.1,x.2.2+a.2.2) (fun i=>(aE.mk (h i).1.gI (y i) (I64 ((h i).1.gG+1)),t1 i)) ⟨⟨⟨ha,?_,?_⟩,fun _=>by omega⟩,fun i=>⟨(x5 i).1,nR (x5 i).2.1 (e1 i).2.1,nR (x5 i).2.2.1 (e1 i).2.2,aCb (x5 i).2.2.2⟩⟩
   ·refine aGr (aMg x7 hc1) ?_
    generalize (3*(gl.length:Int))*(1+(bW v.gF).2)=X
    rw [show ((j+1:Nat):Int)=(j:Int)+1 from by omega,Int.mul_add,Int.mul_one]
   ·exact aGr (aMg x8 hc2) (by omega)
  ·simp only [eN,aR,df (show ¬ (n:Int)≤v.gJ by omega),cond_false,Option.bind_some]
   exact TU.ret (x.1,x.2.1,x.2.2,(n:Int)) ⟨hx.1.1.1,hx.1.1.2.1,hx.1.1.2.2,by show (1:Int)≤n;omega,Int.le_refl _⟩ fun i=>⟨_,_,_,rfl,hx.2 i⟩
 ·have h1:∃ (st':ι→aE) (t':ι→Int) (dd:ι→Int),∀ i,r i=(st' i,wlk bv gl (t' i),a.1.1,a.1.2.1,a.1.2.2.1,a.1.2.2.2.1,dd i,a.1.2.2.2.2.1,a.1.2.2.2.2.2)∧(st' i).gI=(st i).gI∧cV (t i) (t' i) a.2.1∧cV (st i).gM (st' i).gM a.2.2.1∧cV (st i).gG (st' i).gG a.2.2.2:=⟨fun i=>(hr' i).choose,fun i=>(hr' i).choose_spec.choose,fun i=>(hr' i).choose_spec.choose_spec.choose,fun i=>(hr' i).choose_spec.choose_spec.choose_spec⟩
  obtain ⟨st',t',dd,e1⟩:=h1
  simp only [fun i=>(e1 i).1]
  rw [hn]
  exact TU.ret ((aH.mk a.1.2.2.2.1 a.1.2.2.2.2.2.gB2 a.1.2.2.2.2.2.gJ a.1.2.2.2.2.2.gB9 a.1.2.2.2.2.2.gA0,0),a.2) ⟨ha.1.2.2.2.1,fun _=>rfl,Or.inl ⟨rfl,⟨ha.1.2.2.2.2,ha.1.2.2.1⟩,ha.2⟩⟩ fun i=>⟨st' i,t' i,rfl,(e1 i).2⟩
end
set_option maxHeartbeats 2000000
theorem objT (N:Nat) (hN:10 < N) (s:aF) (t:aG):T (lS N s t) (fun r=>r=0→0≤t.gA0∧t.gA0 < (s.gN.length:Int)):=by
 obtain ⟨r,e,_⟩:=triT N hN s t
 refine ⟨r,e,fun h=>?_⟩
 subst h
 unfold lS at e
 simp only [aR] at e
 have tt:∀ b:Bool,cond b true true=true:=fun b=>by cases b <;> rfl
 by_cases h1:t.gA0 < 0
 ·rw [dt h1,tt] at e;cases e
 ·by_cases h2:t.gA0≥(s.gN.length:Int)
  ·rw [dt h2,tt] at e;cases e
  ·omega
theorem aR6 (N:Nat) (hN:300 < N) {s:aF} (h:few s) (e:jB N s=some 0):aDJ s∧s.gA5.length=s.gN.length:=by
 have h1:=h.1
 have f:T (cY N s.gL s) (fun r=>r=0→aDJ s):=by
  unfold cY
  refine aHR s.gL (fun t=>jL N t s) (fun t=>0≤t.gA0∧t.gA0 < (s.gN.length:Int)) (fun k i=>by rw [eH]) (fun t _=>?_) (by omega) (by omega)
  unfold jL
  exact T.bind (objT N (by omega) s t) fun r h=>T.ret h
 obtain ⟨r,e1,hr⟩:=f
 unfold jB at e
 simp only [aR] at e
 cases c:((s.gA5.length:Int) != (s.gN.length:Int)) with
 | true=>rw [c] at e;cases e
 | false=>
  rw [c,cond_false,e1,Option.bind_some] at e
  have c':(s.gA5.length:Int)=(s.gN.length:Int):=by simpa using c
  refine ⟨?_,by omega⟩
  cases d:(r != 0) with
  | true=>rw [d,cond_true] at e;cases e;cases d
  | false=>exact hr (by simpa using d)
theorem aMy {N:Nat} {s:aF} {v:aI} (h:aOA N s v 0):jB N s=some 0∧fits s v.gF:=by
 have f:∀ {c:Int},nV N s c=some 0→fits s c:=by
  intro c e
  obtain ⟨r,e',h⟩:=aRu N s c
  exact h (lD e' e)
 rcases h with ⟨_,h⟩ | ⟨_,_,h⟩ | ⟨h1,_,h3⟩
 ·exact absurd rfl h
 ·exact absurd rfl h
 ·exact ⟨h1,f h3⟩
def rg (x:Int):Prop:=0≤x∧x≤65535
theorem aE3 (N:Nat) (a:Int):sY N a=some (a / 4294967296):=by unfold sY;rw [aPz]
theorem aEX (k:Nat) {a y:Int} (ha:cD a) (hy:cD y):T (iM (k+3) a y) cD:=by
 by_cases h:y=0
 ·subst h
  unfold iM
  exact T.cond (fun _=>T.cond (fun _=>T.ret ⟨by decide,by decide⟩) (fun _=>T.cond (fun _=>T.ret ⟨by decide,by decide⟩) (fun _=>T.ret z64))) (fun h=>by cases h)
 ·exact ⟨_,wP k ha hy h,dN _⟩
theorem o64 : cD 4294967296:=⟨by decide,by decide⟩
theorem aQR (k:Nat) {a:Int} (ha:cD a):T (qT (k+3) a) rg:=by
 unfold qT
 refine T.cond (fun _=>T.ret ⟨by decide,by decide⟩) (fun hc=>?_)
 have h0:=of_decide_eq_false hc
 have ha':=ha
 obtain ⟨a1,a2⟩:=ha'
 have s:0 < S64 (a+4294967296)∧a*4294967296 < 4294967297*S64 (a+4294967296):=by
  by_cases h:a+4294967296≤9223372036854775807
  ·rw [qH ⟨by omega,h⟩];omega
  ·have:S64 (a+4294967296)=9223372036854775807:=by unfold S64;rw [if_neg (by omega),if_pos (by omega)]
   rw [this];omega
 refine T.eq (aAl k ha o64) ?_
 have si:=dN (a+4294967296)
 generalize S64 (a+4294967296)=y at *
 refine T.eq (wP k ha si (by omega)) ?_
 have e:aKJ (ab a*4294967296) (ab y) (!(decide (a < 0)==decide (y < 0)))=a*4294967296 / y:=by
  rw [df (show ¬ a < 0 by omega),df (show ¬ y < 0 by omega)]
  unfold aKJ ab
  simp only [beq_self_eq_true,Bool.not_true,cond_false]
  rw [if_neg (by omega),if_neg (by omega)]
 rw [e]
 have q1:0≤a*4294967296 / y:=Int.ediv_nonneg (by omega) (by omega)
 have q2:a*4294967296 / y < 4294967297:=Int.ediv_lt_of_lt_mul s.1 s.2
 generalize a*4294967296 / y=q at *
 refine T.eq (rA _ (a:=65535) ⟨by decide,by decide⟩) ?_
 rw [qH (z:=q) ⟨by omega,by omega⟩,show S64 (65535*4294967296)=65535*4294967296 by decide]
 refine T.eq (aEE k (a:=q) (b:=65535*4294967296) ⟨by omega,by omega⟩ ⟨by decide,by decide⟩) (T.eq (aE3 _ _) (T.ret ?_))
 rw [show q*(65535*4294967296) / 4294967296=q*65535 by omega,qH ⟨by omega,by omega⟩]
 unfold rg;omega
theorem aLz (k:Nat) (a:Int):T (qU (k+3) a) rg:=by
 unfold qU
 refine T.eq (rA _ (a:=32767) ⟨by decide,by decide⟩) ?_
 refine T.bind (P:=fun c => -4294967296≤c∧c≤4294967296) ?_ fun c hc=>?_
 ·unfold vU
  refine T.ret ?_
  unfold fG jF
  constructor <;> (repeat' split) <;> omega
 rw [show S64 (32767*4294967296)=32767*4294967296 by decide]
 refine T.eq (aAl k o64 (b:=c) ⟨by omega,by omega⟩) ?_
 rw [qH (z:=4294967296+c) ⟨by omega,by omega⟩]
 refine T.eq (aEE k (a:=32767*4294967296) (b:=4294967296+c) ⟨by decide,by decide⟩ ⟨by omega,by omega⟩) (T.eq (aE3 _ _) (T.ret ?_))
 rw [show 32767*4294967296*(4294967296+c) / 4294967296=32767*(4294967296+c) by omega,qH ⟨by omega,by omega⟩]
 unfold rg;omega
theorem farT' (N:Nat) (a:Int):T (xI N a) rg:=by
 unfold xI
 refine T.eq (aE3 N a) (T.ret ?_)
 unfold rg fG jF
 constructor <;> (repeat' split) <;> omega
theorem rg3 {a b c:Int} (ha:rg a) (hb:rg b) (hc:rg c):∀ x∈(#v[a,b,c]:Vector Int 3).toList,rg x:=by
 intro x hx
 simp at hx
 rcases hx with rfl | rfl | rfl
 ·exact ha
 ·exact hb
 ·exact hc
theorem aLe (k:Nat) {v:aA} (hv:vin v):T (pF (k+3) v) (fun r=>∀ x∈r.toList,rg x):=by
 unfold pF
 exact T.bind (aQR k hv.1) fun a ha=>T.bind (aQR k hv.2.1) fun b hb=>T.bind (aQR k hv.2.2) fun c hc=>T.ret (rg3 ha hb hc)
theorem aMK (k:Nat) (v:aA):T (oX (k+3) v) (fun r=>∀ x∈r.toList,rg x):=by
 unfold oX
 exact T.bind (aLz k v.gX) fun a ha=>T.bind (aLz k v.gY) fun b hb=>T.bind (aLz k v.gZ) fun c hc=>T.ret (rg3 ha hb hc)
theorem unitT (k:Nat) {v:aA} (hv:vin v):T (aAM (k+65) v) vin:=by
 unfold aAM
 refine T.cond (fun _=>T.ret hv) (fun _=>T.bind (aM0 k hv) fun r hr=>T.bind (P:=vin) ?_ fun u hu=>T.ret hu)
 unfold wL
 exact T.bind (aEX (k+62) hv.1 hr) fun a ha=>T.bind (aEX (k+62) hv.2.1 hr) fun b hb=>T.bind (aEX (k+62) hv.2.2 hr) fun c hc=>T.ret ⟨ha,hb,hc⟩
theorem aQr (a:Int):rg (I64 (iI .u32 a 65535)):=by
 have e:iI .u32 a 65535=IntKind.u32.wrap ((BitVec.ofInt 32 a &&& BitVec.ofInt 32 65535).toNat:Int):=rfl
 have h:(BitVec.ofInt 32 a &&& BitVec.ofInt 32 65535).toNat≤65535:=by
  rw [BitVec.toNat_and,show (BitVec.ofInt 32 65535).toNat=65535 by decide]
  exact Nat.and_le_right
 generalize (BitVec.ofInt 32 a &&& BitVec.ofInt 32 65535).toNat=m at *
 have w:IntKind.u32.wrap (m:Int)=(m:Int):=by
  show ((BitVec.ofInt 32 (m:Int)).toNat:Int)=(m:Int)
  rw [BitVec.toNat_ofInt]
  omega
 rw [e,w,bK (by omega) (by omega)]
 unfold rg;omega
def smL (s:aF) (l:List aH):Prop:=(1≤l.length∧l.length≤16)∧∀ x∈l,aAI s x∧vin x.gA4
abbrev Px:=Vector Int 3×Int×Int×Vector Int 3×Int×Int
def pxI (p:Px):cA:=cA.mk 1 1 [p.1] [p.2.1] [p.2.2.1] [p.2.2.2.1] [p.2.2.2.2.1] [p.2.2.2.2.2]
def pxOk (n:Nat) (p:Px):Prop:=(∀ x∈p.1.toList,rg x)∧rg p.2.1∧rg p.2.2.1∧(∀ x∈p.2.2.2.1.toList,rg x)∧rg p.2.2.2.2.1∧rg p.2.2.2.2.2∧p.2.2.2.2.1≤(n:Int)∧(p.2.2.2.2.1=0→p.2.1=0∧p.2.2.1=0)
theorem aQZ (N:Nat) (hN:20 < N) {s:aF} (hlab:s.gA5.length=s.gN.length) {l:List aH} (h:smL s l):xO N l s=some 0:=by
 obtain ⟨⟨h1,h16⟩,hl⟩:=h
 have main:T (xO N l s) (fun r=>r=0):=by
  unfold xO
  simp only [aR]
  refine T.cond (fun hc=>?_) (fun _=>?_)
  ·exfalso
   rw [show ((l.length:Int)==0)=false from beq_eq_false_iff_ne.2 (by omega),df (show ¬ (l.length:Int) > 16 by omega)] at hc
   cases hc
  ·refine T.bind (P:=fun o=>o=Sum.inl ()) ?_ fun o ho=>by subst ho;exact T.ret rfl
   refine T.loopG0 (n:=l.length) (fun _ (_:Unit)=>True) _ (F:=fun k (_:Unit) i=>rM N l s k i) (fun k _ i hi _ hk=>?_) (fun k _ _=>?_) (by omega) (s:=()) trivial
   ·rw [rM,aR,dt (by omega),cond_true,iS,List.getElem?_eq_getElem hi,Option.bind_some]
    obtain ⟨⟨ho,_⟩,_⟩:=hl _ (List.getElem_mem hi)
    generalize l[i]=x at *
    simp only [aR]
    have e:fG (s.gN.length:Int) (s.gA5.length:Int)=(s.gN.length:Int):=by unfold fG;rw [hlab];split <;> rfl
    rw [e]
    have c1:cond (decide (x.gA0 < -1)) true (decide (x.gA0≥(s.gN.length:Int)))=false:=by
     rcases ho with ⟨h,_⟩ | ⟨⟨h,h'⟩,_⟩
     ·rw [df (show ¬ x.gA0 < -1 by omega),df (show ¬ x.gA0≥(s.gN.length:Int) by omega)];rfl
     ·rw [df (show ¬ x.gA0 < -1 by omega),df (show ¬ x.gA0≥(s.gN.length:Int) by omega)];rfl
    have c2:cond (x.gB2 != 0) (x.gB2 != 1) false=false:=by
     have:x.gB2=0∨x.gB2=1:=by
      rcases ho with ⟨_,h⟩ | ⟨_,h⟩
      ·exact Or.inl h
      ·exact h
     rcases this with h | h <;> rw [h] <;> rfl
    rw [c1,cond_false,c2,Option.bind_some,cond_false,dX (by omega)]
    exact hk () trivial
   ·rw [rM,aR,df (by omega),cond_false];exact T.ret rfl
 obtain ⟨r,e,rfl⟩:=main
 exact e
theorem aSS (N:Nat) (hN:1000 < N) {s:aF} (hid:s.gN.length≤20) (hlab:s.gA5.length=s.gN.length) {l:List aH} (h:smL s l):T (pC N l s) (fun r=>∃ p,pxOk s.gN.length p∧r=(pxI p,0)):=by
 have may:=aQZ N (by omega) hlab h
 obtain ⟨⟨h1,h16⟩,hl⟩:=h
 obtain ⟨k,rfl⟩:=nk (show 65≤N by omega)
 unfold pC
 refine T.eq may ?_
 simp only [bne_self_eq_false,cond_false]
 refine T.bind (P:=fun p:aA×aA×Int×Int×Int×Int=>vin p.1∧vin p.2.1∧cD p.2.2.1∧(0≤p.2.2.2.1∧p.2.2.2.1≤(l.length:Int))∧(0≤p.2.2.2.2.1∧p.2.2.2.2.1≤(l.length:Int))∧(p.2.2.2.2.1=0→p.2.2.2.1=0∧p.2.2.2.2.2 < 0)∧(0 < p.2.2.2.2.1→0≤p.2.2.2.2.2∧p.2.2.2.2.2 < (s.gN.length:Int))) ?_ fun p hp=>?_
 ·refine T.loopG0 (n:=l.length) (fun i (p:aA×aA×Int×Int×Int×Int)=>vin p.1∧vin p.2.1∧cD p.2.2.1∧(0≤p.2.2.2.1∧p.2.2.2.1≤(i:Int))∧(0≤p.2.2.2.2.1∧p.2.2.2.2.1≤(i:Int))∧(p.2.2.2.2.1=0→p.2.2.2.1=0∧p.2.2.2.2.2 < 0)∧(0 < p.2.2.2.2.1→0≤p.2.2.2.2.2∧p.2.2.2.2.2 < (s.gN.length:Int))) _ (F:=fun m (p:aA×aA×Int×Int×Int×Int) i=>oJ (k+65) l m p.1 p.2.1 p.2.2.1 p.2.2.2.1 p.2.2.2.2.1 p.2.2.2.2.2 i) (fun m p i hi hp hk=>?_) (fun m p hp=>?_) (by omega) (s:=(aA.mk 0 0 0,aA.mk 0 0 0,0,0,0,-1)) ⟨aC9,aC9,z64,⟨by decide,by decide⟩,⟨by decide,by decide⟩,fun _=>⟨rfl,by decide⟩,fun h=>absurd h (by decide)⟩
  ·rw [oJ,aR,dt (by omega),cond_true,iS,List.getElem?_eq_getElem hi,Option.bind_some]
   obtain ⟨⟨ho,hd,hn⟩,hcol⟩:=hl _ (List.getElem_mem hi)
   generalize l[i]=x at *
   obtain ⟨p1,p2,p3,⟨p4,p4'⟩,⟨p5,p5'⟩,p6,p7⟩:=hp
   obtain ⟨c,n,d,al,met,fi⟩:=p
   dsimp only at *
   rw [show k+65=(k+62)+3 by omega,aHU (k+62) p1 hcol,Option.bind_some,aHU (k+62) p2 hn,Option.bind_some,aAl (k+62) p3 hd,Option.bind_some]
   have al':0≤x.gB2∧x.gB2≤1:=by
    rcases ho with ⟨_,h⟩ | ⟨_,h | h⟩ <;> omega
   rw [bK (x:=al+x.gB2) (by omega) (by omega),bK (x:=met+1) (by omega) (by omega)]
   by_cases g:x.gA0≥0
   ·have ob:0≤x.gA0∧x.gA0 < (s.gN.length:Int):=by
     rcases ho with ⟨h,_⟩ | ⟨h,_⟩
     ·omega
     ·exact h
    rw [dt g,cond_true]
    by_cases f:fi < 0
    ·rw [dt f,cond_true,Option.bind_some,dX (by omega)]
     exact hk (_,_,_,_,_,_) ⟨tM _ _,tM _ _,dN _,by dsimp only;omega,by dsimp only;omega,fun h=>by dsimp only at h;omega,fun _=>ob⟩
    ·rw [df f,cond_false,Option.bind_some,dX (by omega)]
     refine hk (_,_,_,_,_,_) ⟨tM _ _,tM _ _,dN _,by dsimp only;omega,by dsimp only;omega,fun h=>by dsimp only at h;omega,fun _=>?_⟩
     refine p7 ?_
     by_cases z:met=0
     ·have:=p6 z;omega
     ·omega
   ·have a0:x.gB2=0:=by
     rcases ho with ⟨_,h⟩ | ⟨h,_⟩
     ·exact h
     ·omega
    rw [df g,cond_false,Option.bind_some,dX (by omega),a0]
    exact hk (_,_,_,_,_,_) ⟨tM _ _,tM _ _,dN _,by dsimp only;omega,by dsimp only;omega,fun h=>by have:=p6 h;dsimp only;omega,p7⟩
  ·rw [oJ,aR,df (by omega),cond_false];exact T.ret hp
 obtain ⟨p1,p2,p3,⟨p4,p4'⟩,⟨p5,p5'⟩,p6,p7⟩:=hp
 obtain ⟨c,n,d,al,met,fi⟩:=p
 dsimp only at *
 have ln:cD (l.length:Int):=⟨by omega,by omega⟩
 refine T.eq (rA _ ln) (T.bind (aEX (k+62) o64 (dN _)) fun r17 h17=>T.eq (pY (k+62) p1 h17) (T.bind (aLe (k+62) (oD _ _)) fun r19 h19=>?_))
 rw [aR,bK (x:=65535*al) (by omega) (by omega)]
 refine T.eq (aCr .i64 (by omega)) (T.bind (unitT k p2) fun r22 h22=>T.bind (aMK (k+62) r22) fun r23 h23=>?_)
 have q:0≤Int.tdiv (65535*al) (l.length:Int)∧Int.tdiv (65535*al) (l.length:Int)≤65535∧(al=0→Int.tdiv (65535*al) (l.length:Int)=0):=by
  rw [Int.tdiv_eq_ediv_of_nonneg (by omega)]
  refine ⟨Int.ediv_nonneg (by omega) (by omega),?_,fun h=>by rw [h];simp⟩
  have:65535*al / (l.length:Int) < 65536:=Int.ediv_lt_of_lt_mul (by omega) (by omega)
  omega
 generalize Int.tdiv (65535*al) (l.length:Int)=X at *
 have wX:IntKind.i64.wrap X=X:=bK (by omega) (by omega)
 rw [wX]
 refine T.bind (P:=fun t:List Int×List Int×List Int=>∃ u v w,t=([u],[v],[w])∧rg u∧rg v∧rg w∧v≤(s.gN.length:Int)∧(v=0→X=0∧u=0)) ?_ fun t ht=>?_
 ·rw [aR]
  refine T.cond (fun hc=>?_) (fun hc=>?_)
  ·have m0:=of_decide_eq_true hc
   obtain ⟨f0,f1⟩:=p7 m0
   refine T.eq (rA _ (a:=met) ⟨by omega,by omega⟩) (T.bind (aEX (k+62) p3 (dN _)) fun r27 h27=>T.bind (farT' _ r27) fun r28 h28=>?_)
   refine T.bind (T.inRO (by decide) (by decide)) fun _ _=>T.eq rfl ?_
   simp only [aR]
   rw [bK (x:=fi+1) (by omega) (by omega)]
   refine T.bind (T.idx (by omega) (by omega)) fun e32 _=>?_
   refine T.bind (T.inRO (by decide) (by decide)) fun _ _=>T.eq rfl (T.bind (T.inRO (by decide) (by decide)) fun _ _=>T.eq rfl (T.ret ⟨_,_,_,rfl,h28,?_,aQr _,?_,fun h=>?_⟩))
   ·unfold rg fG;split <;> omega
   ·unfold fG;split <;> omega
   ·exfalso;unfold fG at h;split at h <;> omega
  ·have m0:met=0:=by have:=of_decide_eq_false hc;omega
   exact T.ret ⟨0,0,0,rfl,⟨by decide,by decide⟩,⟨by decide,by decide⟩,⟨by decide,by decide⟩,by omega,fun _=>⟨q.2.2 (p6 m0).1,rfl⟩⟩
 ·obtain ⟨u,v,w,rfl,hu,hv,hw,hvi,hv0⟩:=ht
  refine T.bind (T.lenO rfl) fun _ _=>T.bind (T.lenO rfl) fun _ _=>T.bind (T.lenO rfl) fun _ _=>T.ret ⟨(r19,X,u,r23,v,w),⟨h19,⟨q.1,q.2.1⟩,hu,h23,hv,hw,hvi,hv0⟩,rfl⟩
abbrev C3:=Int×Int×Int
abbrev Pa:=(aH×Int)×C3
def aJ8 (c d:C3):C3:=(c.1+d.1,c.2.1+d.2.1,c.2.2+d.2.2)
def aFq (f:Nat→C3):Nat→C3
 | 0=>(0,0,0)
 | n+1=>aJ8 (aFq f n) (f n)
def Cnt (st:aE) (t:Int) (st':aE) (t':Int) (c:C3):Prop:=st'.gI=st.gI∧cV t t' c.1∧cV st.gM st'.gM c.2.1∧cV st.gG st'.gG c.2.2
theorem Cnt.zero (st:aE) (t:Int):Cnt st t st t (0,0,0):=⟨rfl,jZ _,jZ _,jZ _⟩
theorem Cnt.add {st st' st'':aE} {t t' t'':Int} {c d:C3} (h:Cnt st t st' t' c) (h':Cnt st' t' st'' t'' d):Cnt st t st'' t'' (aJ8 c d):=⟨h'.1.trans h.1,nR h.2.1 h'.2.1,nR h.2.2.1 h'.2.2.1,nR h.2.2.2 h'.2.2.2⟩
def aE9 (A:Nat→Nat→Nat→Pa) (x y n:Nat):List aH:=(List.range n).map fun k=>(A x y k).1.1
theorem aPx (A:Nat→Nat→Nat→Pa) (x y n:Nat):aE9 A x y (n+1)=aE9 A x y n++[(A x y n).1.1]:=by unfold aE9;rw [List.range_succ,List.map_append];rfl
theorem aLh (A:Nat→Nat→Nat→Pa) (x y n:Nat):(aE9 A x y n).length=n:=by unfold aE9;simp
def aCH {α:Type} (f:Px→α) (Q:Nat→Nat→Px) (W n:Nat):List α:=(List.range n).map fun j=>f (Q (j % W) (j / W))
theorem uU {α:Type} (f:Px→α) (Q:Nat→Nat→Px) {W x:Nat} (y:Nat) (h:x < W):aCH f Q W (y*W+x+1)=aCH f Q W (y*W+x)++[f (Q x y)]:=by
 unfold aCH
 rw [List.range_succ,List.map_append]
 have e1:(y*W+x) % W=x:=by rw [Nat.add_comm,Nat.add_mul_mod_self_right,Nat.mod_eq_of_lt h]
 have e2:(y*W+x) / W=y:=by rw [Nat.add_comm,Nat.add_mul_div_right _ _ (by omega),Nat.div_eq_of_lt h];omega
 simp only [List.map_cons,List.map_nil,e1,e2]
theorem tU {α:Type} (f:Px→α) (Q:Nat→Nat→Px) (W n:Nat):(aCH f Q W n).length=n:=by unfold aCH;simp
abbrev Pls:=List (Vector Int 3)×List Int×List Int×List (Vector Int 3)×List Int×List Int
def pls (Q:Nat→Nat→Px) (W n:Nat):Pls:=(aCH (·.1) Q W n,aCH (·.2.1) Q W n,aCH (·.2.2.1) Q W n,aCH (·.2.2.2.1) Q W n,aCH (·.2.2.2.2.1) Q W n,aCH (·.2.2.2.2.2) Q W n)
def wU (A:Nat→Nat→Nat→Pa) (W S n:Nat):C3:=aFq (fun j=>aFq (fun k=>(A (j % W) (j / W) k).2) S) n
theorem aPR (A:Nat→Nat→Nat→Pa) {W x:Nat} (y S:Nat) (h:x < W):wU A W S (y*W+x+1)=aJ8 (wU A W S (y*W+x)) (aFq (fun k=>(A x y k).2) S):=by
 unfold wU
 have e1:(y*W+x) % W=x:=by rw [Nat.add_comm,Nat.add_mul_mod_self_right,Nat.mod_eq_of_lt h]
 have e2:(y*W+x) / W=y:=by rw [Nat.add_comm,Nat.add_mul_div_right _ _ (by omega),Nat.div_eq_of_lt h];omega
 conv=>lhs;rw [aFq,e1,e2]
structure Dim (v:aI) (W H S:Nat):Prop where
 w:v.gW=(W:Int)
 h:v.gH=(H:Int)
 s:v.gA8=(S:Int)
 w1:1≤W∧W≤64
 h1:1≤H∧H≤64
 s1:1≤S∧S≤16
theorem dimV {v:aI} (h:aDb v):∃ W H S,Dim v W H S:=by
 obtain ⟨⟨⟨a1,a2⟩,⟨b1,b2⟩,_⟩,⟨s1,s2⟩,_⟩:=h
 exact ⟨v.gW.toNat,v.gH.toNat,v.gA8.toNat,by omega,by omega,by omega,by omega,by omega,by omega⟩
def PxF (N:Nat) (s:aF) (A:Nat→Nat→Nat→Pa) (W H S:Nat) (Q:Nat→Nat→Px):Prop:=∀ x y,x < W→y < H→pC N (aE9 A x y S) s=some (pxI (Q x y),0)∧pxOk s.gN.length (Q x y)
theorem pxF (N:Nat) (hN:1000 < N) {s:aF} (hid:s.gN.length≤20) (hlab:s.gA5.length=s.gN.length) {A:Nat→Nat→Nat→Pa} {W H S:Nat} (hS:1≤S∧S≤16) (h:∀ x y k,x < W→y < H→k < S→aAI s (A x y k).1.1∧vin (A x y k).1.1.gA4):∃ Q,PxF N s A W H S Q:=by
 have key:∀ x y,∃ p,x < W→y < H→pC N (aE9 A x y S) s=some (pxI p,0)∧pxOk s.gN.length p:=by
  intro x y
  by_cases c:x < W∧y < H
  ·obtain ⟨r,e,p,hp,rfl⟩:=aSS N hN hid hlab (l:=aE9 A x y S) ⟨by rw [aLh];exact hS,fun m hm=>by
    unfold aE9 at hm
    rw [List.mem_map] at hm
    obtain ⟨k,hk,rfl⟩:=hm
    exact h x y k c.1 c.2 (List.mem_range.1 hk)⟩
   exact ⟨p,fun _ _=>⟨e,hp⟩⟩
  ·exact ⟨(#v[0,0,0],0,0,#v[0,0,0],0,0),fun h1 h2=>absurd ⟨h1,h2⟩ c⟩
 exact ⟨fun x y=>(key x y).choose,fun x y=>(key x y).choose_spec⟩
set_option maxHeartbeats 4000000
def aOH (N:Nat) (b:List (List aD)) (s:aF) (v:aI) (sky:aA) (gl:List aG) (x y z:Int) (a:Pa):Prop:=∀ st t,∃ st' t',eW N b x y z s v sky st (swp gl t)=some (st',swp gl t',a.1.1,a.1.2)∧Cnt st t st' t' a.2
section
variable {N:Nat} (hN:4100 < N) {b:List (List aD)} {s:aF} {v:aI} {sky:aA}
include hN
theorem aTE (hr:Rdy b s v sky) {gl:List aG} (hsw:aJF s.gL.length gl) (hcon:v.gQ=true) (hfit:(s.gK.length:Int)≤(bW v.gF).2) (hobj:aDJ s) {W H S:Nat} (hd:Dim v W H S):∃ A:Nat→Nat→Nat→Pa,∀ x y k,x < W→y < H→k < S→aOH N b s v sky gl x y k (A x y k)∧(aAI s (A x y k).1.1∧vin (A x y k).1.1.gA4)∧exC (A x y k).2.1 ((gl.length:Int)*(1+(bW v.gF).2)*(v.gJ+1))∧exC (A x y k).2.2.1 (4*(v.gJ+1))∧exC (A x y k).2.2.2 (v.gJ+1):=by
 have key:∀ x y k:Nat,∃ a:Pa,x < W→y < H→k < S→aOH N b s v sky gl x y k a∧(aAI s a.1.1∧vin a.1.1.gA4)∧exC a.2.1 ((gl.length:Int)*(1+(bW v.gF).2)*(v.gJ+1))∧exC a.2.2.1 (4*(v.gJ+1))∧exC a.2.2.2 (v.gJ+1):=by
  intro x y k
  obtain ⟨a,⟨_,p1,p2⟩,h⟩:=pathS (ι:=aE×Int) hN hr hsw hcon hfit hobj (D:=False) ⟨fun h=>h.elim,fun h=>h.elim,fun h=>h.elim⟩ (x:Int) (y:Int) (k:Int) (fun i=>i.1) (fun i=>i.2)
  refine ⟨a,fun hx hy hk=>⟨fun st t=>?_,?_⟩⟩
  ·obtain ⟨r,e,st',t',rfl,c⟩:=h (st,t)
   exact ⟨st',t',e,c⟩
  ·have z:=p1 ⟨⟨by omega,by rw [hd.w];omega⟩,⟨by omega,by rw [hd.h];omega⟩,by omega,by rw [hd.s];omega⟩
   rcases p2 with ⟨_,q⟩ | q
   ·exact q
   ·rw [z] at q;cases q
 exact ⟨fun x y k=>(key x y k).choose,fun x y k=>(key x y k).choose_spec⟩
theorem sampS {gl:List aG} {A1:List aG} {B1:List aO} {D1:List aP} {e1:Int} {W H S:Nat} (hd:Dim v W H S) {A:Nat→Nat→Nat→Pa} {x y:Nat} (hA:∀ k,k < S→aOH N b s v sky gl x y k (A x y k)) (st:aE) (t:Int) :
  T (mW N v (A1,B1,D1,b,sky,gl,e1) (x:Int) (y:Int) s N [] st (swp gl t) 0) (fun r=>r.1=aE9 A x y S∧∃ t',r.2.2=swp gl t'∧Cnt st t r.2.1 t' (aFq (fun k=>(A x y k).2) S)):=by
 have s1:=hd.s1
 refine T.loopG0 (n:=S) (fun k (q:List aH×aE×Int)=>q.1=aE9 A x y k∧Cnt st t q.2.1 q.2.2 (aFq (fun k=>(A x y k).2) k)) _ (F:=fun m (q:List aH×aE×Int) i=>mW N v (A1,B1,D1,b,sky,gl,e1) (x:Int) (y:Int) s m q.1 q.2.1 (swp gl q.2.2) i) (fun m q i hi hq hk=>?_) (fun m q hq=>?_) (by omega) (s:=([],st,t)) ⟨rfl,Cnt.zero _ _⟩
 ·rw [mW,aR,dt (show (i:Int) < v.gA8 by rw [hd.s];omega),cond_true]
  obtain ⟨st',t',e,c⟩:=hA i hi q.2.1 q.2.2
  refine T.eq e (T.eq (fX (by rw [hq.1];simp [aLh];omega)) ?_)
  rw [dX (by omega)]
  exact hk (_,st',t') ⟨by rw [hq.1,aPx],hq.2.add c⟩
 ·rw [mW,aR,df (show ¬ (S:Int) < v.gA8 by rw [hd.s];omega),cond_false]
  exact T.ret ⟨hq.1,_,rfl,hq.2⟩
theorem rowS {gl:List aG} {A1:List aG} {B1:List aO} {D1:List aP} {e1:Int} {W H S:Nat} (hd:Dim v W H S) {A:Nat→Nat→Nat→Pa} {Q:Nat→Nat→Px} (hQ:PxF N s A W H S Q) {y:Nat} (hy:y < H) (hA:∀ x k,x < W→k < S→aOH N b s v sky gl x y k (A x y k)) (st0:aE) (t0:Int) {p:Pls} (hp:p=pls Q W (y*W)) {st:aE} {t:Int} (hc:Cnt st0 t0 st t (wU A W S (y*W))) :
  T (mY N v (A1,B1,D1,b,sky,gl,e1) (y:Int) s N p.1 p.2.1 p.2.2.1 p.2.2.2.1 p.2.2.2.2.1 p.2.2.2.2.2 s st (swp gl t) 0) (fun r=>(r.1,r.2.1,r.2.2.1,r.2.2.2.1,r.2.2.2.2.1,r.2.2.2.2.2.1)=pls Q W ((y+1)*W)∧r.2.2.2.2.2.2.1=s∧∃ t',r.2.2.2.2.2.2.2.2=swp gl t'∧Cnt st0 t0 r.2.2.2.2.2.2.2.1 t' (wU A W S ((y+1)*W))):=by
 have hw1:=hd.w1
 have s1:=hd.s1
 have h1:=hd.h1
 have yw:y*W≤4096:=Nat.le_trans (Nat.mul_le_mul (show y≤64 by omega) hw1.2) (by decide)
 have e2:(y+1)*W=y*W+W:=Nat.succ_mul _ _
 rw [e2]
 refine T.loopG0 (n:=W) (fun i (q:Pls×aE×Int)=>q.1=pls Q W (y*W+i)∧Cnt st0 t0 q.2.1 q.2.2 (wU A W S (y*W+i))) _ (F:=fun m (q:Pls×aE×Int) i=>mY N v (A1,B1,D1,b,sky,gl,e1) (y:Int) s m q.1.1 q.1.2.1 q.1.2.2.1 q.1.2.2.2.1 q.1.2.2.2.2.1 q.1.2.2.2.2.2 s q.2.1 (swp gl q.2.2) i) (fun m q i hi hq hk=>?_) (fun m q hq=>?_) (by omega) (s:=(p,st,t)) ⟨hp,hc⟩
 ·rw [mY,dt (show (i:Int) < v.gW by rw [hd.w];omega),cond_true]
  refine T.bind (sampS hN hd (fun k hk'=>hA i k hi hk') q.2.1 q.2.2) fun r hr=>?_
  obtain ⟨hr1,t',hr2,hr3⟩:=hr
  obtain ⟨l,st',fd⟩:=r
  dsimp only at hr1 hr2 hr3
  subst hr1 hr2
  obtain ⟨e,_⟩:=hQ i y hi hy
  refine T.eq e ?_
  obtain ⟨⟨b0,a0,d0,n0,s0,l0⟩,st1,t1⟩:=q
  obtain ⟨hq1,hq2⟩:=hq
  unfold pls at hq1
  simp only [Prod.mk.injEq] at hq1
  obtain ⟨rfl,rfl,rfl,rfl,rfl,rfl⟩:=hq1
  refine T.eq (fX (by simp [tU,pxI];omega)) (T.eq (fX (by simp [tU,pxI];omega)) (T.eq (fX (by simp [tU,pxI];omega)) (T.eq (fX (by simp [tU,pxI];omega)) (T.eq (fX (by simp [tU,pxI];omega)) (T.eq (fX (by simp [tU,pxI];omega)) ?_)))))
  rw [dX (by omega)]
  refine hk ((_,_,_,_,_,_),st',t') ⟨?_,?_⟩
  ·unfold pls
   rw [show y*W+(i+1)=y*W+i+1 from rfl,uU _ Q y hi,uU _ Q y hi,uU _ Q y hi,uU _ Q y hi,uU _ Q y hi,uU _ Q y hi]
   rfl
  ·rw [show y*W+(i+1)=y*W+i+1 from rfl,aPR A y S hi]
   exact hq2.add hr3
 ·rw [mY,df (show ¬ (W:Int) < v.gW by rw [hd.w];omega),cond_false]
  exact T.ret ⟨hq.1,rfl,_,rfl,hq.2⟩
theorem rowsS {gl:List aG} {A1:List aG} {B1:List aO} {D1:List aP} {e1:Int} {W H S:Nat} (hd:Dim v W H S) {A:Nat→Nat→Nat→Pa} {Q:Nat→Nat→Px} (hQ:PxF N s A W H S Q) (hA:∀ x y k,x < W→y < H→k < S→aOH N b s v sky gl x y k (A x y k)) (st0:aE) (t0:Int) :
  T (mX N v (A1,B1,D1,b,sky,gl,e1) s N [] [] [] [] [] [] s.gL s.gA1 s.gR s.gK s.gN s.gA5 s.gB1 s.gB5 s.gTo st0 (swp gl t0) 0) (fun r=>(r.1,r.2.1,r.2.2.1,r.2.2.2.1,r.2.2.2.2.1,r.2.2.2.2.2.1)=pls Q W (H*W)∧r.2.2.2.2.2.2.1=s∧∃ t',r.2.2.2.2.2.2.2.2=swp gl t'∧Cnt st0 t0 r.2.2.2.2.2.2.2.1 t' (wU A W S (H*W))):=by
 have h1:=hd.h1
 refine T.loopG0 (n:=H) (fun i (q:Pls×aF×aE×Int)=>q.1=pls Q W (i*W)∧q.2.1=s∧Cnt st0 t0 q.2.2.1 q.2.2.2 (wU A W S (i*W))) _ (F:=fun m (q:Pls×aF×aE×Int) i=>mX N v (A1,B1,D1,b,sky,gl,e1) s m q.1.1 q.1.2.1 q.1.2.2.1 q.1.2.2.2.1 q.1.2.2.2.2.1 q.1.2.2.2.2.2 q.2.1.gL q.2.1.gA1 q.2.1.gR q.2.1.gK q.2.1.gN q.2.1.gA5 q.2.1.gB1 q.2.1.gB5 q.2.1.gTo q.2.2.1 (swp gl q.2.2.2) i) (fun m q i hi hq hk=>?_) (fun m q hq=>?_) (by omega) (s:=(([],[],[],[],[],[]),s,st0,t0)) ⟨by rw [Nat.zero_mul];rfl,rfl,by rw [Nat.zero_mul];exact Cnt.zero _ _⟩
 ·rw [mX,dt (show (i:Int) < v.gH by rw [hd.h];omega),cond_true]
  obtain ⟨p,sc,st,t⟩:=q
  obtain ⟨hp,hsc,hc⟩:=hq
  dsimp only at hp hsc hc
  subst hsc
  refine T.bind (rowS hN hd hQ hi (fun x k hx hk'=>hA x i k hx hi hk') st0 t0 hp hc) fun r hr=>?_
  obtain ⟨hr1,hr2,t',hr3,hr4⟩:=hr
  obtain ⟨b1,a1,d1,n1,c1,l1,sc,st1,fd⟩:=r
  dsimp only at hr1 hr2 hr3 hr4
  subst hr2 hr3
  rw [dX (by omega)]
  exact hk ((b1,a1,d1,n1,c1,l1),sc,st1,t') ⟨hr1,rfl,hr4⟩
 ·rw [mX,df (show ¬ (H:Int) < v.gH by rw [hd.h];omega),cond_false]
  exact T.ret ⟨hq.1,hq.2.1,_,rfl,hq.2.2⟩
end
def aOS (N:Nat) (b:List (List aD)) (s:aF) (v:aI) (sky:aA) (bv:aX) (gl:List aG) (x y z:Int) (a:Pa):Prop:=∀ st t,∃ st' t',fK N b x y z s v sky st (wlk bv gl t)=some (st',wlk bv gl t',a.1.1,a.1.2)∧Cnt st t st' t' a.2
section
variable {N:Nat} (hN:1000000000000 < N) {b:List (List aD)} {s:aF} {v:aI} {sky:aA}
include hN
theorem aSx (hr:Rdy b s v sky) {bv:aX} {gl:List aG} (hbv:aBN gl.length bv) (hgl:gl=s.gL) (htr:wO gl bv) (hcon:v.gQ=false) (hfit:(s.gK.length:Int)≤(bW v.gF).2) (hobj:aDJ s) {W H S:Nat} (hd:Dim v W H S):∃ A:Nat→Nat→Nat→Pa,∀ x y k,x < W→y < H→k < S→aOS N b s v sky bv gl x y k (A x y k)∧(aAI s (A x y k).1.1∧vin (A x y k).1.1.gA4)∧amC (A x y k).2.1 ((3*(gl.length:Int))*(1+(bW v.gF).2)*(v.gJ+1))∧amC (A x y k).2.2.1 (4*(v.gJ+1))∧aMh (A x y k).2.2.2 (v.gJ+1):=by
 have key:∀ x y k:Nat,∃ a:Pa,x < W→y < H→k < S→aOS N b s v sky bv gl x y k a∧(aAI s a.1.1∧vin a.1.1.gA4)∧amC a.2.1 ((3*(gl.length:Int))*(1+(bW v.gF).2)*(v.gJ+1))∧amC a.2.2.1 (4*(v.gJ+1))∧aMh a.2.2.2 (v.gJ+1):=by
  intro x y k
  obtain ⟨a,⟨_,p1,p2⟩,h⟩:=pathW (ι:=aE×Int) hN hr hbv hgl htr hcon hfit hobj (D:=False) ⟨fun h=>h.elim,fun h=>h.elim,fun h=>h.elim⟩ (x:Int) (y:Int) (k:Int) (fun i=>i.1) (fun i=>i.2)
  refine ⟨a,fun hx hy hk=>⟨fun st t=>?_,?_⟩⟩
  ·obtain ⟨r,e,st',t',rfl,c⟩:=h (st,t)
   exact ⟨st',t',e,c⟩
  ·have z:=p1 ⟨⟨by omega,by rw [hd.w];omega⟩,⟨by omega,by rw [hd.h];omega⟩,by omega,by rw [hd.s];omega⟩
   rcases p2 with ⟨_,q⟩ | q
   ·exact q
   ·rw [z] at q;cases q
 exact ⟨fun x y k=>(key x y k).choose,fun x y k=>(key x y k).choose_spec⟩
theorem sampW {bv:aX} {gl:List aG} {A1:List aG} {B1:List aO} {D1:List aP} {bv1:aX} {wv:aL} {e1:Int} {W H S:Nat} (hd:Dim v W H S) {A:Nat→Nat→Nat→Pa} {x y:Nat} (hA:∀ k,k < S→aOS N b s v sky bv gl x y k (A x y k)) (st:aE) (t:Int) :
  T (lQ N v (A1,B1,D1,b,sky,bv1,wv,e1) (x:Int) (y:Int) s N [] st (wlk bv gl t) 0) (fun r=>r.1=aE9 A x y S∧∃ t',r.2.2=wlk bv gl t'∧Cnt st t r.2.1 t' (aFq (fun k=>(A x y k).2) S)):=by
 have s1:=hd.s1
 refine T.loopG0 (n:=S) (fun k (q:List aH×aE×Int)=>q.1=aE9 A x y k∧Cnt st t q.2.1 q.2.2 (aFq (fun k=>(A x y k).2) k)) _ (F:=fun m (q:List aH×aE×Int) i=>lQ N v (A1,B1,D1,b,sky,bv1,wv,e1) (x:Int) (y:Int) s m q.1 q.2.1 (wlk bv gl q.2.2) i) (fun m q i hi hq hk=>?_) (fun m q hq=>?_) (by omega) (s:=([],st,t)) ⟨rfl,Cnt.zero _ _⟩
 ·rw [lQ,aR,dt (show (i:Int) < v.gA8 by rw [hd.s];omega),cond_true]
  obtain ⟨st',t',e,c⟩:=hA i hi q.2.1 q.2.2
  refine T.eq e (T.eq (fX (by rw [hq.1];simp [aLh];omega)) ?_)
  rw [dX (by omega)]
  exact hk (_,st',t') ⟨by rw [hq.1,aPx],hq.2.add c⟩
 ·rw [lQ,aR,df (show ¬ (S:Int) < v.gA8 by rw [hd.s];omega),cond_false]
  exact T.ret ⟨hq.1,_,rfl,hq.2⟩
theorem rowW {bv:aX} {gl:List aG} {A1:List aG} {B1:List aO} {D1:List aP} {bv1:aX} {wv:aL} {e1:Int} {W H S:Nat} (hd:Dim v W H S) {A:Nat→Nat→Nat→Pa} {Q:Nat→Nat→Px} (hQ:PxF N s A W H S Q) {y:Nat} (hy:y < H) (hA:∀ x k,x < W→k < S→aOS N b s v sky bv gl x y k (A x y k)) (st0:aE) (t0:Int) {p:Pls} (hp:p=pls Q W (y*W)) {st:aE} {t:Int} (hc:Cnt st0 t0 st t (wU A W S (y*W))) :
  T (lT N v (A1,B1,D1,b,sky,bv1,wv,e1) (y:Int) s N p.1 p.2.1 p.2.2.1 p.2.2.2.1 p.2.2.2.2.1 p.2.2.2.2.2 s st (wlk bv gl t) 0) (fun r=>(r.1,r.2.1,r.2.2.1,r.2.2.2.1,r.2.2.2.2.1,r.2.2.2.2.2.1)=pls Q W ((y+1)*W)∧r.2.2.2.2.2.2.1=s∧∃ t',r.2.2.2.2.2.2.2.2=wlk bv gl t'∧Cnt st0 t0 r.2.2.2.2.2.2.2.1 t' (wU A W S ((y+1)*W))):=by
 have hw1:=hd.w1
 have s1:=hd.s1
 have h1:=hd.h1
 have yw:y*W≤4096:=Nat.le_trans (Nat.mul_le_mul (show y≤64 by omega) hw1.2) (by decide)
 have e2:(y+1)*W=y*W+W:=Nat.succ_mul _ _
 rw [e2]
 refine T.loopG0 (n:=W) (fun i (q:Pls×aE×Int)=>q.1=pls Q W (y*W+i)∧Cnt st0 t0 q.2.1 q.2.2 (wU A W S (y*W+i))) _ (F:=fun m (q:Pls×aE×Int) i=>lT N v (A1,B1,D1,b,sky,bv1,wv,e1) (y:Int) s m q.1.1 q.1.2.1 q.1.2.2.1 q.1.2.2.2.1 q.1.2.2.2.2.1 q.1.2.2.2.2.2 s q.2.1 (wlk bv gl q.2.2) i) (fun m q i hi hq hk=>?_) (fun m q hq=>?_) (by omega) (s:=(p,st,t)) ⟨hp,hc⟩
 ·rw [lT,dt (show (i:Int) < v.gW by rw [hd.w];omega),cond_true]
  refine T.bind (sampW hN hd (fun k hk'=>hA i k hi hk') q.2.1 q.2.2) fun r hr=>?_
  obtain ⟨hr1,t',hr2,hr3⟩:=hr
  obtain ⟨l,st',fd⟩:=r
  dsimp only at hr1 hr2 hr3
  subst hr1 hr2
  obtain ⟨e,_⟩:=hQ i y hi hy
  refine T.eq e ?_
  obtain ⟨⟨b0,a0,d0,n0,s0,l0⟩,st1,t1⟩:=q
  obtain ⟨hq1,hq2⟩:=hq
  unfold pls at hq1
  simp only [Prod.mk.injEq] at hq1
  obtain ⟨rfl,rfl,rfl,rfl,rfl,rfl⟩:=hq1
  refine T.eq (fX (by simp [tU,pxI];omega)) (T.eq (fX (by simp [tU,pxI];omega)) (T.eq (fX (by simp [tU,pxI];omega)) (T.eq (fX (by simp [tU,pxI];omega)) (T.eq (fX (by simp [tU,pxI];omega)) (T.eq (fX (by simp [tU,pxI];omega)) ?_)))))
  rw [dX (by omega)]
  refine hk ((_,_,_,_,_,_),st',t') ⟨?_,?_⟩
  ·unfold pls
   rw [show y*W+(i+1)=y*W+i+1 from rfl,uU _ Q y hi,uU _ Q y hi,uU _ Q y hi,uU _ Q y hi,uU _ Q y hi,uU _ Q y hi]
   rfl
  ·rw [show y*W+(i+1)=y*W+i+1 from rfl,aPR A y S hi]
   exact hq2.add hr3
 ·rw [lT,df (show ¬ (W:Int) < v.gW by rw [hd.w];omega),cond_false]
  exact T.ret ⟨hq.1,rfl,_,rfl,hq.2⟩
theorem rowsW {bv:aX} {gl:List aG} {A1:List aG} {B1:List aO} {D1:List aP} {bv1:aX} {wv:aL} {e1:Int} {W H S:Nat} (hd:Dim v W H S) {A:Nat→Nat→Nat→Pa} {Q:Nat→Nat→Px} (hQ:PxF N s A W H S Q) (hA:∀ x y k,x < W→y < H→k < S→aOS N b s v sky bv gl x y k (A x y k)) (st0:aE) (t0:Int) :
  T (lR N v (A1,B1,D1,b,sky,bv1,wv,e1) s N [] [] [] [] [] [] s.gL s.gA1 s.gR s.gK s.gN s.gA5 s.gB1 s.gB5 s.gTo st0 (wlk bv gl t0) 0) (fun r=>(r.1,r.2.1,r.2.2.1,r.2.2.2.1,r.2.2.2.2.1,r.2.2.2.2.2.1)=pls Q W (H*W)∧r.2.2.2.2.2.2.1=s∧∃ t',r.2.2.2.2.2.2.2.2=wlk bv gl t'∧Cnt st0 t0 r.2.2.2.2.2.2.2.1 t' (wU A W S (H*W))):=by
 have h1:=hd.h1
 refine T.loopG0 (n:=H) (fun i (q:Pls×aF×aE×Int)=>q.1=pls Q W (i*W)∧q.2.1=s∧Cnt st0 t0 q.2.2.1 q.2.2.2 (wU A W S (i*W))) _ (F:=fun m (q:Pls×aF×aE×Int) i=>lR N v (A1,B1,D1,b,sky,bv1,wv,e1) s m q.1.1 q.1.2.1 q.1.2.2.1 q.1.2.2.2.1 q.1.2.2.2.2.1 q.1.2.2.2.2.2 q.2.1.gL q.2.1.gA1 q.2.1.gR q.2.1.gK q.2.1.gN q.2.1.gA5 q.2.1.gB1 q.2.1.gB5 q.2.1.gTo q.2.2.1 (wlk bv gl q.2.2.2) i) (fun m q i hi hq hk=>?_) (fun m q hq=>?_) (by omega) (s:=(([],[],[],[],[],[]),s,st0,t0)) ⟨by rw [Nat.zero_mul];rfl,rfl,by rw [Nat.zero_mul];exact Cnt.zero _ _⟩
 ·rw [lR,dt (show (i:Int) < v.gH by rw [hd.h];omega),cond_true]
  obtain ⟨p,sc,st,t⟩:=q
  obtain ⟨hp,hsc,hc⟩:=hq
  dsimp only at hp hsc hc
  subst hsc
  refine T.bind (rowW hN hd hQ hi (fun x k hx hk'=>hA x i k hx hi hk') st0 t0 hp hc) fun r hr=>?_
  obtain ⟨hr1,hr2,t',hr3,hr4⟩:=hr
  obtain ⟨b1,a1,d1,n1,c1,l1,sc,st1,fd⟩:=r
  dsimp only at hr1 hr2 hr3 hr4
  subst hr2 hr3
  rw [dX (by omega)]
  exact hk ((b1,a1,d1,n1,c1,l1),sc,st1,t') ⟨hr1,rfl,hr4⟩
 ·rw [lR,df (show ¬ (H:Int) < v.gH by rw [hd.h];omega),cond_false]
  exact T.ret ⟨hq.1,hq.2.1,_,rfl,hq.2.2⟩
end
def aGd (Q:Nat→Nat→Px) (W H:Nat):cA:=cA.mk W H (pls Q W (H*W)).1 (pls Q W (H*W)).2.1 (pls Q W (H*W)).2.2.1 (pls Q W (H*W)).2.2.2.1 (pls Q W (H*W)).2.2.2.2.1 (pls Q W (H*W)).2.2.2.2.2
def img0 : cA:=cA.mk 0 0 [] [] [] [] [] []
theorem filmE {N:Nat} {s:aF} {v:aI} {e:Int} (h:jS N s v=some (.inl e)) (he:e≠0):kB N s v=some (img0,aE.mk 0 0 0,e):=by
 unfold kB
 rw [h,Option.bind_some]
 simp only [oV,show (e != 0)=true by simpa using he,cond_true]
 rfl
theorem filmS {N:Nat} (hN:4100 < N) {s:aF} {v:aI} {r:(List aG)×(List aO)×(List aP)×(List (List aD))×aA×(List aG)×Int} (e:jS N s v=some (.inr (.inr (.inl r)))) (hn:newS s v r) {W H S:Nat} (hd:Dim v W H S) {A:Nat→Nat→Nat→Pa} {Q:Nat→Nat→Px} (hQ:PxF N s A W H S Q) (hA:∀ x y k,x < W→y < H→k < S→aOH N r.2.2.2.1 s v r.2.2.2.2.1 r.2.2.2.2.2.1 x y k (A x y k)) :
  ∃ st' t',Cnt (aE.mk 0 0 0) 0 st' t' (wU A W S (H*W))∧kB N s v=some (aGd Q W H,aE.mk t' st'.gM st'.gG,0):=by
 obtain ⟨A1,B1,D1,b,sky,gl,e1⟩:=r
 obtain ⟨rfl,rfl,rfl,_,_,he,_⟩:=hn
 dsimp only at he hA
 subst he
 obtain ⟨q,eq,hq1,hq2,t',hq3,hq4⟩:=rowsS hN (A1:=s.gL) (B1:=s.gA1) (D1:=s.gK) (e1:=0) hd hQ hA (aE.mk 0 0 0) 0
 obtain ⟨b1,a1,d1,n1,c1,l1,sc,st1,fd⟩:=q
 dsimp only at hq1 hq2 hq3 hq4
 subst hq2 hq3
 refine ⟨st1,t',hq4,?_⟩
 unfold pls at hq1
 simp only [Prod.mk.injEq] at hq1
 obtain ⟨rfl,rfl,rfl,rfl,rfl,rfl⟩:=hq1
 unfold kB
 rw [e,Option.bind_some]
 simp only [oV,bne_self_eq_false,cond_false]
 have q':(swp gl 0)=aJ.mk (jY.mk 0) true gl:=rfl
 rw [← q',eq,Option.bind_some]
 show Option.bind (jA N b sc v sky st1 (swp gl t')) _=_
 unfold jA aGd pls
 rw [hd.w,hd.h]
 rfl
theorem filmW {N:Nat} (hN:1000000000000 < N) {s:aF} {v:aI} {r:(List aG)×(List aO)×(List aP)×(List (List aD))×aA×aX×aL×Int} (e:jS N s v=some (.inr (.inr (.inr (.inr r))))) (hn:newW s v r) {W H S:Nat} (hd:Dim v W H S) {A:Nat→Nat→Nat→Pa} {Q:Nat→Nat→Px} (hQ:PxF N s A W H S Q) (hA:∀ x y k,x < W→y < H→k < S→aOS N r.2.2.2.1 s v r.2.2.2.2.1 r.2.2.2.2.2.1 s.gL x y k (A x y k)) :
  ∃ st' t',Cnt (aE.mk 0 0 0) 0 st' t' (wU A W S (H*W))∧kB N s v=some (aGd Q W H,aE.mk t' st'.gM st'.gG,0):=by
 obtain ⟨A1,B1,D1,b,sky,bv,w,e1⟩:=r
 obtain ⟨rfl,rfl,rfl,_,⟨_,hw⟩,he,_⟩:=hn
 dsimp only at he hA hw
 subst he hw
 obtain ⟨q,eq,hq1,hq2,t',hq3,hq4⟩:=rowsW hN (A1:=s.gL) (B1:=s.gA1) (D1:=s.gK) (bv1:=bv) (wv:=aL.mk bv true s.gL 0) (e1:=0) hd hQ hA (aE.mk 0 0 0) 0
 obtain ⟨b1,a1,d1,n1,c1,l1,sc,st1,fd⟩:=q
 dsimp only at hq1 hq2 hq3 hq4
 subst hq2 hq3
 refine ⟨st1,t',hq4,?_⟩
 unfold pls at hq1
 simp only [Prod.mk.injEq] at hq1
 obtain ⟨rfl,rfl,rfl,rfl,rfl,rfl⟩:=hq1
 unfold kB
 rw [e,Option.bind_some]
 simp only [oV,bne_self_eq_false,cond_false]
 have q':(wlk bv sc.gL 0)=aL.mk bv true sc.gL 0:=rfl
 rw [q'] at eq
 rw [eq,Option.bind_some]
 show Option.bind (kA N b sc v sky st1 (wlk bv sc.gL t')) _=_
 unfold kA aGd pls
 rw [hd.w,hd.h]
 rfl
def aEt (lo c hi:C3):Prop:=(lo.1≤c.1∧c.1≤hi.1)∧(lo.2.1≤c.2.1∧c.2.1≤hi.2.1)∧lo.2.2≤c.2.2∧c.2.2≤hi.2.2
def uK (n:Nat) (c:C3):C3:=((n:Int)*c.1,(n:Int)*c.2.1,(n:Int)*c.2.2)
theorem aQT (n:Nat) (c:C3):uK (n+1) c=aJ8 (uK n c) c:=by
 unfold uK aJ8
 rw [show ((n+1:Nat):Int)=(n:Int)+1 from rfl]
 simp only [Int.add_mul,Int.one_mul]
theorem aSV {a b c x y z:C3} (h:aEt a b c) (h':aEt x y z):aEt (aJ8 a x) (aJ8 b y) (aJ8 c z):=by
 obtain ⟨⟨h1,h2⟩,⟨h3,h4⟩,h5,h6⟩:=h
 obtain ⟨⟨g1,g2⟩,⟨g3,g4⟩,g5,g6⟩:=h'
 unfold aEt aJ8
 dsimp only
 exact ⟨⟨by omega,by omega⟩,⟨by omega,by omega⟩,by omega,by omega⟩
theorem aL8 {lo hi:C3} {f:Nat→C3}:∀ {n:Nat},(∀ k,k < n→aEt lo (f k) hi)→aEt (uK n lo) (aFq f n) (uK n hi)
 | 0,_=>by
  unfold uK aFq aEt
  rw [show ((0:Nat):Int)=0 from rfl]
  simp only [Int.zero_mul]
  decide
 | n+1,h=>by
  rw [aQT,aQT,aFq]
  exact aSV (aL8 fun k hk=>h k (by omega)) (h n (by omega))
theorem aNY {A:Nat→Nat→Nat→Pa} {W S n:Nat} {lo hi:C3} (h:∀ j k,j < n→k < S→aEt lo (A (j % W) (j / W) k).2 hi):aEt (uK n (uK S lo)) (wU A W S n) (uK n (uK S hi)):=
 aL8 fun j hj=>aL8 fun k hk=>h j k hj hk
def jW (v:aI):C3:=((v.gJ+1)*((bW v.gF).1*(1+(bW v.gF).2)),4*(v.gJ+1),v.gJ+1)
def rG (v:aI):C3×C3:=if v.gQ=true then (jW v,jW v) else ((0,0,1),(3*(jW v).1,(jW v).2.1,(jW v).2.2))
def aJK (c:C3):aE:=aE.mk c.1 c.2.1 c.2.2
theorem aKF {v:aI} (h:aDb v):(16≤(jW v).1∧(jW v).1≤21000)∧(4≤(jW v).2.1∧(jW v).2.1≤36)∧1≤(jW v).2.2∧(jW v).2.2≤9:=by
 obtain ⟨hc,hs,⟨d0,d8⟩,c0,c2⟩:=h
 have cl:v.gF=0∨v.gF=1∨v.gF=2:=by omega
 unfold jW
 dsimp only
 rcases cl with h | h | h <;> rw [h] <;> simp only [bW] <;> refine ⟨⟨?_,?_⟩,⟨by omega,by omega⟩,by omega,by omega⟩
 all_goals
  first
  | (show 16≤(v.gJ+1)*80;omega)
  | (show (v.gJ+1)*80≤21000;omega)
  | (show 16≤(v.gJ+1)*320;omega)
  | (show (v.gJ+1)*320≤21000;omega)
  | (show 16≤(v.gJ+1)*2304;omega)
  | (show (v.gJ+1)*2304≤21000;omega)
theorem dimM {v:aI} {W H S:Nat} (hd:Dim v W H S):(1≤H*W∧H*W≤4096)∧1≤S∧S≤16:=by
 obtain ⟨_,_,_,hw,hh,hs⟩:=hd
 exact ⟨⟨Nat.mul_pos (by omega) (by omega),Nat.le_trans (Nat.mul_le_mul hh.2 hw.2) (by decide)⟩,hs⟩
theorem aNM {n:Nat} {x B C:Int} (h:n≤B.toNat) (h0:0≤B) (hx:0≤x) (hx':x≤C):0≤(n:Int)*x∧(n:Int)*x≤B*C:=
 ⟨Int.mul_nonneg (by omega) hx,Int.mul_le_mul (by omega) hx' hx h0⟩
theorem aBx {v:aI} {W H S:Nat} (hd:Dim v W H S) {x:Int} (h0:0≤x) (h1:x≤100000):0≤((H*W:Nat):Int)*((S:Int)*x)∧((H*W:Nat):Int)*((S:Int)*x)≤6553600000:=by
 obtain ⟨⟨_,m⟩,_,s⟩:=dimM hd
 have a:=aNM (n:=S) (B:=16) (C:=100000) s (by decide) h0 h1
 have b:=aNM (n:=H*W) (B:=4096) (C:=1600000) m (by decide) a.1 (by omega)
 exact ⟨b.1,by omega⟩
theorem aR2 (N:Nat) {v:aI} (hv:aDb v) (hm:mE N v=some 0) {W H S:Nat} (hd:Dim v W H S):qW N v=some (aJK (uK (H*W) (uK S (jW v)))):=by
 obtain ⟨⟨k1,k2⟩,⟨k3,k4⟩,k5,k6⟩:=aKF hv
 obtain ⟨_,_,⟨d0,d8⟩,c0,c2⟩:=hv
 have cl:v.gF=0∨v.gF=1∨v.gF=2:=by omega
 have m1:=aBx hd (x:=(jW v).1) (by omega) (by omega)
 have m2:=aBx hd (x:=(jW v).2.1) (by omega) (by omega)
 have m3:=aBx hd (x:=(jW v).2.2) (by omega) (by omega)
 have m4:=aBx hd (x:=1) (by decide) (by decide)
 have q:=aNM (n:=H*W) (B:=4096) (C:=1) (dimM hd).1.2 (by decide) (by decide) (Int.le_refl 1)
 have e1:v.gW*v.gH=((H*W:Nat):Int)*1:=by rw [hd.w,hd.h,Int.natCast_mul];ac_rfl
 have e2:((H*W:Nat):Int)*1*v.gA8=((H*W:Nat):Int)*((S:Int)*1):=by rw [hd.s];ac_rfl
 have e3:((H*W:Nat):Int)*((S:Int)*1)*(v.gJ+1)=((H*W:Nat):Int)*((S:Int)*(jW v).2.2):=by unfold jW;dsimp only;rw [Int.mul_one];ac_rfl
 have e4:4*(((H*W:Nat):Int)*((S:Int)*(jW v).2.2))=((H*W:Nat):Int)*((S:Int)*(jW v).2.1):=by unfold jW;dsimp only;ac_rfl
 have e5:((H*W:Nat):Int)*((S:Int)*(jW v).2.2)*(bW v.gF).1*(1+(bW v.gF).2)=((H*W:Nat):Int)*((S:Int)*(jW v).1):=by unfold jW;dsimp only;ac_rfl
 have cb:(0≤(bW v.gF).1∧(bW v.gF).1≤256)∧0≤(bW v.gF).2∧(bW v.gF).2≤8:=by
  rcases cl with h | h | h <;> rw [h] <;> decide
 unfold qW
 rw [hm,Option.bind_some]
 simp only [bne_self_eq_false,cond_false,aJj,Option.bind_some,aR]
 rw [e1,bK (x:=((H*W:Nat):Int)*1) (by omega) (by omega),e2,bK (x:=((H*W:Nat):Int)*((S:Int)*1)) (by omega) (by omega),bK (x:=v.gJ+1) (by omega) (by omega),e3,bK (x:=((H*W:Nat):Int)*((S:Int)*(jW v).2.2)) (by omega) (by omega),e4,bK (x:=((H*W:Nat):Int)*((S:Int)*(jW v).2.1)) (by omega) (by omega),bK (x:=1+(bW v.gF).2) (by omega) (by omega)]
 have m5:0≤((H*W:Nat):Int)*((S:Int)*(jW v).2.2)*(bW v.gF).1∧((H*W:Nat):Int)*((S:Int)*(jW v).2.2)*(bW v.gF).1≤6553600000*256:=⟨Int.mul_nonneg m3.1 cb.1.1,Int.mul_le_mul m3.2 cb.1.2 cb.1.1 (by decide)⟩
 rw [bK (x:=((H*W:Nat):Int)*((S:Int)*(jW v).2.2)*(bW v.gF).1) (by omega) (by omega),e5,bK (x:=((H*W:Nat):Int)*((S:Int)*(jW v).1)) (by omega) (by omega)]
 rfl
theorem aJP (N:Nat) (l:List Int) (hl:l.length < N) (h6:l.length < 4611686018427387904):jU N l l=some true:=by
 have main:T (iT N l l N 0) (fun o=>o=Sum.inl ()):=by
  refine T.loopG0 (n:=l.length) (fun _ (_:Unit)=>True) _ (F:=fun k (_:Unit) i=>iT N l l k i) (fun k _ i hi _ hk=>?_) (fun k _ _=>?_) (by omega) (s:=()) trivial
  ·rw [iT,aR,dt (by omega),cond_true,iS,List.getElem?_eq_getElem hi,Option.bind_some,Option.bind_some,bne_self_eq_false,cond_false,dX (by omega)]
   exact hk () trivial
  ·rw [iT,aR,df (by omega),cond_false];exact T.ret rfl
 obtain ⟨r,e,rfl⟩:=main
 unfold jU
 rw [aR,bne_self_eq_false,cond_false,e]
 rfl
theorem eqV_r (v:Vector Int 3):eqV (fun a b=>a==b) v v=true:=by
 have h:∀ l:List Int,eqL (fun a b=>a==b) l l=true:=by
  intro l
  induction l with
  | nil=>rfl
  | cons a l ih=>unfold eqL;rw [ih];simp
 exact h _
theorem aMt (N:Nat) (l:List (Vector Int 3)) (hl:l.length < N) (h6:l.length < 4611686018427387904):lM N l l=some true:=by
 have main:T (fU N l l N 0) (fun o=>o=Sum.inl ()):=by
  refine T.loopG0 (n:=l.length) (fun _ (_:Unit)=>True) _ (F:=fun k (_:Unit) i=>fU N l l k i) (fun k _ i hi _ hk=>?_) (fun k _ _=>?_) (by omega) (s:=()) trivial
  ·rw [fU,aR,dt (by omega),cond_true,iS,List.getElem?_eq_getElem hi,Option.bind_some,Option.bind_some,eqV_r,Bool.not_true,cond_false,dX (by omega)]
   exact hk () trivial
  ·rw [fU,aR,df (by omega),cond_false];exact T.ret rfl
 obtain ⟨r,e,rfl⟩:=main
 unfold lM
 rw [aR,bne_self_eq_false,cond_false,e]
 rfl
theorem aRt (N:Nat) (hN:5000 < N) {a:cA} (h:a=img0∨∃ Q W H,H*W≤4096∧a=aGd Q W H):yF N a a=some true:=by
 have h6:(a.gE2.length≤4096∧a.gB2.length≤4096∧a.gJ.length≤4096)∧a.gB9.length≤4096∧a.gE3.length≤4096∧a.gB1.length≤4096:=by
  rcases h with rfl | ⟨Q,W,H,hm,rfl⟩
  ·decide
  ·unfold aGd pls
   simp only [tU]
   exact ⟨⟨hm,hm,hm⟩,hm,hm,hm⟩
 obtain ⟨⟨a1,a2,a3⟩,a4,a5,a6⟩:=h6
 unfold yF
 rw [aMt N _ (by omega) (by omega),aMt N _ (by omega) (by omega),aJP N _ (by omega) (by omega),aJP N _ (by omega) (by omega),aJP N _ (by omega) (by omega),aJP N _ (by omega) (by omega),aR]
 simp only [beq_self_eq_true,cond_true,Option.bind_some]
theorem aRc (N:Nat) (v:aI):rB N v=some (aI.mk (fG v.gW 3) (fG v.gH 3) (fG v.gA8 2) (fG v.gJ 3) v.gF v.gC5 v.gC8 v.gQ):=rfl
theorem aOn {N:Nat} {s:aF} {v:aI} (h:aOA N s v 0):mE N v=some 0:=by
 rcases h with ⟨_,h⟩ | ⟨_,_,h⟩ | ⟨_,h,_⟩
 ·exact absurd rfl h
 ·exact absurd rfl h
 ·exact h
theorem cntB {c:C3} {st':aE} {t':Int} (h:Cnt (aE.mk 0 0 0) 0 st' t' c) (b:(0≤c.1∧c.1≤6553600000)∧(0≤c.2.1∧c.2.1≤6553600000)∧0≤c.2.2∧c.2.2≤6553600000):aE.mk t' st'.gM st'.gG=aJK c:=by
 obtain ⟨_,p1,p2,p3⟩:=h
 obtain ⟨b1,b2,b3⟩:=b
 have z:cD 0:=by unfold cD;decide
 rw [aMY p1 z,aMY p2 z,aMY p3 z]
 dsimp only
 rw [Int.zero_add,Int.zero_add,Int.zero_add,bK (by omega) (by omega),bK (by omega) (by omega),bK (by omega) (by omega)]
 rfl
theorem aTk (N:Nat) (v:aI):T (qW N v) (fun _=>True):=by
 obtain ⟨r,e,h⟩:=aSL N v
 by_cases z:r=0
 ·subst z
  obtain ⟨W,H,S,hd⟩:=dimV (h rfl)
  exact ⟨_,aR2 N (h rfl) e hd,trivial⟩
 ·unfold qW
  rw [e,Option.bind_some,show (r != 0)=true by simpa using z]
  exact T.ret trivial
theorem aJE {v:aI} (hv:aDb v) {W H S:Nat} (hd:Dim v W H S) {c:C3} (h:aEt (uK (H*W) (uK S (rG v).1)) c (uK (H*W) (uK S (rG v).2))):(0≤c.1∧c.1≤6553600000)∧(0≤c.2.1∧c.2.1≤6553600000)∧0≤c.2.2∧c.2.2≤6553600000:=by
 obtain ⟨⟨k1,k2⟩,⟨k3,k4⟩,k5,k6⟩:=aKF hv
 have key:((0≤(rG v).1.1∧(rG v).2.1≤100000)∧(0≤(rG v).1.2.1∧(rG v).2.2.1≤100000)∧0≤(rG v).1.2.2∧(rG v).2.2.2≤100000)∧((rG v).1.1≤100000∧0≤(rG v).2.1)∧((rG v).1.2.1≤100000∧0≤(rG v).2.2.1)∧(rG v).1.2.2≤100000∧0≤(rG v).2.2.2:=by
  unfold rG
  split <;> dsimp only <;> refine ⟨⟨⟨?_,?_⟩,⟨?_,?_⟩,?_,?_⟩,⟨?_,?_⟩,⟨?_,?_⟩,?_,?_⟩ <;> omega
 obtain ⟨⟨⟨a1,a2⟩,⟨a3,a4⟩,a5,a6⟩,⟨b1,b2⟩,⟨b3,b4⟩,b5,b6⟩:=key
 obtain ⟨⟨h1,h2⟩,⟨h3,h4⟩,h5,h6⟩:=h
 exact ⟨⟨Int.le_trans (aBx hd a1 b1).1 h1,Int.le_trans h2 (aBx hd b2 a2).2⟩,⟨Int.le_trans (aBx hd a3 b3).1 h3,Int.le_trans h4 (aBx hd b4 a4).2⟩,Int.le_trans (aBx hd a5 b5).1 h5,Int.le_trans h6 (aBx hd b6 a6).2⟩
theorem jdiv {W H j:Nat} (h:j < H*W):j % W < W∧j / W < H:=by
 have w0:0 < W:=Nat.pos_of_ne_zero fun z=>by subst z;omega
 exact ⟨Nat.mod_lt _ w0,by rw [Nat.div_lt_iff_lt_mul w0];exact h⟩
theorem stEq (v:aE):aE.eq v v=true:=by unfold aE.eq;simp
def aR8 (N:Nat) (v:aI) (r:cA×aE×Int):Prop:=(r.2.2≠0∧r.1=img0∧r.2.1=aE.mk 0 0 0)∨(r.2.2=0∧mE N v=some 0∧aDb v∧∃ W H S,Dim v W H S∧(∃ Q,r.1=aGd Q W H)∧∃ c,r.2.1=aJK c∧aEt (uK (H*W) (uK S (rG v).1)) c (uK (H*W) (uK S (rG v).2)))
theorem filmC (N:Nat) (hN:1000000000000 < N) (s:aF) (v:aI) (h:few s) (hid:s.gN.length≤20):T (kB N s v) (aR8 N v):=by
 obtain ⟨q,e,hq⟩:=newT N (by omega) s v h
 rcases q with e' | r | r | r | r
 ·exact ⟨_,filmE e hq.1,Or.inl ⟨hq.1,rfl,rfl⟩⟩
 ·exact hq.elim
 ·obtain ⟨hn,nv,_⟩:=hq
  have hn0:=hn
  obtain ⟨ck,_⟩:=aMy nv
  obtain ⟨ho,hlab⟩:=aR6 N (by omega) h ck
  obtain ⟨_,_,_,hr,hsw,he,hcon,hlen,hfit,_⟩:=hn
  obtain ⟨W,H,S,hd⟩:=dimV hr.view
  obtain ⟨A,hA⟩:=aTE (N:=N) (by omega) hr hsw hcon hfit.2 ho hd
  obtain ⟨Q,hQ⟩:=pxF N (by omega) hid hlab hd.s1 fun x y k hx hy hk=>(hA x y k hx hy hk).2.1
  obtain ⟨st',t',hc,er⟩:=filmS (by omega) e hn0 hd hQ fun x y k hx hy hk=>(hA x y k hx hy hk).1
  have hb:aEt (uK (H*W) (uK S (rG v).1)) (wU A W S (H*W)) (uK (H*W) (uK S (rG v).2)):=aNY fun j k hj hk=>by
   obtain ⟨_,_,c1,c2,c3⟩:=hA _ _ k (jdiv hj).1 (jdiv hj).2 hk
   unfold exC at c1 c2 c3
   have e1:(r.2.2.2.2.2.1.length:Int)*(1+(bW v.gF).2)*(v.gJ+1)=(jW v).1:=by rw [hlen];unfold jW;dsimp only;ac_rfl
   rw [e1] at c1
   unfold rG
   rw [if_pos hcon]
   exact ⟨⟨by rw [c1];exact Int.le_refl _,by rw [c1];exact Int.le_refl _⟩,⟨by rw [c2];exact Int.le_refl _,by rw [c2];exact Int.le_refl _⟩,by rw [c3];exact Int.le_refl _,by rw [c3];exact Int.le_refl _⟩
  rw [cntB hc (aJE hr.view hd hb)] at er
  exact ⟨_,er,Or.inr ⟨rfl,aOn nv,hr.view,W,H,S,hd,⟨Q,rfl⟩,_,rfl,hb⟩⟩
 ·exact hq.elim
 ·obtain ⟨hn,nv,_⟩:=hq
  have hn0:=hn
  obtain ⟨ck,hfit⟩:=aMy nv
  obtain ⟨ho,hlab⟩:=aR6 N (by omega) h ck
  obtain ⟨_,_,_,hr,⟨hb,_⟩,he,hcon,ht⟩:=hn
  obtain ⟨W,H,S,hd⟩:=dimV hr.view
  obtain ⟨A,hA⟩:=aSx hN hr hb rfl ht hcon hfit.2 ho hd
  obtain ⟨Q,hQ⟩:=pxF N (by omega) hid hlab hd.s1 fun x y k hx hy hk=>(hA x y k hx hy hk).2.1
  obtain ⟨st',t',hc,er⟩:=filmW hN e hn0 hd hQ fun x y k hx hy hk=>(hA x y k hx hy hk).1
  have hb:aEt (uK (H*W) (uK S (rG v).1)) (wU A W S (H*W)) (uK (H*W) (uK S (rG v).2)):=aNY fun j k hj hk=>by
   obtain ⟨_,_,⟨c1,c2⟩,⟨c3,c4⟩,c5,c6⟩:=hA _ _ k (jdiv hj).1 (jdiv hj).2 hk
   have d0:=hr.view.2.2.1
   have cb:0≤(bW v.gF).2:=by
    have cl:v.gF=0∨v.gF=1∨v.gF=2:=by have:=hr.view.2.2.2;omega
    rcases cl with h | h | h <;> rw [h] <;> decide
   have e1:3*(s.gL.length:Int)*(1+(bW v.gF).2)*(v.gJ+1)≤3*(jW v).1:=by
    have m:(s.gL.length:Int)*((1+(bW v.gF).2)*(v.gJ+1))≤(bW v.gF).1*((1+(bW v.gF).2)*(v.gJ+1)):=Int.mul_le_mul_of_nonneg_right hfit.1 (Int.mul_nonneg (by omega) (by omega))
    have m1:3*(s.gL.length:Int)*(1+(bW v.gF).2)*(v.gJ+1)=3*((s.gL.length:Int)*((1+(bW v.gF).2)*(v.gJ+1))):=by ac_rfl
    have m2:(jW v).1=(bW v.gF).1*((1+(bW v.gF).2)*(v.gJ+1)):=by unfold jW;dsimp only;ac_rfl
    rw [m1,m2]
    omega
   unfold rG
   rw [if_neg (by rw [hcon];decide)]
   exact ⟨⟨c1,Int.le_trans c2 e1⟩,⟨c3,c4⟩,c5,c6⟩
  rw [cntB hc (aJE hr.view hd hb)] at er
  exact ⟨_,er,Or.inr ⟨rfl,aOn nv,hr.view,W,H,S,hd,⟨Q,rfl⟩,_,rfl,hb⟩⟩
theorem aSg (N:Nat) (hN:1000000000000 < N) (hw:jO N=some true) (s:aF) (v:aI):kN N s v=some true:=by
 have main:T (kN N s v) (fun r=>r=true):=by
  unfold kN
  refine T.bind (fewT2 N (by omega) s) fun r1 h0=>T.eq (aRc N v) ?_
  obtain ⟨h1,_,_,hid⟩:=h0
  generalize aI.mk (fG v.gW 3) (fG v.gH 3) (fG v.gA8 2) (fG v.gJ 3) v.gF v.gC5 v.gC8 v.gQ=v2
  obtain ⟨r,e,hr⟩:=filmC N hN r1 v2 h1 hid
  have rend:uH N r1 v2=some (r.1,cond (!v2.gQ) (aE.mk 0 0 0) r.2.1,r.2.2):=by
   unfold uH;rw [e];cases v2.gQ <;> rfl
  refine T.eq e (T.eq rend ?_)
  obtain ⟨im,n,er⟩:=r
  unfold aR8 at hr
  dsimp only at hr ⊢
  rw [bne_self_eq_false,cond_false]
  rcases hr with ⟨a,rfl,rfl⟩ | ⟨rfl,hm,hv,W,H,S,hd,⟨Q,rfl⟩,c,rfl,hb⟩
  ·rw [aRt N (by omega) (Or.inl rfl),Option.bind_some,Bool.not_true,cond_false]
   obtain ⟨c8,e8,_⟩:=aTk N v2
   rw [e8,show (er != 0)=true by simpa using a,hw]
   cases v2.gQ <;> exact ⟨true,rfl,rfl⟩
  ·rw [aRt N (by omega) (Or.inr ⟨Q,W,H,(dimM hd).1.2,rfl⟩),Option.bind_some,Bool.not_true,cond_false,aR2 N hv hm hd]
   have nn:=aJE hv hd hb
   obtain ⟨⟨k1,k2⟩,⟨k3,k4⟩,k5,k6⟩:=aKF hv
   cases hc:v2.gQ with
   | true=>
    have eq:c=uK (H*W) (uK S (jW v2)):=by
     unfold rG at hb
     rw [if_pos hc] at hb
     obtain ⟨⟨h1,h2⟩,⟨h3,h4⟩,h5,h6⟩:=hb
     have q1:=Int.le_antisymm h2 h1
     have q2:=Int.le_antisymm h4 h3
     have q3:=Int.le_antisymm h6 h5
     obtain ⟨c1,c2,c3⟩:=c
     dsimp only at q1 q2 q3
     rw [q1,q2,q3]
    subst eq
    simp only [Bool.not_true,cond_false,aR,stEq,Option.bind_some,bne_self_eq_false,cond_true,hw]
    exact ⟨true,rfl,rfl⟩
   | false=>
    unfold rG at hb
    rw [if_neg (by rw [hc];decide)] at hb
    obtain ⟨⟨h1,h2⟩,⟨h3,h4⟩,h5,h6⟩:=hb
    have x7:∀ b:Bool,(cond b (some (!true)) (some false))=some false:=by intro b;cases b <;> rfl
    have m1:=aBx hd (x:=(jW v2).1) (by omega) (by omega)
    have e3:3*(((H*W:Nat):Int)*((S:Int)*(jW v2).1))=((H*W:Nat):Int)*((S:Int)*(3*(jW v2).1)):=by ac_rfl
    have m4:=aBx hd (x:=1) (by decide) (by decide)
    have q:=aNM (n:=H*W) (B:=4096) (C:=1) (dimM hd).1.2 (by decide) (by decide) (Int.le_refl 1)
    have w1:v2.gW*v2.gH=((H*W:Nat):Int)*1:=by rw [hd.w,hd.h,Int.natCast_mul];ac_rfl
    have w2:((H*W:Nat):Int)*1*v2.gA8=((H*W:Nat):Int)*((S:Int)*1):=by rw [hd.s];ac_rfl
    simp only [Bool.not_false,cond_true,cond_false,aR,x7,Option.bind_some,bne_self_eq_false,hw,stEq]
    rw [w1,bK (x:=((H*W:Nat):Int)*1) (by omega) (by omega),w2,bK (x:=((H*W:Nat):Int)*((S:Int)*1)) (by omega) (by omega)]
    unfold aJK uK
    unfold uK at h2 h4 h5 h6
    dsimp only at h2 h4 h5 h6 ⊢
    rw [bK (x:=3*(((H*W:Nat):Int)*((S:Int)*(jW v2).1))) (by omega) (by omega),e3,dt h2,dt h4,dt h6,dt h5]
    exact ⟨true,rfl,rfl⟩
 obtain ⟨r,e,rfl⟩:=main
 exact e
end Go.UK
