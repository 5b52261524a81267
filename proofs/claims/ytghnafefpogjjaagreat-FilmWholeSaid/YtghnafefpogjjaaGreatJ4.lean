/- A part of the proof: what the functions of the program compute. -/
import Derived.Test.YtghnafefpogjjaaGreatJ3
namespace Go.UK
open Go Go.Proofs
set_option maxRecDepth 20000
set_option maxHeartbeats 2000000
set_option linter.all false
theorem TU.map {ι ρ α β:Type} {f:ι→Option ρ} {P:α→Prop} {P':β→Prop} {S:ι→α→ρ→Prop} {S':ι→β→ρ→Prop} (h:TU f P S) (g:α→β) (hp:∀ a,P a→P' (g a)) (hs:∀ i a r,P a→S i a r→S' i (g a) r):TU f P' S':=by
 obtain ⟨a,pa,h⟩:=h
 refine ⟨g a,hp a pa,fun i=>?_⟩
 obtain ⟨r,e,s⟩:=h i
 exact ⟨r,e,hs i a r pa s⟩
theorem aCB (a k:Int):cV a (I64 (a+k)) k:=⟨bV (aI9 _) (aIj _),fun _=>cT _⟩
def exC (c n:Int):Prop:=c=n
def amC (c n:Int):Prop:=0≤c∧c≤n
theorem aM4 {a b n m:Int} (h:exC a n) (h':exC b m):exC (a+b) (n+m):=by unfold exC at *;omega
theorem aMa {a b n m:Int} (h:amC a n) (h':amC b m):amC (a+b) (n+m):=by unfold amC at *;omega
theorem aHF {a n m:Int} (h:exC a n) (e:n=m):exC a m:=e▸h
theorem aGw {a n m:Int} (h:amC a n) (e:n=m):amC a m:=e▸h
theorem aK8 {a n m:Int} (h:amC a n) (e:n≤m):amC a m:=by unfold amC at *;omega
theorem aQB : exC 0 0:=rfl
theorem aKK : amC 0 0:=⟨Int.le_refl _,Int.le_refl _⟩
def wt (d:List bA):Nat→Int→Nat
 | 0,_=>0
 | k+1,e=>match d[e.toNat]? with
  | none=>0
  | some nd=>if 0≤nd.gB0 then 1+wt d k nd.gB0+wt d k nd.gB3 else 1+nd.gC0.toNat
def aH9 (n:Nat) (d:List bA):Prop:=∀ i,(h:i < d.length)→aIG n d.length i d[i]
theorem aP3 {n:Nat} {d:List bA} (hd:aH9 n d):∀ (k:Nat) (e:Int),0≤e→d.length≤e.toNat+k→wt d (k+1) e=wt d k e:=by
 intro k
 induction k with
 | zero=>
  intro e h0 h
  unfold wt
  rw [List.getElem?_eq_none (by omega)]
 | succ k ih=>
  intro e h0 h
  rw [wt,wt]
  by_cases c:e.toNat < d.length
  ·rw [List.getElem?_eq_getElem c]
   have g:=hd _ c
   dsimp only
   split
   ·rename_i h2
    have:=g.1 h2
    rw [ih _ (by omega) (by omega),ih _ (by omega) (by omega)]
   ·rfl
  ·rw [List.getElem?_eq_none (by omega)]
def wk1 (d:List bA) (e:Int):Nat:=wt d d.length e
theorem aJx {n:Nat} {d:List bA} (hd:aH9 n d) {e:Int} (h0:0≤e) (h:e.toNat < d.length) (hl:0≤d[e.toNat].gB0):wk1 d e=1+wk1 d d[e.toNat].gB0+wk1 d d[e.toNat].gB3:=by
 have g:=(hd _ h).1 hl
 obtain ⟨m,hm⟩:∃ m,d.length=m+1:=⟨d.length - 1,by omega⟩
 unfold wk1
 rw [hm]
 conv=>lhs;rw [wt]
 rw [List.getElem?_eq_getElem h]
 dsimp only
 rw [if_pos hl,aP3 hd m _ (by omega) (by omega),aP3 hd m _ (by omega) (by omega)]
theorem aIu {n:Nat} {d:List bA} (hd:aH9 n d) {e:Int} (h0:0≤e) (h:e.toNat < d.length) (hl:¬ 0≤d[e.toNat].gB0):wk1 d e=1+d[e.toNat].gC0.toNat:=by
 obtain ⟨m,hm⟩:∃ m,d.length=m+1:=⟨d.length - 1,by omega⟩
 unfold wk1
 rw [hm,wt,List.getElem?_eq_getElem h]
 dsimp only
 rw [if_neg hl]
theorem aJf {n:Nat} {d:List bA} (hd:aH9 n d) {e:Int} (h0:0≤e) (h:e.toNat < d.length):1≤wk1 d e:=by
 by_cases c:0≤d[e.toNat].gB0
 ·rw [aJx hd h0 h c];omega
 ·rw [aIu hd h0 h c];omega
def wW1 (b:aX) (l:List Int):Nat:=(l.map (wk1 b.gA6)).sum
theorem wI (b:aX) (x y:List Int):wW1 b (x++y)=wW1 b x+wW1 b y:=by unfold wW1;rw [List.map_append,List.sum_append]
theorem aBV (b:aX) (x:Int):wW1 b [x]=wk1 b.gA6 x:=by unfold wW1;simp
theorem aMN (b:aX) (x y:Int):wW1 b [x,y]=wk1 b.gA6 x+wk1 b.gA6 y:=by unfold wW1;simp
theorem aF3 {n:Nat} {b:aX} (hd:aH9 n b.gA6) {l:List Int} (h:aOS b l):l.length≤wW1 b l:=by
 induction l with
 | nil=>exact Nat.zero_le _
 | cons x l ih=>
  have h1:=ih fun y hy=>h y (List.mem_cons_of_mem _ hy)
  have h2:=h x (List.mem_cons_self ..)
  have h3:=aJf hd (e:=x) h2.1 (by omega)
  have:wW1 b (x :: l)=wW1 b [x]+wW1 b l:=wI b [x] l
  rw [this,aBV,List.length_cons]
  omega
theorem aRC {n:Nat} {d:List bA} (hd:aH9 n d) {R:List aF} {o:List Int} {D:Int→Prop} {i:Int} {f c:Nat} {L:List aZ} (h:Cv R o d D i f c L):L=[]→0≤i→wk1 d i+1≤3*c∧1≤c:=by
 induction h with
 | pend=>intro e;cases e
 | leaf i f c nd _ h2 h3 h4 h5 _ _=>
  intro _ h0
  obtain ⟨q,e⟩:=List.getElem?_eq_some_iff.1 h2
  have g:=(hd _ q).2 (by rw [e];exact h3)
  rw [e] at g
  have w:=aIu hd h0 q (by rw [e];omega)
  rw [e] at w
  omega
 | node i f c1 c2 nd L1 L2 _ h2 h3 _ _ _ _ i1 i2=>
  intro e h0
  obtain ⟨e1,e2⟩:=List.append_eq_nil_iff.1 e
  obtain ⟨q,e'⟩:=List.getElem?_eq_some_iff.1 h2
  have g:=(hd _ q).1 (by rw [e'];exact h3)
  rw [e'] at g
  have w:=aJx hd h0 q (by rw [e'];exact h3)
  rw [e'] at w
  have a1:=i1 e1 (by omega)
  have a2:=i2 e2 (by omega)
  omega
theorem aMS {gl:List aF} {b:aX} (hb:aBS gl.length b) (ht:wJ gl b):wk1 b.gA6 0≤3*gl.length:=by
 rcases ht with ⟨_,h2⟩ | ⟨_,_,h3⟩
 ·rw [h2];exact Nat.zero_le _
 ·have:=aRC (d:=b.gA6) hb.2.2.2 h3 rfl (by decide)
  omega
theorem aSM {ι:Type} (N:Nat) (hN:100 < N) {b:aX} {gl:List aF} (h20:gl.length≤20) (o d:aC) (m s:Int) (t0:ι→Int) {l:List Int} (hl:ord gl.length l) (hl':l.length≤20) (t:ι→Int) {mt:aS} {x:Int} (hm:x < (gl.length:Int)∧qA mt) :
  TU (fun i=>dG N l o d m s (wlk b gl (t0 i)) N (t i) mt x 0) (fun a:aS×Int=>a.2 < (gl.length:Int)∧qA a.1) (fun i a r=>∃ t',r=(t',a)∧cV (t i) t' (l.length:Int)):=by
 refine TU.loop0 (n:=l.length) (fun j (s:aS×Int) (t':ι→Int)=>(s.2 < (gl.length:Int)∧qA s.1)∧∀ i,cV (t i) (t' i) (j:Int)) (F:=fun i k t' (x:aS×Int) j=>dG N l o d m s (wlk b gl (t0 i)) k t' x.1 x.2 j) (fun k t' x j hj hx hk=>?_) (fun k t' x hx=>?_) (by omega) (s:=(mt,x)) (h:=t) ⟨hm,fun i=>kC _⟩
 ·obtain ⟨hx,hu⟩:=hx
  simp only [dG,aR,dt (show (j:Int) < (l.length:Int) by omega),cond_true,iT,List.getElem?_eq_getElem hj,Option.bind_some]
  have he:=hl _ (List.getElem_mem hj)
  generalize l[j]=e at *
  obtain ⟨a,a1,a3⟩:=aMv N (by omega) b o d m s he
  have a3':∀ i,cY N o d m s e (aL.mk (wlk b gl (t0 i)).gO (wlk b gl (t0 i)).gA (wlk b gl (t0 i)).gl (I64 (t' i+1)))=some a:=fun i=>a3 _
  simp only [a3',Option.bind_some]
  refine TU.t (P:=fun p:aS×aS×Int=>p.2.2 < (gl.length:Int)∧qA p.1) ?_ fun p hp=>?_
  ·refine T.bind (P:=fun _=>True) ?_ fun p33 _=>T.cond (fun _=>T.ret ⟨he.2,a1⟩) (fun _=>T.ret hx)
   refine T.cond (fun _=>T.cond (fun _=>T.ret trivial) (fun _=>T.bind (aOz N a1 hx.2) fun r34 _=>T.cond (fun _=>T.ret trivial) (fun _=>T.cond (fun _=>T.bind (aOz N hx.2 a1) fun _ _=>T.ret trivial) (fun _=>T.ret trivial)))) (fun _=>T.ret trivial)
  ·rw [dX (by omega)]
   exact hk (p.1,p.2.2) (fun i=>I64 (t' i+1)) ⟨hp,fun i=>aCb (hu i)⟩
 ·simp only [dG,aR,df (show ¬ (l.length:Int) < (l.length:Int) by omega),cond_false]
  exact TU.ret x hx.1 fun i=>⟨t' i,rfl,hx.2 i⟩
theorem aTO {ι:Type} (N:Nat) (hN:100 < N) {b:aX} {gl:List aF} (hb:aBS gl.length b) (h20:gl.length≤20) (o:aC) {d:aC} (hd:pin d) (m s:Int) (t0:ι→Int):∀ (k:Nat) (st:List Int) (t:ι→Int) (mt:aS) (x:Int) (l:Nat),l≤st.length→aOS b (st.take l)→wW1 b (st.take l) < k→wW1 b (st.take l) < 1000000000000→(x < (gl.length:Int)∧qA mt) →
  TU (fun i=>dE N (wlk b gl (t0 i)) o d m s k st (t i) mt x l) (fun a:(aS×Int)×Int=>(a.1.2 < (gl.length:Int)∧qA a.1.1)∧amC a.2 (wW1 b (st.take l):Int)) (fun i a r=>∃ t' st',r=(st',t',a.1)∧cV (t i) t' a.2):=by
 obtain ⟨b1,b2,b3,b4⟩:=hb
 intro k
 induction k with
 | zero=>intro st t mt x l _ _ h;omega
 | succ k ih=>
  intro st t mt x l hl hn hw hw' hm
  simp only [dE,aR]
  have lenT:(st.take l).length=l:=by rw [List.length_take];omega
  have wl:=aF3 b4 hn
  rw [lenT] at wl
  refine TU.cond (fun hc=>?_) (fun hc=>?_)
  ·obtain ⟨l,rfl⟩:∃ l',l=l'+1:=⟨l - 1,by have:=of_decide_eq_true hc;omega⟩
   have im:I64 (((l+1:Nat):Int) - 1)=(l:Int):=by rw [bV (by omega) (by omega)];omega
   simp only [im,Int.toNat_natCast]
   obtain ⟨e,et⟩:∃ e,st[l]? = some e:=⟨_,List.getElem?_eq_getElem (by omega)⟩
   have hs:=aA0 et
   rw [hs] at hn hw hw'
   rw [wI b,aBV] at hw hw'
   have he:=hn e (by simp)
   have hn':aOS b (st.take l):=fun y hy=>hn y (by simp [hy])
   have wl':=aF3 b4 hn'
   rw [show (st.take l).length=l by rw [List.length_take];omega] at wl'
   refine TU.t (T.inRS (by omega) (by omega) (by omega)) fun _ _=>TU.e (fun i=>et) ?_
   have hidx:e.toNat < b.gA6.length:=by omega
   have w1:=aJf b4 he.1 hidx
   have wi:=aJx b4 he.1 hidx
   have wl3:=aIu b4 he.1 hidx
   rw [hs,wI b,aBV]
   refine TU.e (a:=b.gA6[e.toNat]) (fun i=>aIf he.1 hidx) ?_
   have gd:=b4 e.toNat hidx
   generalize b.gA6[e.toNat]=nd at *
   refine TU.t (T.slcG (by omega) (by omega) (by omega) (by omega) (Or.inl rfl)) fun _ _=>TU.t (aRm N (by omega) nd.gLo nd.gHi o hd) fun r18 h18=>?_
   refine TU.t (P:=fun _=>True) ?_ fun p19 _=>?_
   ·refine T.cond (fun _=>T.ret trivial) (fun _=>T.cond (fun _=>T.bind (aEe N ⟨hm.2.1,hm.2.2.1⟩ h18) fun _ _=>T.ret trivial) (fun _=>T.ret trivial))
   refine TU.cond (fun _=>?_) (fun _=>TU.cond (fun hc=>?_) (fun hc=>?_))
   ·exact (ih st (fun i=>I64 (t i+1)) mt x l (by omega) hn' (by omega) (by omega) hm).map (fun a=>(a.1,1+a.2)) (fun _ h=>⟨h.1,by have:=h.2;unfold amC at *;omega⟩) fun i a r _ h=>by obtain ⟨t',st',e,u⟩:=h;exact ⟨t',st',e,nX (aCB _ 1) u⟩
   ·have g:=gd.1 (of_decide_eq_true hc)
    have w2:=wi (of_decide_eq_true hc)
    have w3:=aMN b nd.gB3 nd.gB0
    refine TU.t (T.appG (by omega) (show (l+2)*8≤140737488355328 by omega)) fun z hz=>?_
    subst hz
    have tk:(uP st l [nd.gB3,nd.gB0]).take (l+2)=st.take l++[nd.gB3,nd.gB0]:=aEz st l [_,_] (by omega)
    refine (ih _ (fun i=>I64 (t i+1)) mt x (l+2) (aJu st l [_,_] (by omega)) ?_ ?_ ?_ hm).map (fun a=>(a.1,1+a.2)) (fun _ h=>⟨h.1,by have:=h.2;rw [tk,wI b] at this;unfold amC at *;omega⟩) fun i a r _ h=>by obtain ⟨t',st',e,u⟩:=h;exact ⟨t',st',e,nX (aCB _ 1) u⟩
    ·rw [tk]
     intro y hy
     rw [List.mem_append] at hy
     rcases hy with hy | hy
     ·exact hn' y hy
     ·simp at hy
      rcases hy with rfl | rfl <;> omega
    ·rw [tk,wI b];omega
    ·rw [tk,wI b];omega
   ·have g:=gd.2 (by have:=of_decide_eq_false hc;omega)
    rw [bV (x:=nd.gC6+nd.gC0) (by omega) (by omega)]
    refine TU.t (T.slcN (l:=b.gC9) g.1 (by omega) (by omega)) fun s23 h23=>?_
    refine TU.bind (aSM N hN h20 o d m s t0 (fun y hy=>b1 y (h23.2.1 y hy)) (by omega) (fun i=>I64 (t i+1)) hm) fun a ha r hr=>?_
    have h':∃ t':ι→Int,∀ i,r i=(t' i,a)∧cV (I64 (t i+1)) (t' i) (s23.length:Int):=⟨fun i=>(hr i).choose,fun i=>(hr i).choose_spec⟩
    obtain ⟨t',e'⟩:=h'
    simp only [fun i=>(e' i).1]
    have wlf:=wl3 (by have:=of_decide_eq_false hc;omega)
    have sl:s23.length≤nd.gC0.toNat:=by rw [h23.1,List.length_drop,List.length_take];omega
    exact (ih st t' a.1 a.2 l (by omega) hn' (by omega) (by omega) ha).map (fun a=>(a.1,1+(s23.length:Int)+a.2)) (fun _ h=>⟨h.1,by have:=h.2;unfold amC at *;omega⟩) fun i a r _ h=>by obtain ⟨t2,st',e,u⟩:=h;exact ⟨t2,st',e,nX (nX (aCB _ 1) (e' i).2) u⟩
  ·exact TU.ret ((mt,x),0) ⟨hm,by unfold amC;omega⟩ fun i=>⟨_,_,rfl,kC _⟩
theorem aQI {ι:Type} (N:Nat) (hN:1000000000000 < N) {b:aX} {gl:List aF} (hb:aBS gl.length b) (ht:wJ gl b) (h20:gl.length≤20) (o d:aC) (m s:Int) (t:ι→Int) :
  TU (fun i=>iR N o d m s (wlk b gl (t i))) (fun a:(Int×aS)×Int=>(a.1.1 < (gl.length:Int)∧qA a.1.2)∧amC a.2 (3*(gl.length:Int))) (fun i a r=>∃ t',r=(t',a.1)∧cV (t i) t' a.2):=by
 unfold iR jN
 simp only [show ∀ t,(wlk b gl t).gO=b from fun _=>rfl,show ∀ t,(wlk b gl t).gA=true from fun _=>rfl,show ∀ t,(wlk b gl t).gD0=t from fun _=>rfl,Option.bind_some,aR]
 refine TU.t (P:=fun p=>p=false→pin d∧0 < b.gA6.length) ?_ fun p1 h1=>TU.cond (fun _=>TU.ret ((-1,aS.mk 0 0 0 0),0) ⟨⟨by dsimp only;omega,aCn⟩,by unfold amC;omega⟩ fun i=>⟨_,rfl,kC _⟩) (fun hc=>?_)
 ·refine T.cond (fun _=>T.ret fun h=>by cases h) (fun hc=>T.bind (aPT N o d) fun r4 h4=>T.ret fun e=>⟨aGm (h4 (by simpa using e)).2.1 (by decide),?_⟩)
  have:((b.gA6.length:Int)==0)=false:=hc
  have:(b.gA6.length:Int)≠0:=by simpa using this
  omega
 ·obtain ⟨hd,h0⟩:=h1 hc
  have wr:=aMS hb ht
  have w0:wW1 b ([0].take 1)=wk1 b.gA6 0:=by rw [show ([0]:List Int).take 1=[0] from rfl,aBV]
  refine TU.bind (aTO N (by omega) hb h20 o hd m s t N [0] t (aS.mk 0 0 0 0) (-1) 1 (by simp) ?_ ?_ ?_ ⟨by omega,aCn⟩) fun a ha r hr=>?_
  ·intro x hx;have:x=0:=by simpa using hx
   subst this;omega
  ·rw [w0];omega
  ·rw [w0];omega
  ·refine TU.ret ((a.1.2,a.1.1),a.2) ⟨ha.1,by have:=ha.2;rw [w0] at this;unfold amC at *;omega⟩ fun i=>?_
   obtain ⟨t',st',e,u⟩:=hr i
   rw [e]
   exact ⟨t',rfl,u⟩
theorem anyK2 {ι:Type} (N:Nat) (hN:100 < N) {b:aX} {gl:List aF} (o d:aC) (m s:Int) (w:Bool) (t0:ι→Int) {l:List Int} (hl:ord gl.length l) (hl':l.length≤20) (t:ι→Int) :
  TU (fun i=>eD N l o d m s (wlk b gl (t0 i)) w N (t i) 0) (fun a:Bool×Int=>amC a.2 (l.length:Int)) (fun i a r=>∃ t',r=cond a.1 (Sum.inr (t',true)) (Sum.inl t')∧cV (t i) t' a.2):=by
 refine TU.loop0 (n:=l.length) (fun j (_:Unit) (t':ι→Int)=>∀ i,cV (t i) (t' i) (j:Int)) (F:=fun i k t' (x:Unit) j=>eD N l o d m s (wlk b gl (t0 i)) w k t' j) (fun k t' x j hj hx hk=>?_) (fun k t' x hx=>?_) (by omega) (s:=()) (h:=t) fun i=>kC _
 ·simp only [eD,aR,dt (show (j:Int) < (l.length:Int) by omega),cond_true,iT,List.getElem?_eq_getElem hj,Option.bind_some]
  have he:=hl _ (List.getElem_mem hj)
  generalize l[j]=e at *
  obtain ⟨a,a1,a3⟩:=aMv N (by omega) b o d m s he
  have a3':∀ i,cY N o d m s e (aL.mk (wlk b gl (t0 i)).gO (wlk b gl (t0 i)).gA (wlk b gl (t0 i)).gl (I64 (t' i+1)))=some a:=fun i=>a3 _
  simp only [a3',Option.bind_some]
  refine TU.t (P:=fun _=>True) (T.cond (fun _=>T.ret trivial) (fun _=>T.ret trivial)) fun p24 _=>?_
  refine TU.cond (fun _=>TU.ret (true,((j+1:Nat):Int)) (by unfold amC;dsimp only;omega) fun i=>⟨_,rfl,aCb (hx i)⟩) (fun _=>?_)
  rw [dX (by omega)]
  exact hk () (fun i=>I64 (t' i+1)) fun i=>aCb (hx i)
 ·simp only [eD,aR,df (show ¬ (l.length:Int) < (l.length:Int) by omega),cond_false]
  exact TU.ret (false,(l.length:Int)) (by unfold amC;dsimp only;omega) fun i=>⟨t' i,rfl,hx i⟩
theorem anyK1 {ι:Type} (N:Nat) (hN:100 < N) {b:aX} {gl:List aF} (hb:aBS gl.length b) (h20:gl.length≤20) (o:aC) {d:aC} (hd:pin d) (m s:Int) (w:Bool) (t0:ι→Int):∀ (k:Nat) (st:List Int) (t:ι→Int) (l:Nat),l≤st.length→aOS b (st.take l)→wW1 b (st.take l) < k→wW1 b (st.take l) < 1000000000000 →
  TU (fun i=>eE N (wlk b gl (t0 i)) o d m s w k st (t i) l) (fun a:Bool×Int=>amC a.2 (wW1 b (st.take l):Int)) (fun i a r=>∃ t' st',r=cond a.1 (Sum.inr (t',true)) (Sum.inl (st',t'))∧cV (t i) t' a.2):=by
 obtain ⟨b1,b2,b3,b4⟩:=hb
 intro k
 induction k with
 | zero=>intro st t l _ _ h;omega
 | succ k ih=>
  intro st t l hl hn hw hw'
  simp only [eE,aR]
  have lenT:(st.take l).length=l:=by rw [List.length_take];omega
  have wl:=aF3 b4 hn
  rw [lenT] at wl
  refine TU.cond (fun hc=>?_) (fun hc=>?_)
  ·obtain ⟨l,rfl⟩:∃ l',l=l'+1:=⟨l - 1,by have:=of_decide_eq_true hc;omega⟩
   have im:I64 (((l+1:Nat):Int) - 1)=(l:Int):=by rw [bV (by omega) (by omega)];omega
   simp only [im,Int.toNat_natCast]
   obtain ⟨e,et⟩:∃ e,st[l]? = some e:=⟨_,List.getElem?_eq_getElem (by omega)⟩
   have hs:=aA0 et
   rw [hs] at hn hw hw'
   rw [wI b,aBV] at hw hw'
   have he:=hn e (by simp)
   have hn':aOS b (st.take l):=fun y hy=>hn y (by simp [hy])
   have wl':=aF3 b4 hn'
   rw [show (st.take l).length=l by rw [List.length_take];omega] at wl'
   refine TU.t (T.inRS (by omega) (by omega) (by omega)) fun _ _=>TU.e (fun i=>et) ?_
   have hidx:e.toNat < b.gA6.length:=by omega
   have w1:=aJf b4 he.1 hidx
   have wi:=aJx b4 he.1 hidx
   have wl3:=aIu b4 he.1 hidx
   rw [hs,wI b,aBV]
   refine TU.e (a:=b.gA6[e.toNat]) (fun i=>aIf he.1 hidx) ?_
   have gd:=b4 e.toNat hidx
   generalize b.gA6[e.toNat]=nd at *
   refine TU.t (T.slcG (by omega) (by omega) (by omega) (by omega) (Or.inl rfl)) fun _ _=>TU.t (aRm N (by omega) nd.gLo nd.gHi o hd) fun r18 h18=>?_
   refine TU.cond (fun _=>?_) (fun _=>TU.cond (fun hc=>?_) (fun hc=>?_))
   ·exact (ih st (fun i=>I64 (t i+1)) l (by omega) hn' (by omega) (by omega)).map (fun a=>(a.1,1+a.2)) (fun _ h=>by unfold amC at *;dsimp only;omega) fun i a r _ h=>by obtain ⟨t',st',e,u⟩:=h;exact ⟨t',st',e,nX (aCB _ 1) u⟩
   ·have g:=gd.1 (of_decide_eq_true hc)
    have w2:=wi (of_decide_eq_true hc)
    have w3:=aMN b nd.gB3 nd.gB0
    refine TU.t (T.appG (by omega) (show (l+2)*8≤140737488355328 by omega)) fun z hz=>?_
    subst hz
    have tk:(uP st l [nd.gB3,nd.gB0]).take (l+2)=st.take l++[nd.gB3,nd.gB0]:=aEz st l [_,_] (by omega)
    refine (ih _ (fun i=>I64 (t i+1)) (l+2) (aJu st l [_,_] (by omega)) ?_ ?_ ?_).map (fun a=>(a.1,1+a.2)) (fun _ h=>by rw [tk,wI b] at h;unfold amC at *;dsimp only;omega) fun i a r _ h=>by obtain ⟨t',st',e,u⟩:=h;exact ⟨t',st',e,nX (aCB _ 1) u⟩
    ·rw [tk]
     intro y hy
     rw [List.mem_append] at hy
     rcases hy with hy | hy
     ·exact hn' y hy
     ·simp at hy
      rcases hy with rfl | rfl <;> omega
    ·rw [tk,wI b];omega
    ·rw [tk,wI b];omega
   ·have g:=gd.2 (by have:=of_decide_eq_false hc;omega)
    rw [bV (x:=nd.gC6+nd.gC0) (by omega) (by omega)]
    refine TU.t (T.slcN (l:=b.gC9) g.1 (by omega) (by omega)) fun s23 h23=>?_
    refine TU.bind (anyK2 N hN o d m s w t0 (fun y hy=>b1 y (h23.2.1 y hy)) (by omega) (fun i=>I64 (t i+1))) fun a ha r hr=>?_
    have h':∃ t':ι→Int,∀ i,r i=cond a.1 (Sum.inr (t' i,true)) (Sum.inl (t' i))∧cV (I64 (t i+1)) (t' i) a.2:=⟨fun i=>(hr i).choose,fun i=>(hr i).choose_spec⟩
    obtain ⟨t',e'⟩:=h'
    simp only [fun i=>(e' i).1]
    have wlf:=wl3 (by have:=of_decide_eq_false hc;omega)
    have sl:s23.length≤nd.gC0.toNat:=by rw [h23.1,List.length_drop,List.length_take];omega
    obtain ⟨a,ac⟩:=a
    cases a with
    | true=>exact TU.ret (true,1+ac) (by unfold amC at *;dsimp only at *;omega) fun i=>⟨t' i,[],rfl,nX (aCB _ 1) (e' i).2⟩
    | false=>exact (ih st t' l (by omega) hn' (by omega) (by omega)).map (fun a=>(a.1,1+ac+a.2)) (fun _ h=>by unfold amC at *;dsimp only at *;omega) fun i a r _ h=>by obtain ⟨t2,st',e,u⟩:=h;exact ⟨t2,st',e,nX (nX (aCB _ 1) (e' i).2) u⟩
  ·exact TU.ret (false,0) (by unfold amC;dsimp only;omega) fun i=>⟨_,_,rfl,kC _⟩
theorem anyK {ι:Type} (N:Nat) (hN:1000000000000 < N) {b:aX} {gl:List aF} (hb:aBS gl.length b) (ht:wJ gl b) (h20:gl.length≤20) (o d:aC) (m s:Int) (w:Bool) (t:ι→Int) :
  TU (fun i=>iO N o d m s w (wlk b gl (t i))) (fun a:Bool×Int=>amC a.2 (3*(gl.length:Int))) (fun i a r=>∃ t',r=(t',a.1)∧cV (t i) t' a.2):=by
 unfold iO jN
 simp only [show ∀ t,(wlk b gl t).gO=b from fun _=>rfl,show ∀ t,(wlk b gl t).gA=true from fun _=>rfl,show ∀ t,(wlk b gl t).gD0=t from fun _=>rfl,Option.bind_some,aR]
 refine TU.t (P:=fun p=>p=false→pin d∧0 < b.gA6.length) ?_ fun p1 h1=>TU.cond (fun _=>TU.ret (false,0) (by unfold amC;dsimp only;omega) fun i=>⟨_,rfl,kC _⟩) (fun hc=>?_)
 ·refine T.cond (fun _=>T.ret fun h=>by cases h) (fun hc=>T.bind (aPT N o d) fun r4 h4=>T.ret fun e=>⟨aGm (h4 (by simpa using e)).2.1 (by decide),?_⟩)
  have:((b.gA6.length:Int)==0)=false:=hc
  have:(b.gA6.length:Int)≠0:=by simpa using this
  omega
 ·obtain ⟨hd,h0⟩:=h1 hc
  have wr:=aMS hb ht
  have w0:wW1 b ([0].take 1)=wk1 b.gA6 0:=by rw [show ([0]:List Int).take 1=[0] from rfl,aBV]
  refine TU.bind (anyK1 N (by omega) hb h20 o hd m s w t N [0] t 1 (by simp) ?_ ?_ ?_) fun a ha r hr=>?_
  ·intro x hx;have:x=0:=by simpa using hx
   subst this;omega
  ·rw [w0];omega
  ·rw [w0];omega
  ·rw [w0] at ha
   have h':∃ t':ι→Int×List Int,∀ i,r i=cond a.1 (Sum.inr ((t' i).1,true)) (Sum.inl ((t' i).2,(t' i).1))∧cV (t i) (t' i).1 a.2:=⟨fun i=>((hr i).choose,(hr i).choose_spec.choose),fun i=>(hr i).choose_spec.choose_spec⟩
   obtain ⟨t',e'⟩:=h'
   simp only [fun i=>(e' i).1]
   obtain ⟨a,ac⟩:=a
   have hc:amC ac (3*(gl.length:Int)):=by unfold amC at *;dsimp only at *;omega
   cases a with
   | true=>exact TU.ret (true,ac) hc fun i=>⟨_,rfl,(e' i).2⟩
   | false=>exact TU.ret (false,ac) hc fun i=>⟨_,rfl,(e' i).2⟩
def aAK (s:aE) (m:aG):Prop:=((m.gA0 = -1∧m.gA8=0)∨((0≤m.gA0∧m.gA0 < (s.gL.length:Int))∧(m.gA8=0∨m.gA8=1)))∧cG m.gM∧vin m.gB9
def aDE (s:aE):Prop:=∀ t∈s.gK,0≤t.gA0∧t.gA0 < (s.gL.length:Int)
theorem sm0 (s:aE):aAK s (aG.mk (aA.mk 0 0 0) 0 0 (aA.mk 0 0 0) (-1)):=⟨Or.inl ⟨rfl,rfl⟩,z64,z64,z64,z64⟩
def aNE (c n:Int):Prop:=1≤c∧c≤n
theorem c04 : amC 0 4:=⟨by decide,by decide⟩
theorem c44 : amC 4 4:=⟨by decide,by decide⟩
set_option maxHeartbeats 4000000
section
variable {ι:Type} {N:Nat} (hN:4100 < N) {b:List (List aD)} {s:aE} {v:aI} {sky:aA} (hr:Rdy b s v sky)
structure DrkS (D:Prop) (s:aE) (sky:aA):Prop where
 sky:D→sky=v0
 lights:D→s.gI=[]
 mats:D→∀ m∈s.gA1,m.gA7≠4
include hN
theorem aIH (x:Int) (ray:ι→aK) (f l:ι→aA) (dep:Int) (ov:ι→Bool) (sm:ι→aG) (st:ι→aH) (src:aB) (sw:ι→aJ) :
  TC (fun i=>cX N b x (ray i) (f i) (l i) dep (ov i) (sm i) s v sky (st i) src (sw i)) (fun _=>True):=by
 obtain ⟨a,e,_⟩:=aRg N (by omega) dep x src
 refine ⟨(a.1,a.2),trivial,fun i=>?_⟩
 unfold cX
 rw [e];rfl
theorem addS (D:Prop) {c:List aA} (hc:∀ x∈c,vin x) (hl:c.length≤2) (ray:ι→aK) {f l:aA} (hf:vin f) (hlv:vin l) (hd:D→l=v0∧c=[v0]) (dep:Int) (ov:Bool) (sm:ι→aG) (st:ι→aH) (src:ι→aB) (sw:ι→aJ) :
  TC (fun i=>fX N b c (ray i) f l dep ov (sm i) s v sky (st i) (src i) (sw i)) (fun r=>vin r∧(D→r=v0)):=by
 unfold fX
 refine TC.cond (fun _=>?_) (fun _=>TC.ret _ ⟨hlv,fun h=>(hd h).1⟩)
 refine TC.t (P:=fun z=>z=[f]++c) ⟨_,fK (by simp;omega),rfl⟩ fun z hz=>?_
 subst hz
 refine TC.t (P:=fun r=>vin r∧(D→r=v0)) ?_ fun r2 h2=>?_
 ·by_cases hD:D
  ·rw [(hd hD).2]
   exact ⟨_,aPY (by omega) hf,aC9,fun _=>rfl⟩
  ·exact (aJX (by omega) _ (by intro x hx;simp at hx;rcases hx with rfl | hx;exact hf;exact hc x hx) (by simp;omega)).mono fun r h=>⟨h,fun h=>absurd h hD⟩
 ·refine TC.t (P:=fun r=>r=aGu l r2) ⟨_,aRh (by omega) hlv h2.1,rfl⟩ fun r3 h3=>TC.ret _ ⟨by rw [h3];exact tG _ _,fun h=>?_⟩
  rw [h3,h2.2 h,(hd h).1];rfl
omit hN in
theorem aN6 (x:ι→Bool) (ray:ι→aK) (f l:ι→aA) (dep:Int) (ov:ι→Bool) (sm:ι→aG) (st:ι→aH) (src:ι→aB) (sw:ι→aJ) :
  TC (fun i=>dW N b (x i) (ray i) (f i) (l i) dep (ov i) (sm i) s v sky (st i) (src i) (sw i)) (fun _=>True):=⟨(),trivial,fun i=>rfl⟩
include hr
theorem meetS {gl:List aF} (hsw:aJJ s.gK.length gl) (hcon:v.gS=true) (hfit:(s.gI.length:Int)≤(eF v.gJ).2) (hobj:aDE s) {ray:aK} (hray:aDH ray) (f l:aA) (dep:Int) (ov:Bool) {sm:aG} (hsm:aAK s sm) (st:ι→aH) (src:aB) (t:ι→Int) :
  TU (fun i=>lD N b ray f l dep ov sm s v sky (st i) src (swp gl (t i))) (fun a:(aG×aV×Bool)×Int×Int=>(aFz a.1.2.1∧(a.1.2.1.gB1∈s.gA1∨a.1.2.1.gB1.gA7=0)∧aAK s a.1.1)∧exC a.2.1 (gl.length:Int)∧exC a.2.2 4) (fun i a r=>∃ x t',r=(a.1.1,x,swp gl t',a.1.2.1,a.1.2.2)∧cV (t i) t' a.2.1∧cV (st i).gN x a.2.2):=by
 unfold lD
 refine TU.t (P:=fun _=>True) (T.cond (fun _=>T.ret trivial) (fun _=>T.ret trivial)) fun p1 _=>?_
 refine TU.bind (aPM N (by omega) hsw ray.go ray.gd p1 ray.gE4 t) fun a ha r hr'=>?_
 have h':∃ t':ι→Int,∀ i,r i=(swp gl (t' i),a)∧cV (t i) (t' i) (gl.length:Int):=⟨fun i=>(hr' i).choose,fun i=>(hr' i).choose_spec⟩
 obtain ⟨t',e''⟩:=h'
 have e':∀ i,r i=(swp gl (t' i),a):=fun i=>(e'' i).1
 simp only [e']
 have hx:∀ i,∃ x,(cond v.gS (some (I64 ((st i).gN+4))) (some (st i).gN))=some x∧cV (st i).gN x 4:=fun i=>⟨_,by rw [hcon];rfl,bV (aI9 _) (aIj _),fun _=>cT _⟩
 have hx':∃ x:ι→Int,∀ i,(cond v.gS (some (I64 ((st i).gN+4))) (some (st i).gN))=some (x i)∧cV (st i).gN (x i) 4:=⟨fun i=>(hx i).choose,fun i=>(hx i).choose_spec⟩
 obtain ⟨x,ex⟩:=hx'
 simp only [fun i=>(ex i).1,Option.bind_some]
 refine TU.cond (fun _=>?_) (fun hc=>?_)
 ·exact TU.ret ((sm,aV.mk 0 (aC.mk 0 0 0) (aA.mk 0 0 0) (aA.mk 0 0 0) (aN.mk 0 (#v[0,0,0]) 0) false,false),(gl.length:Int),4) ⟨⟨⟨⟨z64,z64,z64⟩,aC9,aC9,mat0⟩,Or.inr rfl,hsm⟩,rfl,rfl⟩ fun i=>⟨x i,t' i,rfl,(e'' i).2,(ex i).2⟩
 have h0:=of_decide_eq_false hc
 refine TU.t (T.idx (by omega) (by omega)) fun e4 h4=>?_
 have ht:=hr.tri e4 (List.mem_of_getElem? h4)
 refine TU.t (T.inRO (by decide) (by decide)) fun _ _=>TU.t (T.vg (i:=1) (by decide)) fun e6 _=>TU.t (T.inRO (by decide) (by decide)) fun _ _=>TU.t (T.vg (i:=0) (by decide)) fun e8 _=>TU.t (aKt N _ _) fun r9 _=>?_
 refine TU.t (T.inRO (by decide) (by decide)) fun _ _=>TU.t (T.vg (i:=2) (by decide)) fun e11 _=>TU.t (T.inRO (by decide) (by decide)) fun _ _=>TU.t (T.vg (i:=0) (by decide)) fun e13 _=>TU.t (aKt N _ _) fun r14 _=>?_
 refine TU.t (aIp N _ _) fun r15 _=>TU.t (aM1 (by omega) r15) fun r16 h16=>?_
 refine TU.t (P:=fun p:aV=>pin p.gat∧vin p.gn∧aBz p.gB1∧p.gB1∈s.gA1) ?_ fun p17 h17=>?_
 ·refine T.bind (aPi (by omega) hray.1 hray.2 ha.2) fun r18 h18=>T.bind (aMs (by omega) h16 ray.gd) fun r19 h19=>T.bind (T.idx ht.1.1 ht.1.2) fun e20 h20=>?_
  have hm:=List.mem_of_getElem? h20
  refine T.cond (fun _=>?_) (fun _=>T.ret ⟨h18,h19,hr.mat _ hm,hm⟩)
  rw [aR]
  exact T.ret ⟨h18,h19,hr.mat _ hm,hm⟩
 have hy:∃ (lv:List aD) (tc:Int),(aFo lv∧exC tc 4)∧∀ i,∃ y,(cond (decide (e4.gB4≥0)) (Option.bind (idx b e4.gB4) fun e23=>cond (!v.gS) (some ((I64 (x i+4),e23))) (some ((x i,e23)))) (some ((x i,[]))))=some (y,lv)∧cV (st i).gN y tc:=by
  by_cases h:e4.gB4≥0
  ·obtain ⟨lv,e,hl⟩:=T.idx h ht.2.1
   refine ⟨lv,4,⟨hr.lev lv (List.mem_of_getElem? hl),rfl⟩,fun i=>?_⟩
   rw [dt h,cond_true,e,Option.bind_some,hcon]
   exact ⟨x i,rfl,(ex i).2⟩
  ·refine ⟨[],4,⟨⟨by simp,fun t h=>absurd h (by simp)⟩,rfl⟩,fun i=>?_⟩
   rw [df h,cond_false]
   exact ⟨x i,rfl,(ex i).2⟩
 obtain ⟨lv,tc,⟨hlv,htc⟩,hy⟩:=hy
 have hy':∃ y:ι→Int,∀ i,(cond (decide (e4.gB4≥0)) (Option.bind (idx b e4.gB4) fun e23=>cond (!v.gS) (some ((I64 (x i+4),e23))) (some ((x i,e23)))) (some ((x i,[]))))=some (y i,lv)∧cV (st i).gN (y i) tc:=⟨fun i=>(hy i).choose,fun i=>(hy i).choose_spec⟩
 obtain ⟨y,ey⟩:=hy'
 simp only [fun i=>(ey i).1,Option.bind_some]
 refine TU.t (aKD (by omega) h17.2.2.1.1 hlv ht.2.2.1 ha.2 _) fun r24 h24=>?_
 refine TU.t (P:=aAK s) ?_ fun p25 h25=>?_
 ·rw [aR]
  have ho:=hobj e4 (List.mem_of_getElem? h4)
  refine T.cond (fun _=>?_) (fun _=>T.ret hsm)
  refine T.eq (aAs _ h17.1) (T.eq (aAs _ hray.1) (T.eq (aF1 _ (aA5 _) (aA5 _)) (T.bind (aMV (by omega) (aGE _ _)) fun r hr=>T.cond (fun _=>T.ret ⟨Or.inr ⟨ho,Or.inl rfl⟩,hr,h17.2.1⟩) (fun _=>T.ret ⟨Or.inr ⟨ho,Or.inr rfl⟩,hr,h17.2.1⟩))))
 ·exact TU.ret ((p25,aV.mk p17.gi p17.gat p17.gn r24 p17.gB1 p17.gB8,true),(gl.length:Int),tc) ⟨⟨⟨h17.1,h17.2.1,h24,h17.2.2.1⟩,Or.inl h17.2.2.2,h25⟩,rfl,htc⟩ fun i=>⟨y i,t' i,rfl,(e'' i).2,(ey i).2⟩
end
section
variable {ι:Type} {N:Nat} (hN:1000000000000 < N) {b:List (List aD)} {s:aE} {v:aI} {sky:aA} (hr:Rdy b s v sky)
structure DrkW (D:Prop) (s:aE) (sky:aA):Prop where
 sky:D→sky=v0
 lights:D→s.gI=[]
 mats:D→∀ m∈s.gA1,m.gA7≠4
include hN
theorem aIW (x:Int) (ray:ι→aK) (f l:ι→aA) (dep:Int) (ov:ι→Bool) (sm:ι→aG) (st:ι→aH) (src:aB) (sw:ι→aL) :
  TC (fun i=>dM N b x (ray i) (f i) (l i) dep (ov i) (sm i) s v sky (st i) src (sw i)) (fun _=>True):=by
 obtain ⟨a,e,_⟩:=aRg N (by omega) dep x src
 refine ⟨(a.1,a.2),trivial,fun i=>?_⟩
 unfold dM
 rw [e];rfl
theorem addW (D:Prop) {c:List aA} (hc:∀ x∈c,vin x) (hl:c.length≤2) (ray:ι→aK) {f l:aA} (hf:vin f) (hlv:vin l) (hd:D→l=v0∧c=[v0]) (dep:Int) (ov:Bool) (sm:ι→aG) (st:ι→aH) (src:ι→aB) (sw:ι→aL) :
  TC (fun i=>iV N b c (ray i) f l dep ov (sm i) s v sky (st i) (src i) (sw i)) (fun r=>vin r∧(D→r=v0)):=by
 unfold iV
 refine TC.cond (fun _=>?_) (fun _=>TC.ret _ ⟨hlv,fun h=>(hd h).1⟩)
 refine TC.t (P:=fun z=>z=[f]++c) ⟨_,fK (by simp;omega),rfl⟩ fun z hz=>?_
 subst hz
 refine TC.t (P:=fun r=>vin r∧(D→r=v0)) ?_ fun r2 h2=>?_
 ·by_cases hD:D
  ·rw [(hd hD).2]
   exact ⟨_,aPY (by omega) hf,aC9,fun _=>rfl⟩
  ·exact (aJX (by omega) _ (by intro x hx;simp at hx;rcases hx with rfl | hx;exact hf;exact hc x hx) (by simp;omega)).mono fun r h=>⟨h,fun h=>absurd h hD⟩
 ·refine TC.t (P:=fun r=>r=aGu l r2) ⟨_,aRh (by omega) hlv h2.1,rfl⟩ fun r3 h3=>TC.ret _ ⟨by rw [h3];exact tG _ _,fun h=>?_⟩
  rw [h3,h2.2 h,(hd h).1];rfl
omit hN in
theorem aOD (x:ι→Bool) (ray:ι→aK) (f l:ι→aA) (dep:Int) (ov:ι→Bool) (sm:ι→aG) (st:ι→aH) (src:ι→aB) (sw:ι→aL) :
  TC (fun i=>eW N b (x i) (ray i) (f i) (l i) dep (ov i) (sm i) s v sky (st i) (src i) (sw i)) (fun _=>True):=⟨(),trivial,fun i=>rfl⟩
include hr
theorem meetW {bv:aX} {gl:List aF} (hbv:aBS gl.length bv) (hgl:gl=s.gK) (htr:wJ gl bv) (hcon:v.gS=false) (hfit:(s.gI.length:Int)≤(eF v.gJ).2) (hobj:aDE s) {ray:aK} (hray:aDH ray) (f l:aA) (dep:Int) (ov:Bool) {sm:aG} (hsm:aAK s sm) (st:ι→aH) (src:aB) (t:ι→Int) :
  TU (fun i=>mZ N b ray f l dep ov sm s v sky (st i) src (wlk bv gl (t i))) (fun a:(aG×aV×Bool)×Int×Int=>(aFz a.1.2.1∧(a.1.2.1.gB1∈s.gA1∨a.1.2.1.gB1.gA7=0)∧aAK s a.1.1)∧amC a.2.1 (3*(gl.length:Int))∧amC a.2.2 4) (fun i a r=>∃ x t',r=(a.1.1,x,t',a.1.2.1,a.1.2.2)∧cV (t i) t' a.2.1∧cV (st i).gN x a.2.2):=by
 unfold mZ
 refine TU.t (P:=fun _=>True) (T.cond (fun _=>T.ret trivial) (fun _=>T.ret trivial)) fun p1 _=>?_
 subst hgl
 refine TU.bind (aQI N (by omega) hbv htr hr.few ray.go ray.gd p1 ray.gE4 t) fun a ha r hr'=>?_
 obtain ⟨a,nc⟩:=a
 obtain ⟨ha,hnc⟩:=ha
 dsimp only at ha hnc hr'
 have h':∃ t':ι→Int,∀ i,r i=(t' i,a)∧cV (t i) (t' i) nc:=⟨fun i=>(hr' i).choose,fun i=>(hr' i).choose_spec⟩
 obtain ⟨t',e''⟩:=h'
 have e':∀ i,r i=(t' i,a):=fun i=>(e'' i).1
 simp only [e']
 have hx:∀ i,∃ x,(cond v.gS (some (I64 ((st i).gN+4))) (some (st i).gN))=some x∧cV (st i).gN x 0:=fun i=>⟨_,by rw [hcon];rfl,kC _⟩
 have hx':∃ x:ι→Int,∀ i,(cond v.gS (some (I64 ((st i).gN+4))) (some (st i).gN))=some (x i)∧cV (st i).gN (x i) 0:=⟨fun i=>(hx i).choose,fun i=>(hx i).choose_spec⟩
 obtain ⟨x,ex⟩:=hx'
 simp only [fun i=>(ex i).1,Option.bind_some]
 refine TU.cond (fun _=>?_) (fun hc=>?_)
 ·exact TU.ret ((sm,aV.mk 0 (aC.mk 0 0 0) (aA.mk 0 0 0) (aA.mk 0 0 0) (aN.mk 0 (#v[0,0,0]) 0) false,false),nc,0) ⟨⟨⟨⟨z64,z64,z64⟩,aC9,aC9,mat0⟩,Or.inr rfl,hsm⟩,hnc,c04⟩ fun i=>⟨x i,t' i,rfl,(e'' i).2,(ex i).2⟩
 have h0:=of_decide_eq_false hc
 refine TU.t (T.idx (by omega) (by omega)) fun e4 h4=>?_
 have ht:=hr.tri e4 (List.mem_of_getElem? h4)
 refine TU.t (T.inRO (by decide) (by decide)) fun _ _=>TU.t (T.vg (i:=1) (by decide)) fun e6 _=>TU.t (T.inRO (by decide) (by decide)) fun _ _=>TU.t (T.vg (i:=0) (by decide)) fun e8 _=>TU.t (aKt N _ _) fun r9 _=>?_
 refine TU.t (T.inRO (by decide) (by decide)) fun _ _=>TU.t (T.vg (i:=2) (by decide)) fun e11 _=>TU.t (T.inRO (by decide) (by decide)) fun _ _=>TU.t (T.vg (i:=0) (by decide)) fun e13 _=>TU.t (aKt N _ _) fun r14 _=>?_
 refine TU.t (aIp N _ _) fun r15 _=>TU.t (aM1 (by omega) r15) fun r16 h16=>?_
 refine TU.t (P:=fun p:aV=>pin p.gat∧vin p.gn∧aBz p.gB1∧p.gB1∈s.gA1) ?_ fun p17 h17=>?_
 ·refine T.bind (aPi (by omega) hray.1 hray.2 ha.2) fun r18 h18=>T.bind (aMs (by omega) h16 ray.gd) fun r19 h19=>T.bind (T.idx ht.1.1 ht.1.2) fun e20 h20=>?_
  have hm:=List.mem_of_getElem? h20
  refine T.cond (fun _=>?_) (fun _=>T.ret ⟨h18,h19,hr.mat _ hm,hm⟩)
  rw [aR]
  exact T.ret ⟨h18,h19,hr.mat _ hm,hm⟩
 have hy:∃ (lv:List aD) (tc:Int),(aFo lv∧amC tc 4)∧∀ i,∃ y,(cond (decide (e4.gB4≥0)) (Option.bind (idx b e4.gB4) fun e23=>cond (!v.gS) (some ((I64 (x i+4),e23))) (some ((x i,e23)))) (some ((x i,[]))))=some (y,lv)∧cV (st i).gN y tc:=by
  by_cases h:e4.gB4≥0
  ·obtain ⟨lv,e,hl⟩:=T.idx h ht.2.1
   refine ⟨lv,4,⟨hr.lev lv (List.mem_of_getElem? hl),c44⟩,fun i=>?_⟩
   rw [dt h,cond_true,e,Option.bind_some,hcon]
   exact ⟨_,rfl,aOs (nX (ex i).2 (aCB _ 4)) (by decide)⟩
  ·refine ⟨[],0,⟨⟨by simp,fun t h=>absurd h (by simp)⟩,c04⟩,fun i=>?_⟩
   rw [df h,cond_false]
   exact ⟨x i,rfl,(ex i).2⟩
 obtain ⟨lv,tc,⟨hlv,htc⟩,hy⟩:=hy
 have hy':∃ y:ι→Int,∀ i,(cond (decide (e4.gB4≥0)) (Option.bind (idx b e4.gB4) fun e23=>cond (!v.gS) (some ((I64 (x i+4),e23))) (some ((x i,e23)))) (some ((x i,[]))))=some (y i,lv)∧cV (st i).gN (y i) tc:=⟨fun i=>(hy i).choose,fun i=>(hy i).choose_spec⟩
 obtain ⟨y,ey⟩:=hy'
 simp only [fun i=>(ey i).1,Option.bind_some]
 refine TU.t (aKD (by omega) h17.2.2.1.1 hlv ht.2.2.1 ha.2 _) fun r24 h24=>?_
 refine TU.t (P:=aAK s) ?_ fun p25 h25=>?_
 ·rw [aR]
  have ho:=hobj e4 (List.mem_of_getElem? h4)
  refine T.cond (fun _=>?_) (fun _=>T.ret hsm)
  refine T.eq (aAs _ h17.1) (T.eq (aAs _ hray.1) (T.eq (aF1 _ (aA5 _) (aA5 _)) (T.bind (aMV (by omega) (aGE _ _)) fun r hr=>T.cond (fun _=>T.ret ⟨Or.inr ⟨ho,Or.inl rfl⟩,hr,h17.2.1⟩) (fun _=>T.ret ⟨Or.inr ⟨ho,Or.inr rfl⟩,hr,h17.2.1⟩))))
 ·exact TU.ret ((p25,aV.mk p17.gi p17.gat p17.gn r24 p17.gB1 p17.gB8,true),nc,tc) ⟨⟨⟨h17.1,h17.2.1,h24,h17.2.2.1⟩,Or.inl h17.2.2.2,h25⟩,hnc,htc⟩ fun i=>⟨y i,t' i,rfl,(e'' i).2,(ey i).2⟩
end
section
variable {ι:Type} {N:Nat} (hN:4100 < N) {b:List (List aD)} {s:aE} {v:aI} {sky:aA} (hr:Rdy b s v sky)
include hN hr
theorem aSK {gl:List aF} (hsw:aJJ s.gK.length gl) (hcon:v.gS=true) (hfit:(s.gI.length:Int)≤(eF v.gJ).2) {D:Prop} (hD:DrkS D s sky) {pl:aV} (hp:aFz pl) (ray:aK) {f l:aA} (hf:vin f) (hl:vin l) (hl0:D→l=v0) (dep:Int) (ov:Bool) (sm:aG) (st:ι→aH) (src:aB) (t:ι→Int) :
  TU (fun i=>jR N b pl ray f l dep ov sm s v sky (st i) src (swp gl (t i))) (fun a:(aA×aB)×Int=>(vin a.1.1∧(D→a.1.1=v0))∧exC a.2 ((gl.length:Int)*(eF v.gJ).2)) (fun i a r=>∃ t',r=(a.1.1,a.1.2,swp gl t')∧cV (t i) t' a.2):=by
 unfold jR
 have l5:=hr.lights
 simp only [aR]
 refine TU.bind (P:=fun a:(aA×aB)×Int=>(vin a.1.1∧(D→a.1.1=v0))∧exC a.2 ((gl.length:Int)*(s.gI.length:Int))) (S:=fun i a r=>∃ t',r=(a.1.1,a.1.2,swp gl t')∧cV (t i) t' a.2) ?_ fun a ha r hr'=>?_
 ·refine TU.loop0 (n:=s.gI.length) (fun j (x:(aA×aB)×Int) t'=>((vin x.1.1∧(D→x.1.1=v0))∧exC x.2 ((gl.length:Int)*(j:Int)))∧∀ i,cV (t i) (t' i) x.2) (F:=fun i k t' (x:(aA×aB)×Int) j=>eZ N (s.gI.length:Int) s b ray f dep ov sm v sky (st i) pl k x.1.1 x.1.2 (swp gl t') j) (fun k t' x j hj hx hk=>?_) (fun k t' x hx=>?_) (by omega) (s:=((l,src),0)) (h:=t) ⟨⟨⟨hl,hl0⟩,aHF aQB (by rw [show ((0:Nat):Int)=0 from rfl,Int.mul_zero])⟩,fun i=>kC _⟩
  ·have nd:¬ D:=fun h=>by have:=hD.lights h;rw [this] at hj;exact absurd hj (by simp)
   have hlj:=hr.light _ (List.getElem_mem hj)
   simp only [eZ,dt (show (j:Int) < (s.gI.length:Int) by omega),cond_true,aR]
   refine TU.bind (P:=fun a:(aA×aB×aP×jL)×Int=>(vin a.1.1∧(D→a.1.1=v0))∧exC a.2 (gl.length:Int)) (S:=fun i a r=>∃ tn,r=(a.1.1,a.1.2.1,swp gl (tn),a.1.2.2.1,a.1.2.2.2)∧cV (t' i) tn a.2) ?_ fun a ha r hr'=>?_
   ·refine TU.e (a:=s.gI[j]) (fun i=>by rw [iT,List.getElem?_eq_getElem hj]) ?_
    refine TU.c (aIH hN _ _ _ _ _ _ _ _ _ _) fun r10 _=>TU.c (aIH hN _ _ _ _ _ _ _ _ _ _) fun r12 _=>?_
    refine TU.t (aRx (by omega) hlj pl.gat hp.2.1 _) fun r13 h13=>?_
    refine TU.cond (fun hc=>by rw [hcon] at hc;cases hd:r13.gE3 <;> rw [hd] at hc <;> cases hc) (fun _=>?_)
    refine TU.bind (P:=fun a:Bool×Int=>exC a.2 (gl.length:Int)) (S:=fun i a r=>∃ tn,r=(swp gl (tn),a.1)∧cV (t' i) tn a.2) ?_ fun an han ra hra=>?_
    ·refine TU.bind (anyU N (by omega) hsw pl.gat r13.gE5 2 pl.gi (!r13.gE6) t') fun an _ ra hra=>?_
     have hnc:exC (gl.length:Int) (gl.length:Int):=rfl
     have hn:∃ tn:ι→Int,∀ i,ra i=(swp gl (tn i),an)∧cV (t' i) (tn i) (gl.length:Int):=⟨fun i=>(hra i).choose,fun i=>(hra i).choose_spec⟩
     obtain ⟨tn,en⟩:=hn
     simp only [fun i=>(en i).1]
     exact TU.cond (fun _=>TU.cond (fun _=>TU.ret (_,(gl.length:Int)) hnc fun i=>⟨tn i,rfl,(en i).2⟩) (fun _=>TU.ret (false,(gl.length:Int)) hnc fun i=>⟨tn i,rfl,(en i).2⟩)) (fun _=>TU.ret (false,(gl.length:Int)) hnc fun i=>⟨tn i,rfl,(en i).2⟩)
    ·have hn:∃ tn:ι→Int,∀ i,ra i=(swp gl (tn i),an.1)∧cV (t' i) (tn i) an.2:=⟨fun i=>(hra i).choose,fun i=>(hra i).choose_spec⟩
     obtain ⟨tn,en⟩:=hn
     simp only [fun i=>(en i).1]
     refine TU.cond (fun _=>?_) (fun _=>TU.ret ((_,_,_,_),an.2) ⟨hx.1.1,han⟩ fun i=>⟨tn i,rfl,(en i).2⟩)
     refine TU.c (addS hN D (by intro y hy;simp at hy;rcases hy with rfl | rfl;exact hp.2.2.1;exact h13) (by simp) _ hf hx.1.1.1 (fun h=>absurd h nd) _ _ _ _ _ _) fun r17 h17=>TU.ret ((_,_,_,_),an.2) ⟨h17,han⟩ fun i=>⟨tn i,rfl,(en i).2⟩
   ·have hn:∃ tn:ι→Int,∀ i,r i=(a.1.1,a.1.2.1,swp gl (tn i),a.1.2.2.1,a.1.2.2.2)∧cV (t' i) (tn i) a.2:=⟨fun i=>(hr' i).choose,fun i=>(hr' i).choose_spec⟩
    obtain ⟨tn,en⟩:=hn
    simp only [fun i=>(en i).1]
    rw [dX (by omega)]
    exact hk ((a.1.1,a.1.2.1),x.2+a.2) tn ⟨⟨ha.1,aHF (aM4 hx.1.2 ha.2) (by rw [show ((j+1:Nat):Int)=(j:Int)+1 from by omega,Int.mul_add,Int.mul_one])⟩,fun i=>nX (hx.2 i) (en i).2⟩
  ·simp only [eZ,df (show ¬ (s.gI.length:Int) < (s.gI.length:Int) by omega),cond_false]
   exact TU.ret x hx.1 fun i=>⟨t' i,rfl,hx.2 i⟩
 have h2:∃ t2:ι→Int,∀ i,r i=(a.1.1,a.1.2,swp gl (t2 i))∧cV (t i) (t2 i) a.2:=⟨fun i=>(hr' i).choose,fun i=>(hr' i).choose_spec⟩
 obtain ⟨t2,e2⟩:=h2
 simp only [fun i=>(e2 i).1]
 simp only [hcon,Bool.not_true,cond_false,aLj,Option.bind_some,aR]
 obtain ⟨n,hn⟩:=Int.eq_ofNat_of_zero_le (show 0≤(eF v.gJ).2 - (s.gI.length:Int) by omega)
 have cl:(eF v.gJ).2 < 1000:=by unfold eF;cases (v.gJ==0) <;> cases (v.gJ==1) <;> cases (v.gJ==2) <;> decide
 have ig:I64 ((eF v.gJ).2 - (s.gI.length:Int))=(n:Int):=by rw [hn,bV (by omega) (by omega)]
 refine TU.bind (P:=fun _:Unit=>True) (S:=fun i _ r=>∃ t',r=swp gl t'∧cV (t2 i) t' ((gl.length:Int)*(n:Int))) ?_ fun _ _ r hr'=>?_
 ·refine TU.loop0 (n:=n) (fun j (_:Unit) t'=>∀ i,cV (t2 i) (t' i) ((gl.length:Int)*(j:Int))) (F:=fun i k t' (_:Unit) j=>fA N (eF v.gJ) (s.gI.length:Int) pl k (swp gl t') j) (fun k t' _ j hj hx hk=>?_) (fun k t' _ hx=>?_) (by omega) (s:=()) (h:=t2) (fun i=>by rw [show ((0:Nat):Int)=0 from rfl,Int.mul_zero];exact kC _)
  ·simp only [fA,aR,ig,dt (show (j:Int) < (n:Int) by omega),cond_true]
   refine TU.bind (anyU N (by omega) hsw pl.gat (aC.mk 0 0 0) 2 pl.gi false t') fun an _ ra hra=>?_
   have hn:∃ tn:ι→Int,∀ i,ra i=(swp gl (tn i),an)∧cV (t' i) (tn i) (gl.length:Int):=⟨fun i=>(hra i).choose,fun i=>(hra i).choose_spec⟩
   obtain ⟨tn,en⟩:=hn
   simp only [fun i=>(en i).1]
   rw [dX (by omega)]
   exact hk () tn fun i=>aOs (nX (hx i) (en i).2) (by rw [show ((j+1:Nat):Int)=(j:Int)+1 from by omega,Int.mul_add,Int.mul_one])
  ·simp only [fA,aR,ig,df (show ¬ (n:Int) < (n:Int) by omega),cond_false]
   exact TU.ret () trivial fun i=>⟨t' i,rfl,hx i⟩
 ·have h3:∃ t3:ι→Int,∀ i,r i=swp gl (t3 i)∧cV (t2 i) (t3 i) ((gl.length:Int)*(n:Int)):=⟨fun i=>(hr' i).choose,fun i=>(hr' i).choose_spec⟩
  obtain ⟨t3,e3⟩:=h3
  simp only [fun i=>(e3 i).1]
  exact TU.ret (a.1,a.2+(gl.length:Int)*(n:Int)) ⟨ha.1,by have h:=ha.2;unfold exC at *;dsimp only;rw [h,← Int.mul_add];congr 1;omega⟩ fun i=>⟨t3 i,rfl,nX (e2 i).2 (e3 i).2⟩
end
section
variable {ι:Type} {N:Nat} (hN:1000000000000 < N) {b:List (List aD)} {s:aE} {v:aI} {sky:aA} (hr:Rdy b s v sky)
include hN hr
theorem aTK {bv:aX} {gl:List aF} (hbv:aBS gl.length bv) (hgl:gl=s.gK) (htr:wJ gl bv) (hcon:v.gS=false) (hfit:(s.gI.length:Int)≤(eF v.gJ).2) {D:Prop} (hD:DrkW D s sky) {pl:aV} (hp:aFz pl) (ray:aK) {f l:aA} (hf:vin f) (hl:vin l) (hl0:D→l=v0) (dep:Int) (ov:Bool) (sm:aG) (st:ι→aH) (src:aB) (t:ι→Int) :
  TU (fun i=>lC N b pl ray f l dep ov sm s v sky (st i) src (wlk bv gl (t i))) (fun a:(aA×aB)×Int=>(vin a.1.1∧(D→a.1.1=v0))∧amC a.2 ((3*(gl.length:Int))*(eF v.gJ).2)) (fun i a r=>∃ t',r=(a.1.1,a.1.2,wlk bv gl t')∧cV (t i) t' a.2):=by
 unfold lC
 have l5:=hr.lights
 simp only [aR]
 refine TU.bind (P:=fun a:(aA×aB)×Int=>(vin a.1.1∧(D→a.1.1=v0))∧amC a.2 ((3*(gl.length:Int))*(s.gI.length:Int))) (S:=fun i a r=>∃ t',r=(a.1.1,a.1.2,wlk bv gl t')∧cV (t i) t' a.2) ?_ fun a ha r hr'=>?_
 ·refine TU.loop0 (n:=s.gI.length) (fun j (x:(aA×aB)×Int) t'=>((vin x.1.1∧(D→x.1.1=v0))∧amC x.2 ((3*(gl.length:Int))*(j:Int)))∧∀ i,cV (t i) (t' i) x.2) (F:=fun i k t' (x:(aA×aB)×Int) j=>fS N (s.gI.length:Int) s b ray f dep ov sm v sky (st i) pl k x.1.1 x.1.2 (wlk bv gl t') j) (fun k t' x j hj hx hk=>?_) (fun k t' x hx=>?_) (by omega) (s:=((l,src),0)) (h:=t) ⟨⟨⟨hl,hl0⟩,aGw aKK (by rw [show ((0:Nat):Int)=0 from rfl,Int.mul_zero])⟩,fun i=>kC _⟩
  ·have nd:¬ D:=fun h=>by have:=hD.lights h;rw [this] at hj;exact absurd hj (by simp)
   have hlj:=hr.light _ (List.getElem_mem hj)
   simp only [fS,dt (show (j:Int) < (s.gI.length:Int) by omega),cond_true,aR]
   refine TU.bind (P:=fun a:(aA×aB×aP×jL)×Int=>(vin a.1.1∧(D→a.1.1=v0))∧amC a.2 (3*(gl.length:Int))) (S:=fun i a r=>∃ tn,r=(a.1.1,a.1.2.1,(tn),a.1.2.2.1,a.1.2.2.2)∧cV (t' i) tn a.2) ?_ fun a ha r hr'=>?_
   ·refine TU.e (a:=s.gI[j]) (fun i=>by rw [iT,List.getElem?_eq_getElem hj]) ?_
    refine TU.c (aIW hN _ _ _ _ _ _ _ _ _ _) fun r10 _=>TU.c (aIW hN _ _ _ _ _ _ _ _ _ _) fun r12 _=>?_
    refine TU.t (aRx (by omega) hlj pl.gat hp.2.1 _) fun r13 h13=>?_
    refine TU.cond (fun _=>TU.ret ((x.1.1,aB.mk r12.1 ((aB.mk r10.1 x.1.2.gA x.1.2.gC x.1.2.gB x.1.2.gD).gA) ((aB.mk r10.1 x.1.2.gA x.1.2.gC x.1.2.gB x.1.2.gD).gC) ((aB.mk r10.1 x.1.2.gA x.1.2.gC x.1.2.gB x.1.2.gD).gB) ((aB.mk r10.1 x.1.2.gA x.1.2.gC x.1.2.gB x.1.2.gD).gD),s.gI[j],r13),0) ⟨hx.1.1,aK8 aKK (by omega)⟩ fun i=>⟨t' i,rfl,kC _⟩) (fun _=>?_)
    refine TU.bind (P:=fun a:Bool×Int=>amC a.2 (3*(gl.length:Int))) (S:=fun i a r=>∃ tn,r=((tn),a.1)∧cV (t' i) tn a.2) ?_ fun an han ra hra=>?_
    ·refine TU.bind (anyK N (by omega) hbv htr (by rw [hgl];exact hr.few) pl.gat r13.gE5 2 pl.gi (!r13.gE6) t') fun an hnc ra hra=>?_
     obtain ⟨an,nc⟩:=an
     dsimp only at hnc hra
     have hn:∃ tn:ι→Int,∀ i,ra i=(tn i,an)∧cV (t' i) (tn i) nc:=⟨fun i=>(hra i).choose,fun i=>(hra i).choose_spec⟩
     obtain ⟨tn,en⟩:=hn
     simp only [fun i=>(en i).1]
     exact TU.cond (fun _=>TU.cond (fun _=>TU.ret (_,nc) hnc fun i=>⟨tn i,rfl,(en i).2⟩) (fun _=>TU.ret (false,nc) hnc fun i=>⟨tn i,rfl,(en i).2⟩)) (fun _=>TU.ret (false,nc) hnc fun i=>⟨tn i,rfl,(en i).2⟩)
    ·have hn:∃ tn:ι→Int,∀ i,ra i=((tn i),an.1)∧cV (t' i) (tn i) an.2:=⟨fun i=>(hra i).choose,fun i=>(hra i).choose_spec⟩
     obtain ⟨tn,en⟩:=hn
     simp only [fun i=>(en i).1]
     refine TU.cond (fun _=>?_) (fun _=>TU.ret ((_,_,_,_),an.2) ⟨hx.1.1,han⟩ fun i=>⟨tn i,rfl,(en i).2⟩)
     refine TU.c (addW hN D (by intro y hy;simp at hy;rcases hy with rfl | rfl;exact hp.2.2.1;exact h13) (by simp) _ hf hx.1.1.1 (fun h=>absurd h nd) _ _ _ _ _ _) fun r17 h17=>TU.ret ((_,_,_,_),an.2) ⟨h17,han⟩ fun i=>⟨tn i,rfl,(en i).2⟩
   ·have hn:∃ tn:ι→Int,∀ i,r i=(a.1.1,a.1.2.1,(tn i),a.1.2.2.1,a.1.2.2.2)∧cV (t' i) (tn i) a.2:=⟨fun i=>(hr' i).choose,fun i=>(hr' i).choose_spec⟩
    obtain ⟨tn,en⟩:=hn
    simp only [fun i=>(en i).1]
    rw [dX (by omega)]
    exact hk ((a.1.1,a.1.2.1),x.2+a.2) tn ⟨⟨ha.1,aGw (aMa hx.1.2 ha.2) (by rw [show ((j+1:Nat):Int)=(j:Int)+1 from by omega,Int.mul_add,Int.mul_one])⟩,fun i=>nX (hx.2 i) (en i).2⟩
  ·simp only [fS,df (show ¬ (s.gI.length:Int) < (s.gI.length:Int) by omega),cond_false]
   exact TU.ret x hx.1 fun i=>⟨t' i,rfl,hx.2 i⟩
 have h2:∃ t2:ι→Int,∀ i,r i=(a.1.1,a.1.2,wlk bv gl (t2 i))∧cV (t i) (t2 i) a.2:=⟨fun i=>(hr' i).choose,fun i=>(hr' i).choose_spec⟩
 obtain ⟨t2,e2⟩:=h2
 simp only [fun i=>(e2 i).1]
 simp only [hcon,Bool.not_false,cond_true]
 exact TU.ret a ⟨ha.1,aK8 ha.2 (Int.mul_le_mul_of_nonneg_left hfit (by omega))⟩ fun i=>⟨t2 i,rfl,(e2 i).2⟩
end
section
variable {ι:Type} {N:Nat} (hN:4100 < N) {b:List (List aD)} {s:aE} {v:aI} {sky:aA} (hr:Rdy b s v sky)
include hN hr
theorem stepS {gl:List aF} (hsw:aJJ s.gK.length gl) (hcon:v.gS=true) (hfit:(s.gI.length:Int)≤(eF v.gJ).2) (hobj:aDE s) {D:Prop} (hD:DrkS D s sky) {ray:aK} (hray:aDH ray) {f l:aA} (hf:vin f) (hl:vin l) (hl0:D→l=v0) (dep:Int) (ov:Bool) {sm:aG} (hsm:aAK s sm) (st:ι→aH) (src:aB) (t:ι→Int) :
  TU (fun i=>kZ N b ray f l dep ov sm s v sky (st i) src (swp gl (t i))) (fun a:(aK×aA×aA×Bool×aG×aB)×Int×Int=>(aDH a.1.1∧vin a.1.2.1∧vin a.1.2.2.1∧(D→a.1.2.2.1=v0)∧aAK s a.1.2.2.2.2.1)∧exC a.2.1 ((gl.length:Int)*(1+(eF v.gJ).2))∧exC a.2.2 4) (fun i a r=>∃ x t',r=(a.1.1,a.1.2.1,a.1.2.2.1,a.1.2.2.2.1,a.1.2.2.2.2.1,x,a.1.2.2.2.2.2,swp gl t')∧cV (t i) t' a.2.1∧cV (st i).gN x a.2.2):=by
 unfold kZ
 refine TU.bind (meetS hN hr hsw hcon hfit hobj hray f l dep ov hsm st src t) fun a ha r hr'=>?_
 obtain ⟨a,mc,tc⟩:=a
 obtain ⟨ha,hmc,htc⟩:=ha
 dsimp only at ha hmc htc hr'
 have h1:∃ (x t1:ι→Int),∀ i,r i=(a.1,x i,swp gl (t1 i),a.2.1,a.2.2)∧cV (t i) (t1 i) mc∧cV (st i).gN (x i) tc:=⟨fun i=>(hr' i).choose,fun i=>(hr' i).choose_spec.choose,fun i=>(hr' i).choose_spec.choose_spec⟩
 obtain ⟨x,t1,e1⟩:=h1
 simp only [fun i=>(e1 i).1]
 obtain ⟨hp,hm,hs⟩:=ha
 have nd:∀ h:(a.2.1.gB1.gA7==4)=true,¬ D:=fun h d=>by
  have h4:a.2.1.gB1.gA7=4:=by simpa using h
  rcases hm with hm | hm
  ·exact hD.mats d _ hm h4
  ·rw [hm] at h4;cases h4
 generalize a.2.1=pl at *
 refine TU.c (P:=fun p:aA×Bool=>vin p.1∧(D→p.1=v0)) (TC.cond (fun _=>TC.bind (addS hN D (by intro y hy;simp at hy;rcases hy with rfl;exact hr.sky) (by simp) _ hf hl (fun d=>⟨hl0 d,by rw [hD.sky d]⟩) _ _ _ _ _ _) fun r3 h3=>TC.bind (aN6 _ _ _ _ _ _ _ _ _ _) fun _ _=>TC.ret _ h3) (fun _=>TC.ret _ ⟨hl,hl0⟩)) fun p2 h2=>?_
 refine TU.c (aN6 _ _ _ _ _ _ _ _ _ _) fun _ _=>?_
 simp only [aR]
 refine TU.c (P:=fun p:aA×Bool=>vin p.1∧(D→p.1=v0)) (TC.cond (fun hc=>TC.bind (addS hN D (by intro y hy;simp at hy;rcases hy with rfl;exact hp.2.2.1) (by simp) _ hf h2.1 (fun d=>absurd d (nd hc)) _ _ _ _ _ _) fun r3 h3=>TC.bind (aN6 _ _ _ _ _ _ _ _ _ _) fun _ _=>TC.ret _ h3) (fun _=>TC.ret _ h2)) fun p6 p6l=>?_
 refine TU.bind (P:=fun z:(aA×aB)×Int=>(vin z.1.1∧(D→z.1.1=v0))∧exC z.2 ((gl.length:Int)*(eF v.gJ).2)) (S:=fun i z r=>∃ t2,r=(z.1.1,z.1.2,swp gl t2)∧cV (t1 i) t2 z.2) ?_ fun z hz rz hrz=>?_
 ·simp only [hcon,cond_true,Option.bind_some]
  refine TU.bind (aSK hN hr hsw hcon hfit hD hp (ι:=ι) ray hf p6l.1 p6l.2 dep p6.2 a.1 _ src t1) fun z hz rz hrz=>?_
  have h2:∃ t2:ι→Int,∀ i,rz i=(z.1.1,z.1.2,swp gl (t2 i))∧cV (t1 i) (t2 i) z.2:=⟨fun i=>(hrz i).choose,fun i=>(hrz i).choose_spec⟩
  obtain ⟨t2,e2⟩:=h2
  simp only [fun i=>(e2 i).1]
  exact TU.ret ((z.1.1,z.1.2),z.2) hz fun i=>⟨t2 i,rfl,(e2 i).2⟩
 have h2':∃ t2:ι→Int,∀ i,rz i=(z.1.1,z.1.2,swp gl (t2 i))∧cV (t1 i) (t2 i) z.2:=⟨fun i=>(hrz i).choose,fun i=>(hrz i).choose_spec⟩
 obtain ⟨t2,e2⟩:=h2'
 simp only [fun i=>(e2 i).1]
 obtain ⟨z,zc⟩:=z
 obtain ⟨hz,hzc⟩:=hz
 dsimp only at hz hzc e2
 have rt:∀ i,cV (t i) (t2 i) (mc+zc):=fun i=>nX (e1 i).2.1 (e2 i).2
 have rc:exC (mc+zc) ((gl.length:Int)*(1+(eF v.gJ).2)):=aHF (aM4 hmc hzc) (by rw [Int.mul_add,Int.mul_one])
 refine TU.t (P:=fun _=>True) (T.cond (fun _=>T.ret trivial) (fun _=>T.ret trivial)) fun p14 _=>TU.cond (fun _=>?_) (fun _=>?_)
 ·exact TU.c (aN6 _ _ _ _ _ _ _ _ _ _) fun _ _=>TU.ret ((ray,f,z.1,_,a.1,z.2),mc+zc,tc) ⟨⟨hray,hf,hz.1,hz.2,hs⟩,rc,htc⟩ fun i=>⟨x i,t2 i,rfl,rt i,(e1 i).2.2⟩
 refine TU.c (aIH hN _ _ _ _ _ _ _ _ _ _) fun r16 _=>TU.c (aIH hN _ _ _ _ _ _ _ _ _ _) fun r17 _=>?_
 refine TU.t (aKs (by omega) hp.2.2.2 hp.2.2.1 hp.2.1 ray.gd _) fun r18 h18=>TU.t (aJX (by omega) _ (by intro y hy;simp at hy;rcases hy with rfl | rfl;exact hf;exact h18.2) (by simp)) fun r19 h19=>?_
 refine TU.c (aN6 _ _ _ _ _ _ _ _ _ _) fun _ _=>?_
 refine TU.c (P:=fun p:aA×Bool×aB=>vin p.1) ?_ fun p21 h21=>?_
 ·refine TC.cond (fun _=>TC.bind (aIH hN _ _ _ _ _ _ _ _ _ _) fun r22 _=>TC.t (aIT (by omega) h19 _) fun r23 h23=>TC.bind (aN6 _ _ _ _ _ _ _ _ _ _) fun _ _=>TC.ret _ h23) (fun _=>TC.ret _ h19)
 ·exact TU.ret ((_,p21.1,z.1,p21.2.1,a.1,p21.2.2),mc+zc,tc) ⟨⟨⟨hp.1,h18.1⟩,h21,hz.1,hz.2,hs⟩,rc,htc⟩ fun i=>⟨x i,t2 i,rfl,rt i,(e1 i).2.2⟩
def inVS (v:aI) (x y z:Int):Prop:=(0≤x∧x < v.gW)∧(0≤y∧y < v.gH)∧0≤z∧z < v.gB2
theorem pathS {gl:List aF} (hsw:aJJ s.gK.length gl) (hcon:v.gS=true) (hfit:(s.gI.length:Int)≤(eF v.gJ).2) (hobj:aDE s) {D:Prop} (hD:DrkS D s sky) (x y z:Int) (st:ι→aH) (t:ι→Int) :
  TU (fun i=>eX N b x y z s v sky (st i) (swp gl (t i))) (fun a:(aG×Int)×Int×Int×Int=>(D→a.1.1.gA4=v0)∧(inVS v x y z→a.1.2=0)∧(a.1.2=0∧(aAK s a.1.1∧vin a.1.1.gA4)∧exC a.2.1 ((gl.length:Int)*(1+(eF v.gJ).2)*(v.gM+1))∧exC a.2.2.1 (4*(v.gM+1))∧exC a.2.2.2 (v.gM+1)∨a.1.2=2)) (fun i a r=>∃ st' t',r=(st',swp gl t',a.1.1,a.1.2)∧st'.gG=(st i).gG∧cV (t i) t' a.2.1∧cV (st i).gN st'.gN a.2.2.1∧cV (st i).gF st'.gF a.2.2.2):=by
 unfold eX tI
 simp only [aR,Option.bind_some]
 refine TU.cond (fun hc=>TU.ret ((aG.mk (aA.mk 0 0 0) 0 0 (aA.mk 0 0 0) 0,2),0,0,0) ⟨fun _=>rfl,fun h=>?_,Or.inr rfl⟩ fun i=>⟨st i,t i,rfl,rfl,kC _,kC _,kC _⟩) (fun _=>?_)
 ·exfalso
  obtain ⟨⟨h1,h2⟩,⟨h3,h4⟩,h5,h6⟩:=h
  rw [df (show ¬ x < 0 by omega),df (show ¬ x≥v.gW by omega),df (show ¬ y < 0 by omega),df (show ¬ y≥v.gH by omega),df (show ¬ z < 0 by omega),df (show ¬ z≥v.gB2 by omega)] at hc
  cases hc
 refine TU.c (P:=fun _=>True) ?_ fun p8 _=>?_
 ·have main:∀ (k j:Nat) (src:aB) (q:Vector Int 4),4 - j < k→j≤4→TC (fun i=>fF N b s v sky (st i) (swp gl (t i)) k src q (j:Int)) (fun _=>True):=by
   intro k
   induction k with
   | zero=>intro j src q h;omega
   | succ k ih=>
    intro j src q hk hj
    simp only [fF]
    refine TC.cond (fun hc=>?_) (fun _=>TC.ret _ trivial)
    have hj4:j < 4:=by have:=of_decide_eq_true hc;omega
    refine TC.bind (aIH (by omega) _ _ _ _ _ _ _ _ _ _) fun r12 _=>TC.t (T.inRO (by omega) (by omega)) fun _ _=>TC.t (T.vgI hj4) fun _ _=>?_
    rw [dX (by omega)]
    exact ih (j+1) _ _ (by omega) (by omega)
  exact main N 0 _ _ (by omega) (by decide)
 refine TU.t (rayN (by omega) _ _ _ _ _ _) fun r15 h15=>?_
 obtain ⟨_,_,⟨d0,d8⟩,_⟩:=hr.view
 obtain ⟨n,hn⟩:=Int.eq_ofNat_of_zero_le (show 0≤v.gM+1 by omega)
 refine TU.bind (P:=fun a:(aB×aK×aA×aA×Bool×aG)×Int×Int×Int=>(aDH a.1.2.1∧vin a.1.2.2.1∧vin a.1.2.2.2.1∧(D→a.1.2.2.2.1=v0)∧aAK s a.1.2.2.2.2.2)∧exC a.2.1 ((gl.length:Int)*(1+(eF v.gJ).2)*(n:Int))∧exC a.2.2.1 (4*(n:Int))∧exC a.2.2.2 (n:Int)) (S:=fun i a r=>∃ (st':aH) (t':Int),∃ dd:Int,r=(st',swp gl t',a.1.1,a.1.2.1,a.1.2.2.1,a.1.2.2.2.1,dd,a.1.2.2.2.2.1,a.1.2.2.2.2.2)∧st'.gG=(st i).gG∧cV (t i) t' a.2.1∧cV (st i).gN st'.gN a.2.2.1∧cV (st i).gF st'.gF a.2.2.2) ?_ fun a ha r hr'=>?_
 ·refine TU.loop0 (n:=n) (fun j (x:(aB×aK×aA×aA×Bool×aG)×Int×Int) (h:ι→aH×Int)=>(((aDH x.1.2.1∧vin x.1.2.2.1∧vin x.1.2.2.2.1∧(D→x.1.2.2.2.1=v0)∧aAK s x.1.2.2.2.2.2)∧exC x.2.1 ((gl.length:Int)*(1+(eF v.gJ).2)*(j:Int))∧exC x.2.2 (4*(j:Int))))∧∀ i,(h i).1.gG=(st i).gG∧cV (t i) (h i).2 x.2.1∧cV (st i).gN (h i).1.gN x.2.2∧cV (st i).gF (h i).1.gF (j:Int)) (F:=fun i k (h:aH×Int) (x:(aB×aK×aA×aA×Bool×aG)×Int×Int) j=>dY N v b s sky k h.1 (swp gl h.2) x.1.1 x.1.2.1 x.1.2.2.1 x.1.2.2.2.1 j x.1.2.2.2.2.1 x.1.2.2.2.2.2) (fun k h x j hj hx hk=>?_) (fun k h x hx=>?_) (by omega) (s:=((p8.1,aK.mk r15.1 r15.2.1 (-1),aA.mk 4294967296 4294967296 4294967296,aA.mk 0 0 0,false,aG.mk (aA.mk 0 0 0) 0 0 (aA.mk 0 0 0) (-1)),0,0)) (h:=fun i=>(st i,t i)) ⟨⟨⟨h15,aRi,aC9,fun _=>rfl,sm0 s⟩,aHF aQB (by rw [show ((0:Nat):Int)=0 from rfl,Int.mul_zero]),aHF aQB (by rfl)⟩,fun i=>⟨rfl,kC _,kC _,kC _⟩⟩
  ·simp only [dY,aR,dt (show (j:Int)≤v.gM by omega),cond_true]
   simp only [hcon]
   refine TU.t (P:=fun r=>r=true) (by cases x.1.2.2.2.2.1 <;> exact ⟨_,rfl,rfl⟩) fun p26 h26=>?_
   rw [h26]
   simp only [cond_true]
   obtain ⟨⟨⟨x1,x2,x3,x4,x6⟩,x7,x8⟩,x5⟩:=hx
   refine TU.bind (stepS hN hr hsw hcon hfit hobj hD x1 x2 x3 x4 (j:Int) x.1.2.2.2.2.1 x6 (fun i=>(h i).1) x.1.1 (fun i=>(h i).2)) fun a ha r hr'=>?_
   have h1:∃ (y t1:ι→Int),∀ i,r i=(a.1.1,a.1.2.1,a.1.2.2.1,a.1.2.2.2.1,a.1.2.2.2.2.1,y i,a.1.2.2.2.2.2,swp gl (t1 i))∧cV (h i).2 (t1 i) a.2.1∧cV (h i).1.gN (y i) a.2.2:=⟨fun i=>(hr' i).choose,fun i=>(hr' i).choose_spec.choose,fun i=>(hr' i).choose_spec.choose_spec⟩
   obtain ⟨y,t1,e1⟩:=h1
   simp only [fun i=>(e1 i).1]
   rw [dX (by omega)]
   obtain ⟨ha,hc1,hc2⟩:=ha
   refine hk ((a.1.2.2.2.2.2,a.1.1,a.1.2.1,a.1.2.2.1,a.1.2.2.2.1,a.1.2.2.2.2.1),x.2.1+a.2.1,x.2.2+a.2.2) (fun i=>(aH.mk (h i).1.gG (y i) (I64 ((h i).1.gF+1)),t1 i)) ⟨⟨ha,?_,?_⟩,fun i=>⟨(x5 i).1,nX (x5 i).2.1 (e1 i).2.1,nX (x5 i).2.2.1 (e1 i).2.2,aCb (x5 i).2.2.2⟩⟩
   ·refine aHF (aM4 x7 hc1) ?_
    generalize (gl.length:Int)*(1+(eF v.gJ).2)=X
    rw [show ((j+1:Nat):Int)=(j:Int)+1 from by omega,Int.mul_add,Int.mul_one]
   ·exact aHF (aM4 x8 hc2) (by omega)
  ·simp only [dY,aR,df (show ¬ (n:Int)≤v.gM by omega),cond_false,Option.bind_some]
   exact TU.ret (x.1,x.2.1,x.2.2,(n:Int)) ⟨hx.1.1,hx.1.2.1,hx.1.2.2,rfl⟩ fun i=>⟨_,_,_,rfl,hx.2 i⟩
 ·have h1:∃ (st':ι→aH) (t':ι→Int) (dd:ι→Int),∀ i,r i=(st' i,swp gl (t' i),a.1.1,a.1.2.1,a.1.2.2.1,a.1.2.2.2.1,dd i,a.1.2.2.2.2.1,a.1.2.2.2.2.2)∧(st' i).gG=(st i).gG∧cV (t i) (t' i) a.2.1∧cV (st i).gN (st' i).gN a.2.2.1∧cV (st i).gF (st' i).gF a.2.2.2:=⟨fun i=>(hr' i).choose,fun i=>(hr' i).choose_spec.choose,fun i=>(hr' i).choose_spec.choose_spec.choose,fun i=>(hr' i).choose_spec.choose_spec.choose_spec⟩
  obtain ⟨st',t',dd,e1⟩:=h1
  simp only [fun i=>(e1 i).1]
  rw [hn]
  exact TU.ret ((aG.mk a.1.2.2.2.1 a.1.2.2.2.2.2.gA8 a.1.2.2.2.2.2.gM a.1.2.2.2.2.2.gB9 a.1.2.2.2.2.2.gA0,0),a.2) ⟨ha.1.2.2.2.1,fun _=>rfl,Or.inl ⟨rfl,⟨ha.1.2.2.2.2,ha.1.2.2.1⟩,ha.2⟩⟩ fun i=>⟨st' i,t' i,rfl,(e1 i).2⟩
end
section
variable {ι:Type} {N:Nat} (hN:1000000000000 < N) {b:List (List aD)} {s:aE} {v:aI} {sky:aA} (hr:Rdy b s v sky)
include hN hr
theorem stepW {bv:aX} {gl:List aF} (hbv:aBS gl.length bv) (hgl:gl=s.gK) (htr:wJ gl bv) (hcon:v.gS=false) (hfit:(s.gI.length:Int)≤(eF v.gJ).2) (hobj:aDE s) {D:Prop} (hD:DrkW D s sky) {ray:aK} (hray:aDH ray) {f l:aA} (hf:vin f) (hl:vin l) (hl0:D→l=v0) (dep:Int) (ov:Bool) {sm:aG} (hsm:aAK s sm) (st:ι→aH) (src:aB) (t:ι→Int) :
  TU (fun i=>nB N b ray f l dep ov sm s v sky (st i) src (wlk bv gl (t i))) (fun a:(aK×aA×aA×Bool×aG×aB)×Int×Int=>(aDH a.1.1∧vin a.1.2.1∧vin a.1.2.2.1∧(D→a.1.2.2.1=v0)∧aAK s a.1.2.2.2.2.1)∧amC a.2.1 ((3*(gl.length:Int))*(1+(eF v.gJ).2))∧amC a.2.2 4) (fun i a r=>∃ x t',r=(a.1.1,a.1.2.1,a.1.2.2.1,a.1.2.2.2.1,a.1.2.2.2.2.1,x,a.1.2.2.2.2.2,wlk bv gl t')∧cV (t i) t' a.2.1∧cV (st i).gN x a.2.2):=by
 unfold nB
 refine TU.bind (meetW hN hr hbv hgl htr hcon hfit hobj hray f l dep ov hsm st src t) fun a ha r hr'=>?_
 obtain ⟨a,mc,tc⟩:=a
 obtain ⟨ha,hmc,htc⟩:=ha
 dsimp only at ha hmc htc hr'
 have h1:∃ (x t1:ι→Int),∀ i,r i=(a.1,x i,(t1 i),a.2.1,a.2.2)∧cV (t i) (t1 i) mc∧cV (st i).gN (x i) tc:=⟨fun i=>(hr' i).choose,fun i=>(hr' i).choose_spec.choose,fun i=>(hr' i).choose_spec.choose_spec⟩
 obtain ⟨x,t1,e1⟩:=h1
 simp only [fun i=>(e1 i).1]
 obtain ⟨hp,hm,hs⟩:=ha
 have nd:∀ h:(a.2.1.gB1.gA7==4)=true,¬ D:=fun h d=>by
  have h4:a.2.1.gB1.gA7=4:=by simpa using h
  rcases hm with hm | hm
  ·exact hD.mats d _ hm h4
  ·rw [hm] at h4;cases h4
 generalize a.2.1=pl at *
 refine TU.c (P:=fun p:aA×Bool=>vin p.1∧(D→p.1=v0)) (TC.cond (fun _=>TC.bind (addW hN D (by intro y hy;simp at hy;rcases hy with rfl;exact hr.sky) (by simp) _ hf hl (fun d=>⟨hl0 d,by rw [hD.sky d]⟩) _ _ _ _ _ _) fun r3 h3=>TC.bind (aOD _ _ _ _ _ _ _ _ _ _) fun _ _=>TC.ret _ h3) (fun _=>TC.ret _ ⟨hl,hl0⟩)) fun p2 h2=>?_
 refine TU.c (aOD _ _ _ _ _ _ _ _ _ _) fun _ _=>?_
 simp only [aR]
 refine TU.c (P:=fun p:aA×Bool=>vin p.1∧(D→p.1=v0)) (TC.cond (fun hc=>TC.bind (addW hN D (by intro y hy;simp at hy;rcases hy with rfl;exact hp.2.2.1) (by simp) _ hf h2.1 (fun d=>absurd d (nd hc)) _ _ _ _ _ _) fun r3 h3=>TC.bind (aOD _ _ _ _ _ _ _ _ _ _) fun _ _=>TC.ret _ h3) (fun _=>TC.ret _ h2)) fun p6 p6l=>?_
 refine TU.bind (P:=fun z:(aA×aB)×Int=>(vin z.1.1∧(D→z.1.1=v0))∧amC z.2 ((3*(gl.length:Int))*(eF v.gJ).2)) (S:=fun i z r=>∃ t2,r=(z.1.1,z.1.2,wlk bv gl t2)∧cV (t1 i) t2 z.2) ?_ fun z hz rz hrz=>?_
 ·refine TU.t (P:=fun _=>True) (T.cond (fun _=>T.ret trivial) (fun _=>T.ret trivial)) fun p11 _=>TU.cond (fun _=>?_) (fun _=>TU.ret ((p6.1,src),0) ⟨p6l,aK8 aKK (Int.mul_nonneg (by omega) (by omega))⟩ fun i=>⟨t1 i,rfl,kC _⟩)
  refine TU.bind (aTK hN hr hbv hgl htr hcon hfit hD hp (ι:=ι) ray hf p6l.1 p6l.2 dep p6.2 a.1 _ src t1) fun z hz rz hrz=>?_
  have h2:∃ t2:ι→Int,∀ i,rz i=(z.1.1,z.1.2,wlk bv gl (t2 i))∧cV (t1 i) (t2 i) z.2:=⟨fun i=>(hrz i).choose,fun i=>(hrz i).choose_spec⟩
  obtain ⟨t2,e2⟩:=h2
  simp only [fun i=>(e2 i).1]
  exact TU.ret ((z.1.1,z.1.2),z.2) hz fun i=>⟨t2 i,rfl,(e2 i).2⟩
 have h2':∃ t2:ι→Int,∀ i,rz i=(z.1.1,z.1.2,wlk bv gl (t2 i))∧cV (t1 i) (t2 i) z.2:=⟨fun i=>(hrz i).choose,fun i=>(hrz i).choose_spec⟩
 obtain ⟨t2,e2⟩:=h2'
 simp only [fun i=>(e2 i).1]
 obtain ⟨z,zc⟩:=z
 obtain ⟨hz,hzc⟩:=hz
 dsimp only at hz hzc e2
 have rt:∀ i,cV (t i) (t2 i) (mc+zc):=fun i=>nX (e1 i).2.1 (e2 i).2
 have rc:amC (mc+zc) ((3*(gl.length:Int))*(1+(eF v.gJ).2)):=aGw (aMa hmc hzc) (by rw [Int.mul_add,Int.mul_one])
 refine TU.t (P:=fun _=>True) (T.cond (fun _=>T.ret trivial) (fun _=>T.ret trivial)) fun p14 _=>TU.cond (fun _=>?_) (fun _=>?_)
 ·exact TU.c (aOD _ _ _ _ _ _ _ _ _ _) fun _ _=>TU.ret ((ray,f,z.1,_,a.1,z.2),mc+zc,tc) ⟨⟨hray,hf,hz.1,hz.2,hs⟩,rc,htc⟩ fun i=>⟨x i,t2 i,rfl,rt i,(e1 i).2.2⟩
 refine TU.c (aIW hN _ _ _ _ _ _ _ _ _ _) fun r16 _=>TU.c (aIW hN _ _ _ _ _ _ _ _ _ _) fun r17 _=>?_
 refine TU.t (aKs (by omega) hp.2.2.2 hp.2.2.1 hp.2.1 ray.gd _) fun r18 h18=>TU.t (aJX (by omega) _ (by intro y hy;simp at hy;rcases hy with rfl | rfl;exact hf;exact h18.2) (by simp)) fun r19 h19=>?_
 refine TU.c (aOD _ _ _ _ _ _ _ _ _ _) fun _ _=>?_
 refine TU.c (P:=fun p:aA×Bool×aB=>vin p.1) ?_ fun p21 h21=>?_
 ·refine TC.cond (fun _=>TC.bind (aIW hN _ _ _ _ _ _ _ _ _ _) fun r22 _=>TC.t (aIT (by omega) h19 _) fun r23 h23=>TC.bind (aOD _ _ _ _ _ _ _ _ _ _) fun _ _=>TC.ret _ h23) (fun _=>TC.ret _ h19)
 ·exact TU.ret ((_,p21.1,z.1,p21.2.1,a.1,p21.2.2),mc+zc,tc) ⟨⟨⟨hp.1,h18.1⟩,h21,hz.1,hz.2,hs⟩,rc,htc⟩ fun i=>⟨x i,t2 i,rfl,rt i,(e1 i).2.2⟩
def inVW (v:aI) (x y z:Int):Prop:=(0≤x∧x < v.gW)∧(0≤y∧y < v.gH)∧0≤z∧z < v.gB2
theorem pathW {bv:aX} {gl:List aF} (hbv:aBS gl.length bv) (hgl:gl=s.gK) (htr:wJ gl bv) (hcon:v.gS=false) (hfit:(s.gI.length:Int)≤(eF v.gJ).2) (hobj:aDE s) {D:Prop} (hD:DrkW D s sky) (x y z:Int) (st:ι→aH) (t:ι→Int) :
  TU (fun i=>fQ N b x y z s v sky (st i) (wlk bv gl (t i))) (fun a:(aG×Int)×Int×Int×Int=>(D→a.1.1.gA4=v0)∧(inVW v x y z→a.1.2=0)∧(a.1.2=0∧(aAK s a.1.1∧vin a.1.1.gA4)∧amC a.2.1 ((3*(gl.length:Int))*(1+(eF v.gJ).2)*(v.gM+1))∧amC a.2.2.1 (4*(v.gM+1))∧aNE a.2.2.2 (v.gM+1)∨a.1.2=2)) (fun i a r=>∃ st' t',r=(st',wlk bv gl t',a.1.1,a.1.2)∧st'.gG=(st i).gG∧cV (t i) t' a.2.1∧cV (st i).gN st'.gN a.2.2.1∧cV (st i).gF st'.gF a.2.2.2):=by
 unfold fQ tI
 simp only [aR,Option.bind_some]
 refine TU.cond (fun hc=>TU.ret ((aG.mk (aA.mk 0 0 0) 0 0 (aA.mk 0 0 0) 0,2),0,0,0) ⟨fun _=>rfl,fun h=>?_,Or.inr rfl⟩ fun i=>⟨st i,t i,rfl,rfl,kC _,kC _,kC _⟩) (fun _=>?_)
 ·exfalso
  obtain ⟨⟨h1,h2⟩,⟨h3,h4⟩,h5,h6⟩:=h
  rw [df (show ¬ x < 0 by omega),df (show ¬ x≥v.gW by omega),df (show ¬ y < 0 by omega),df (show ¬ y≥v.gH by omega),df (show ¬ z < 0 by omega),df (show ¬ z≥v.gB2 by omega)] at hc
  cases hc
 refine TU.c (P:=fun _=>True) ?_ fun p8 _=>?_
 ·have main:∀ (k j:Nat) (src:aB) (q:Vector Int 4),4 - j < k→j≤4→TC (fun i=>hJ N b s v sky (st i) (wlk bv gl (t i)) k src q (j:Int)) (fun _=>True):=by
   intro k
   induction k with
   | zero=>intro j src q h;omega
   | succ k ih=>
    intro j src q hk hj
    simp only [hJ]
    refine TC.cond (fun hc=>?_) (fun _=>TC.ret _ trivial)
    have hj4:j < 4:=by have:=of_decide_eq_true hc;omega
    refine TC.bind (aIW (by omega) _ _ _ _ _ _ _ _ _ _) fun r12 _=>TC.t (T.inRO (by omega) (by omega)) fun _ _=>TC.t (T.vgI hj4) fun _ _=>?_
    rw [dX (by omega)]
    exact ih (j+1) _ _ (by omega) (by omega)
  exact main N 0 _ _ (by omega) (by decide)
 refine TU.t (rayN (by omega) _ _ _ _ _ _) fun r15 h15=>?_
 obtain ⟨_,_,⟨d0,d8⟩,_⟩:=hr.view
 obtain ⟨n,hn⟩:=Int.eq_ofNat_of_zero_le (show 0≤v.gM+1 by omega)
 refine TU.bind (P:=fun a:(aB×aK×aA×aA×Bool×aG)×Int×Int×Int=>(aDH a.1.2.1∧vin a.1.2.2.1∧vin a.1.2.2.2.1∧(D→a.1.2.2.2.1=v0)∧aAK s a.1.2.2.2.2.2)∧amC a.2.1 ((3*(gl.length:Int))*(1+(eF v.gJ).2)*(n:Int))∧amC a.2.2.1 (4*(n:Int))∧aNE a.2.2.2 (n:Int)) (S:=fun i a r=>∃ (st':aH) (t':Int),∃ dd:Int,r=(st',wlk bv gl t',a.1.1,a.1.2.1,a.1.2.2.1,a.1.2.2.2.1,dd,a.1.2.2.2.2.1,a.1.2.2.2.2.2)∧st'.gG=(st i).gG∧cV (t i) t' a.2.1∧cV (st i).gN st'.gN a.2.2.1∧cV (st i).gF st'.gF a.2.2.2) ?_ fun a ha r hr'=>?_
 ·refine TU.loop0 (n:=n) (fun j (x:(aB×aK×aA×aA×Bool×aG)×Int×Int) (h:ι→aH×Int)=>(((aDH x.1.2.1∧vin x.1.2.2.1∧vin x.1.2.2.2.1∧(D→x.1.2.2.2.1=v0)∧aAK s x.1.2.2.2.2.2)∧amC x.2.1 ((3*(gl.length:Int))*(1+(eF v.gJ).2)*(j:Int))∧amC x.2.2 (4*(j:Int)))∧(x.1.2.2.2.2.1=true→1≤(j:Int)))∧∀ i,(h i).1.gG=(st i).gG∧cV (t i) (h i).2 x.2.1∧cV (st i).gN (h i).1.gN x.2.2∧cV (st i).gF (h i).1.gF (j:Int)) (F:=fun i k (h:aH×Int) (x:(aB×aK×aA×aA×Bool×aG)×Int×Int) j=>eP N v b s sky k h.1 (wlk bv gl h.2) x.1.1 x.1.2.1 x.1.2.2.1 x.1.2.2.2.1 j x.1.2.2.2.2.1 x.1.2.2.2.2.2) (fun k h x j hj hx hk=>?_) (fun k h x hx=>?_) (by omega) (s:=((p8.1,aK.mk r15.1 r15.2.1 (-1),aA.mk 4294967296 4294967296 4294967296,aA.mk 0 0 0,false,aG.mk (aA.mk 0 0 0) 0 0 (aA.mk 0 0 0) (-1)),0,0)) (h:=fun i=>(st i,t i)) ⟨⟨⟨⟨h15,aRi,aC9,fun _=>rfl,sm0 s⟩,aGw aKK (by rw [show ((0:Nat):Int)=0 from rfl,Int.mul_zero]),aGw aKK (by rfl)⟩,fun h=>by cases h⟩,fun i=>⟨rfl,kC _,kC _,kC _⟩⟩
  ·simp only [eP,aR,dt (show (j:Int)≤v.gM by omega),cond_true]
   refine TU.t (P:=fun r=>r=false→1≤(j:Int)) (T.cond (fun _=>T.ret fun h=>by cases h) (fun hc=>T.ret fun _=>hx.1.2 (by simpa using hc))) fun p26 j0=>TU.cond (fun _=>?_) (fun hc=>TU.ret (x.1,x.2.1,x.2.2,(j:Int)) ⟨hx.1.1.1,aK8 hx.1.1.2.1 (Int.mul_le_mul_of_nonneg_left (by omega) (Int.mul_nonneg (by omega) (by omega))),aK8 hx.1.1.2.2 (by omega),j0 hc,by show (j:Int)≤n;omega⟩ fun i=>⟨_,_,_,rfl,hx.2 i⟩)
   obtain ⟨⟨⟨⟨x1,x2,x3,x4,x6⟩,x7,x8⟩,_⟩,x5⟩:=hx
   refine TU.bind (stepW hN hr hbv hgl htr hcon hfit hobj hD x1 x2 x3 x4 (j:Int) x.1.2.2.2.2.1 x6 (fun i=>(h i).1) x.1.1 (fun i=>(h i).2)) fun a ha r hr'=>?_
   have h1:∃ (y t1:ι→Int),∀ i,r i=(a.1.1,a.1.2.1,a.1.2.2.1,a.1.2.2.2.1,a.1.2.2.2.2.1,y i,a.1.2.2.2.2.2,wlk bv gl (t1 i))∧cV (h i).2 (t1 i) a.2.1∧cV (h i).1.gN (y i) a.2.2:=⟨fun i=>(hr' i).choose,fun i=>(hr' i).choose_spec.choose,fun i=>(hr' i).choose_spec.choose_spec⟩
   obtain ⟨y,t1,e1⟩:=h1
   simp only [fun i=>(e1 i).1]
   rw [dX (by omega)]
   obtain ⟨ha,hc1,hc2⟩:=ha
   refine hk ((a.1.2.2.2.2.2,a.1.1,a.1.2.1,a.1.2.2.1,a.1.2.2.2.1,a.1.2.2.2.2.1),x.2.1+a.2.1,x.2.2+a.2.2) (fun i=>(aH.mk (h i).1.gG (y i) (I64 ((h i).1.gF+1)),t1 i)) ⟨⟨⟨ha,?_,?_⟩,fun _=>by omega⟩,fun i=>⟨(x5 i).1,nX (x5 i).2.1 (e1 i).2.1,nX (x5 i).2.2.1 (e1 i).2.2,aCb (x5 i).2.2.2⟩⟩
   ·refine aGw (aMa x7 hc1) ?_
    generalize (3*(gl.length:Int))*(1+(eF v.gJ).2)=X
    rw [show ((j+1:Nat):Int)=(j:Int)+1 from by omega,Int.mul_add,Int.mul_one]
   ·exact aGw (aMa x8 hc2) (by omega)
  ·simp only [eP,aR,df (show ¬ (n:Int)≤v.gM by omega),cond_false,Option.bind_some]
   exact TU.ret (x.1,x.2.1,x.2.2,(n:Int)) ⟨hx.1.1.1,hx.1.1.2.1,hx.1.1.2.2,by show (1:Int)≤n;omega,Int.le_refl _⟩ fun i=>⟨_,_,_,rfl,hx.2 i⟩
 ·have h1:∃ (st':ι→aH) (t':ι→Int) (dd:ι→Int),∀ i,r i=(st' i,wlk bv gl (t' i),a.1.1,a.1.2.1,a.1.2.2.1,a.1.2.2.2.1,dd i,a.1.2.2.2.2.1,a.1.2.2.2.2.2)∧(st' i).gG=(st i).gG∧cV (t i) (t' i) a.2.1∧cV (st i).gN (st' i).gN a.2.2.1∧cV (st i).gF (st' i).gF a.2.2.2:=⟨fun i=>(hr' i).choose,fun i=>(hr' i).choose_spec.choose,fun i=>(hr' i).choose_spec.choose_spec.choose,fun i=>(hr' i).choose_spec.choose_spec.choose_spec⟩
  obtain ⟨st',t',dd,e1⟩:=h1
  simp only [fun i=>(e1 i).1]
  rw [hn]
  exact TU.ret ((aG.mk a.1.2.2.2.1 a.1.2.2.2.2.2.gA8 a.1.2.2.2.2.2.gM a.1.2.2.2.2.2.gB9 a.1.2.2.2.2.2.gA0,0),a.2) ⟨ha.1.2.2.2.1,fun _=>rfl,Or.inl ⟨rfl,⟨ha.1.2.2.2.2,ha.1.2.2.1⟩,ha.2⟩⟩ fun i=>⟨st' i,t' i,rfl,(e1 i).2⟩
end
set_option maxHeartbeats 2000000
theorem objT (N:Nat) (hN:10 < N) (s:aE) (t:aF):T (lJ N s t) (fun r=>r=0→0≤t.gA0∧t.gA0 < (s.gL.length:Int)):=by
 obtain ⟨r,e,_⟩:=triT N hN s t
 refine ⟨r,e,fun h=>?_⟩
 subst h
 unfold lJ at e
 simp only [aR] at e
 have tt:∀ b:Bool,cond b true true=true:=fun b=>by cases b <;> rfl
 by_cases h1:t.gA0 < 0
 ·rw [dt h1,tt] at e;cases e
 ·by_cases h2:t.gA0≥(s.gL.length:Int)
  ·rw [dt h2,tt] at e;cases e
  ·omega
theorem aRr (N:Nat) (hN:300 < N) {s:aE} (h:few s) (e:jA N s=some 0):aDE s∧s.gA5.length=s.gL.length:=by
 have h1:=h.1
 have f:T (cZ N s.gK s) (fun r=>r=0→aDE s):=by
  unfold cZ
  refine aG0 s.gK (fun t=>jP N t s) (fun t=>0≤t.gA0∧t.gA0 < (s.gL.length:Int)) (fun k i=>by rw [eK]) (fun t _=>?_) (by omega) (by omega)
  unfold jP
  exact T.bind (objT N (by omega) s t) fun r h=>T.ret h
 obtain ⟨r,e1,hr⟩:=f
 unfold jA at e
 simp only [aR] at e
 cases c:((s.gA5.length:Int) != (s.gL.length:Int)) with
 | true=>rw [c] at e;cases e
 | false=>
  rw [c,cond_false,e1,Option.bind_some] at e
  have c':(s.gA5.length:Int)=(s.gL.length:Int):=by simpa using c
  refine ⟨?_,by omega⟩
  cases d:(r != 0) with
  | true=>rw [d,cond_true] at e;cases e;cases d
  | false=>exact hr (by simpa using d)
theorem aNG {N:Nat} {s:aE} {v:aI} (h:aPr N s v 0):jA N s=some 0∧fits s v.gJ:=by
 have f:∀ {c:Int},nW N s c=some 0→fits s c:=by
  intro c e
  obtain ⟨r,e',h⟩:=aRt N s c
  exact h (lA e' e)
 rcases h with ⟨_,h⟩ | ⟨_,_,h⟩ | ⟨h1,_,h3⟩
 ·exact absurd rfl h
 ·exact absurd rfl h
 ·exact ⟨h1,f h3⟩
def rg (x:Int):Prop:=0≤x∧x≤65535
theorem aEj (N:Nat) (a:Int):sD N a=some (a / 4294967296):=by unfold sD;rw [aQD]
theorem aDy (k:Nat) {a y:Int} (ha:cG a) (hy:cG y):T (iN (k+3) a y) cG:=by
 by_cases h:y=0
 ·subst h
  unfold iN
  exact T.cond (fun _=>T.cond (fun _=>T.ret ⟨by decide,by decide⟩) (fun _=>T.cond (fun _=>T.ret ⟨by decide,by decide⟩) (fun _=>T.ret z64))) (fun h=>by cases h)
 ·exact ⟨_,vZ k ha hy h,dP _⟩
theorem o64 : cG 4294967296:=⟨by decide,by decide⟩
theorem aPj (k:Nat) {a:Int} (ha:cG a):T (qR (k+3) a) rg:=by
 unfold qR
 refine T.cond (fun _=>T.ret ⟨by decide,by decide⟩) (fun hc=>?_)
 have h0:=of_decide_eq_false hc
 have ha':=ha
 obtain ⟨a1,a2⟩:=ha'
 have s:0 < S64 (a+4294967296)∧a*4294967296 < 4294967297*S64 (a+4294967296):=by
  by_cases h:a+4294967296≤9223372036854775807
  ·rw [qL ⟨by omega,h⟩];omega
  ·have:S64 (a+4294967296)=9223372036854775807:=by unfold S64;rw [if_neg (by omega),if_pos (by omega)]
   rw [this];omega
 refine T.eq (aAr k ha o64) ?_
 have si:=dP (a+4294967296)
 generalize S64 (a+4294967296)=y at *
 refine T.eq (vZ k ha si (by omega)) ?_
 have e:aJT (ab a*4294967296) (ab y) (!(decide (a < 0)==decide (y < 0)))=a*4294967296 / y:=by
  rw [df (show ¬ a < 0 by omega),df (show ¬ y < 0 by omega)]
  unfold aJT ab
  simp only [beq_self_eq_true,Bool.not_true,cond_false]
  rw [if_neg (by omega),if_neg (by omega)]
 rw [e]
 have q1:0≤a*4294967296 / y:=Int.ediv_nonneg (by omega) (by omega)
 have q2:a*4294967296 / y < 4294967297:=Int.ediv_lt_of_lt_mul s.1 s.2
 generalize a*4294967296 / y=q at *
 refine T.eq (qW _ (a:=65535) ⟨by decide,by decide⟩) ?_
 rw [qL (z:=q) ⟨by omega,by omega⟩,show S64 (65535*4294967296)=65535*4294967296 by decide]
 refine T.eq (aDv k (a:=q) (b:=65535*4294967296) ⟨by omega,by omega⟩ ⟨by decide,by decide⟩) (T.eq (aEj _ _) (T.ret ?_))
 rw [show q*(65535*4294967296) / 4294967296=q*65535 by omega,qL ⟨by omega,by omega⟩]
 unfold rg;omega
theorem aLb (k:Nat) (a:Int):T (qQ (k+3) a) rg:=by
 unfold qQ
 refine T.eq (qW _ (a:=32767) ⟨by decide,by decide⟩) ?_
 refine T.bind (P:=fun c => -4294967296≤c∧c≤4294967296) ?_ fun c hc=>?_
 ·unfold vS
  refine T.ret ?_
  unfold fD jH
  constructor <;> (repeat' split) <;> omega
 rw [show S64 (32767*4294967296)=32767*4294967296 by decide]
 refine T.eq (aAr k o64 (b:=c) ⟨by omega,by omega⟩) ?_
 rw [qL (z:=4294967296+c) ⟨by omega,by omega⟩]
 refine T.eq (aDv k (a:=32767*4294967296) (b:=4294967296+c) ⟨by decide,by decide⟩ ⟨by omega,by omega⟩) (T.eq (aEj _ _) (T.ret ?_))
 rw [show 32767*4294967296*(4294967296+c) / 4294967296=32767*(4294967296+c) by omega,qL ⟨by omega,by omega⟩]
 unfold rg;omega
theorem farT' (N:Nat) (a:Int):T (wU N a) rg:=by
 unfold wU
 refine T.eq (aEj N a) (T.ret ?_)
 unfold rg fD jH
 constructor <;> (repeat' split) <;> omega
theorem rg3 {a b c:Int} (ha:rg a) (hb:rg b) (hc:rg c):∀ x∈(#v[a,b,c]:Vector Int 3).toList,rg x:=by
 intro x hx
 simp at hx
 rcases hx with rfl | rfl | rfl
 ·exact ha
 ·exact hb
 ·exact hc
theorem aLO (k:Nat) {v:aA} (hv:vin v):T (pC (k+3) v) (fun r=>∀ x∈r.toList,rg x):=by
 unfold pC
 exact T.bind (aPj k hv.1) fun a ha=>T.bind (aPj k hv.2.1) fun b hb=>T.bind (aPj k hv.2.2) fun c hc=>T.ret (rg3 ha hb hc)
theorem aL9 (k:Nat) (v:aA):T (oO (k+3) v) (fun r=>∀ x∈r.toList,rg x):=by
 unfold oO
 exact T.bind (aLb k v.gX) fun a ha=>T.bind (aLb k v.gY) fun b hb=>T.bind (aLb k v.gZ) fun c hc=>T.ret (rg3 ha hb hc)
theorem unitT (k:Nat) {v:aA} (hv:vin v):T (aAP (k+65) v) vin:=by
 unfold aAP
 refine T.cond (fun _=>T.ret hv) (fun _=>T.bind (aNK k hv) fun r hr=>T.bind (P:=vin) ?_ fun u hu=>T.ret hu)
 unfold wK
 exact T.bind (aDy (k+62) hv.1 hr) fun a ha=>T.bind (aDy (k+62) hv.2.1 hr) fun b hb=>T.bind (aDy (k+62) hv.2.2 hr) fun c hc=>T.ret ⟨ha,hb,hc⟩
theorem aRV (a:Int):rg (I64 (iK .u32 a 65535)):=by
 have e:iK .u32 a 65535=IntKind.u32.wrap ((BitVec.ofInt 32 a &&& BitVec.ofInt 32 65535).toNat:Int):=rfl
 have h:(BitVec.ofInt 32 a &&& BitVec.ofInt 32 65535).toNat≤65535:=by
  rw [BitVec.toNat_and,show (BitVec.ofInt 32 65535).toNat=65535 by decide]
  exact Nat.and_le_right
 generalize (BitVec.ofInt 32 a &&& BitVec.ofInt 32 65535).toNat=m at *
 have w:IntKind.u32.wrap (m:Int)=(m:Int):=by
  show ((BitVec.ofInt 32 (m:Int)).toNat:Int)=(m:Int)
  rw [BitVec.toNat_ofInt]
  omega
 rw [e,w,bV (by omega) (by omega)]
 unfold rg;omega
def smL (s:aE) (l:List aG):Prop:=(1≤l.length∧l.length≤16)∧∀ x∈l,aAK s x∧vin x.gA4
abbrev Px:=Vector Int 3×Int×Int×Vector Int 3×Int×Int
def pxI (p:Px):bT:=bT.mk 1 1 [p.1] [p.2.1] [p.2.2.1] [p.2.2.2.1] [p.2.2.2.2.1] [p.2.2.2.2.2]
def pxOk (n:Nat) (p:Px):Prop:=(∀ x∈p.1.toList,rg x)∧rg p.2.1∧rg p.2.2.1∧(∀ x∈p.2.2.2.1.toList,rg x)∧rg p.2.2.2.2.1∧rg p.2.2.2.2.2∧p.2.2.2.2.1≤(n:Int)∧(p.2.2.2.2.1=0→p.2.1=0∧p.2.2.1=0)
theorem aPp (N:Nat) (hN:20 < N) {s:aE} (hlab:s.gA5.length=s.gL.length) {l:List aG} (h:smL s l):xF N l s=some 0:=by
 obtain ⟨⟨h1,h16⟩,hl⟩:=h
 have main:T (xF N l s) (fun r=>r=0):=by
  unfold xF
  simp only [aR]
  refine T.cond (fun hc=>?_) (fun _=>?_)
  ·exfalso
   rw [show ((l.length:Int)==0)=false from beq_eq_false_iff_ne.2 (by omega),df (show ¬ (l.length:Int) > 16 by omega)] at hc
   cases hc
  ·refine T.bind (P:=fun o=>o=Sum.inl ()) ?_ fun o ho=>by subst ho;exact T.ret rfl
   refine T.loopG0 (n:=l.length) (fun _ (_:Unit)=>True) _ (F:=fun k (_:Unit) i=>rO N l s k i) (fun k _ i hi _ hk=>?_) (fun k _ _=>?_) (by omega) (s:=()) trivial
   ·rw [rO,aR,dt (by omega),cond_true,iT,List.getElem?_eq_getElem hi,Option.bind_some]
    obtain ⟨⟨ho,_⟩,_⟩:=hl _ (List.getElem_mem hi)
    generalize l[i]=x at *
    simp only [aR]
    have e:fD (s.gL.length:Int) (s.gA5.length:Int)=(s.gL.length:Int):=by unfold fD;rw [hlab];split <;> rfl
    rw [e]
    have c1:cond (decide (x.gA0 < -1)) true (decide (x.gA0≥(s.gL.length:Int)))=false:=by
     rcases ho with ⟨h,_⟩ | ⟨⟨h,h'⟩,_⟩
     ·rw [df (show ¬ x.gA0 < -1 by omega),df (show ¬ x.gA0≥(s.gL.length:Int) by omega)];rfl
     ·rw [df (show ¬ x.gA0 < -1 by omega),df (show ¬ x.gA0≥(s.gL.length:Int) by omega)];rfl
    have c2:cond (x.gA8 != 0) (x.gA8 != 1) false=false:=by
     have:x.gA8=0∨x.gA8=1:=by
      rcases ho with ⟨_,h⟩ | ⟨_,h⟩
      ·exact Or.inl h
      ·exact h
     rcases this with h | h <;> rw [h] <;> rfl
    rw [c1,cond_false,c2,Option.bind_some,cond_false,dX (by omega)]
    exact hk () trivial
   ·rw [rO,aR,df (by omega),cond_false];exact T.ret rfl
 obtain ⟨r,e,rfl⟩:=main
 exact e
theorem aSR (N:Nat) (hN:1000 < N) {s:aE} (hid:s.gL.length≤20) (hlab:s.gA5.length=s.gL.length) {l:List aG} (h:smL s l):T (oR N l s) (fun r=>∃ p,pxOk s.gL.length p∧r=(pxI p,0)):=by
 have may:=aPp N (by omega) hlab h
 obtain ⟨⟨h1,h16⟩,hl⟩:=h
 obtain ⟨k,rfl⟩:=nk (show 65≤N by omega)
 unfold oR
 refine T.eq may ?_
 simp only [bne_self_eq_false,cond_false]
 refine T.bind (P:=fun p:aA×aA×Int×Int×Int×Int=>vin p.1∧vin p.2.1∧cG p.2.2.1∧(0≤p.2.2.2.1∧p.2.2.2.1≤(l.length:Int))∧(0≤p.2.2.2.2.1∧p.2.2.2.2.1≤(l.length:Int))∧(p.2.2.2.2.1=0→p.2.2.2.1=0∧p.2.2.2.2.2 < 0)∧(0 < p.2.2.2.2.1→0≤p.2.2.2.2.2∧p.2.2.2.2.2 < (s.gL.length:Int))) ?_ fun p hp=>?_
 ·refine T.loopG0 (n:=l.length) (fun i (p:aA×aA×Int×Int×Int×Int)=>vin p.1∧vin p.2.1∧cG p.2.2.1∧(0≤p.2.2.2.1∧p.2.2.2.1≤(i:Int))∧(0≤p.2.2.2.2.1∧p.2.2.2.2.1≤(i:Int))∧(p.2.2.2.2.1=0→p.2.2.2.1=0∧p.2.2.2.2.2 < 0)∧(0 < p.2.2.2.2.1→0≤p.2.2.2.2.2∧p.2.2.2.2.2 < (s.gL.length:Int))) _ (F:=fun m (p:aA×aA×Int×Int×Int×Int) i=>oF (k+65) l m p.1 p.2.1 p.2.2.1 p.2.2.2.1 p.2.2.2.2.1 p.2.2.2.2.2 i) (fun m p i hi hp hk=>?_) (fun m p hp=>?_) (by omega) (s:=(aA.mk 0 0 0,aA.mk 0 0 0,0,0,0,-1)) ⟨aC9,aC9,z64,⟨by decide,by decide⟩,⟨by decide,by decide⟩,fun _=>⟨rfl,by decide⟩,fun h=>absurd h (by decide)⟩
  ·rw [oF,aR,dt (by omega),cond_true,iT,List.getElem?_eq_getElem hi,Option.bind_some]
   obtain ⟨⟨ho,hd,hn⟩,hcol⟩:=hl _ (List.getElem_mem hi)
   generalize l[i]=x at *
   obtain ⟨p1,p2,p3,⟨p4,p4'⟩,⟨p5,p5'⟩,p6,p7⟩:=hp
   obtain ⟨c,n,d,al,met,fi⟩:=p
   dsimp only at *
   rw [show k+65=(k+62)+3 by omega,aGM (k+62) p1 hcol,Option.bind_some,aGM (k+62) p2 hn,Option.bind_some,aAr (k+62) p3 hd,Option.bind_some]
   have al':0≤x.gA8∧x.gA8≤1:=by
    rcases ho with ⟨_,h⟩ | ⟨_,h | h⟩ <;> omega
   rw [bV (x:=al+x.gA8) (by omega) (by omega),bV (x:=met+1) (by omega) (by omega)]
   by_cases g:x.gA0≥0
   ·have ob:0≤x.gA0∧x.gA0 < (s.gL.length:Int):=by
     rcases ho with ⟨h,_⟩ | ⟨h,_⟩
     ·omega
     ·exact h
    rw [dt g,cond_true]
    by_cases f:fi < 0
    ·rw [dt f,cond_true,Option.bind_some,dX (by omega)]
     exact hk (_,_,_,_,_,_) ⟨tG _ _,tG _ _,dP _,by dsimp only;omega,by dsimp only;omega,fun h=>by dsimp only at h;omega,fun _=>ob⟩
    ·rw [df f,cond_false,Option.bind_some,dX (by omega)]
     refine hk (_,_,_,_,_,_) ⟨tG _ _,tG _ _,dP _,by dsimp only;omega,by dsimp only;omega,fun h=>by dsimp only at h;omega,fun _=>?_⟩
     refine p7 ?_
     by_cases z:met=0
     ·have:=p6 z;omega
     ·omega
   ·have a0:x.gA8=0:=by
     rcases ho with ⟨_,h⟩ | ⟨h,_⟩
     ·exact h
     ·omega
    rw [df g,cond_false,Option.bind_some,dX (by omega),a0]
    exact hk (_,_,_,_,_,_) ⟨tG _ _,tG _ _,dP _,by dsimp only;omega,by dsimp only;omega,fun h=>by have:=p6 h;dsimp only;omega,p7⟩
  ·rw [oF,aR,df (by omega),cond_false];exact T.ret hp
 obtain ⟨p1,p2,p3,⟨p4,p4'⟩,⟨p5,p5'⟩,p6,p7⟩:=hp
 obtain ⟨c,n,d,al,met,fi⟩:=p
 dsimp only at *
 have ln:cG (l.length:Int):=⟨by omega,by omega⟩
 refine T.eq (qW _ ln) (T.bind (aDy (k+62) o64 (dP _)) fun r17 h17=>T.eq (qI (k+62) p1 h17) (T.bind (aLO (k+62) (oD _ _)) fun r19 h19=>?_))
 rw [aR,bV (x:=65535*al) (by omega) (by omega)]
 refine T.eq (aCp .i64 (by omega)) (T.bind (unitT k p2) fun r22 h22=>T.bind (aL9 (k+62) r22) fun r23 h23=>?_)
 have q:0≤Int.tdiv (65535*al) (l.length:Int)∧Int.tdiv (65535*al) (l.length:Int)≤65535∧(al=0→Int.tdiv (65535*al) (l.length:Int)=0):=by
  rw [Int.tdiv_eq_ediv_of_nonneg (by omega)]
  refine ⟨Int.ediv_nonneg (by omega) (by omega),?_,fun h=>by rw [h];simp⟩
  have:65535*al / (l.length:Int) < 65536:=Int.ediv_lt_of_lt_mul (by omega) (by omega)
  omega
 generalize Int.tdiv (65535*al) (l.length:Int)=X at *
 have wX:IntKind.i64.wrap X=X:=bV (by omega) (by omega)
 rw [wX]
 refine T.bind (P:=fun t:List Int×List Int×List Int=>∃ u v w,t=([u],[v],[w])∧rg u∧rg v∧rg w∧v≤(s.gL.length:Int)∧(v=0→X=0∧u=0)) ?_ fun t ht=>?_
 ·rw [aR]
  refine T.cond (fun hc=>?_) (fun hc=>?_)
  ·have m0:=of_decide_eq_true hc
   obtain ⟨f0,f1⟩:=p7 m0
   refine T.eq (qW _ (a:=met) ⟨by omega,by omega⟩) (T.bind (aDy (k+62) p3 (dP _)) fun r27 h27=>T.bind (farT' _ r27) fun r28 h28=>?_)
   refine T.bind (T.inRO (by decide) (by decide)) fun _ _=>T.eq rfl ?_
   simp only [aR]
   rw [bV (x:=fi+1) (by omega) (by omega)]
   refine T.bind (T.idx (by omega) (by omega)) fun e32 _=>?_
   refine T.bind (T.inRO (by decide) (by decide)) fun _ _=>T.eq rfl (T.bind (T.inRO (by decide) (by decide)) fun _ _=>T.eq rfl (T.ret ⟨_,_,_,rfl,h28,?_,aRV _,?_,fun h=>?_⟩))
   ·unfold rg fD;split <;> omega
   ·unfold fD;split <;> omega
   ·exfalso;unfold fD at h;split at h <;> omega
  ·have m0:met=0:=by have:=of_decide_eq_false hc;omega
   exact T.ret ⟨0,0,0,rfl,⟨by decide,by decide⟩,⟨by decide,by decide⟩,⟨by decide,by decide⟩,by omega,fun _=>⟨q.2.2 (p6 m0).1,rfl⟩⟩
 ·obtain ⟨u,v,w,rfl,hu,hv,hw,hvi,hv0⟩:=ht
  refine T.bind (T.lenO rfl) fun _ _=>T.bind (T.lenO rfl) fun _ _=>T.bind (T.lenO rfl) fun _ _=>T.ret ⟨(r19,X,u,r23,v,w),⟨h19,⟨q.1,q.2.1⟩,hu,h23,hv,hw,hvi,hv0⟩,rfl⟩
abbrev C3:=Int×Int×Int
abbrev Pa:=(aG×Int)×C3
def add3 (c d:C3):C3:=(c.1+d.1,c.2.1+d.2.1,c.2.2+d.2.2)
def aJs (f:Nat→C3):Nat→C3
 | 0=>(0,0,0)
 | n+1=>add3 (aJs f n) (f n)
def Cnt (st:aH) (t:Int) (st':aH) (t':Int) (c:C3):Prop:=st'.gG=st.gG∧cV t t' c.1∧cV st.gN st'.gN c.2.1∧cV st.gF st'.gF c.2.2
theorem Cnt.zero (st:aH) (t:Int):Cnt st t st t (0,0,0):=⟨rfl,kC _,kC _,kC _⟩
theorem Cnt.add {st st' st'':aH} {t t' t'':Int} {c d:C3} (h:Cnt st t st' t' c) (h':Cnt st' t' st'' t'' d):Cnt st t st'' t'' (add3 c d):=⟨h'.1.trans h.1,nX h.2.1 h'.2.1,nX h.2.2.1 h'.2.2.1,nX h.2.2.2 h'.2.2.2⟩
def aEl (A:Nat→Nat→Nat→Pa) (x y n:Nat):List aG:=(List.range n).map fun k=>(A x y k).1.1
theorem aOY (A:Nat→Nat→Nat→Pa) (x y n:Nat):aEl A x y (n+1)=aEl A x y n++[(A x y n).1.1]:=by unfold aEl;rw [List.range_succ,List.map_append];rfl
theorem aL8 (A:Nat→Nat→Nat→Pa) (x y n:Nat):(aEl A x y n).length=n:=by unfold aEl;simp
def wO {α:Type} (f:Px→α) (Q:Nat→Nat→Px) (W n:Nat):List α:=(List.range n).map fun j=>f (Q (j % W) (j / W))
theorem uT {α:Type} (f:Px→α) (Q:Nat→Nat→Px) {W x:Nat} (y:Nat) (h:x < W):wO f Q W (y*W+x+1)=wO f Q W (y*W+x)++[f (Q x y)]:=by
 unfold wO
 rw [List.range_succ,List.map_append]
 have e1:(y*W+x) % W=x:=by rw [Nat.add_comm,Nat.add_mul_mod_self_right,Nat.mod_eq_of_lt h]
 have e2:(y*W+x) / W=y:=by rw [Nat.add_comm,Nat.add_mul_div_right _ _ (by omega),Nat.div_eq_of_lt h];omega
 simp only [List.map_cons,List.map_nil,e1,e2]
theorem tK {α:Type} (f:Px→α) (Q:Nat→Nat→Px) (W n:Nat):(wO f Q W n).length=n:=by unfold wO;simp
abbrev Pls:=List (Vector Int 3)×List Int×List Int×List (Vector Int 3)×List Int×List Int
def pls (Q:Nat→Nat→Px) (W n:Nat):Pls:=(wO (·.1) Q W n,wO (·.2.1) Q W n,wO (·.2.2.1) Q W n,wO (·.2.2.2.1) Q W n,wO (·.2.2.2.2.1) Q W n,wO (·.2.2.2.2.2) Q W n)
def aAL (A:Nat→Nat→Nat→Pa) (W S n:Nat):C3:=aJs (fun j=>aJs (fun k=>(A (j % W) (j / W) k).2) S) n
theorem aPo (A:Nat→Nat→Nat→Pa) {W x:Nat} (y S:Nat) (h:x < W):aAL A W S (y*W+x+1)=add3 (aAL A W S (y*W+x)) (aJs (fun k=>(A x y k).2) S):=by
 unfold aAL
 have e1:(y*W+x) % W=x:=by rw [Nat.add_comm,Nat.add_mul_mod_self_right,Nat.mod_eq_of_lt h]
 have e2:(y*W+x) / W=y:=by rw [Nat.add_comm,Nat.add_mul_div_right _ _ (by omega),Nat.div_eq_of_lt h];omega
 conv=>lhs;rw [aJs,e1,e2]
structure Dim (v:aI) (W H S:Nat):Prop where
 w:v.gW=(W:Int)
 h:v.gH=(H:Int)
 s:v.gB2=(S:Int)
 w1:1≤W∧W≤64
 h1:1≤H∧H≤64
 s1:1≤S∧S≤16
theorem dimV {v:aI} (h:aLs v):∃ W H S,Dim v W H S:=by
 obtain ⟨⟨⟨a1,a2⟩,⟨b1,b2⟩,_⟩,⟨s1,s2⟩,_⟩:=h
 exact ⟨v.gW.toNat,v.gH.toNat,v.gB2.toNat,by omega,by omega,by omega,by omega,by omega,by omega⟩
def PxF (N:Nat) (s:aE) (A:Nat→Nat→Nat→Pa) (W H S:Nat) (Q:Nat→Nat→Px):Prop:=∀ x y,x < W→y < H→oR N (aEl A x y S) s=some (pxI (Q x y),0)∧pxOk s.gL.length (Q x y)
theorem pxF (N:Nat) (hN:1000 < N) {s:aE} (hid:s.gL.length≤20) (hlab:s.gA5.length=s.gL.length) {A:Nat→Nat→Nat→Pa} {W H S:Nat} (hS:1≤S∧S≤16) (h:∀ x y k,x < W→y < H→k < S→aAK s (A x y k).1.1∧vin (A x y k).1.1.gA4):∃ Q,PxF N s A W H S Q:=by
 have key:∀ x y,∃ p,x < W→y < H→oR N (aEl A x y S) s=some (pxI p,0)∧pxOk s.gL.length p:=by
  intro x y
  by_cases c:x < W∧y < H
  ·obtain ⟨r,e,p,hp,rfl⟩:=aSR N hN hid hlab (l:=aEl A x y S) ⟨by rw [aL8];exact hS,fun m hm=>by
    unfold aEl at hm
    rw [List.mem_map] at hm
    obtain ⟨k,hk,rfl⟩:=hm
    exact h x y k c.1 c.2 (List.mem_range.1 hk)⟩
   exact ⟨p,fun _ _=>⟨e,hp⟩⟩
  ·exact ⟨(#v[0,0,0],0,0,#v[0,0,0],0,0),fun h1 h2=>absurd ⟨h1,h2⟩ c⟩
 exact ⟨fun x y=>(key x y).choose,fun x y=>(key x y).choose_spec⟩
set_option maxHeartbeats 4000000
def aOO (N:Nat) (b:List (List aD)) (s:aE) (v:aI) (sky:aA) (gl:List aF) (x y z:Int) (a:Pa):Prop:=∀ st t,∃ st' t',eX N b x y z s v sky st (swp gl t)=some (st',swp gl t',a.1.1,a.1.2)∧Cnt st t st' t' a.2
section
variable {N:Nat} (hN:4100 < N) {b:List (List aD)} {s:aE} {v:aI} {sky:aA}
include hN
theorem aSL (hr:Rdy b s v sky) {gl:List aF} (hsw:aJJ s.gK.length gl) (hcon:v.gS=true) (hfit:(s.gI.length:Int)≤(eF v.gJ).2) (hobj:aDE s) {W H S:Nat} (hd:Dim v W H S):∃ A:Nat→Nat→Nat→Pa,∀ x y k,x < W→y < H→k < S→aOO N b s v sky gl x y k (A x y k)∧(aAK s (A x y k).1.1∧vin (A x y k).1.1.gA4)∧exC (A x y k).2.1 ((gl.length:Int)*(1+(eF v.gJ).2)*(v.gM+1))∧exC (A x y k).2.2.1 (4*(v.gM+1))∧exC (A x y k).2.2.2 (v.gM+1):=by
 have key:∀ x y k:Nat,∃ a:Pa,x < W→y < H→k < S→aOO N b s v sky gl x y k a∧(aAK s a.1.1∧vin a.1.1.gA4)∧exC a.2.1 ((gl.length:Int)*(1+(eF v.gJ).2)*(v.gM+1))∧exC a.2.2.1 (4*(v.gM+1))∧exC a.2.2.2 (v.gM+1):=by
  intro x y k
  obtain ⟨a,⟨_,p1,p2⟩,h⟩:=pathS (ι:=aH×Int) hN hr hsw hcon hfit hobj (D:=False) ⟨fun h=>h.elim,fun h=>h.elim,fun h=>h.elim⟩ (x:Int) (y:Int) (k:Int) (fun i=>i.1) (fun i=>i.2)
  refine ⟨a,fun hx hy hk=>⟨fun st t=>?_,?_⟩⟩
  ·obtain ⟨r,e,st',t',rfl,c⟩:=h (st,t)
   exact ⟨st',t',e,c⟩
  ·have z:=p1 ⟨⟨by omega,by rw [hd.w];omega⟩,⟨by omega,by rw [hd.h];omega⟩,by omega,by rw [hd.s];omega⟩
   rcases p2 with ⟨_,q⟩ | q
   ·exact q
   ·rw [z] at q;cases q
 exact ⟨fun x y k=>(key x y k).choose,fun x y k=>(key x y k).choose_spec⟩
theorem sampS {gl:List aF} {A1:List aF} {B1:List aN} {D1:List aP} {e1:Int} {W H S:Nat} (hd:Dim v W H S) {A:Nat→Nat→Nat→Pa} {x y:Nat} (hA:∀ k,k < S→aOO N b s v sky gl x y k (A x y k)) (st:aH) (t:Int) :
  T (mX N v (A1,B1,D1,b,sky,gl,e1) (x:Int) (y:Int) s N [] st (swp gl t) 0) (fun r=>r.1=aEl A x y S∧∃ t',r.2.2=swp gl t'∧Cnt st t r.2.1 t' (aJs (fun k=>(A x y k).2) S)):=by
 have s1:=hd.s1
 refine T.loopG0 (n:=S) (fun k (q:List aG×aH×Int)=>q.1=aEl A x y k∧Cnt st t q.2.1 q.2.2 (aJs (fun k=>(A x y k).2) k)) _ (F:=fun m (q:List aG×aH×Int) i=>mX N v (A1,B1,D1,b,sky,gl,e1) (x:Int) (y:Int) s m q.1 q.2.1 (swp gl q.2.2) i) (fun m q i hi hq hk=>?_) (fun m q hq=>?_) (by omega) (s:=([],st,t)) ⟨rfl,Cnt.zero _ _⟩
 ·rw [mX,aR,dt (show (i:Int) < v.gB2 by rw [hd.s];omega),cond_true]
  obtain ⟨st',t',e,c⟩:=hA i hi q.2.1 q.2.2
  refine T.eq e (T.eq (fK (by rw [hq.1];simp [aL8];omega)) ?_)
  rw [dX (by omega)]
  exact hk (_,st',t') ⟨by rw [hq.1,aOY],hq.2.add c⟩
 ·rw [mX,aR,df (show ¬ (S:Int) < v.gB2 by rw [hd.s];omega),cond_false]
  exact T.ret ⟨hq.1,_,rfl,hq.2⟩
theorem rowS {gl:List aF} {A1:List aF} {B1:List aN} {D1:List aP} {e1:Int} {W H S:Nat} (hd:Dim v W H S) {A:Nat→Nat→Nat→Pa} {Q:Nat→Nat→Px} (hQ:PxF N s A W H S Q) {y:Nat} (hy:y < H) (hA:∀ x k,x < W→k < S→aOO N b s v sky gl x y k (A x y k)) (st0:aH) (t0:Int) {p:Pls} (hp:p=pls Q W (y*W)) {st:aH} {t:Int} (hc:Cnt st0 t0 st t (aAL A W S (y*W))) :
  T (mR N v (A1,B1,D1,b,sky,gl,e1) (y:Int) s N p.1 p.2.1 p.2.2.1 p.2.2.2.1 p.2.2.2.2.1 p.2.2.2.2.2 s st (swp gl t) 0) (fun r=>(r.1,r.2.1,r.2.2.1,r.2.2.2.1,r.2.2.2.2.1,r.2.2.2.2.2.1)=pls Q W ((y+1)*W)∧r.2.2.2.2.2.2.1=s∧∃ t',r.2.2.2.2.2.2.2.2=swp gl t'∧Cnt st0 t0 r.2.2.2.2.2.2.2.1 t' (aAL A W S ((y+1)*W))):=by
 have hw1:=hd.w1
 have s1:=hd.s1
 have h1:=hd.h1
 have yw:y*W≤4096:=Nat.le_trans (Nat.mul_le_mul (show y≤64 by omega) hw1.2) (by decide)
 have e2:(y+1)*W=y*W+W:=Nat.succ_mul _ _
 rw [e2]
 refine T.loopG0 (n:=W) (fun i (q:Pls×aH×Int)=>q.1=pls Q W (y*W+i)∧Cnt st0 t0 q.2.1 q.2.2 (aAL A W S (y*W+i))) _ (F:=fun m (q:Pls×aH×Int) i=>mR N v (A1,B1,D1,b,sky,gl,e1) (y:Int) s m q.1.1 q.1.2.1 q.1.2.2.1 q.1.2.2.2.1 q.1.2.2.2.2.1 q.1.2.2.2.2.2 s q.2.1 (swp gl q.2.2) i) (fun m q i hi hq hk=>?_) (fun m q hq=>?_) (by omega) (s:=(p,st,t)) ⟨hp,hc⟩
 ·rw [mR,dt (show (i:Int) < v.gW by rw [hd.w];omega),cond_true]
  refine T.bind (sampS hN hd (fun k hk'=>hA i k hi hk') q.2.1 q.2.2) fun r hr=>?_
  obtain ⟨hr1,t',hr2,hr3⟩:=hr
  obtain ⟨l,st',fd⟩:=r
  dsimp only at hr1 hr2 hr3
  subst hr1 hr2
  obtain ⟨e,_⟩:=hQ i y hi hy
  refine T.eq e ?_
  obtain ⟨⟨b0,a0,d0,n0,s0,l0⟩,st1,t1⟩:=q
  obtain ⟨hq1,hq2⟩:=hq
  unfold pls at hq1
  simp only [Prod.mk.injEq] at hq1
  obtain ⟨rfl,rfl,rfl,rfl,rfl,rfl⟩:=hq1
  refine T.eq (fK (by simp [tK,pxI];omega)) (T.eq (fK (by simp [tK,pxI];omega)) (T.eq (fK (by simp [tK,pxI];omega)) (T.eq (fK (by simp [tK,pxI];omega)) (T.eq (fK (by simp [tK,pxI];omega)) (T.eq (fK (by simp [tK,pxI];omega)) ?_)))))
  rw [dX (by omega)]
  refine hk ((_,_,_,_,_,_),st',t') ⟨?_,?_⟩
  ·unfold pls
   rw [show y*W+(i+1)=y*W+i+1 from rfl,uT _ Q y hi,uT _ Q y hi,uT _ Q y hi,uT _ Q y hi,uT _ Q y hi,uT _ Q y hi]
   rfl
  ·rw [show y*W+(i+1)=y*W+i+1 from rfl,aPo A y S hi]
   exact hq2.add hr3
 ·rw [mR,df (show ¬ (W:Int) < v.gW by rw [hd.w];omega),cond_false]
  exact T.ret ⟨hq.1,rfl,_,rfl,hq.2⟩
theorem rowsS {gl:List aF} {A1:List aF} {B1:List aN} {D1:List aP} {e1:Int} {W H S:Nat} (hd:Dim v W H S) {A:Nat→Nat→Nat→Pa} {Q:Nat→Nat→Px} (hQ:PxF N s A W H S Q) (hA:∀ x y k,x < W→y < H→k < S→aOO N b s v sky gl x y k (A x y k)) (st0:aH) (t0:Int) :
  T (mP N v (A1,B1,D1,b,sky,gl,e1) s N [] [] [] [] [] [] s.gK s.gA1 s.gQ s.gI s.gL s.gA5 s.gA9 s.gB5 s.gTo st0 (swp gl t0) 0) (fun r=>(r.1,r.2.1,r.2.2.1,r.2.2.2.1,r.2.2.2.2.1,r.2.2.2.2.2.1)=pls Q W (H*W)∧r.2.2.2.2.2.2.1=s∧∃ t',r.2.2.2.2.2.2.2.2=swp gl t'∧Cnt st0 t0 r.2.2.2.2.2.2.2.1 t' (aAL A W S (H*W))):=by
 have h1:=hd.h1
 refine T.loopG0 (n:=H) (fun i (q:Pls×aE×aH×Int)=>q.1=pls Q W (i*W)∧q.2.1=s∧Cnt st0 t0 q.2.2.1 q.2.2.2 (aAL A W S (i*W))) _ (F:=fun m (q:Pls×aE×aH×Int) i=>mP N v (A1,B1,D1,b,sky,gl,e1) s m q.1.1 q.1.2.1 q.1.2.2.1 q.1.2.2.2.1 q.1.2.2.2.2.1 q.1.2.2.2.2.2 q.2.1.gK q.2.1.gA1 q.2.1.gQ q.2.1.gI q.2.1.gL q.2.1.gA5 q.2.1.gA9 q.2.1.gB5 q.2.1.gTo q.2.2.1 (swp gl q.2.2.2) i) (fun m q i hi hq hk=>?_) (fun m q hq=>?_) (by omega) (s:=(([],[],[],[],[],[]),s,st0,t0)) ⟨by rw [Nat.zero_mul];rfl,rfl,by rw [Nat.zero_mul];exact Cnt.zero _ _⟩
 ·rw [mP,dt (show (i:Int) < v.gH by rw [hd.h];omega),cond_true]
  obtain ⟨p,sc,st,t⟩:=q
  obtain ⟨hp,hsc,hc⟩:=hq
  dsimp only at hp hsc hc
  subst hsc
  refine T.bind (rowS hN hd hQ hi (fun x k hx hk'=>hA x i k hx hi hk') st0 t0 hp hc) fun r hr=>?_
  obtain ⟨hr1,hr2,t',hr3,hr4⟩:=hr
  obtain ⟨b1,a1,d1,n1,c1,l1,sc,st1,fd⟩:=r
  dsimp only at hr1 hr2 hr3 hr4
  subst hr2 hr3
  rw [dX (by omega)]
  exact hk ((b1,a1,d1,n1,c1,l1),sc,st1,t') ⟨hr1,rfl,hr4⟩
 ·rw [mP,df (show ¬ (H:Int) < v.gH by rw [hd.h];omega),cond_false]
  exact T.ret ⟨hq.1,hq.2.1,_,rfl,hq.2.2⟩
end
def aNl (N:Nat) (b:List (List aD)) (s:aE) (v:aI) (sky:aA) (bv:aX) (gl:List aF) (x y z:Int) (a:Pa):Prop:=∀ st t,∃ st' t',fQ N b x y z s v sky st (wlk bv gl t)=some (st',wlk bv gl t',a.1.1,a.1.2)∧Cnt st t st' t' a.2
section
variable {N:Nat} (hN:1000000000000 < N) {b:List (List aD)} {s:aE} {v:aI} {sky:aA}
include hN
theorem aSn (hr:Rdy b s v sky) {bv:aX} {gl:List aF} (hbv:aBS gl.length bv) (hgl:gl=s.gK) (htr:wJ gl bv) (hcon:v.gS=false) (hfit:(s.gI.length:Int)≤(eF v.gJ).2) (hobj:aDE s) {W H S:Nat} (hd:Dim v W H S):∃ A:Nat→Nat→Nat→Pa,∀ x y k,x < W→y < H→k < S→aNl N b s v sky bv gl x y k (A x y k)∧(aAK s (A x y k).1.1∧vin (A x y k).1.1.gA4)∧amC (A x y k).2.1 ((3*(gl.length:Int))*(1+(eF v.gJ).2)*(v.gM+1))∧amC (A x y k).2.2.1 (4*(v.gM+1))∧aNE (A x y k).2.2.2 (v.gM+1):=by
 have key:∀ x y k:Nat,∃ a:Pa,x < W→y < H→k < S→aNl N b s v sky bv gl x y k a∧(aAK s a.1.1∧vin a.1.1.gA4)∧amC a.2.1 ((3*(gl.length:Int))*(1+(eF v.gJ).2)*(v.gM+1))∧amC a.2.2.1 (4*(v.gM+1))∧aNE a.2.2.2 (v.gM+1):=by
  intro x y k
  obtain ⟨a,⟨_,p1,p2⟩,h⟩:=pathW (ι:=aH×Int) hN hr hbv hgl htr hcon hfit hobj (D:=False) ⟨fun h=>h.elim,fun h=>h.elim,fun h=>h.elim⟩ (x:Int) (y:Int) (k:Int) (fun i=>i.1) (fun i=>i.2)
  refine ⟨a,fun hx hy hk=>⟨fun st t=>?_,?_⟩⟩
  ·obtain ⟨r,e,st',t',rfl,c⟩:=h (st,t)
   exact ⟨st',t',e,c⟩
  ·have z:=p1 ⟨⟨by omega,by rw [hd.w];omega⟩,⟨by omega,by rw [hd.h];omega⟩,by omega,by rw [hd.s];omega⟩
   rcases p2 with ⟨_,q⟩ | q
   ·exact q
   ·rw [z] at q;cases q
 exact ⟨fun x y k=>(key x y k).choose,fun x y k=>(key x y k).choose_spec⟩
theorem sampW {bv:aX} {gl:List aF} {A1:List aF} {B1:List aN} {D1:List aP} {bv1:aX} {wv:aL} {e1:Int} {W H S:Nat} (hd:Dim v W H S) {A:Nat→Nat→Nat→Pa} {x y:Nat} (hA:∀ k,k < S→aNl N b s v sky bv gl x y k (A x y k)) (st:aH) (t:Int) :
  T (lM N v (A1,B1,D1,b,sky,bv1,wv,e1) (x:Int) (y:Int) s N [] st (wlk bv gl t) 0) (fun r=>r.1=aEl A x y S∧∃ t',r.2.2=wlk bv gl t'∧Cnt st t r.2.1 t' (aJs (fun k=>(A x y k).2) S)):=by
 have s1:=hd.s1
 refine T.loopG0 (n:=S) (fun k (q:List aG×aH×Int)=>q.1=aEl A x y k∧Cnt st t q.2.1 q.2.2 (aJs (fun k=>(A x y k).2) k)) _ (F:=fun m (q:List aG×aH×Int) i=>lM N v (A1,B1,D1,b,sky,bv1,wv,e1) (x:Int) (y:Int) s m q.1 q.2.1 (wlk bv gl q.2.2) i) (fun m q i hi hq hk=>?_) (fun m q hq=>?_) (by omega) (s:=([],st,t)) ⟨rfl,Cnt.zero _ _⟩
 ·rw [lM,aR,dt (show (i:Int) < v.gB2 by rw [hd.s];omega),cond_true]
  obtain ⟨st',t',e,c⟩:=hA i hi q.2.1 q.2.2
  refine T.eq e (T.eq (fK (by rw [hq.1];simp [aL8];omega)) ?_)
  rw [dX (by omega)]
  exact hk (_,st',t') ⟨by rw [hq.1,aOY],hq.2.add c⟩
 ·rw [lM,aR,df (show ¬ (S:Int) < v.gB2 by rw [hd.s];omega),cond_false]
  exact T.ret ⟨hq.1,_,rfl,hq.2⟩
theorem rowW {bv:aX} {gl:List aF} {A1:List aF} {B1:List aN} {D1:List aP} {bv1:aX} {wv:aL} {e1:Int} {W H S:Nat} (hd:Dim v W H S) {A:Nat→Nat→Nat→Pa} {Q:Nat→Nat→Px} (hQ:PxF N s A W H S Q) {y:Nat} (hy:y < H) (hA:∀ x k,x < W→k < S→aNl N b s v sky bv gl x y k (A x y k)) (st0:aH) (t0:Int) {p:Pls} (hp:p=pls Q W (y*W)) {st:aH} {t:Int} (hc:Cnt st0 t0 st t (aAL A W S (y*W))) :
  T (lP N v (A1,B1,D1,b,sky,bv1,wv,e1) (y:Int) s N p.1 p.2.1 p.2.2.1 p.2.2.2.1 p.2.2.2.2.1 p.2.2.2.2.2 s st (wlk bv gl t) 0) (fun r=>(r.1,r.2.1,r.2.2.1,r.2.2.2.1,r.2.2.2.2.1,r.2.2.2.2.2.1)=pls Q W ((y+1)*W)∧r.2.2.2.2.2.2.1=s∧∃ t',r.2.2.2.2.2.2.2.2=wlk bv gl t'∧Cnt st0 t0 r.2.2.2.2.2.2.2.1 t' (aAL A W S ((y+1)*W))):=by
 have hw1:=hd.w1
 have s1:=hd.s1
 have h1:=hd.h1
 have yw:y*W≤4096:=Nat.le_trans (Nat.mul_le_mul (show y≤64 by omega) hw1.2) (by decide)
 have e2:(y+1)*W=y*W+W:=Nat.succ_mul _ _
 rw [e2]
 refine T.loopG0 (n:=W) (fun i (q:Pls×aH×Int)=>q.1=pls Q W (y*W+i)∧Cnt st0 t0 q.2.1 q.2.2 (aAL A W S (y*W+i))) _ (F:=fun m (q:Pls×aH×Int) i=>lP N v (A1,B1,D1,b,sky,bv1,wv,e1) (y:Int) s m q.1.1 q.1.2.1 q.1.2.2.1 q.1.2.2.2.1 q.1.2.2.2.2.1 q.1.2.2.2.2.2 s q.2.1 (wlk bv gl q.2.2) i) (fun m q i hi hq hk=>?_) (fun m q hq=>?_) (by omega) (s:=(p,st,t)) ⟨hp,hc⟩
 ·rw [lP,dt (show (i:Int) < v.gW by rw [hd.w];omega),cond_true]
  refine T.bind (sampW hN hd (fun k hk'=>hA i k hi hk') q.2.1 q.2.2) fun r hr=>?_
  obtain ⟨hr1,t',hr2,hr3⟩:=hr
  obtain ⟨l,st',fd⟩:=r
  dsimp only at hr1 hr2 hr3
  subst hr1 hr2
  obtain ⟨e,_⟩:=hQ i y hi hy
  refine T.eq e ?_
  obtain ⟨⟨b0,a0,d0,n0,s0,l0⟩,st1,t1⟩:=q
  obtain ⟨hq1,hq2⟩:=hq
  unfold pls at hq1
  simp only [Prod.mk.injEq] at hq1
  obtain ⟨rfl,rfl,rfl,rfl,rfl,rfl⟩:=hq1
  refine T.eq (fK (by simp [tK,pxI];omega)) (T.eq (fK (by simp [tK,pxI];omega)) (T.eq (fK (by simp [tK,pxI];omega)) (T.eq (fK (by simp [tK,pxI];omega)) (T.eq (fK (by simp [tK,pxI];omega)) (T.eq (fK (by simp [tK,pxI];omega)) ?_)))))
  rw [dX (by omega)]
  refine hk ((_,_,_,_,_,_),st',t') ⟨?_,?_⟩
  ·unfold pls
   rw [show y*W+(i+1)=y*W+i+1 from rfl,uT _ Q y hi,uT _ Q y hi,uT _ Q y hi,uT _ Q y hi,uT _ Q y hi,uT _ Q y hi]
   rfl
  ·rw [show y*W+(i+1)=y*W+i+1 from rfl,aPo A y S hi]
   exact hq2.add hr3
 ·rw [lP,df (show ¬ (W:Int) < v.gW by rw [hd.w];omega),cond_false]
  exact T.ret ⟨hq.1,rfl,_,rfl,hq.2⟩
theorem rowsW {bv:aX} {gl:List aF} {A1:List aF} {B1:List aN} {D1:List aP} {bv1:aX} {wv:aL} {e1:Int} {W H S:Nat} (hd:Dim v W H S) {A:Nat→Nat→Nat→Pa} {Q:Nat→Nat→Px} (hQ:PxF N s A W H S Q) (hA:∀ x y k,x < W→y < H→k < S→aNl N b s v sky bv gl x y k (A x y k)) (st0:aH) (t0:Int) :
  T (lG N v (A1,B1,D1,b,sky,bv1,wv,e1) s N [] [] [] [] [] [] s.gK s.gA1 s.gQ s.gI s.gL s.gA5 s.gA9 s.gB5 s.gTo st0 (wlk bv gl t0) 0) (fun r=>(r.1,r.2.1,r.2.2.1,r.2.2.2.1,r.2.2.2.2.1,r.2.2.2.2.2.1)=pls Q W (H*W)∧r.2.2.2.2.2.2.1=s∧∃ t',r.2.2.2.2.2.2.2.2=wlk bv gl t'∧Cnt st0 t0 r.2.2.2.2.2.2.2.1 t' (aAL A W S (H*W))):=by
 have h1:=hd.h1
 refine T.loopG0 (n:=H) (fun i (q:Pls×aE×aH×Int)=>q.1=pls Q W (i*W)∧q.2.1=s∧Cnt st0 t0 q.2.2.1 q.2.2.2 (aAL A W S (i*W))) _ (F:=fun m (q:Pls×aE×aH×Int) i=>lG N v (A1,B1,D1,b,sky,bv1,wv,e1) s m q.1.1 q.1.2.1 q.1.2.2.1 q.1.2.2.2.1 q.1.2.2.2.2.1 q.1.2.2.2.2.2 q.2.1.gK q.2.1.gA1 q.2.1.gQ q.2.1.gI q.2.1.gL q.2.1.gA5 q.2.1.gA9 q.2.1.gB5 q.2.1.gTo q.2.2.1 (wlk bv gl q.2.2.2) i) (fun m q i hi hq hk=>?_) (fun m q hq=>?_) (by omega) (s:=(([],[],[],[],[],[]),s,st0,t0)) ⟨by rw [Nat.zero_mul];rfl,rfl,by rw [Nat.zero_mul];exact Cnt.zero _ _⟩
 ·rw [lG,dt (show (i:Int) < v.gH by rw [hd.h];omega),cond_true]
  obtain ⟨p,sc,st,t⟩:=q
  obtain ⟨hp,hsc,hc⟩:=hq
  dsimp only at hp hsc hc
  subst hsc
  refine T.bind (rowW hN hd hQ hi (fun x k hx hk'=>hA x i k hx hi hk') st0 t0 hp hc) fun r hr=>?_
  obtain ⟨hr1,hr2,t',hr3,hr4⟩:=hr
  obtain ⟨b1,a1,d1,n1,c1,l1,sc,st1,fd⟩:=r
  dsimp only at hr1 hr2 hr3 hr4
  subst hr2 hr3
  rw [dX (by omega)]
  exact hk ((b1,a1,d1,n1,c1,l1),sc,st1,t') ⟨hr1,rfl,hr4⟩
 ·rw [lG,df (show ¬ (H:Int) < v.gH by rw [hd.h];omega),cond_false]
  exact T.ret ⟨hq.1,hq.2.1,_,rfl,hq.2.2⟩
end
def aHT (Q:Nat→Nat→Px) (W H:Nat):bT:=bT.mk W H (pls Q W (H*W)).1 (pls Q W (H*W)).2.1 (pls Q W (H*W)).2.2.1 (pls Q W (H*W)).2.2.2.1 (pls Q W (H*W)).2.2.2.2.1 (pls Q W (H*W)).2.2.2.2.2
def img0 : bT:=bT.mk 0 0 [] [] [] [] [] []
theorem filmE {N:Nat} {s:aE} {v:aI} {e:Int} (h:jQ N s v=some (.inl e)) (he:e≠0):lS N s v=some (img0,aH.mk 0 0 0,e):=by
 unfold lS
 rw [h,Option.bind_some]
 simp only [nS,show (e != 0)=true by simpa using he,cond_true]
 rfl
theorem filmS {N:Nat} (hN:4100 < N) {s:aE} {v:aI} {r:(List aF)×(List aN)×(List aP)×(List (List aD))×aA×(List aF)×Int} (e:jQ N s v=some (.inr (.inr (.inl r)))) (hn:newS s v r) {W H S:Nat} (hd:Dim v W H S) {A:Nat→Nat→Nat→Pa} {Q:Nat→Nat→Px} (hQ:PxF N s A W H S Q) (hA:∀ x y k,x < W→y < H→k < S→aOO N r.2.2.2.1 s v r.2.2.2.2.1 r.2.2.2.2.2.1 x y k (A x y k)) :
  ∃ st' t',Cnt (aH.mk 0 0 0) 0 st' t' (aAL A W S (H*W))∧lS N s v=some (aHT Q W H,aH.mk t' st'.gN st'.gF,0):=by
 obtain ⟨A1,B1,D1,b,sky,gl,e1⟩:=r
 obtain ⟨rfl,rfl,rfl,_,_,he,_⟩:=hn
 dsimp only at he hA
 subst he
 obtain ⟨q,eq,hq1,hq2,t',hq3,hq4⟩:=rowsS hN (A1:=s.gK) (B1:=s.gA1) (D1:=s.gI) (e1:=0) hd hQ hA (aH.mk 0 0 0) 0
 obtain ⟨b1,a1,d1,n1,c1,l1,sc,st1,fd⟩:=q
 dsimp only at hq1 hq2 hq3 hq4
 subst hq2 hq3
 refine ⟨st1,t',hq4,?_⟩
 unfold pls at hq1
 simp only [Prod.mk.injEq] at hq1
 obtain ⟨rfl,rfl,rfl,rfl,rfl,rfl⟩:=hq1
 unfold lS
 rw [e,Option.bind_some]
 simp only [nS,bne_self_eq_false,cond_false]
 have q':(swp gl 0)=aJ.mk (jW.mk 0) true gl:=rfl
 rw [← q',eq,Option.bind_some]
 show Option.bind (jD N b sc v sky st1 (swp gl t')) _=_
 unfold jD aHT pls
 rw [hd.w,hd.h]
 rfl
theorem filmW {N:Nat} (hN:1000000000000 < N) {s:aE} {v:aI} {r:(List aF)×(List aN)×(List aP)×(List (List aD))×aA×aX×aL×Int} (e:jQ N s v=some (.inr (.inr (.inr (.inr r))))) (hn:newW s v r) {W H S:Nat} (hd:Dim v W H S) {A:Nat→Nat→Nat→Pa} {Q:Nat→Nat→Px} (hQ:PxF N s A W H S Q) (hA:∀ x y k,x < W→y < H→k < S→aNl N r.2.2.2.1 s v r.2.2.2.2.1 r.2.2.2.2.2.1 s.gK x y k (A x y k)) :
  ∃ st' t',Cnt (aH.mk 0 0 0) 0 st' t' (aAL A W S (H*W))∧lS N s v=some (aHT Q W H,aH.mk t' st'.gN st'.gF,0):=by
 obtain ⟨A1,B1,D1,b,sky,bv,w,e1⟩:=r
 obtain ⟨rfl,rfl,rfl,_,⟨_,hw⟩,he,_⟩:=hn
 dsimp only at he hA hw
 subst he hw
 obtain ⟨q,eq,hq1,hq2,t',hq3,hq4⟩:=rowsW hN (A1:=s.gK) (B1:=s.gA1) (D1:=s.gI) (bv1:=bv) (wv:=aL.mk bv true s.gK 0) (e1:=0) hd hQ hA (aH.mk 0 0 0) 0
 obtain ⟨b1,a1,d1,n1,c1,l1,sc,st1,fd⟩:=q
 dsimp only at hq1 hq2 hq3 hq4
 subst hq2 hq3
 refine ⟨st1,t',hq4,?_⟩
 unfold pls at hq1
 simp only [Prod.mk.injEq] at hq1
 obtain ⟨rfl,rfl,rfl,rfl,rfl,rfl⟩:=hq1
 unfold lS
 rw [e,Option.bind_some]
 simp only [nS,bne_self_eq_false,cond_false]
 have q':(wlk bv sc.gK 0)=aL.mk bv true sc.gK 0:=rfl
 rw [q'] at eq
 rw [eq,Option.bind_some]
 show Option.bind (kM N b sc v sky st1 (wlk bv sc.gK t')) _=_
 unfold kM aHT pls
 rw [hd.w,hd.h]
 rfl
theorem filmT (N:Nat) (hN:1000000000000 < N) (s:aE) (v:aI) (h:few s) (hid:s.gL.length≤20):T (lS N s v) (fun r=>(r.2.2≠0∧r.1=img0∧r.2.1=aH.mk 0 0 0)∨(r.2.2=0∧∃ W H S,Dim v W H S∧∃ Q A,PxF N s A W H S Q∧r.1=aHT Q W H)):=by
 obtain ⟨q,e,hq⟩:=newT N (by omega) s v h
 rcases q with e' | r | r | r | r
 ·exact ⟨_,filmE e hq.1,Or.inl ⟨hq.1,rfl,rfl⟩⟩
 ·exact hq.elim
 ·obtain ⟨hn,nv,_⟩:=hq
  have hn0:=hn
  obtain ⟨ck,_⟩:=aNG nv
  obtain ⟨ho,hlab⟩:=aRr N (by omega) h ck
  obtain ⟨_,_,_,hr,hsw,he,hcon,hlen,hfit,_⟩:=hn
  obtain ⟨W,H,S,hd⟩:=dimV hr.view
  obtain ⟨A,hA⟩:=aSL (N:=N) (by omega) hr hsw hcon hfit.2 ho hd
  obtain ⟨Q,hQ⟩:=pxF N (by omega) hid hlab hd.s1 fun x y k hx hy hk=>(hA x y k hx hy hk).2.1
  obtain ⟨st',t',_,er⟩:=filmS (by omega) e hn0 hd hQ fun x y k hx hy hk=>(hA x y k hx hy hk).1
  exact ⟨_,er,Or.inr ⟨rfl,W,H,S,hd,Q,A,hQ,rfl⟩⟩
 ·exact hq.elim
 ·obtain ⟨hn,nv,_⟩:=hq
  have hn0:=hn
  obtain ⟨ck,hfit⟩:=aNG nv
  obtain ⟨ho,hlab⟩:=aRr N (by omega) h ck
  obtain ⟨_,_,_,hr,⟨hb,_⟩,he,hcon,ht⟩:=hn
  obtain ⟨W,H,S,hd⟩:=dimV hr.view
  obtain ⟨A,hA⟩:=aSn hN hr hb rfl ht hcon hfit.2 ho hd
  obtain ⟨Q,hQ⟩:=pxF N (by omega) hid hlab hd.s1 fun x y k hx hy hk=>(hA x y k hx hy hk).2.1
  obtain ⟨st',t',_,er⟩:=filmW hN e hn0 hd hQ fun x y k hx hy hk=>(hA x y k hx hy hk).1
  exact ⟨_,er,Or.inr ⟨rfl,W,H,S,hd,Q,A,hQ,rfl⟩⟩
theorem aNP {α:Type} (f:Px→α) (Q:Nat→Nat→Px) {W n j:Nat} (h:j < n):idx (wO f Q W n) (j:Int)=some (f (Q (j % W) (j / W))):=by
 unfold wO
 rw [iT,List.getElem?_map,List.getElem?_range h];rfl
theorem rgL (N:Nat) (l:List Int) (h:∀ x∈l,rg x) (hl:l.length < 100) (hN:100 < N):dH N l N 0=some (Sum.inl ()):=by
 have main:T (dH N l N 0) (fun o=>o=Sum.inl ()):=by
  refine T.loopG0 (n:=l.length) (fun _ (_:Unit)=>True) _ (F:=fun k (_:Unit) i=>dH N l k i) (fun k _ i hi _ hk=>?_) (fun k _ _=>?_) (by omega) (s:=()) trivial
  ·have hx:=h _ (List.getElem_mem hi)
   rw [dH,aR,dt (by omega),cond_true,iT,List.getElem?_eq_getElem hi,Option.bind_some]
   unfold rg at hx
   rw [aR,df (show ¬ l[i] < 0 by omega),df (show ¬ l[i] > 65535 by omega),dX (by omega)]
   exact hk () trivial
  ·rw [dH,aR,df (by omega),cond_false];exact T.ret rfl
 obtain ⟨r,e,rfl⟩:=main
 exact e
theorem aSd (N:Nat) (v:aI):rA N v=some (aI.mk (fD v.gW 3) (fD v.gH 3) (fD v.gB2 2) (fD v.gM 3) v.gJ v.gC5 v.gC8 v.gS):=rfl
theorem aS4 (N:Nat) (hN:1000000000000 < N) (hw:jK N=some true) (s:aE) (v:aI):kE N s v=some true:=by
 have main:T (kE N s v) (fun r=>r=true):=by
  unfold kE
  refine T.bind (fewT2 N (by omega) s) fun r1 h0=>T.eq (aSd N v) ?_
  obtain ⟨h1,_,_,hid⟩:=h0
  generalize hv2:aI.mk (fD v.gW 3) (fD v.gH 3) (fD v.gB2 2) (fD v.gM 3) v.gJ v.gC5 v.gC8 v.gS=v2
  have v3:v2.gW≤3∧v2.gH≤3:=by subst hv2;dsimp only;unfold fD;constructor <;> split <;> omega
  refine T.bind (P:=fun r=>(r.2.2≠0∧r.1=img0)∨(r.2.2=0∧∃ W H S,Dim v2 W H S∧∃ Q A,PxF N r1 A W H S Q∧r.1=aHT Q W H)) ?_ fun r hr=>?_
  ·unfold xR
   refine T.bind (filmT N hN r1 v2 h1 hid) fun r hr=>T.bind (P:=fun _=>True) (T.cond (fun _=>T.ret trivial) (fun _=>T.ret trivial)) fun p _=>T.ret ?_
   rcases hr with ⟨a,b,_⟩ | hr
   ·exact Or.inl ⟨a,b⟩
   ·exact Or.inr hr
  ·obtain ⟨im,n,er⟩:=r
   dsimp only at hr ⊢
   rcases hr with ⟨a,rfl⟩ | ⟨rfl,W,H,S,hd,Q,A,hQ,rfl⟩
   ·rw [show (er != 0)=true by simpa using a,cond_true]
    have same:aAh N img0 (bT.mk 0 0 [] [] [] [] [] [])=some true:=by
     obtain ⟨k,rfl⟩:=nk (show 5≤N by omega)
     rfl
    rw [same,Option.bind_some,cond_true,hw]
    exact ⟨true,rfl,rfl⟩
   ·have w1:=hd.w1
    have h1':=hd.h1
    have cW:(W:Int)≤3∧(H:Int)≤3:=by rw [← hd.w,← hd.h];exact v3
    have m:I64 (v2.gW*v2.gH)=((H*W:Nat):Int):=by
     rw [hd.w,hd.h,← Int.natCast_mul,Nat.mul_comm]
     have:H*W≤3*3:=Nat.mul_le_mul (by omega) (by omega)
     exact bV (by omega) (by omega)
    have mW:I64 ((W:Int)*(H:Int))=((H*W:Nat):Int):=by rw [← hd.w,← hd.h];exact m
    have hm:H*W≤9:=Nat.mul_le_mul (show H≤3 by omega) (show W≤3 by omega)
    have m0:0 < H*W:=Nat.mul_pos (by omega) (by omega)
    generalize hM:H*W=M at *
    simp only [bne_self_eq_false,cond_false,aR,mW,aHT,pls,tK,hd.w,hd.h,hM]
    refine T.bind (P:=fun o=>o=Sum.inl ()) ?_ fun o ho=>?_
    rotate_left
    ·subst ho;show T (Option.bind (jK N) _) _;rw [hw];exact ⟨true,rfl,rfl⟩
    refine T.loopG0 (n:=M) (fun _ (_:Unit)=>True) _ (F:=fun k (_:Unit) i=>fG N v2 (bT.mk W H (wO (·.1) Q W M) (wO (·.2.1) Q W M) (wO (·.2.2.1) Q W M) (wO (·.2.2.2.1) Q W M) (wO (·.2.2.2.2.1) Q W M) (wO (·.2.2.2.2.2) Q W M),n,0) r1 k i) (fun k _ i hi _ hk=>?_) (fun k _ _=>?_) (by omega) (s:=()) trivial
    ·have lx:i % W < W:=Nat.mod_lt _ (by omega)
     have ly:i / W < H:=by rw [Nat.div_lt_iff_lt_mul (by omega)];omega
     obtain ⟨_,q1,q2,q3,q4,q5,q6,q7,q8⟩:=hQ _ _ lx ly
     rw [fG]
     simp only [m,aR]
     rw [dt (show (i:Int) < (M:Int) by omega),cond_true]
     try dsimp only
     simp only [aNP _ Q hi,Option.bind_some]
     generalize Q (i % W) (i / W)=p at *
     have sl:∀ u:Vector Int 3,vU u.toList 0 3=some u.toList:=fun u=>by
      rw [aES (by decide) (by decide) (by simp)]
      congr 1
      rw [List.take_of_length_le (by simp)];rfl
     rw [sl,Option.bind_some,fK (by simp),Option.bind_some,sl,Option.bind_some,fK (by simp),Option.bind_some]
     rw [rgL N _ (fun x hx=>by
      simp only [List.mem_append,List.mem_cons,List.not_mem_nil,or_false] at hx
      rcases hx with (((rfl | rfl | rfl | rfl) | hx) | hx)
      ·exact q2
      ·exact q3
      ·exact q5
      ·exact q6
      ·exact q1 x hx
      ·exact q4 x hx) (by simp) (by omega),Option.bind_some]
     dsimp only [nS]
     rw [df (show ¬ p.2.2.2.2.1 > (r1.gL.length:Int) by omega),cond_false]
     have fin:(cond (p.2.2.2.2.1==0) (cond (p.2.1 != 0) (some true) (some (p.2.2.1 != 0))) (some false))=some false:=by
      by_cases z:p.2.2.2.2.1=0
      ·obtain ⟨z1,z2⟩:=q8 z
       rw [z,z1,z2];rfl
      ·rw [show (p.2.2.2.2.1==0)=false by simpa using z];rfl
     rw [fin,Option.bind_some,cond_false,dX (by omega)]
     exact hk () trivial
    ·rw [fG]
     simp only [m,aR]
     rw [df (show ¬ (M:Int) < (M:Int) by omega),cond_false]
     exact T.ret rfl
 obtain ⟨r,e,rfl⟩:=main
 exact e
end Go.UK
