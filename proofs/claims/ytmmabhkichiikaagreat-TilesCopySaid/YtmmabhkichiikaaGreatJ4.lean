/- A part of the proof: what the functions of the program compute. -/
import Derived.Test.YtmmabhkichiikaaGreatJ3
open BitVec renaming ofInt→be
open Int renaming ediv_lt_of_lt_mul→j6,ediv_nonneg→ci,eq_ofNat_of_zero_le→bm,le_refl→fc,mul_add→dv,mul_le_mul_of_nonneg_left→gt,mul_nonneg→dk,mul_one→eu,mul_zero→fo,tdiv→d6,toNat_natCast→bn
open List renaming getElem?_eq_getElem→af,getElem?_eq_none→cw,getElem?_eq_some_iff→ff,getElem_mem→bj,length_drop→ik,length_take→bo,map_append→dh,mem_append→ba,mem_of_getElem?→az
open Option renaming bind→aa,bind_some→ae
namespace Go.UK
open Go Go.Proofs
set_option maxRecDepth 20000
set_option maxHeartbeats 2000000
set_option linter.all false
theorem TU.map{ι ρ α β:Type}{f:ι->Option ρ}{P:α->Prop}{P':β->Prop}{S:ι->α->ρ->Prop}{S':ι->β->ρ->Prop}(h:TU f P S)(g:α->β)(hp:∀a,P a->P' (g a))(hs:∀i a r,P a->S i a r->S' i (g a) r):TU f P' S':=by
 obtain⟨a,pa,h⟩:=h;refine⟨g a,hp a pa,λi=>?_⟩
 obtain⟨r,e,s⟩:=h i;exact⟨r,e,hs i a r pa s⟩
theorem aEC(a k:Int):cZ a (I64 (a+k)) k:=⟨bE (aLO _) (aLU _),λ_=>cL _⟩
def exC(c n:Int):Prop:=c=n
def amC(c n:Int):Prop:=0<=c/\c<=n
theorem aQH{a b n m:Int}(h:exC a n)(h':exC b m):exC (a+b) (n+m):=by unfold exC at *;omega
theorem aPQ{a b n m:Int}(h:amC a n)(h':amC b m):amC (a+b) (n+m):=by unfold amC at *;omega
theorem aJP{a n m:Int}(h:exC a n)(e:n=m):exC a m:=e▸h
theorem aJ2{a n m:Int}(h:amC a n)(e:n=m):amC a m:=e▸h
theorem aNZ{a n m:Int}(h:amC a n)(e:n<=m):amC a m:=by unfold amC at *;omega
theorem aSq : exC 0 0:=rfl
theorem aM2 : amC 0 0:=⟨fc _,fc _⟩
def wt(d:List aX):Nat->Int->Nat
 | 0,_=>0
 | k+1,e=>match d[e.toNat]? with
  | none=>0
  | some nd=>if 0<=nd.gB1 then 1+wt d k nd.gB1+wt d k nd.gB3 else 1+nd.gC2.toNat
def aKi(n:Nat)(d:List aX):Prop:=∀i,(h:i < d.length)->aKq n d.length i d[i]
theorem aTX{n:Nat}{d:List aX}(hd:aKi n d):∀(k:Nat) (e:Int),0<=e->d.length<=e.toNat+k->wt d (k+1) e=wt d k e:=by
 intro k
 induction k with
 | zero=>
  intro e h0 h;unfold wt;rw[cw (by omega)]
 | succ k ih=>
  intro e h0 h;rw[wt,wt]
  by_cases c:e.toNat < d.length
  ·rw[af c]
   have g:=hd _ c;dsimp only;split
   ·rename_i h2;have:=g.1 h2;rw[ih _ (by omega) (by omega),ih _ (by omega) (by omega)]
   ·rfl
  ·rw[cw (by omega)]
def wk1(d:List aX)(e:Int):Nat:=wt d d.length e
theorem aMM{n:Nat}{d:List aX}(hd:aKi n d){e:Int}(h0:0<=e)(h:e.toNat < d.length)(hl:0<=d[e.toNat].gB1):wk1 d e=1+wk1 d d[e.toNat].gB1+wk1 d d[e.toNat].gB3:=by
 have g:=(hd _ h).1 hl;obtain⟨m,hm⟩:∃m,d.length=m+1:=⟨d.length - 1,by omega⟩
 unfold wk1;rw[hm]
 conv=>lhs;rw[wt]
 rw[af h]
 dsimp only;rw[if_pos hl,aTX hd m _ (by omega) (by omega),aTX hd m _ (by omega) (by omega)]
theorem aL1{n:Nat}{d:List aX}(hd:aKi n d){e:Int}(h0:0<=e)(h:e.toNat < d.length)(hl:¬0<=d[e.toNat].gB1):wk1 d e=1+d[e.toNat].gC2.toNat:=by
 obtain⟨m,hm⟩:∃m,d.length=m+1:=⟨d.length - 1,by omega⟩
 unfold wk1;rw[hm,wt,af h]
 dsimp only;rw[if_neg hl]
theorem aLr{n:Nat}{d:List aX}(hd:aKi n d){e:Int}(h0:0<=e)(h:e.toNat < d.length):1<=wk1 d e:=by
 by_cases c:0<=d[e.toNat].gB1
 ·rw[aMM hd h0 h c];omega
 ·rw[aL1 hd h0 h c];omega
def wW1(b:bD)(l:List Int):Nat:=(l.map (wk1 b.gA8)).sum
theorem zM(b:bD)(x y:List Int):wW1 b (x++y)=wW1 b x+wW1 b y:=by unfold wW1;rw[dh,List.sum_append]
theorem aC2(b:bD)(x:Int):wW1 b [x]=wk1 b.gA8 x:=by unfold wW1;simp
theorem aQF(b:bD)(x y:Int):wW1 b [x,y]=wk1 b.gA8 x+wk1 b.gA8 y:=by unfold wW1;simp
theorem aIQ{n:Nat}{b:bD}(hd:aKi n b.gA8){l:List Int}(h:aR2 b l):l.length<=wW1 b l:=by
 induction l with
 | nil=>exact Nat.zero_le _
 | cons x l ih=>
  have h1:=ih λy hy=>h y (List.mem_cons_of_mem _ hy)
  have h2:=h x (List.mem_cons_self ..)
  have h3:=aLr hd (e:=x) h2.1 (by omega)
  have:wW1 b (x :: l)=wW1 b [x]+wW1 b l:=zM b [x] l;rw[this,aC2,List.length_cons]
  omega
theorem aUf{n:Nat}{d:List aX}(hd:aKi n d){R:List aJ}{o:List Int}{D:Int->Prop}{i:Int}{f c:Nat}{L:List aW}(h:Cv R o d D i f c L):L=[]->0<=i->wk1 d i+1<=3*c/\1<=c:=by
 induction h with
 | pend=>intro e;cases e
 | leaf i f c nd _ h2 h3 h4 h5 _ _=>
  intro _ h0;obtain⟨q,e⟩:=ff.1 h2;have g:=(hd _ q).2 (by rw[e];exact h3)
  rw[e] at g;have w:=aL1 hd h0 q (by rw[e];omega)
  rw[e] at w;omega
 | node i f c1 c2 nd L1 L2 _ h2 h3 _ _ _ _ i1 i2=>
  intro e h0;obtain⟨e1,e2⟩:=List.append_eq_nil_iff.1 e;obtain⟨q,e'⟩:=ff.1 h2;have g:=(hd _ q).1 (by rw[e'];exact h3)
  rw[e'] at g;have w:=aMM hd h0 q (by rw[e'];exact h3)
  rw[e'] at w;have a1:=i1 e1 (by omega)
  have a2:=i2 e2 (by omega)
  omega
theorem aQM{gl:List aJ}{b:bD}(hb:aCe gl.length b)(ht:zD gl b):wk1 b.gA8 0<=3*gl.length:=by
 rcases ht with ⟨_,h2⟩ | ⟨_,_,h3⟩
 ·rw[h2];exact Nat.zero_le _
 ·have:=aUf (d:=b.gA8) hb.2.2.2 h3 rfl (by decide)
  omega
theorem aWL{ι:Type}(N:Nat)(hN:100 < N){b:bD}{gl:List aJ}(h20:gl.length<=20)(o d:aB)(m s:Int)(t0:ι->Int){l:List Int}(hl:ord gl.length l)(hl':l.length<=20)(t:ι->Int){mt:aR}{x:Int}(hm:x < (gl.length:Int)/\rO mt) :
  TU (λi=>dM N l o d m s (wlk b gl (t0 i)) N (t i) mt x 0) (λa:aR×Int=>a.2 < (gl.length:Int)/\rO a.1) (λi a r=>∃t',r=(t',a)/\cZ (t i) t' (l.length:Int)):=by
 refine TU.loop0 (n:=l.length) (λj (s:aR×Int) (t':ι->Int)=>(s.2 < (gl.length:Int)/\rO s.1)/\∀i,cZ (t i) (t' i) (j:Int)) (F:=λi k t' (x:aR×Int) j=>dM N l o d m s (wlk b gl (t0 i)) k t' x.1 x.2 j) (λk t' x j hj hx hk=>?_) (λk t' x hx=>?_) (by omega) (s:=(mt,x)) (h:=t) ⟨hm,λi=>lQ _⟩
 ·obtain⟨hx,hu⟩:=hx;simp only[dM,aP,dt (show(j:Int) < (l.length:Int) by omega),cond_true,fX,af hj,ae]
  have he:=hl _ (bj hj)
  generalize l[j]=e at *;obtain⟨a,a1,a3⟩:=aQA N (by omega) b o d m s he;have a3':∀i,dE N o d m s e (aM.mk (wlk b gl (t0 i)).gT (wlk b gl (t0 i)).gA (wlk b gl (t0 i)).gl (I64 (t' i+1)))=some a:=λi=>a3 _;simp only[a3',ae]
  refine TU.t (P:=λp:aR×aR×Int=>p.2.2 < (gl.length:Int)/\rO p.1) ?_ λp hp=>?_
  ·refine T.bind (P:=λ_=>True) ?_ λp33 _=>T.cond (λ_=>T.ret ⟨he.2,a1⟩) (λ_=>T.ret hx)
   refine T.cond (λ_=>T.cond (λ_=>T.ret trivial) (λ_=>T.bind (aRY N a1 hx.2) λr34 _=>T.cond (λ_=>T.ret trivial) (λ_=>T.cond (λ_=>T.bind (aRY N hx.2 a1) λ_ _=>T.ret trivial) (λ_=>T.ret trivial)))) (λ_=>T.ret trivial)
  ·rw[eZ (by omega)]
   exact hk (p.1,p.2.2) (λi=>I64 (t' i+1)) ⟨hp,λi=>aED (hu i)⟩
 ·simp only[dM,aP,df (show ¬(l.length:Int) < (l.length:Int) by omega),cond_false]
  exact TU.ret x hx.1 λi=>⟨t' i,rfl,hx.2 i⟩
theorem aWG{ι:Type}(N:Nat)(hN:100 < N){b:bD}{gl:List aJ}(hb:aCe gl.length b)(h20:gl.length<=20)(o:aB){d:aB}(hd:pin d)(m s:Int)(t0:ι->Int):∀(k:Nat) (st:List Int) (t:ι->Int) (mt:aR) (x:Int) (l:Nat),l<=st.length->aR2 b (st.take l)->wW1 b (st.take l) < k->wW1 b (st.take l) < 1000000000000->(x < (gl.length:Int)/\rO mt) ->
  TU (λi=>dO N (wlk b gl (t0 i)) o d m s k st (t i) mt x l) (λa:(aR×Int)×Int=>(a.1.2 < (gl.length:Int)/\rO a.1.1)/\amC a.2 (wW1 b (st.take l):Int)) (λi a r=>∃t' st',r=(st',t',a.1)/\cZ (t i) t' a.2):=by
 obtain⟨b1,b2,b3,b4⟩:=hb;intro k
 induction k with
 | zero=>intro st t mt x l _ _ h;omega
 | succ k ih=>
  intro st t mt x l hl hn hw hw' hm;simp only[dO,aP]
  have lenT:(st.take l).length=l:=by rw[bo];omega
  have wl:=aIQ b4 hn;rw[lenT] at wl;refine TU.cond (λhc=>?_) (λhc=>?_)
  ·obtain⟨l,rfl⟩:∃l',l=l'+1:=⟨l - 1,by have:=of_decide_eq_true hc;omega⟩
   have im:I64 (((l+1:Nat):Int) - 1)=(l:Int):=by rw[bE (by omega) (by omega)];omega
   simp only[im,bn]
   obtain⟨e,et⟩:∃e,st[l]? = some e:=⟨_,af (by omega)⟩
   have hs:=aCY et;rw[hs] at hn hw hw';rw[zM b,aC2] at hw hw';have he:=hn e (by simp)
   have hn':aR2 b (st.take l):=λy hy=>hn y (by simp[hy])
   have wl':=aIQ b4 hn';rw[show(st.take l).length=l by rw[bo];omega] at wl';refine TU.t (T.inRS (by omega) (by omega) (by omega)) λ_ _=>TU.e (λi=>et) ?_;have hidx:e.toNat < b.gA8.length:=by omega
   have w1:=aLr b4 he.1 hidx;have wi:=aMM b4 he.1 hidx;have wl3:=aL1 b4 he.1 hidx;rw[hs,zM b,aC2]
   refine TU.e (a:=b.gA8[e.toNat]) (λi=>aKe he.1 hidx) ?_;have gd:=b4 e.toNat hidx;generalize b.gA8[e.toNat]=nd at *;refine TU.t (T.slcG (by omega) (by omega) (by omega) (by omega) (Or.inl rfl)) λ_ _=>TU.t (aUx N (by omega) nd.gLo nd.gHi o hd) λr18 h18=>?_;refine TU.t (P:=λ_=>True) ?_ λp19 _=>?_
   ·refine T.cond (λ_=>T.ret trivial) (λ_=>T.cond (λ_=>T.bind (aGi N ⟨hm.2.1,hm.2.2.1⟩ h18) λ_ _=>T.ret trivial) (λ_=>T.ret trivial))
   refine TU.cond (λ_=>?_) (λ_=>TU.cond (λhc=>?_) (λhc=>?_))
   ·exact(ih st (λi=>I64 (t i+1)) mt x l (by omega) hn' (by omega) (by omega) hm).map (λa=>(a.1,1+a.2)) (λ_ h=>⟨h.1,by have:=h.2;unfold amC at *;omega⟩) λi a r _ h=>by obtain⟨t',st',e,u⟩:=h;exact⟨t',st',e,pG (aEC _ 1) u⟩
   ·have g:=gd.1 (of_decide_eq_true hc)
    have w2:=wi (of_decide_eq_true hc)
    have w3:=aQF b nd.gB3 nd.gB1;refine TU.t (T.appG (by omega) (show(l+2)*8<=140737488355328 by omega)) λz hz=>?_;subst hz;have tk:(wT st l [nd.gB3,nd.gB1]).take (l+2)=st.take l++[nd.gB3,nd.gB1]:=aGu st l [_,_] (by omega)
    refine(ih _ (λi=>I64 (t i+1)) mt x (l+2) (aL0 st l [_,_] (by omega)) ?_ ?_ ?_ hm).map (λa=>(a.1,1+a.2)) (λ_ h=>⟨h.1,by have:=h.2;rw[tk,zM b] at this;unfold amC at *;omega⟩) λi a r _ h=>by obtain⟨t',st',e,u⟩:=h;exact⟨t',st',e,pG (aEC _ 1) u⟩
    ·rw[tk]
     intro y hy;rw[ba] at hy;rcases hy with hy | hy
     ·exact hn' y hy
     ·simp at hy;rcases hy with rfl | rfl <;> omega
    ·rw[tk,zM b];omega
    ·rw[tk,zM b];omega
   ·have g:=gd.2 (by have:=of_decide_eq_false hc;omega)
    rw[bE (x:=nd.gC7+nd.gC2) (by omega) (by omega)]
    refine TU.t (T.slcN (l:=b.gD2) g.1 (by omega) (by omega)) λs23 h23=>?_;refine TU.bind (aWL N hN h20 o d m s t0 (λy hy=>b1 y (h23.2.1 y hy)) (by omega) (λi=>I64 (t i+1)) hm) λa ha r hr=>?_;have h':∃t':ι->Int,∀i,r i=(t' i,a)/\cZ (I64 (t i+1)) (t' i) (s23.length:Int):=⟨λi=>(hr i).choose,λi=>(hr i).choose_spec⟩
    obtain⟨t',e'⟩:=h';simp only[λi=>(e' i).1]
    have wlf:=wl3 (by have:=of_decide_eq_false hc;omega)
    have sl:s23.length<=nd.gC2.toNat:=by rw[h23.1,ik,bo];omega
    exact(ih st t' a.1 a.2 l (by omega) hn' (by omega) (by omega) ha).map (λa=>(a.1,1+(s23.length:Int)+a.2)) (λ_ h=>⟨h.1,by have:=h.2;unfold amC at *;omega⟩) λi a r _ h=>by obtain⟨t2,st',e,u⟩:=h;exact⟨t2,st',e,pG (pG (aEC _ 1) (e' i).2) u⟩
  ·exact TU.ret ((mt,x),0) ⟨hm,by unfold amC;omega⟩ λi=>⟨_,_,rfl,lQ _⟩
theorem aR5{ι:Type}(N:Nat)(hN:1000000000000 < N){b:bD}{gl:List aJ}(hb:aCe gl.length b)(ht:zD gl b)(h20:gl.length<=20)(o d:aB)(m s:Int)(t:ι->Int) :
  TU (λi=>jR N o d m s (wlk b gl (t i))) (λa:(Int×aR)×Int=>(a.1.1 < (gl.length:Int)/\rO a.1.2)/\amC a.2 (3*(gl.length:Int))) (λi a r=>∃t',r=(t',a.1)/\cZ (t i) t' a.2):=by
 unfold jR kY;simp only[show ∀t,(wlk b gl t).gT=b from λ_=>rfl,show ∀t,(wlk b gl t).gA=true from λ_=>rfl,show ∀t,(wlk b gl t).gD3=t from λ_=>rfl,ae,aP]
 refine TU.t (P:=λp=>p=false->pin d/\0 < b.gA8.length) ?_ λp1 h1=>TU.cond (λ_=>TU.ret ((-1,aR.mk 0 0 0 0),0) ⟨⟨by dsimp only;omega,aEh⟩,by unfold amC;omega⟩ λi=>⟨_,rfl,lQ _⟩) (λhc=>?_)
 ·refine T.cond (λ_=>T.ret λh=>by cases h) (λhc=>T.bind (aSL N o d) λr4 h4=>T.ret λe=>⟨aIk (h4 (by simpa using e)).2.1 (by decide),?_⟩)
  have:((b.gA8.length:Int)==0)=false:=hc;have:(b.gA8.length:Int)≠0:=by simpa using this
  omega
 ·obtain⟨hd,h0⟩:=h1 hc;have wr:=aQM hb ht;have w0:wW1 b ([0].take 1)=wk1 b.gA8 0:=by rw[show([0]:List Int).take 1=[0] from rfl,aC2]
  refine TU.bind (aWG N (by omega) hb h20 o hd m s t N [0] t (aR.mk 0 0 0 0) (-1) 1 (by simp) ?_ ?_ ?_ ⟨by omega,aEh⟩) λa ha r hr=>?_
  ·intro x hx;have:x=0:=by simpa using hx
   subst this;omega
  ·rw[w0];omega
  ·rw[w0];omega
  ·refine TU.ret ((a.1.2,a.1.1),a.2) ⟨ha.1,by have:=ha.2;rw[w0] at this;unfold amC at *;omega⟩ λi=>?_;obtain⟨t',st',e,u⟩:=hr i;rw[e]
   exact⟨t',rfl,u⟩
theorem anyK2{ι:Type}(N:Nat)(hN:100 < N){b:bD}{gl:List aJ}(o d:aB)(m s:Int)(w:Bool)(t0:ι->Int){l:List Int}(hl:ord gl.length l)(hl':l.length<=20)(t:ι->Int) :
  TU (λi=>eU N l o d m s (wlk b gl (t0 i)) w N (t i) 0) (λa:Bool×Int=>amC a.2 (l.length:Int)) (λi a r=>∃t',r=cond a.1 (Sum.inr (t',true)) (Sum.inl t')/\cZ (t i) t' a.2):=by
 refine TU.loop0 (n:=l.length) (λj (_:Unit) (t':ι->Int)=>∀i,cZ (t i) (t' i) (j:Int)) (F:=λi k t' (x:Unit) j=>eU N l o d m s (wlk b gl (t0 i)) w k t' j) (λk t' x j hj hx hk=>?_) (λk t' x hx=>?_) (by omega) (s:=()) (h:=t) λi=>lQ _
 ·simp only[eU,aP,dt (show(j:Int) < (l.length:Int) by omega),cond_true,fX,af hj,ae]
  have he:=hl _ (bj hj)
  generalize l[j]=e at *;obtain⟨a,a1,a3⟩:=aQA N (by omega) b o d m s he;have a3':∀i,dE N o d m s e (aM.mk (wlk b gl (t0 i)).gT (wlk b gl (t0 i)).gA (wlk b gl (t0 i)).gl (I64 (t' i+1)))=some a:=λi=>a3 _;simp only[a3',ae]
  refine TU.t (P:=λ_=>True) (T.cond (λ_=>T.ret trivial) (λ_=>T.ret trivial)) λp24 _=>?_;refine TU.cond (λ_=>TU.ret (true,((j+1:Nat):Int)) (by unfold amC;dsimp only;omega) λi=>⟨_,rfl,aED (hx i)⟩) (λ_=>?_)
  rw[eZ (by omega)]
  exact hk () (λi=>I64 (t' i+1)) λi=>aED (hx i)
 ·simp only[eU,aP,df (show ¬(l.length:Int) < (l.length:Int) by omega),cond_false]
  exact TU.ret (false,(l.length:Int)) (by unfold amC;dsimp only;omega) λi=>⟨t' i,rfl,hx i⟩
theorem anyK1{ι:Type}(N:Nat)(hN:100 < N){b:bD}{gl:List aJ}(hb:aCe gl.length b)(h20:gl.length<=20)(o:aB){d:aB}(hd:pin d)(m s:Int)(w:Bool)(t0:ι->Int):∀(k:Nat) (st:List Int) (t:ι->Int) (l:Nat),l<=st.length->aR2 b (st.take l)->wW1 b (st.take l) < k->wW1 b (st.take l) < 1000000000000 ->
  TU (λi=>eX N (wlk b gl (t0 i)) o d m s w k st (t i) l) (λa:Bool×Int=>amC a.2 (wW1 b (st.take l):Int)) (λi a r=>∃t' st',r=cond a.1 (Sum.inr (t',true)) (Sum.inl (st',t'))/\cZ (t i) t' a.2):=by
 obtain⟨b1,b2,b3,b4⟩:=hb;intro k
 induction k with
 | zero=>intro st t l _ _ h;omega
 | succ k ih=>
  intro st t l hl hn hw hw';simp only[eX,aP]
  have lenT:(st.take l).length=l:=by rw[bo];omega
  have wl:=aIQ b4 hn;rw[lenT] at wl;refine TU.cond (λhc=>?_) (λhc=>?_)
  ·obtain⟨l,rfl⟩:∃l',l=l'+1:=⟨l - 1,by have:=of_decide_eq_true hc;omega⟩
   have im:I64 (((l+1:Nat):Int) - 1)=(l:Int):=by rw[bE (by omega) (by omega)];omega
   simp only[im,bn]
   obtain⟨e,et⟩:∃e,st[l]? = some e:=⟨_,af (by omega)⟩
   have hs:=aCY et;rw[hs] at hn hw hw';rw[zM b,aC2] at hw hw';have he:=hn e (by simp)
   have hn':aR2 b (st.take l):=λy hy=>hn y (by simp[hy])
   have wl':=aIQ b4 hn';rw[show(st.take l).length=l by rw[bo];omega] at wl';refine TU.t (T.inRS (by omega) (by omega) (by omega)) λ_ _=>TU.e (λi=>et) ?_;have hidx:e.toNat < b.gA8.length:=by omega
   have w1:=aLr b4 he.1 hidx;have wi:=aMM b4 he.1 hidx;have wl3:=aL1 b4 he.1 hidx;rw[hs,zM b,aC2]
   refine TU.e (a:=b.gA8[e.toNat]) (λi=>aKe he.1 hidx) ?_;have gd:=b4 e.toNat hidx;generalize b.gA8[e.toNat]=nd at *;refine TU.t (T.slcG (by omega) (by omega) (by omega) (by omega) (Or.inl rfl)) λ_ _=>TU.t (aUx N (by omega) nd.gLo nd.gHi o hd) λr18 h18=>?_;refine TU.cond (λ_=>?_) (λ_=>TU.cond (λhc=>?_) (λhc=>?_))
   ·exact(ih st (λi=>I64 (t i+1)) l (by omega) hn' (by omega) (by omega)).map (λa=>(a.1,1+a.2)) (λ_ h=>by unfold amC at *;dsimp only;omega) λi a r _ h=>by obtain⟨t',st',e,u⟩:=h;exact⟨t',st',e,pG (aEC _ 1) u⟩
   ·have g:=gd.1 (of_decide_eq_true hc)
    have w2:=wi (of_decide_eq_true hc)
    have w3:=aQF b nd.gB3 nd.gB1;refine TU.t (T.appG (by omega) (show(l+2)*8<=140737488355328 by omega)) λz hz=>?_;subst hz;have tk:(wT st l [nd.gB3,nd.gB1]).take (l+2)=st.take l++[nd.gB3,nd.gB1]:=aGu st l [_,_] (by omega)
    refine(ih _ (λi=>I64 (t i+1)) (l+2) (aL0 st l [_,_] (by omega)) ?_ ?_ ?_).map (λa=>(a.1,1+a.2)) (λ_ h=>by rw[tk,zM b] at h;unfold amC at *;dsimp only;omega) λi a r _ h=>by obtain⟨t',st',e,u⟩:=h;exact⟨t',st',e,pG (aEC _ 1) u⟩
    ·rw[tk]
     intro y hy;rw[ba] at hy;rcases hy with hy | hy
     ·exact hn' y hy
     ·simp at hy;rcases hy with rfl | rfl <;> omega
    ·rw[tk,zM b];omega
    ·rw[tk,zM b];omega
   ·have g:=gd.2 (by have:=of_decide_eq_false hc;omega)
    rw[bE (x:=nd.gC7+nd.gC2) (by omega) (by omega)]
    refine TU.t (T.slcN (l:=b.gD2) g.1 (by omega) (by omega)) λs23 h23=>?_;refine TU.bind (anyK2 N hN o d m s w t0 (λy hy=>b1 y (h23.2.1 y hy)) (by omega) (λi=>I64 (t i+1))) λa ha r hr=>?_;have h':∃t':ι->Int,∀i,r i=cond a.1 (Sum.inr (t' i,true)) (Sum.inl (t' i))/\cZ (I64 (t i+1)) (t' i) a.2:=⟨λi=>(hr i).choose,λi=>(hr i).choose_spec⟩
    obtain⟨t',e'⟩:=h';simp only[λi=>(e' i).1]
    have wlf:=wl3 (by have:=of_decide_eq_false hc;omega)
    have sl:s23.length<=nd.gC2.toNat:=by rw[h23.1,ik,bo];omega
    obtain⟨a,ac⟩:=a;cases a with
    | true=>exact TU.ret (true,1+ac) (by unfold amC at *;dsimp only at *;omega) λi=>⟨t' i,[],rfl,pG (aEC _ 1) (e' i).2⟩
    | false=>exact(ih st t' l (by omega) hn' (by omega) (by omega)).map (λa=>(a.1,1+ac+a.2)) (λ_ h=>by unfold amC at *;dsimp only at *;omega) λi a r _ h=>by obtain⟨t2,st',e,u⟩:=h;exact⟨t2,st',e,pG (pG (aEC _ 1) (e' i).2) u⟩
  ·exact TU.ret (false,0) (by unfold amC;dsimp only;omega) λi=>⟨_,_,rfl,lQ _⟩
theorem anyK{ι:Type}(N:Nat)(hN:1000000000000 < N){b:bD}{gl:List aJ}(hb:aCe gl.length b)(ht:zD gl b)(h20:gl.length<=20)(o d:aB)(m s:Int)(w:Bool)(t:ι->Int) :
  TU (λi=>jN N o d m s w (wlk b gl (t i))) (λa:Bool×Int=>amC a.2 (3*(gl.length:Int))) (λi a r=>∃t',r=(t',a.1)/\cZ (t i) t' a.2):=by
 unfold jN kY;simp only[show ∀t,(wlk b gl t).gT=b from λ_=>rfl,show ∀t,(wlk b gl t).gA=true from λ_=>rfl,show ∀t,(wlk b gl t).gD3=t from λ_=>rfl,ae,aP]
 refine TU.t (P:=λp=>p=false->pin d/\0 < b.gA8.length) ?_ λp1 h1=>TU.cond (λ_=>TU.ret (false,0) (by unfold amC;dsimp only;omega) λi=>⟨_,rfl,lQ _⟩) (λhc=>?_)
 ·refine T.cond (λ_=>T.ret λh=>by cases h) (λhc=>T.bind (aSL N o d) λr4 h4=>T.ret λe=>⟨aIk (h4 (by simpa using e)).2.1 (by decide),?_⟩)
  have:((b.gA8.length:Int)==0)=false:=hc;have:(b.gA8.length:Int)≠0:=by simpa using this
  omega
 ·obtain⟨hd,h0⟩:=h1 hc;have wr:=aQM hb ht;have w0:wW1 b ([0].take 1)=wk1 b.gA8 0:=by rw[show([0]:List Int).take 1=[0] from rfl,aC2]
  refine TU.bind (anyK1 N (by omega) hb h20 o hd m s w t N [0] t 1 (by simp) ?_ ?_ ?_) λa ha r hr=>?_
  ·intro x hx;have:x=0:=by simpa using hx
   subst this;omega
  ·rw[w0];omega
  ·rw[w0];omega
  ·rw[w0] at ha;have h':∃t':ι->Int×List Int,∀i,r i=cond a.1 (Sum.inr ((t' i).1,true)) (Sum.inl ((t' i).2,(t' i).1))/\cZ (t i) (t' i).1 a.2:=⟨λi=>((hr i).choose,(hr i).choose_spec.choose),λi=>(hr i).choose_spec.choose_spec⟩
   obtain⟨t',e'⟩:=h';simp only[λi=>(e' i).1]
   obtain⟨a,ac⟩:=a;have hc:amC ac (3*(gl.length:Int)):=by unfold amC at *;dsimp only at *;omega
   cases a with
   | true=>exact TU.ret (true,ac) hc λi=>⟨_,rfl,(e' i).2⟩
   | false=>exact TU.ret (false,ac) hc λi=>⟨_,rfl,(e' i).2⟩
def aBs(s:aE)(m:aG):Prop:=((m.gA2 = -1/\m.gA0=0)\/((0<=m.gA2/\m.gA2 < (s.gJ.length:Int))/\(m.gA0=0\/m.gA0=1)))/\cG m.gG/\vin m.gB6
def aE8(s:aE):Prop:=∀t∈s.gQ,0<=t.gA2/\t.gA2 < (s.gJ.length:Int)
theorem sm0(s:aE):aBs s (aG.mk (aA.mk 0 0 0) 0 0 (aA.mk 0 0 0) (-1)):=⟨Or.inl ⟨rfl,rfl⟩,z64,z64,z64,z64⟩
def aPt(c n:Int):Prop:=1<=c/\c<=n
theorem c04 : amC 0 4:=⟨by decide,by decide⟩
theorem c44 : amC 4 4:=⟨by decide,by decide⟩
set_option maxHeartbeats 4000000
section
variable {ι:Type} {N:Nat} (hN:4100 < N) {b:List (List aC)} {s:aE} {v:aF} {sky:aA} (hr:Rdy b s v sky)
structure DrkS(D:Prop)(s:aE)(sky:aA):Prop where
 sky:D->sky=v0
 lights:D->s.gM=[]
 mats:D->∀m∈s.gB0,m.gA9≠4
include hN
theorem aK6(x:Int)(ray:ι->aN)(f l:ι->aA)(dep:Int)(ov:ι->Bool)(sm:ι->aG)(st:ι->aH)(src:aD)(sw:ι->aL) :
  TC (λi=>dD N b x (ray i) (f i) (l i) dep (ov i) (sm i) s v sky (st i) src (sw i)) (λ_=>True):=by
 obtain⟨a,e,_⟩:=aUy N (by omega) dep x src;refine⟨(a.1,a.2),trivial,λi=>?_⟩
 unfold dD;rw[e];rfl
theorem addS(D:Prop){c:List aA}(hc:∀x∈c,vin x)(hl:c.length<=2)(ray:ι->aN){f l:aA}(hf:vin f)(hlv:vin l)(hd:D->l=v0/\c=[v0])(dep:Int)(ov:Bool)(sm:ι->aG)(st:ι->aH)(src:ι->aD)(sw:ι->aL) :
  TC (λi=>iQ N b c (ray i) f l dep ov (sm i) s v sky (st i) (src i) (sw i)) (λr=>vin r/\(D->r=v0)):=by
 unfold iQ;refine TC.cond (λ_=>?_) (λ_=>TC.ret _ ⟨hlv,λh=>(hd h).1⟩)
 refine TC.t (P:=λz=>z=[f]++c) ⟨_,dQ (by simp;omega),rfl⟩ λz hz=>?_;subst hz;refine TC.t (P:=λr=>vin r/\(D->r=v0)) ?_ λr2 h2=>?_
 ·by_cases hD:D
  ·rw[(hd hD).2]
   exact⟨_,aTP (by omega) hf,aEz,λ_=>rfl⟩
  ·exact(aLV (by omega) _ (by intro x hx;simp at hx;rcases hx with rfl | hx;exact hf;exact hc x hx) (by simp;omega)).mono λr h=>⟨h,λh=>absurd h hD⟩
 ·refine TC.t (P:=λr=>r=aJq l r2) ⟨_,aU5 (by omega) hlv h2.1,rfl⟩ λr3 h3=>TC.ret _ ⟨by rw[h3];exact vK _ _,λh=>?_⟩
  rw[h3,h2.2 h,(hd h).1];rfl
omit hN in
theorem aRS(x:ι->Bool)(ray:ι->aN)(f l:ι->aA)(dep:Int)(ov:ι->Bool)(sm:ι->aG)(st:ι->aH)(src:ι->aD)(sw:ι->aL) :
  TC (λi=>eG N b (x i) (ray i) (f i) (l i) dep (ov i) (sm i) s v sky (st i) (src i) (sw i)) (λ_=>True):=⟨(),trivial,λi=>rfl⟩
include hr
theorem meetS{gl:List aJ}(hsw:aMa s.gQ.length gl)(hcon:v.gA4=true)(hfit:(s.gM.length:Int)<=(eW v.gK).2)(hobj:aE8 s){ray:aN}(hray:aE6 ray)(f l:aA)(dep:Int)(ov:Bool){sm:aG}(hsm:aBs s sm)(st:ι->aH)(src:aD)(t:ι->Int) :
  TU (λi=>mQ N b ray f l dep ov sm s v sky (st i) src (swp gl (t i))) (λa:(aG×bC×Bool)×Int×Int=>(aIN a.1.2.1/\(a.1.2.1.gB2∈s.gB0\/a.1.2.1.gB2.gA9=0)/\aBs s a.1.1)/\exC a.2.1 (gl.length:Int)/\exC a.2.2 4) (λi a r=>∃x t',r=(a.1.1,x,swp gl t',a.1.2.1,a.1.2.2)/\cZ (t i) t' a.2.1/\cZ (st i).gN x a.2.2):=by
 unfold mQ;refine TU.t (P:=λ_=>True) (T.cond (λ_=>T.ret trivial) (λ_=>T.ret trivial)) λp1 _=>?_;refine TU.bind (aS6 N (by omega) hsw ray.go ray.gd p1 ray.gE8 t) λa ha r hr'=>?_;have h':∃t':ι->Int,∀i,r i=(swp gl (t' i),a)/\cZ (t i) (t' i) (gl.length:Int):=⟨λi=>(hr' i).choose,λi=>(hr' i).choose_spec⟩
 obtain⟨t',e''⟩:=h';have e':∀i,r i=(swp gl (t' i),a):=λi=>(e'' i).1;simp only[e']
 have hx:∀i,∃x,(cond v.gA4 (some (I64 ((st i).gN+4))) (some (st i).gN))=some x/\cZ (st i).gN x 4:=λi=>⟨_,by rw[hcon];rfl,bE (aLO _) (aLU _),λ_=>cL _⟩
 have hx':∃x:ι->Int,∀i,(cond v.gA4 (some (I64 ((st i).gN+4))) (some (st i).gN))=some (x i)/\cZ (st i).gN (x i) 4:=⟨λi=>(hx i).choose,λi=>(hx i).choose_spec⟩
 obtain⟨x,ex⟩:=hx';simp only[λi=>(ex i).1,ae]
 refine TU.cond (λ_=>?_) (λhc=>?_)
 ·exact TU.ret ((sm,bC.mk 0 (aB.mk 0 0 0) (aA.mk 0 0 0) (aA.mk 0 0 0) (aO.mk 0 (#v[0,0,0]) 0) false,false),(gl.length:Int),4) ⟨⟨⟨⟨z64,z64,z64⟩,aEz,aEz,mat0⟩,Or.inr rfl,hsm⟩,rfl,rfl⟩ λi=>⟨x i,t' i,rfl,(e'' i).2,(ex i).2⟩
 have h0:=of_decide_eq_false hc;refine TU.t (T.idx (by omega) (by omega)) λe4 h4=>?_;have ht:=hr.tri e4 (az h4)
 refine TU.t (T.inRO (by decide) (by decide)) λ_ _=>TU.t (T.vg (i:=1) (by decide)) λe6 _=>TU.t (T.inRO (by decide) (by decide)) λ_ _=>TU.t (T.vg (i:=0) (by decide)) λe8 _=>TU.t (aNR N _ _) λr9 _=>?_;refine TU.t (T.inRO (by decide) (by decide)) λ_ _=>TU.t (T.vg (i:=2) (by decide)) λe11 _=>TU.t (T.inRO (by decide) (by decide)) λ_ _=>TU.t (T.vg (i:=0) (by decide)) λe13 _=>TU.t (aNR N _ _) λr14 _=>?_;refine TU.t (aMi N _ _) λr15 _=>TU.t (aPK (by omega) r15) λr16 h16=>?_;refine TU.t (P:=λp:bC=>pin p.gat/\vin p.gn/\aDa p.gB2/\p.gB2∈s.gB0) ?_ λp17 h17=>?_
 ·refine T.bind (aSR (by omega) hray.1 hray.2 ha.2) λr18 h18=>T.bind (aP3 (by omega) h16 ray.gd) λr19 h19=>T.bind (T.idx ht.1.1 ht.1.2) λe20 h20=>?_;have hm:=az h20;refine T.cond (λ_=>?_) (λ_=>T.ret ⟨h18,h19,hr.mat _ hm,hm⟩)
  rw[aP]
  exact T.ret ⟨h18,h19,hr.mat _ hm,hm⟩
 have hy:∃(lv:List aC) (tc:Int),(aH9 lv/\exC tc 4)/\∀i,∃y,(cond (decide (e4.gB7>=0)) (aa (idx b e4.gB7) λe23=>cond (!v.gA4) (some ((I64 (x i+4),e23))) (some ((x i,e23)))) (some ((x i,[]))))=some (y,lv)/\cZ (st i).gN y tc:=by
  by_cases h:e4.gB7>=0
  ·obtain⟨lv,e,hl⟩:=T.idx h ht.2.1;refine⟨lv,4,⟨hr.lev lv (az hl),rfl⟩,λi=>?_⟩
   rw[dt h,cond_true,e,ae,hcon]
   exact⟨x i,rfl,(ex i).2⟩
  ·refine⟨[],4,⟨⟨by simp,λt h=>absurd h (by simp)⟩,rfl⟩,λi=>?_⟩
   rw[df h,cond_false]
   exact⟨x i,rfl,(ex i).2⟩
 obtain⟨lv,tc,⟨hlv,htc⟩,hy⟩:=hy;have hy':∃y:ι->Int,∀i,(cond (decide (e4.gB7>=0)) (aa (idx b e4.gB7) λe23=>cond (!v.gA4) (some ((I64 (x i+4),e23))) (some ((x i,e23)))) (some ((x i,[]))))=some (y i,lv)/\cZ (st i).gN (y i) tc:=⟨λi=>(hy i).choose,λi=>(hy i).choose_spec⟩
 obtain⟨y,ey⟩:=hy';simp only[λi=>(ey i).1,ae]
 refine TU.t (aMt (by omega) h17.2.2.1.1 hlv ht.2.2.1 ha.2 _) λr24 h24=>?_;refine TU.t (P:=aBs s) ?_ λp25 h25=>?_
 ·rw[aP]
  have ho:=hobj e4 (az h4)
  refine T.cond (λ_=>?_) (λ_=>T.ret hsm)
  refine T.eq (aCS _ h17.1) (T.eq (aCS _ hray.1) (T.eq (aIX _ (aCP _) (aCP _)) (T.bind (aPN (by omega) (aIT _ _)) λr hr=>T.cond (λ_=>T.ret ⟨Or.inr ⟨ho,Or.inl rfl⟩,hr,h17.2.1⟩) (λ_=>T.ret ⟨Or.inr ⟨ho,Or.inr rfl⟩,hr,h17.2.1⟩))))
 ·exact TU.ret ((p25,bC.mk p17.gi p17.gat p17.gn r24 p17.gB2 p17.gC0,true),(gl.length:Int),tc) ⟨⟨⟨h17.1,h17.2.1,h24,h17.2.2.1⟩,Or.inl h17.2.2.2,h25⟩,rfl,htc⟩ λi=>⟨y i,t' i,rfl,(e'' i).2,(ey i).2⟩
end
section
variable {ι:Type} {N:Nat} (hN:1000000000000 < N) {b:List (List aC)} {s:aE} {v:aF} {sky:aA} (hr:Rdy b s v sky)
structure DrkW(D:Prop)(s:aE)(sky:aA):Prop where
 sky:D->sky=v0
 lights:D->s.gM=[]
 mats:D->∀m∈s.gB0,m.gA9≠4
include hN
theorem aKm(x:Int)(ray:ι->aN)(f l:ι->aA)(dep:Int)(ov:ι->Bool)(sm:ι->aG)(st:ι->aH)(src:aD)(sw:ι->aM) :
  TC (λi=>dU N b x (ray i) (f i) (l i) dep (ov i) (sm i) s v sky (st i) src (sw i)) (λ_=>True):=by
 obtain⟨a,e,_⟩:=aUy N (by omega) dep x src;refine⟨(a.1,a.2),trivial,λi=>?_⟩
 unfold dU;rw[e];rfl
theorem addW(D:Prop){c:List aA}(hc:∀x∈c,vin x)(hl:c.length<=2)(ray:ι->aN){f l:aA}(hf:vin f)(hlv:vin l)(hd:D->l=v0/\c=[v0])(dep:Int)(ov:Bool)(sm:ι->aG)(st:ι->aH)(src:ι->aD)(sw:ι->aM) :
  TC (λi=>jU N b c (ray i) f l dep ov (sm i) s v sky (st i) (src i) (sw i)) (λr=>vin r/\(D->r=v0)):=by
 unfold jU;refine TC.cond (λ_=>?_) (λ_=>TC.ret _ ⟨hlv,λh=>(hd h).1⟩)
 refine TC.t (P:=λz=>z=[f]++c) ⟨_,dQ (by simp;omega),rfl⟩ λz hz=>?_;subst hz;refine TC.t (P:=λr=>vin r/\(D->r=v0)) ?_ λr2 h2=>?_
 ·by_cases hD:D
  ·rw[(hd hD).2]
   exact⟨_,aTP (by omega) hf,aEz,λ_=>rfl⟩
  ·exact(aLV (by omega) _ (by intro x hx;simp at hx;rcases hx with rfl | hx;exact hf;exact hc x hx) (by simp;omega)).mono λr h=>⟨h,λh=>absurd h hD⟩
 ·refine TC.t (P:=λr=>r=aJq l r2) ⟨_,aU5 (by omega) hlv h2.1,rfl⟩ λr3 h3=>TC.ret _ ⟨by rw[h3];exact vK _ _,λh=>?_⟩
  rw[h3,h2.2 h,(hd h).1];rfl
omit hN in
theorem aQv(x:ι->Bool)(ray:ι->aN)(f l:ι->aA)(dep:Int)(ov:ι->Bool)(sm:ι->aG)(st:ι->aH)(src:ι->aD)(sw:ι->aM) :
  TC (λi=>fP N b (x i) (ray i) (f i) (l i) dep (ov i) (sm i) s v sky (st i) (src i) (sw i)) (λ_=>True):=⟨(),trivial,λi=>rfl⟩
include hr
theorem meetW{bv:bD}{gl:List aJ}(hbv:aCe gl.length bv)(hgl:gl=s.gQ)(htr:zD gl bv)(hcon:v.gA4=false)(hfit:(s.gM.length:Int)<=(eW v.gK).2)(hobj:aE8 s){ray:aN}(hray:aE6 ray)(f l:aA)(dep:Int)(ov:Bool){sm:aG}(hsm:aBs s sm)(st:ι->aH)(src:aD)(t:ι->Int) :
  TU (λi=>oL N b ray f l dep ov sm s v sky (st i) src (wlk bv gl (t i))) (λa:(aG×bC×Bool)×Int×Int=>(aIN a.1.2.1/\(a.1.2.1.gB2∈s.gB0\/a.1.2.1.gB2.gA9=0)/\aBs s a.1.1)/\amC a.2.1 (3*(gl.length:Int))/\amC a.2.2 4) (λi a r=>∃x t',r=(a.1.1,x,t',a.1.2.1,a.1.2.2)/\cZ (t i) t' a.2.1/\cZ (st i).gN x a.2.2):=by
 unfold oL;refine TU.t (P:=λ_=>True) (T.cond (λ_=>T.ret trivial) (λ_=>T.ret trivial)) λp1 _=>?_;subst hgl;refine TU.bind (aR5 N (by omega) hbv htr hr.few ray.go ray.gd p1 ray.gE8 t) λa ha r hr'=>?_;obtain⟨a,nc⟩:=a;obtain⟨ha,hnc⟩:=ha;dsimp only at ha hnc hr';have h':∃t':ι->Int,∀i,r i=(t' i,a)/\cZ (t i) (t' i) nc:=⟨λi=>(hr' i).choose,λi=>(hr' i).choose_spec⟩
 obtain⟨t',e''⟩:=h';have e':∀i,r i=(t' i,a):=λi=>(e'' i).1;simp only[e']
 have hx:∀i,∃x,(cond v.gA4 (some (I64 ((st i).gN+4))) (some (st i).gN))=some x/\cZ (st i).gN x 0:=λi=>⟨_,by rw[hcon];rfl,lQ _⟩
 have hx':∃x:ι->Int,∀i,(cond v.gA4 (some (I64 ((st i).gN+4))) (some (st i).gN))=some (x i)/\cZ (st i).gN (x i) 0:=⟨λi=>(hx i).choose,λi=>(hx i).choose_spec⟩
 obtain⟨x,ex⟩:=hx';simp only[λi=>(ex i).1,ae]
 refine TU.cond (λ_=>?_) (λhc=>?_)
 ·exact TU.ret ((sm,bC.mk 0 (aB.mk 0 0 0) (aA.mk 0 0 0) (aA.mk 0 0 0) (aO.mk 0 (#v[0,0,0]) 0) false,false),nc,0) ⟨⟨⟨⟨z64,z64,z64⟩,aEz,aEz,mat0⟩,Or.inr rfl,hsm⟩,hnc,c04⟩ λi=>⟨x i,t' i,rfl,(e'' i).2,(ex i).2⟩
 have h0:=of_decide_eq_false hc;refine TU.t (T.idx (by omega) (by omega)) λe4 h4=>?_;have ht:=hr.tri e4 (az h4)
 refine TU.t (T.inRO (by decide) (by decide)) λ_ _=>TU.t (T.vg (i:=1) (by decide)) λe6 _=>TU.t (T.inRO (by decide) (by decide)) λ_ _=>TU.t (T.vg (i:=0) (by decide)) λe8 _=>TU.t (aNR N _ _) λr9 _=>?_;refine TU.t (T.inRO (by decide) (by decide)) λ_ _=>TU.t (T.vg (i:=2) (by decide)) λe11 _=>TU.t (T.inRO (by decide) (by decide)) λ_ _=>TU.t (T.vg (i:=0) (by decide)) λe13 _=>TU.t (aNR N _ _) λr14 _=>?_;refine TU.t (aMi N _ _) λr15 _=>TU.t (aPK (by omega) r15) λr16 h16=>?_;refine TU.t (P:=λp:bC=>pin p.gat/\vin p.gn/\aDa p.gB2/\p.gB2∈s.gB0) ?_ λp17 h17=>?_
 ·refine T.bind (aSR (by omega) hray.1 hray.2 ha.2) λr18 h18=>T.bind (aP3 (by omega) h16 ray.gd) λr19 h19=>T.bind (T.idx ht.1.1 ht.1.2) λe20 h20=>?_;have hm:=az h20;refine T.cond (λ_=>?_) (λ_=>T.ret ⟨h18,h19,hr.mat _ hm,hm⟩)
  rw[aP]
  exact T.ret ⟨h18,h19,hr.mat _ hm,hm⟩
 have hy:∃(lv:List aC) (tc:Int),(aH9 lv/\amC tc 4)/\∀i,∃y,(cond (decide (e4.gB7>=0)) (aa (idx b e4.gB7) λe23=>cond (!v.gA4) (some ((I64 (x i+4),e23))) (some ((x i,e23)))) (some ((x i,[]))))=some (y,lv)/\cZ (st i).gN y tc:=by
  by_cases h:e4.gB7>=0
  ·obtain⟨lv,e,hl⟩:=T.idx h ht.2.1;refine⟨lv,4,⟨hr.lev lv (az hl),c44⟩,λi=>?_⟩
   rw[dt h,cond_true,e,ae,hcon]
   exact⟨_,rfl,aTA (pG (ex i).2 (aEC _ 4)) (by decide)⟩
  ·refine⟨[],0,⟨⟨by simp,λt h=>absurd h (by simp)⟩,c04⟩,λi=>?_⟩
   rw[df h,cond_false]
   exact⟨x i,rfl,(ex i).2⟩
 obtain⟨lv,tc,⟨hlv,htc⟩,hy⟩:=hy;have hy':∃y:ι->Int,∀i,(cond (decide (e4.gB7>=0)) (aa (idx b e4.gB7) λe23=>cond (!v.gA4) (some ((I64 (x i+4),e23))) (some ((x i,e23)))) (some ((x i,[]))))=some (y i,lv)/\cZ (st i).gN (y i) tc:=⟨λi=>(hy i).choose,λi=>(hy i).choose_spec⟩
 obtain⟨y,ey⟩:=hy';simp only[λi=>(ey i).1,ae]
 refine TU.t (aMt (by omega) h17.2.2.1.1 hlv ht.2.2.1 ha.2 _) λr24 h24=>?_;refine TU.t (P:=aBs s) ?_ λp25 h25=>?_
 ·rw[aP]
  have ho:=hobj e4 (az h4)
  refine T.cond (λ_=>?_) (λ_=>T.ret hsm)
  refine T.eq (aCS _ h17.1) (T.eq (aCS _ hray.1) (T.eq (aIX _ (aCP _) (aCP _)) (T.bind (aPN (by omega) (aIT _ _)) λr hr=>T.cond (λ_=>T.ret ⟨Or.inr ⟨ho,Or.inl rfl⟩,hr,h17.2.1⟩) (λ_=>T.ret ⟨Or.inr ⟨ho,Or.inr rfl⟩,hr,h17.2.1⟩))))
 ·exact TU.ret ((p25,bC.mk p17.gi p17.gat p17.gn r24 p17.gB2 p17.gC0,true),nc,tc) ⟨⟨⟨h17.1,h17.2.1,h24,h17.2.2.1⟩,Or.inl h17.2.2.2,h25⟩,hnc,htc⟩ λi=>⟨y i,t' i,rfl,(e'' i).2,(ey i).2⟩
end
section
variable {ι:Type} {N:Nat} (hN:4100 < N) {b:List (List aC)} {s:aE} {v:aF} {sky:aA} (hr:Rdy b s v sky)
include hN hr
theorem aVy{gl:List aJ}(hsw:aMa s.gQ.length gl)(hcon:v.gA4=true)(hfit:(s.gM.length:Int)<=(eW v.gK).2){D:Prop}(hD:DrkS D s sky){pl:bC}(hp:aIN pl)(ray:aN){f l:aA}(hf:vin f)(hl:vin l)(hl0:D->l=v0)(dep:Int)(ov:Bool)(sm:aG)(st:ι->aH)(src:aD)(t:ι->Int) :
  TU (λi=>lC N b pl ray f l dep ov sm s v sky (st i) src (swp gl (t i))) (λa:(aA×aD)×Int=>(vin a.1.1/\(D->a.1.1=v0))/\exC a.2 ((gl.length:Int)*(eW v.gK).2)) (λi a r=>∃t',r=(a.1.1,a.1.2,swp gl t')/\cZ (t i) t' a.2):=by
 unfold lC;have l5:=hr.lights;simp only[aP]
 refine TU.bind (P:=λa:(aA×aD)×Int=>(vin a.1.1/\(D->a.1.1=v0))/\exC a.2 ((gl.length:Int)*(s.gM.length:Int))) (S:=λi a r=>∃t',r=(a.1.1,a.1.2,swp gl t')/\cZ (t i) t' a.2) ?_ λa ha r hr'=>?_
 ·refine TU.loop0 (n:=s.gM.length) (λj (x:(aA×aD)×Int) t'=>((vin x.1.1/\(D->x.1.1=v0))/\exC x.2 ((gl.length:Int)*(j:Int)))/\∀i,cZ (t i) (t' i) x.2) (F:=λi k t' (x:(aA×aD)×Int) j=>fQ N (s.gM.length:Int) s b ray f dep ov sm v sky (st i) pl k x.1.1 x.1.2 (swp gl t') j) (λk t' x j hj hx hk=>?_) (λk t' x hx=>?_) (by omega) (s:=((l,src),0)) (h:=t) ⟨⟨⟨hl,hl0⟩,aJP aSq (by rw[show((0:Nat):Int)=0 from rfl,fo])⟩,λi=>lQ _⟩
  ·have nd:¬D:=λh=>by have:=hD.lights h;rw[this] at hj;exact absurd hj (by simp)
   have hlj:=hr.light _ (bj hj)
   simp only[fQ,dt (show(j:Int) < (s.gM.length:Int) by omega),cond_true,aP]
   refine TU.bind (P:=λa:(aA×aD×aS×mR)×Int=>(vin a.1.1/\(D->a.1.1=v0))/\exC a.2 (gl.length:Int)) (S:=λi a r=>∃tn,r=(a.1.1,a.1.2.1,swp gl (tn),a.1.2.2.1,a.1.2.2.2)/\cZ (t' i) tn a.2) ?_ λa ha r hr'=>?_
   ·refine TU.e (a:=s.gM[j]) (λi=>by rw[fX,af hj]) ?_;refine TU.c (aK6 hN _ _ _ _ _ _ _ _ _ _) λr10 _=>TU.c (aK6 hN _ _ _ _ _ _ _ _ _ _) λr12 _=>?_;refine TU.t (aVE (by omega) hlj pl.gat hp.2.1 _) λr13 h13=>?_;refine TU.cond (λhc=>by rw[hcon] at hc;cases hd:r13.gE7 <;> rw[hd] at hc <;> cases hc) (λ_=>?_)
    refine TU.bind (P:=λa:Bool×Int=>exC a.2 (gl.length:Int)) (S:=λi a r=>∃tn,r=(swp gl (tn),a.1)/\cZ (t' i) tn a.2) ?_ λan han ra hra=>?_
    ·refine TU.bind (anyU N (by omega) hsw pl.gat r13.gE9 2 pl.gi (!r13.gF0) t') λan _ ra hra=>?_;have hnc:exC (gl.length:Int) (gl.length:Int):=rfl;have hn:∃tn:ι->Int,∀i,ra i=(swp gl (tn i),an)/\cZ (t' i) (tn i) (gl.length:Int):=⟨λi=>(hra i).choose,λi=>(hra i).choose_spec⟩
     obtain⟨tn,en⟩:=hn;simp only[λi=>(en i).1]
     exact TU.cond (λ_=>TU.cond (λ_=>TU.ret (_,(gl.length:Int)) hnc λi=>⟨tn i,rfl,(en i).2⟩) (λ_=>TU.ret (false,(gl.length:Int)) hnc λi=>⟨tn i,rfl,(en i).2⟩)) (λ_=>TU.ret (false,(gl.length:Int)) hnc λi=>⟨tn i,rfl,(en i).2⟩)
    ·have hn:∃tn:ι->Int,∀i,ra i=(swp gl (tn i),an.1)/\cZ (t' i) (tn i) an.2:=⟨λi=>(hra i).choose,λi=>(hra i).choose_spec⟩
     obtain⟨tn,en⟩:=hn;simp only[λi=>(en i).1]
     refine TU.cond (λ_=>?_) (λ_=>TU.ret ((_,_,_,_),an.2) ⟨hx.1.1,han⟩ λi=>⟨tn i,rfl,(en i).2⟩)
     refine TU.c (addS hN D (by intro y hy;simp at hy;rcases hy with rfl | rfl;exact hp.2.2.1;exact h13) (by simp) _ hf hx.1.1.1 (λh=>absurd h nd) _ _ _ _ _ _) λr17 h17=>TU.ret ((_,_,_,_),an.2) ⟨h17,han⟩ λi=>⟨tn i,rfl,(en i).2⟩
   ·have hn:∃tn:ι->Int,∀i,r i=(a.1.1,a.1.2.1,swp gl (tn i),a.1.2.2.1,a.1.2.2.2)/\cZ (t' i) (tn i) a.2:=⟨λi=>(hr' i).choose,λi=>(hr' i).choose_spec⟩
    obtain⟨tn,en⟩:=hn;simp only[λi=>(en i).1]
    rw[eZ (by omega)]
    exact hk ((a.1.1,a.1.2.1),x.2+a.2) tn ⟨⟨ha.1,aJP (aQH hx.1.2 ha.2) (by rw[show((j+1:Nat):Int)=(j:Int)+1 from by omega,dv,eu])⟩,λi=>pG (hx.2 i) (en i).2⟩
  ·simp only[fQ,df (show ¬(s.gM.length:Int) < (s.gM.length:Int) by omega),cond_false]
   exact TU.ret x hx.1 λi=>⟨t' i,rfl,hx.2 i⟩
 have h2:∃t2:ι->Int,∀i,r i=(a.1.1,a.1.2,swp gl (t2 i))/\cZ (t i) (t2 i) a.2:=⟨λi=>(hr' i).choose,λi=>(hr' i).choose_spec⟩
 obtain⟨t2,e2⟩:=h2;simp only[λi=>(e2 i).1]
 simp only[hcon,Bool.not_true,cond_false,aO2,ae,aP]
 obtain⟨n,hn⟩:=bm (show 0<=(eW v.gK).2 - (s.gM.length:Int) by omega)
 have cl:(eW v.gK).2 < 1000:=by unfold eW;cases (v.gK==0) <;> cases (v.gK==1) <;> cases (v.gK==2) <;> decide
 have ig:I64 ((eW v.gK).2 - (s.gM.length:Int))=(n:Int):=by rw[hn,bE (by omega) (by omega)]
 refine TU.bind (P:=λ_:Unit=>True) (S:=λi _ r=>∃t',r=swp gl t'/\cZ (t2 i) t' ((gl.length:Int)*(n:Int))) ?_ λ_ _ r hr'=>?_
 ·refine TU.loop0 (n:=n) (λj (_:Unit) t'=>∀i,cZ (t2 i) (t' i) ((gl.length:Int)*(j:Int))) (F:=λi k t' (_:Unit) j=>fT N (eW v.gK) (s.gM.length:Int) pl k (swp gl t') j) (λk t' _ j hj hx hk=>?_) (λk t' _ hx=>?_) (by omega) (s:=()) (h:=t2) (λi=>by rw[show((0:Nat):Int)=0 from rfl,fo];exact lQ _)
  ·simp only[fT,aP,ig,dt (show(j:Int) < (n:Int) by omega),cond_true]
   refine TU.bind (anyU N (by omega) hsw pl.gat (aB.mk 0 0 0) 2 pl.gi false t') λan _ ra hra=>?_;have hn:∃tn:ι->Int,∀i,ra i=(swp gl (tn i),an)/\cZ (t' i) (tn i) (gl.length:Int):=⟨λi=>(hra i).choose,λi=>(hra i).choose_spec⟩
   obtain⟨tn,en⟩:=hn;simp only[λi=>(en i).1]
   rw[eZ (by omega)]
   exact hk () tn λi=>aTA (pG (hx i) (en i).2) (by rw[show((j+1:Nat):Int)=(j:Int)+1 from by omega,dv,eu])
  ·simp only[fT,aP,ig,df (show ¬(n:Int) < (n:Int) by omega),cond_false]
   exact TU.ret () trivial λi=>⟨t' i,rfl,hx i⟩
 ·have h3:∃t3:ι->Int,∀i,r i=swp gl (t3 i)/\cZ (t2 i) (t3 i) ((gl.length:Int)*(n:Int)):=⟨λi=>(hr' i).choose,λi=>(hr' i).choose_spec⟩
  obtain⟨t3,e3⟩:=h3;simp only[λi=>(e3 i).1]
  exact TU.ret (a.1,a.2+(gl.length:Int)*(n:Int)) ⟨ha.1,by have h:=ha.2;unfold exC at *;dsimp only;rw[h,<- dv];congr 1;omega⟩ λi=>⟨t3 i,rfl,pG (e2 i).2 (e3 i).2⟩
end
section
variable {ι:Type} {N:Nat} (hN:1000000000000 < N) {b:List (List aC)} {s:aE} {v:aF} {sky:aA} (hr:Rdy b s v sky)
include hN hr
theorem aVk{bv:bD}{gl:List aJ}(hbv:aCe gl.length bv)(hgl:gl=s.gQ)(htr:zD gl bv)(hcon:v.gA4=false)(hfit:(s.gM.length:Int)<=(eW v.gK).2){D:Prop}(hD:DrkW D s sky){pl:bC}(hp:aIN pl)(ray:aN){f l:aA}(hf:vin f)(hl:vin l)(hl0:D->l=v0)(dep:Int)(ov:Bool)(sm:aG)(st:ι->aH)(src:aD)(t:ι->Int) :
  TU (λi=>mN N b pl ray f l dep ov sm s v sky (st i) src (wlk bv gl (t i))) (λa:(aA×aD)×Int=>(vin a.1.1/\(D->a.1.1=v0))/\amC a.2 ((3*(gl.length:Int))*(eW v.gK).2)) (λi a r=>∃t',r=(a.1.1,a.1.2,wlk bv gl t')/\cZ (t i) t' a.2):=by
 unfold mN;have l5:=hr.lights;simp only[aP]
 refine TU.bind (P:=λa:(aA×aD)×Int=>(vin a.1.1/\(D->a.1.1=v0))/\amC a.2 ((3*(gl.length:Int))*(s.gM.length:Int))) (S:=λi a r=>∃t',r=(a.1.1,a.1.2,wlk bv gl t')/\cZ (t i) t' a.2) ?_ λa ha r hr'=>?_
 ·refine TU.loop0 (n:=s.gM.length) (λj (x:(aA×aD)×Int) t'=>((vin x.1.1/\(D->x.1.1=v0))/\amC x.2 ((3*(gl.length:Int))*(j:Int)))/\∀i,cZ (t i) (t' i) x.2) (F:=λi k t' (x:(aA×aD)×Int) j=>iK N (s.gM.length:Int) s b ray f dep ov sm v sky (st i) pl k x.1.1 x.1.2 (wlk bv gl t') j) (λk t' x j hj hx hk=>?_) (λk t' x hx=>?_) (by omega) (s:=((l,src),0)) (h:=t) ⟨⟨⟨hl,hl0⟩,aJ2 aM2 (by rw[show((0:Nat):Int)=0 from rfl,fo])⟩,λi=>lQ _⟩
  ·have nd:¬D:=λh=>by have:=hD.lights h;rw[this] at hj;exact absurd hj (by simp)
   have hlj:=hr.light _ (bj hj)
   simp only[iK,dt (show(j:Int) < (s.gM.length:Int) by omega),cond_true,aP]
   refine TU.bind (P:=λa:(aA×aD×aS×mR)×Int=>(vin a.1.1/\(D->a.1.1=v0))/\amC a.2 (3*(gl.length:Int))) (S:=λi a r=>∃tn,r=(a.1.1,a.1.2.1,(tn),a.1.2.2.1,a.1.2.2.2)/\cZ (t' i) tn a.2) ?_ λa ha r hr'=>?_
   ·refine TU.e (a:=s.gM[j]) (λi=>by rw[fX,af hj]) ?_;refine TU.c (aKm hN _ _ _ _ _ _ _ _ _ _) λr10 _=>TU.c (aKm hN _ _ _ _ _ _ _ _ _ _) λr12 _=>?_;refine TU.t (aVE (by omega) hlj pl.gat hp.2.1 _) λr13 h13=>?_;refine TU.cond (λ_=>TU.ret ((x.1.1,aD.mk r12.1 ((aD.mk r10.1 x.1.2.gA x.1.2.gD x.1.2.gC x.1.2.gE).gA) ((aD.mk r10.1 x.1.2.gA x.1.2.gD x.1.2.gC x.1.2.gE).gD) ((aD.mk r10.1 x.1.2.gA x.1.2.gD x.1.2.gC x.1.2.gE).gC) ((aD.mk r10.1 x.1.2.gA x.1.2.gD x.1.2.gC x.1.2.gE).gE),s.gM[j],r13),0) ⟨hx.1.1,aNZ aM2 (by omega)⟩ λi=>⟨t' i,rfl,lQ _⟩) (λ_=>?_)
    refine TU.bind (P:=λa:Bool×Int=>amC a.2 (3*(gl.length:Int))) (S:=λi a r=>∃tn,r=((tn),a.1)/\cZ (t' i) tn a.2) ?_ λan han ra hra=>?_
    ·refine TU.bind (anyK N (by omega) hbv htr (by rw[hgl];exact hr.few) pl.gat r13.gE9 2 pl.gi (!r13.gF0) t') λan hnc ra hra=>?_;obtain⟨an,nc⟩:=an;dsimp only at hnc hra;have hn:∃tn:ι->Int,∀i,ra i=(tn i,an)/\cZ (t' i) (tn i) nc:=⟨λi=>(hra i).choose,λi=>(hra i).choose_spec⟩
     obtain⟨tn,en⟩:=hn;simp only[λi=>(en i).1]
     exact TU.cond (λ_=>TU.cond (λ_=>TU.ret (_,nc) hnc λi=>⟨tn i,rfl,(en i).2⟩) (λ_=>TU.ret (false,nc) hnc λi=>⟨tn i,rfl,(en i).2⟩)) (λ_=>TU.ret (false,nc) hnc λi=>⟨tn i,rfl,(en i).2⟩)
    ·have hn:∃tn:ι->Int,∀i,ra i=((tn i),an.1)/\cZ (t' i) (tn i) an.2:=⟨λi=>(hra i).choose,λi=>(hra i).choose_spec⟩
     obtain⟨tn,en⟩:=hn;simp only[λi=>(en i).1]
     refine TU.cond (λ_=>?_) (λ_=>TU.ret ((_,_,_,_),an.2) ⟨hx.1.1,han⟩ λi=>⟨tn i,rfl,(en i).2⟩)
     refine TU.c (addW hN D (by intro y hy;simp at hy;rcases hy with rfl | rfl;exact hp.2.2.1;exact h13) (by simp) _ hf hx.1.1.1 (λh=>absurd h nd) _ _ _ _ _ _) λr17 h17=>TU.ret ((_,_,_,_),an.2) ⟨h17,han⟩ λi=>⟨tn i,rfl,(en i).2⟩
   ·have hn:∃tn:ι->Int,∀i,r i=(a.1.1,a.1.2.1,(tn i),a.1.2.2.1,a.1.2.2.2)/\cZ (t' i) (tn i) a.2:=⟨λi=>(hr' i).choose,λi=>(hr' i).choose_spec⟩
    obtain⟨tn,en⟩:=hn;simp only[λi=>(en i).1]
    rw[eZ (by omega)]
    exact hk ((a.1.1,a.1.2.1),x.2+a.2) tn ⟨⟨ha.1,aJ2 (aPQ hx.1.2 ha.2) (by rw[show((j+1:Nat):Int)=(j:Int)+1 from by omega,dv,eu])⟩,λi=>pG (hx.2 i) (en i).2⟩
  ·simp only[iK,df (show ¬(s.gM.length:Int) < (s.gM.length:Int) by omega),cond_false]
   exact TU.ret x hx.1 λi=>⟨t' i,rfl,hx.2 i⟩
 have h2:∃t2:ι->Int,∀i,r i=(a.1.1,a.1.2,wlk bv gl (t2 i))/\cZ (t i) (t2 i) a.2:=⟨λi=>(hr' i).choose,λi=>(hr' i).choose_spec⟩
 obtain⟨t2,e2⟩:=h2;simp only[λi=>(e2 i).1]
 simp only[hcon,Bool.not_false,cond_true]
 exact TU.ret a ⟨ha.1,aNZ ha.2 (gt hfit (by omega))⟩ λi=>⟨t2 i,rfl,(e2 i).2⟩
end
section
variable {ι:Type} {N:Nat} (hN:4100 < N) {b:List (List aC)} {s:aE} {v:aF} {sky:aA} (hr:Rdy b s v sky)
include hN hr
theorem stepS{gl:List aJ}(hsw:aMa s.gQ.length gl)(hcon:v.gA4=true)(hfit:(s.gM.length:Int)<=(eW v.gK).2)(hobj:aE8 s){D:Prop}(hD:DrkS D s sky){ray:aN}(hray:aE6 ray){f l:aA}(hf:vin f)(hl:vin l)(hl0:D->l=v0)(dep:Int)(ov:Bool){sm:aG}(hsm:aBs s sm)(st:ι->aH)(src:aD)(t:ι->Int) :
  TU (λi=>mM N b ray f l dep ov sm s v sky (st i) src (swp gl (t i))) (λa:(aN×aA×aA×Bool×aG×aD)×Int×Int=>(aE6 a.1.1/\vin a.1.2.1/\vin a.1.2.2.1/\(D->a.1.2.2.1=v0)/\aBs s a.1.2.2.2.2.1)/\exC a.2.1 ((gl.length:Int)*(1+(eW v.gK).2))/\exC a.2.2 4) (λi a r=>∃x t',r=(a.1.1,a.1.2.1,a.1.2.2.1,a.1.2.2.2.1,a.1.2.2.2.2.1,x,a.1.2.2.2.2.2,swp gl t')/\cZ (t i) t' a.2.1/\cZ (st i).gN x a.2.2):=by
 unfold mM;refine TU.bind (meetS hN hr hsw hcon hfit hobj hray f l dep ov hsm st src t) λa ha r hr'=>?_;obtain⟨a,mc,tc⟩:=a;obtain⟨ha,hmc,htc⟩:=ha;dsimp only at ha hmc htc hr';have h1:∃(x t1:ι->Int),∀i,r i=(a.1,x i,swp gl (t1 i),a.2.1,a.2.2)/\cZ (t i) (t1 i) mc/\cZ (st i).gN (x i) tc:=⟨λi=>(hr' i).choose,λi=>(hr' i).choose_spec.choose,λi=>(hr' i).choose_spec.choose_spec⟩
 obtain⟨x,t1,e1⟩:=h1;simp only[λi=>(e1 i).1]
 obtain⟨hp,hm,hs⟩:=ha;have nd:∀h:(a.2.1.gB2.gA9==4)=true,¬D:=λh d=>by
  have h4:a.2.1.gB2.gA9=4:=by simpa using h
  rcases hm with hm | hm
  ·exact hD.mats d _ hm h4
  ·rw[hm] at h4;cases h4
 generalize a.2.1=pl at *;refine TU.c (P:=λp:aA×Bool=>vin p.1/\(D->p.1=v0)) (TC.cond (λ_=>TC.bind (addS hN D (by intro y hy;simp at hy;rcases hy with rfl;exact hr.sky) (by simp) _ hf hl (λd=>⟨hl0 d,by rw[hD.sky d]⟩) _ _ _ _ _ _) λr3 h3=>TC.bind (aRS _ _ _ _ _ _ _ _ _ _) λ_ _=>TC.ret _ h3) (λ_=>TC.ret _ ⟨hl,hl0⟩)) λp2 h2=>?_;refine TU.c (aRS _ _ _ _ _ _ _ _ _ _) λ_ _=>?_;simp only[aP]
 refine TU.c (P:=λp:aA×Bool=>vin p.1/\(D->p.1=v0)) (TC.cond (λhc=>TC.bind (addS hN D (by intro y hy;simp at hy;rcases hy with rfl;exact hp.2.2.1) (by simp) _ hf h2.1 (λd=>absurd d (nd hc)) _ _ _ _ _ _) λr3 h3=>TC.bind (aRS _ _ _ _ _ _ _ _ _ _) λ_ _=>TC.ret _ h3) (λ_=>TC.ret _ h2)) λp6 p6l=>?_;refine TU.bind (P:=λz:(aA×aD)×Int=>(vin z.1.1/\(D->z.1.1=v0))/\exC z.2 ((gl.length:Int)*(eW v.gK).2)) (S:=λi z r=>∃t2,r=(z.1.1,z.1.2,swp gl t2)/\cZ (t1 i) t2 z.2) ?_ λz hz rz hrz=>?_
 ·simp only[hcon,cond_true,ae]
  refine TU.bind (aVy hN hr hsw hcon hfit hD hp (ι:=ι) ray hf p6l.1 p6l.2 dep p6.2 a.1 _ src t1) λz hz rz hrz=>?_;have h2:∃t2:ι->Int,∀i,rz i=(z.1.1,z.1.2,swp gl (t2 i))/\cZ (t1 i) (t2 i) z.2:=⟨λi=>(hrz i).choose,λi=>(hrz i).choose_spec⟩
  obtain⟨t2,e2⟩:=h2;simp only[λi=>(e2 i).1]
  exact TU.ret ((z.1.1,z.1.2),z.2) hz λi=>⟨t2 i,rfl,(e2 i).2⟩
 have h2':∃t2:ι->Int,∀i,rz i=(z.1.1,z.1.2,swp gl (t2 i))/\cZ (t1 i) (t2 i) z.2:=⟨λi=>(hrz i).choose,λi=>(hrz i).choose_spec⟩
 obtain⟨t2,e2⟩:=h2';simp only[λi=>(e2 i).1]
 obtain⟨z,zc⟩:=z;obtain⟨hz,hzc⟩:=hz;dsimp only at hz hzc e2;have rt:∀i,cZ (t i) (t2 i) (mc+zc):=λi=>pG (e1 i).2.1 (e2 i).2;have rc:exC (mc+zc) ((gl.length:Int)*(1+(eW v.gK).2)):=aJP (aQH hmc hzc) (by rw[dv,eu])
 refine TU.t (P:=λ_=>True) (T.cond (λ_=>T.ret trivial) (λ_=>T.ret trivial)) λp14 _=>TU.cond (λ_=>?_) (λ_=>?_)
 ·exact TU.c (aRS _ _ _ _ _ _ _ _ _ _) λ_ _=>TU.ret ((ray,f,z.1,_,a.1,z.2),mc+zc,tc) ⟨⟨hray,hf,hz.1,hz.2,hs⟩,rc,htc⟩ λi=>⟨x i,t2 i,rfl,rt i,(e1 i).2.2⟩
 refine TU.c (aK6 hN _ _ _ _ _ _ _ _ _ _) λr16 _=>TU.c (aK6 hN _ _ _ _ _ _ _ _ _ _) λr17 _=>?_;refine TU.t (aNP (by omega) hp.2.2.2 hp.2.2.1 hp.2.1 ray.gd _) λr18 h18=>TU.t (aLV (by omega) _ (by intro y hy;simp at hy;rcases hy with rfl | rfl;exact hf;exact h18.2) (by simp)) λr19 h19=>?_;refine TU.c (aRS _ _ _ _ _ _ _ _ _ _) λ_ _=>?_;refine TU.c (P:=λp:aA×Bool×aD=>vin p.1) ?_ λp21 h21=>?_
 ·refine TC.cond (λ_=>TC.bind (aK6 hN _ _ _ _ _ _ _ _ _ _) λr22 _=>TC.t (aKb (by omega) h19 _) λr23 h23=>TC.bind (aRS _ _ _ _ _ _ _ _ _ _) λ_ _=>TC.ret _ h23) (λ_=>TC.ret _ h19)
 ·exact TU.ret ((_,p21.1,z.1,p21.2.1,a.1,p21.2.2),mc+zc,tc) ⟨⟨⟨hp.1,h18.1⟩,h21,hz.1,hz.2,hs⟩,rc,htc⟩ λi=>⟨x i,t2 i,rfl,rt i,(e1 i).2.2⟩
def inVS(v:aF)(x y z:Int):Prop:=(0<=x/\x < v.gW)/\(0<=y/\y < v.gH)/\0<=z/\z < v.gB5
theorem pathS{gl:List aJ}(hsw:aMa s.gQ.length gl)(hcon:v.gA4=true)(hfit:(s.gM.length:Int)<=(eW v.gK).2)(hobj:aE8 s){D:Prop}(hD:DrkS D s sky)(x y z:Int)(st:ι->aH)(t:ι->Int) :
  TU (λi=>fS N b x y z s v sky (st i) (swp gl (t i))) (λa:(aG×Int)×Int×Int×Int=>(D->a.1.1.gA7=v0)/\(inVS v x y z->a.1.2=0)/\(a.1.2=0/\(aBs s a.1.1/\vin a.1.1.gA7)/\exC a.2.1 ((gl.length:Int)*(1+(eW v.gK).2)*(v.gG+1))/\exC a.2.2.1 (4*(v.gG+1))/\exC a.2.2.2 (v.gG+1)\/a.1.2=2)) (λi a r=>∃st' t',r=(st',swp gl t',a.1.1,a.1.2)/\st'.gL=(st i).gL/\cZ (t i) t' a.2.1/\cZ (st i).gN st'.gN a.2.2.1/\cZ (st i).gI st'.gI a.2.2.2):=by
 unfold fS wC;simp only[aP,ae]
 refine TU.cond (λhc=>TU.ret ((aG.mk (aA.mk 0 0 0) 0 0 (aA.mk 0 0 0) 0,2),0,0,0) ⟨λ_=>rfl,λh=>?_,Or.inr rfl⟩ λi=>⟨st i,t i,rfl,rfl,lQ _,lQ _,lQ _⟩) (λ_=>?_)
 ·exfalso;obtain⟨⟨h1,h2⟩,⟨h3,h4⟩,h5,h6⟩:=h;rw[df (show ¬x < 0 by omega),df (show ¬x>=v.gW by omega),df (show ¬y < 0 by omega),df (show ¬y>=v.gH by omega),df (show ¬z < 0 by omega),df (show ¬z>=v.gB5 by omega)] at hc;cases hc
 refine TU.c (P:=λ_=>True) ?_ λp8 _=>?_
 ·have main:∀(k j:Nat) (src:aD) (q:Vector Int 4),4 - j < k->j<=4->TC (λi=>fZ N b s v sky (st i) (swp gl (t i)) k src q (j:Int)) (λ_=>True):=by
   intro k
   induction k with
   | zero=>intro j src q h;omega
   | succ k ih=>
    intro j src q hk hj;simp only[fZ]
    refine TC.cond (λhc=>?_) (λ_=>TC.ret _ trivial)
    have hj4:j < 4:=by have:=of_decide_eq_true hc;omega
    refine TC.bind (aK6 (by omega) _ _ _ _ _ _ _ _ _ _) λr12 _=>TC.t (T.inRO (by omega) (by omega)) λ_ _=>TC.t (T.vgI hj4) λ_ _=>?_;rw[eZ (by omega)]
    exact ih (j+1) _ _ (by omega) (by omega)
  exact main N 0 _ _ (by omega) (by decide)
 refine TU.t (rayN (by omega) _ _ _ _ _ _) λr15 h15=>?_;obtain⟨_,_,⟨d0,d8⟩,_⟩:=hr.view;obtain⟨n,hn⟩:=bm (show 0<=v.gG+1 by omega)
 refine TU.bind (P:=λa:(aD×aN×aA×aA×Bool×aG)×Int×Int×Int=>(aE6 a.1.2.1/\vin a.1.2.2.1/\vin a.1.2.2.2.1/\(D->a.1.2.2.2.1=v0)/\aBs s a.1.2.2.2.2.2)/\exC a.2.1 ((gl.length:Int)*(1+(eW v.gK).2)*(n:Int))/\exC a.2.2.1 (4*(n:Int))/\exC a.2.2.2 (n:Int)) (S:=λi a r=>∃(st':aH) (t':Int),∃dd:Int,r=(st',swp gl t',a.1.1,a.1.2.1,a.1.2.2.1,a.1.2.2.2.1,dd,a.1.2.2.2.2.1,a.1.2.2.2.2.2)/\st'.gL=(st i).gL/\cZ (t i) t' a.2.1/\cZ (st i).gN st'.gN a.2.2.1/\cZ (st i).gI st'.gI a.2.2.2) ?_ λa ha r hr'=>?_
 ·refine TU.loop0 (n:=n) (λj (x:(aD×aN×aA×aA×Bool×aG)×Int×Int) (h:ι->aH×Int)=>(((aE6 x.1.2.1/\vin x.1.2.2.1/\vin x.1.2.2.2.1/\(D->x.1.2.2.2.1=v0)/\aBs s x.1.2.2.2.2.2)/\exC x.2.1 ((gl.length:Int)*(1+(eW v.gK).2)*(j:Int))/\exC x.2.2 (4*(j:Int))))/\∀i,(h i).1.gL=(st i).gL/\cZ (t i) (h i).2 x.2.1/\cZ (st i).gN (h i).1.gN x.2.2/\cZ (st i).gI (h i).1.gI (j:Int)) (F:=λi k (h:aH×Int) (x:(aD×aN×aA×aA×Bool×aG)×Int×Int) j=>eK N v b s sky k h.1 (swp gl h.2) x.1.1 x.1.2.1 x.1.2.2.1 x.1.2.2.2.1 j x.1.2.2.2.2.1 x.1.2.2.2.2.2) (λk h x j hj hx hk=>?_) (λk h x hx=>?_) (by omega) (s:=((p8.1,aN.mk r15.1 r15.2.1 (-1),aA.mk 4294967296 4294967296 4294967296,aA.mk 0 0 0,false,aG.mk (aA.mk 0 0 0) 0 0 (aA.mk 0 0 0) (-1)),0,0)) (h:=λi=>(st i,t i)) ⟨⟨⟨h15,aVJ,aEz,λ_=>rfl,sm0 s⟩,aJP aSq (by rw[show((0:Nat):Int)=0 from rfl,fo]),aJP aSq (by rfl)⟩,λi=>⟨rfl,lQ _,lQ _,lQ _⟩⟩
  ·simp only[eK,aP,dt (show(j:Int)<=v.gG by omega),cond_true]
   simp only[hcon]
   refine TU.t (P:=λr=>r=true) (by cases x.1.2.2.2.2.1 <;> exact⟨_,rfl,rfl⟩) λp26 h26=>?_;rw[h26]
   simp only[cond_true]
   obtain⟨⟨⟨x1,x2,x3,x4,x6⟩,x7,x8⟩,x5⟩:=hx;refine TU.bind (stepS hN hr hsw hcon hfit hobj hD x1 x2 x3 x4 (j:Int) x.1.2.2.2.2.1 x6 (λi=>(h i).1) x.1.1 (λi=>(h i).2)) λa ha r hr'=>?_;have h1:∃(y t1:ι->Int),∀i,r i=(a.1.1,a.1.2.1,a.1.2.2.1,a.1.2.2.2.1,a.1.2.2.2.2.1,y i,a.1.2.2.2.2.2,swp gl (t1 i))/\cZ (h i).2 (t1 i) a.2.1/\cZ (h i).1.gN (y i) a.2.2:=⟨λi=>(hr' i).choose,λi=>(hr' i).choose_spec.choose,λi=>(hr' i).choose_spec.choose_spec⟩
   obtain⟨y,t1,e1⟩:=h1;simp only[λi=>(e1 i).1]
   rw[eZ (by omega)]
   obtain⟨ha,hc1,hc2⟩:=ha;refine hk ((a.1.2.2.2.2.2,a.1.1,a.1.2.1,a.1.2.2.1,a.1.2.2.2.1,a.1.2.2.2.2.1),x.2.1+a.2.1,x.2.2+a.2.2) (λi=>(aH.mk (h i).1.gL (y i) (I64 ((h i).1.gI+1)),t1 i)) ⟨⟨ha,?_,?_⟩,λi=>⟨(x5 i).1,pG (x5 i).2.1 (e1 i).2.1,pG (x5 i).2.2.1 (e1 i).2.2,aED (x5 i).2.2.2⟩⟩
   ·refine aJP (aQH x7 hc1) ?_;generalize (gl.length:Int)*(1+(eW v.gK).2)=X;rw[show((j+1:Nat):Int)=(j:Int)+1 from by omega,dv,eu]
   ·exact aJP (aQH x8 hc2) (by omega)
  ·simp only[eK,aP,df (show ¬(n:Int)<=v.gG by omega),cond_false,ae]
   exact TU.ret (x.1,x.2.1,x.2.2,(n:Int)) ⟨hx.1.1,hx.1.2.1,hx.1.2.2,rfl⟩ λi=>⟨_,_,_,rfl,hx.2 i⟩
 ·have h1:∃(st':ι->aH) (t':ι->Int) (dd:ι->Int),∀i,r i=(st' i,swp gl (t' i),a.1.1,a.1.2.1,a.1.2.2.1,a.1.2.2.2.1,dd i,a.1.2.2.2.2.1,a.1.2.2.2.2.2)/\(st' i).gL=(st i).gL/\cZ (t i) (t' i) a.2.1/\cZ (st i).gN (st' i).gN a.2.2.1/\cZ (st i).gI (st' i).gI a.2.2.2:=⟨λi=>(hr' i).choose,λi=>(hr' i).choose_spec.choose,λi=>(hr' i).choose_spec.choose_spec.choose,λi=>(hr' i).choose_spec.choose_spec.choose_spec⟩
  obtain⟨st',t',dd,e1⟩:=h1;simp only[λi=>(e1 i).1]
  rw[hn]
  exact TU.ret ((aG.mk a.1.2.2.2.1 a.1.2.2.2.2.2.gA0 a.1.2.2.2.2.2.gG a.1.2.2.2.2.2.gB6 a.1.2.2.2.2.2.gA2,0),a.2) ⟨ha.1.2.2.2.1,λ_=>rfl,Or.inl ⟨rfl,⟨ha.1.2.2.2.2,ha.1.2.2.1⟩,ha.2⟩⟩ λi=>⟨st' i,t' i,rfl,(e1 i).2⟩
end
section
variable {ι:Type} {N:Nat} (hN:1000000000000 < N) {b:List (List aC)} {s:aE} {v:aF} {sky:aA} (hr:Rdy b s v sky)
include hN hr
theorem stepW{bv:bD}{gl:List aJ}(hbv:aCe gl.length bv)(hgl:gl=s.gQ)(htr:zD gl bv)(hcon:v.gA4=false)(hfit:(s.gM.length:Int)<=(eW v.gK).2)(hobj:aE8 s){D:Prop}(hD:DrkW D s sky){ray:aN}(hray:aE6 ray){f l:aA}(hf:vin f)(hl:vin l)(hl0:D->l=v0)(dep:Int)(ov:Bool){sm:aG}(hsm:aBs s sm)(st:ι->aH)(src:aD)(t:ι->Int) :
  TU (λi=>oM N b ray f l dep ov sm s v sky (st i) src (wlk bv gl (t i))) (λa:(aN×aA×aA×Bool×aG×aD)×Int×Int=>(aE6 a.1.1/\vin a.1.2.1/\vin a.1.2.2.1/\(D->a.1.2.2.1=v0)/\aBs s a.1.2.2.2.2.1)/\amC a.2.1 ((3*(gl.length:Int))*(1+(eW v.gK).2))/\amC a.2.2 4) (λi a r=>∃x t',r=(a.1.1,a.1.2.1,a.1.2.2.1,a.1.2.2.2.1,a.1.2.2.2.2.1,x,a.1.2.2.2.2.2,wlk bv gl t')/\cZ (t i) t' a.2.1/\cZ (st i).gN x a.2.2):=by
 unfold oM;refine TU.bind (meetW hN hr hbv hgl htr hcon hfit hobj hray f l dep ov hsm st src t) λa ha r hr'=>?_;obtain⟨a,mc,tc⟩:=a;obtain⟨ha,hmc,htc⟩:=ha;dsimp only at ha hmc htc hr';have h1:∃(x t1:ι->Int),∀i,r i=(a.1,x i,(t1 i),a.2.1,a.2.2)/\cZ (t i) (t1 i) mc/\cZ (st i).gN (x i) tc:=⟨λi=>(hr' i).choose,λi=>(hr' i).choose_spec.choose,λi=>(hr' i).choose_spec.choose_spec⟩
 obtain⟨x,t1,e1⟩:=h1;simp only[λi=>(e1 i).1]
 obtain⟨hp,hm,hs⟩:=ha;have nd:∀h:(a.2.1.gB2.gA9==4)=true,¬D:=λh d=>by
  have h4:a.2.1.gB2.gA9=4:=by simpa using h
  rcases hm with hm | hm
  ·exact hD.mats d _ hm h4
  ·rw[hm] at h4;cases h4
 generalize a.2.1=pl at *;refine TU.c (P:=λp:aA×Bool=>vin p.1/\(D->p.1=v0)) (TC.cond (λ_=>TC.bind (addW hN D (by intro y hy;simp at hy;rcases hy with rfl;exact hr.sky) (by simp) _ hf hl (λd=>⟨hl0 d,by rw[hD.sky d]⟩) _ _ _ _ _ _) λr3 h3=>TC.bind (aQv _ _ _ _ _ _ _ _ _ _) λ_ _=>TC.ret _ h3) (λ_=>TC.ret _ ⟨hl,hl0⟩)) λp2 h2=>?_;refine TU.c (aQv _ _ _ _ _ _ _ _ _ _) λ_ _=>?_;simp only[aP]
 refine TU.c (P:=λp:aA×Bool=>vin p.1/\(D->p.1=v0)) (TC.cond (λhc=>TC.bind (addW hN D (by intro y hy;simp at hy;rcases hy with rfl;exact hp.2.2.1) (by simp) _ hf h2.1 (λd=>absurd d (nd hc)) _ _ _ _ _ _) λr3 h3=>TC.bind (aQv _ _ _ _ _ _ _ _ _ _) λ_ _=>TC.ret _ h3) (λ_=>TC.ret _ h2)) λp6 p6l=>?_;refine TU.bind (P:=λz:(aA×aD)×Int=>(vin z.1.1/\(D->z.1.1=v0))/\amC z.2 ((3*(gl.length:Int))*(eW v.gK).2)) (S:=λi z r=>∃t2,r=(z.1.1,z.1.2,wlk bv gl t2)/\cZ (t1 i) t2 z.2) ?_ λz hz rz hrz=>?_
 ·refine TU.t (P:=λ_=>True) (T.cond (λ_=>T.ret trivial) (λ_=>T.ret trivial)) λp11 _=>TU.cond (λ_=>?_) (λ_=>TU.ret ((p6.1,src),0) ⟨p6l,aNZ aM2 (dk (by omega) (by omega))⟩ λi=>⟨t1 i,rfl,lQ _⟩)
  refine TU.bind (aVk hN hr hbv hgl htr hcon hfit hD hp (ι:=ι) ray hf p6l.1 p6l.2 dep p6.2 a.1 _ src t1) λz hz rz hrz=>?_;have h2:∃t2:ι->Int,∀i,rz i=(z.1.1,z.1.2,wlk bv gl (t2 i))/\cZ (t1 i) (t2 i) z.2:=⟨λi=>(hrz i).choose,λi=>(hrz i).choose_spec⟩
  obtain⟨t2,e2⟩:=h2;simp only[λi=>(e2 i).1]
  exact TU.ret ((z.1.1,z.1.2),z.2) hz λi=>⟨t2 i,rfl,(e2 i).2⟩
 have h2':∃t2:ι->Int,∀i,rz i=(z.1.1,z.1.2,wlk bv gl (t2 i))/\cZ (t1 i) (t2 i) z.2:=⟨λi=>(hrz i).choose,λi=>(hrz i).choose_spec⟩
 obtain⟨t2,e2⟩:=h2';simp only[λi=>(e2 i).1]
 obtain⟨z,zc⟩:=z;obtain⟨hz,hzc⟩:=hz;dsimp only at hz hzc e2;have rt:∀i,cZ (t i) (t2 i) (mc+zc):=λi=>pG (e1 i).2.1 (e2 i).2;have rc:amC (mc+zc) ((3*(gl.length:Int))*(1+(eW v.gK).2)):=aJ2 (aPQ hmc hzc) (by rw[dv,eu])
 refine TU.t (P:=λ_=>True) (T.cond (λ_=>T.ret trivial) (λ_=>T.ret trivial)) λp14 _=>TU.cond (λ_=>?_) (λ_=>?_)
 ·exact TU.c (aQv _ _ _ _ _ _ _ _ _ _) λ_ _=>TU.ret ((ray,f,z.1,_,a.1,z.2),mc+zc,tc) ⟨⟨hray,hf,hz.1,hz.2,hs⟩,rc,htc⟩ λi=>⟨x i,t2 i,rfl,rt i,(e1 i).2.2⟩
 refine TU.c (aKm hN _ _ _ _ _ _ _ _ _ _) λr16 _=>TU.c (aKm hN _ _ _ _ _ _ _ _ _ _) λr17 _=>?_;refine TU.t (aNP (by omega) hp.2.2.2 hp.2.2.1 hp.2.1 ray.gd _) λr18 h18=>TU.t (aLV (by omega) _ (by intro y hy;simp at hy;rcases hy with rfl | rfl;exact hf;exact h18.2) (by simp)) λr19 h19=>?_;refine TU.c (aQv _ _ _ _ _ _ _ _ _ _) λ_ _=>?_;refine TU.c (P:=λp:aA×Bool×aD=>vin p.1) ?_ λp21 h21=>?_
 ·refine TC.cond (λ_=>TC.bind (aKm hN _ _ _ _ _ _ _ _ _ _) λr22 _=>TC.t (aKb (by omega) h19 _) λr23 h23=>TC.bind (aQv _ _ _ _ _ _ _ _ _ _) λ_ _=>TC.ret _ h23) (λ_=>TC.ret _ h19)
 ·exact TU.ret ((_,p21.1,z.1,p21.2.1,a.1,p21.2.2),mc+zc,tc) ⟨⟨⟨hp.1,h18.1⟩,h21,hz.1,hz.2,hs⟩,rc,htc⟩ λi=>⟨x i,t2 i,rfl,rt i,(e1 i).2.2⟩
def inVW(v:aF)(x y z:Int):Prop:=(0<=x/\x < v.gW)/\(0<=y/\y < v.gH)/\0<=z/\z < v.gB5
theorem pathW{bv:bD}{gl:List aJ}(hbv:aCe gl.length bv)(hgl:gl=s.gQ)(htr:zD gl bv)(hcon:v.gA4=false)(hfit:(s.gM.length:Int)<=(eW v.gK).2)(hobj:aE8 s){D:Prop}(hD:DrkW D s sky)(x y z:Int)(st:ι->aH)(t:ι->Int) :
  TU (λi=>iI N b x y z s v sky (st i) (wlk bv gl (t i))) (λa:(aG×Int)×Int×Int×Int=>(D->a.1.1.gA7=v0)/\(inVW v x y z->a.1.2=0)/\(a.1.2=0/\(aBs s a.1.1/\vin a.1.1.gA7)/\amC a.2.1 ((3*(gl.length:Int))*(1+(eW v.gK).2)*(v.gG+1))/\amC a.2.2.1 (4*(v.gG+1))/\aPt a.2.2.2 (v.gG+1)\/a.1.2=2)) (λi a r=>∃st' t',r=(st',wlk bv gl t',a.1.1,a.1.2)/\st'.gL=(st i).gL/\cZ (t i) t' a.2.1/\cZ (st i).gN st'.gN a.2.2.1/\cZ (st i).gI st'.gI a.2.2.2):=by
 unfold iI wC;simp only[aP,ae]
 refine TU.cond (λhc=>TU.ret ((aG.mk (aA.mk 0 0 0) 0 0 (aA.mk 0 0 0) 0,2),0,0,0) ⟨λ_=>rfl,λh=>?_,Or.inr rfl⟩ λi=>⟨st i,t i,rfl,rfl,lQ _,lQ _,lQ _⟩) (λ_=>?_)
 ·exfalso;obtain⟨⟨h1,h2⟩,⟨h3,h4⟩,h5,h6⟩:=h;rw[df (show ¬x < 0 by omega),df (show ¬x>=v.gW by omega),df (show ¬y < 0 by omega),df (show ¬y>=v.gH by omega),df (show ¬z < 0 by omega),df (show ¬z>=v.gB5 by omega)] at hc;cases hc
 refine TU.c (P:=λ_=>True) ?_ λp8 _=>?_
 ·have main:∀(k j:Nat) (src:aD) (q:Vector Int 4),4 - j < k->j<=4->TC (λi=>iT N b s v sky (st i) (wlk bv gl (t i)) k src q (j:Int)) (λ_=>True):=by
   intro k
   induction k with
   | zero=>intro j src q h;omega
   | succ k ih=>
    intro j src q hk hj;simp only[iT]
    refine TC.cond (λhc=>?_) (λ_=>TC.ret _ trivial)
    have hj4:j < 4:=by have:=of_decide_eq_true hc;omega
    refine TC.bind (aKm (by omega) _ _ _ _ _ _ _ _ _ _) λr12 _=>TC.t (T.inRO (by omega) (by omega)) λ_ _=>TC.t (T.vgI hj4) λ_ _=>?_;rw[eZ (by omega)]
    exact ih (j+1) _ _ (by omega) (by omega)
  exact main N 0 _ _ (by omega) (by decide)
 refine TU.t (rayN (by omega) _ _ _ _ _ _) λr15 h15=>?_;obtain⟨_,_,⟨d0,d8⟩,_⟩:=hr.view;obtain⟨n,hn⟩:=bm (show 0<=v.gG+1 by omega)
 refine TU.bind (P:=λa:(aD×aN×aA×aA×Bool×aG)×Int×Int×Int=>(aE6 a.1.2.1/\vin a.1.2.2.1/\vin a.1.2.2.2.1/\(D->a.1.2.2.2.1=v0)/\aBs s a.1.2.2.2.2.2)/\amC a.2.1 ((3*(gl.length:Int))*(1+(eW v.gK).2)*(n:Int))/\amC a.2.2.1 (4*(n:Int))/\aPt a.2.2.2 (n:Int)) (S:=λi a r=>∃(st':aH) (t':Int),∃dd:Int,r=(st',wlk bv gl t',a.1.1,a.1.2.1,a.1.2.2.1,a.1.2.2.2.1,dd,a.1.2.2.2.2.1,a.1.2.2.2.2.2)/\st'.gL=(st i).gL/\cZ (t i) t' a.2.1/\cZ (st i).gN st'.gN a.2.2.1/\cZ (st i).gI st'.gI a.2.2.2) ?_ λa ha r hr'=>?_
 ·refine TU.loop0 (n:=n) (λj (x:(aD×aN×aA×aA×Bool×aG)×Int×Int) (h:ι->aH×Int)=>(((aE6 x.1.2.1/\vin x.1.2.2.1/\vin x.1.2.2.2.1/\(D->x.1.2.2.2.1=v0)/\aBs s x.1.2.2.2.2.2)/\amC x.2.1 ((3*(gl.length:Int))*(1+(eW v.gK).2)*(j:Int))/\amC x.2.2 (4*(j:Int)))/\(x.1.2.2.2.2.1=true->1<=(j:Int)))/\∀i,(h i).1.gL=(st i).gL/\cZ (t i) (h i).2 x.2.1/\cZ (st i).gN (h i).1.gN x.2.2/\cZ (st i).gI (h i).1.gI (j:Int)) (F:=λi k (h:aH×Int) (x:(aD×aN×aA×aA×Bool×aG)×Int×Int) j=>fI N v b s sky k h.1 (wlk bv gl h.2) x.1.1 x.1.2.1 x.1.2.2.1 x.1.2.2.2.1 j x.1.2.2.2.2.1 x.1.2.2.2.2.2) (λk h x j hj hx hk=>?_) (λk h x hx=>?_) (by omega) (s:=((p8.1,aN.mk r15.1 r15.2.1 (-1),aA.mk 4294967296 4294967296 4294967296,aA.mk 0 0 0,false,aG.mk (aA.mk 0 0 0) 0 0 (aA.mk 0 0 0) (-1)),0,0)) (h:=λi=>(st i,t i)) ⟨⟨⟨⟨h15,aVJ,aEz,λ_=>rfl,sm0 s⟩,aJ2 aM2 (by rw[show((0:Nat):Int)=0 from rfl,fo]),aJ2 aM2 (by rfl)⟩,λh=>by cases h⟩,λi=>⟨rfl,lQ _,lQ _,lQ _⟩⟩
  ·simp only[fI,aP,dt (show(j:Int)<=v.gG by omega),cond_true]
   refine TU.t (P:=λr=>r=false->1<=(j:Int)) (T.cond (λ_=>T.ret λh=>by cases h) (λhc=>T.ret λ_=>hx.1.2 (by simpa using hc))) λp26 j0=>TU.cond (λ_=>?_) (λhc=>TU.ret (x.1,x.2.1,x.2.2,(j:Int)) ⟨hx.1.1.1,aNZ hx.1.1.2.1 (gt (by omega) (dk (by omega) (by omega))),aNZ hx.1.1.2.2 (by omega),j0 hc,by show(j:Int)<=n;omega⟩ λi=>⟨_,_,_,rfl,hx.2 i⟩)
   obtain⟨⟨⟨⟨x1,x2,x3,x4,x6⟩,x7,x8⟩,_⟩,x5⟩:=hx;refine TU.bind (stepW hN hr hbv hgl htr hcon hfit hobj hD x1 x2 x3 x4 (j:Int) x.1.2.2.2.2.1 x6 (λi=>(h i).1) x.1.1 (λi=>(h i).2)) λa ha r hr'=>?_;have h1:∃(y t1:ι->Int),∀i,r i=(a.1.1,a.1.2.1,a.1.2.2.1,a.1.2.2.2.1,a.1.2.2.2.2.1,y i,a.1.2.2.2.2.2,wlk bv gl (t1 i))/\cZ (h i).2 (t1 i) a.2.1/\cZ (h i).1.gN (y i) a.2.2:=⟨λi=>(hr' i).choose,λi=>(hr' i).choose_spec.choose,λi=>(hr' i).choose_spec.choose_spec⟩
   obtain⟨y,t1,e1⟩:=h1;simp only[λi=>(e1 i).1]
   rw[eZ (by omega)]
   obtain⟨ha,hc1,hc2⟩:=ha;refine hk ((a.1.2.2.2.2.2,a.1.1,a.1.2.1,a.1.2.2.1,a.1.2.2.2.1,a.1.2.2.2.2.1),x.2.1+a.2.1,x.2.2+a.2.2) (λi=>(aH.mk (h i).1.gL (y i) (I64 ((h i).1.gI+1)),t1 i)) ⟨⟨⟨ha,?_,?_⟩,λ_=>by omega⟩,λi=>⟨(x5 i).1,pG (x5 i).2.1 (e1 i).2.1,pG (x5 i).2.2.1 (e1 i).2.2,aED (x5 i).2.2.2⟩⟩
   ·refine aJ2 (aPQ x7 hc1) ?_;generalize (3*(gl.length:Int))*(1+(eW v.gK).2)=X;rw[show((j+1:Nat):Int)=(j:Int)+1 from by omega,dv,eu]
   ·exact aJ2 (aPQ x8 hc2) (by omega)
  ·simp only[fI,aP,df (show ¬(n:Int)<=v.gG by omega),cond_false,ae]
   exact TU.ret (x.1,x.2.1,x.2.2,(n:Int)) ⟨hx.1.1.1,hx.1.1.2.1,hx.1.1.2.2,by show(1:Int)<=n;omega,fc _⟩ λi=>⟨_,_,_,rfl,hx.2 i⟩
 ·have h1:∃(st':ι->aH) (t':ι->Int) (dd:ι->Int),∀i,r i=(st' i,wlk bv gl (t' i),a.1.1,a.1.2.1,a.1.2.2.1,a.1.2.2.2.1,dd i,a.1.2.2.2.2.1,a.1.2.2.2.2.2)/\(st' i).gL=(st i).gL/\cZ (t i) (t' i) a.2.1/\cZ (st i).gN (st' i).gN a.2.2.1/\cZ (st i).gI (st' i).gI a.2.2.2:=⟨λi=>(hr' i).choose,λi=>(hr' i).choose_spec.choose,λi=>(hr' i).choose_spec.choose_spec.choose,λi=>(hr' i).choose_spec.choose_spec.choose_spec⟩
  obtain⟨st',t',dd,e1⟩:=h1;simp only[λi=>(e1 i).1]
  rw[hn]
  exact TU.ret ((aG.mk a.1.2.2.2.1 a.1.2.2.2.2.2.gA0 a.1.2.2.2.2.2.gG a.1.2.2.2.2.2.gB6 a.1.2.2.2.2.2.gA2,0),a.2) ⟨ha.1.2.2.2.1,λ_=>rfl,Or.inl ⟨rfl,⟨ha.1.2.2.2.2,ha.1.2.2.1⟩,ha.2⟩⟩ λi=>⟨st' i,t' i,rfl,(e1 i).2⟩
end
set_option maxHeartbeats 2000000
theorem objT(N:Nat)(hN:10 < N)(s:aE)(t:aJ):T (nB N s t) (λr=>r=0->0<=t.gA2/\t.gA2 < (s.gJ.length:Int)):=by
 obtain⟨r,e,_⟩:=triT N hN s t;refine⟨r,e,λh=>?_⟩
 subst h;unfold nB at e;simp only[aP] at e;have tt:∀b:Bool,cond b true true=true:=λb=>by cases b <;> rfl
 by_cases h1:t.gA2 < 0
 ·rw[dt h1,tt] at e;cases e
 ·by_cases h2:t.gA2>=(s.gJ.length:Int)
  ·rw[dt h2,tt] at e;cases e
  ·omega
theorem aVM(N:Nat)(hN:300 < N){s:aE}(h:few s)(e:kG N s=some 0):aE8 s/\s.gA3.length=s.gJ.length:=by
 have h1:=h.1;have f:T (dI N s.gQ s) (λr=>r=0->aE8 s):=by
  unfold dI;refine aJ1 s.gQ (λt=>kV N t s) (λt=>0<=t.gA2/\t.gA2 < (s.gJ.length:Int)) (λk i=>by rw[fH]) (λt _=>?_) (by omega) (by omega)
  unfold kV;exact T.bind (objT N (by omega) s t) λr h=>T.ret h
 obtain⟨r,e1,hr⟩:=f;unfold kG at e;simp only[aP] at e;cases c:((s.gA3.length:Int) != (s.gJ.length:Int)) with
 | true=>rw[c] at e;cases e
 | false=>
  rw[c,cond_false,e1,ae] at e;have c':(s.gA3.length:Int)=(s.gJ.length:Int):=by simpa using c
  refine⟨?_,by omega⟩
  cases d:(r != 0) with
  | true=>rw[d,cond_true] at e;cases e;cases d
  | false=>exact hr (by simpa using d)
theorem aPn{N:Nat}{s:aE}{v:aF}(h:aRt N s v 0):kG N s=some 0/\fits s v.gK:=by
 have f:∀{c:Int},pL N s c=some 0->fits s c:=by
  intro c e;obtain⟨r,e',h⟩:=aVB N s c;exact h (mL e' e)
 rcases h with ⟨_,h⟩ | ⟨_,_,h⟩ | ⟨h1,_,h3⟩
 ·exact absurd rfl h
 ·exact absurd rfl h
 ·exact⟨h1,f h3⟩
def rg(x:Int):Prop:=0<=x/\x<=65535
theorem aGt(N:Nat)(a:Int):uL N a=some (a / 4294967296):=by unfold uL;rw[aSi]
theorem aF4(k:Nat){a y:Int}(ha:cG a)(hy:cG y):T (jM (k+3) a y) cG:=by
 by_cases h:y=0
 ·subst h;unfold jM;exact T.cond (λ_=>T.cond (λ_=>T.ret ⟨by decide,by decide⟩) (λ_=>T.cond (λ_=>T.ret ⟨by decide,by decide⟩) (λ_=>T.ret z64))) (λh=>by cases h)
 ·exact⟨_,zC k ha hy h,dY _⟩
theorem o64 : cG 4294967296:=⟨by decide,by decide⟩
theorem aSg(k:Nat){a:Int}(ha:cG a):T (uH (k+3) a) rg:=by
 unfold uH;refine T.cond (λ_=>T.ret ⟨by decide,by decide⟩) (λhc=>?_)
 have h0:=of_decide_eq_false hc;have ha':=ha;obtain⟨a1,a2⟩:=ha';have s:0 < S64 (a+4294967296)/\a*4294967296 < 4294967297*S64 (a+4294967296):=by
  by_cases h:a+4294967296<=9223372036854775807
  ·rw[rL ⟨by omega,h⟩];omega
  ·have:S64 (a+4294967296)=9223372036854775807:=by unfold S64;rw[if_neg (by omega),if_pos (by omega)]
   rw[this];omega
 refine T.eq (aCM k ha o64) ?_;have si:=dY (a+4294967296)
 generalize S64 (a+4294967296)=y at *;refine T.eq (zC k ha si (by omega)) ?_;have e:aLN (ab a*4294967296) (ab y) (!(decide (a < 0)==decide (y < 0)))=a*4294967296 / y:=by
  rw[df (show ¬a < 0 by omega),df (show ¬y < 0 by omega)]
  unfold aLN ab;simp only[beq_self_eq_true,Bool.not_true,cond_false]
  rw[if_neg (by omega),if_neg (by omega)]
 rw[e]
 have q1:0<=a*4294967296 / y:=ci (by omega) (by omega)
 have q2:a*4294967296 / y < 4294967297:=j6 s.1 s.2;generalize a*4294967296 / y=q at *;refine T.eq (sQ _ (a:=65535) ⟨by decide,by decide⟩) ?_;rw[rL (z:=q) ⟨by omega,by omega⟩,show S64 (65535*4294967296)=65535*4294967296 by decide]
 refine T.eq (aGC k (a:=q) (b:=65535*4294967296) ⟨by omega,by omega⟩ ⟨by decide,by decide⟩) (T.eq (aGt _ _) (T.ret ?_))
 rw[show q*(65535*4294967296) / 4294967296=q*65535 by omega,rL ⟨by omega,by omega⟩]
 unfold rg;omega
theorem aOo(k:Nat)(a:Int):T (uV (k+3) a) rg:=by
 unfold uV;refine T.eq (sQ _ (a:=32767) ⟨by decide,by decide⟩) ?_;refine T.bind (P:=λc => -4294967296<=c/\c<=4294967296) ?_ λc hc=>?_
 ·unfold xZ;refine T.ret ?_;unfold eP jZ;constructor <;> (repeat' split) <;> omega
 rw[show S64 (32767*4294967296)=32767*4294967296 by decide]
 refine T.eq (aCM k o64 (b:=c) ⟨by omega,by omega⟩) ?_;rw[rL (z:=4294967296+c) ⟨by omega,by omega⟩]
 refine T.eq (aGC k (a:=32767*4294967296) (b:=4294967296+c) ⟨by decide,by decide⟩ ⟨by omega,by omega⟩) (T.eq (aGt _ _) (T.ret ?_))
 rw[show 32767*4294967296*(4294967296+c) / 4294967296=32767*(4294967296+c) by omega,rL ⟨by omega,by omega⟩]
 unfold rg;omega
theorem farT'(N:Nat)(a:Int):T (aBS N a) rg:=by
 unfold aBS;refine T.eq (aGt N a) (T.ret ?_)
 unfold rg eP jZ;constructor <;> (repeat' split) <;> omega
theorem rg3{a b c:Int}(ha:rg a)(hb:rg b)(hc:rg c):∀x∈(#v[a,b,c]:Vector Int 3).toList,rg x:=by
 intro x hx;simp at hx;rcases hx with rfl | rfl | rfl
 ·exact ha
 ·exact hb
 ·exact hc
theorem aOB(k:Nat){v:aA}(hv:vin v):T (qR (k+3) v) (λr=>∀x∈r.toList,rg x):=by
 unfold qR;exact T.bind (aSg k hv.1) λa ha=>T.bind (aSg k hv.2.1) λb hb=>T.bind (aSg k hv.2.2) λc hc=>T.ret (rg3 ha hb hc)
theorem aOy(k:Nat)(v:aA):T (qI (k+3) v) (λr=>∀x∈r.toList,rg x):=by
 unfold qI;exact T.bind (aOo k v.gX) λa ha=>T.bind (aOo k v.gY) λb hb=>T.bind (aOo k v.gZ) λc hc=>T.ret (rg3 ha hb hc)
theorem unitT(k:Nat){v:aA}(hv:vin v):T (aBb (k+65) v) vin:=by
 unfold aBb;refine T.cond (λ_=>T.ret hv) (λ_=>T.bind (aPy k hv) λr hr=>T.bind (P:=vin) ?_ λu hu=>T.ret hu)
 unfold yS;exact T.bind (aF4 (k+62) hv.1 hr) λa ha=>T.bind (aF4 (k+62) hv.2.1 hr) λb hb=>T.bind (aF4 (k+62) hv.2.2 hr) λc hc=>T.ret ⟨ha,hb,hc⟩
theorem aUW(a:Int):rg (I64 (lE .u32 a 65535)):=by
 have e:lE .u32 a 65535=IntKind.u32.wrap ((be 32 a &&& be 32 65535).toNat:Int):=rfl;have h:(be 32 a &&& be 32 65535).toNat<=65535:=by
  rw[BitVec.toNat_and,show(be 32 65535).toNat=65535 by decide]
  exact Nat.and_le_right
 generalize (be 32 a &&& be 32 65535).toNat=m at *;have w:IntKind.u32.wrap (m:Int)=(m:Int):=by
  show((be 32 (m:Int)).toNat:Int)=(m:Int)
  rw[BitVec.toNat_ofInt]
  omega
 rw[e,w,bE (by omega) (by omega)]
 unfold rg;omega
def smL(s:aE)(l:List aG):Prop:=(1<=l.length/\l.length<=16)/\∀x∈l,aBs s x/\vin x.gA7
abbrev Px:=Vector Int 3×Int×Int×Vector Int 3×Int×Int
def pxI(p:Px):aI:=aI.mk 1 1 [p.1] [p.2.1] [p.2.2.1] [p.2.2.2.1] [p.2.2.2.2.1] [p.2.2.2.2.2]
def aQS(n:Nat)(p:Px):Prop:=(∀x∈p.1.toList,rg x)/\rg p.2.1/\rg p.2.2.1/\(∀x∈p.2.2.2.1.toList,rg x)/\rg p.2.2.2.2.1/\rg p.2.2.2.2.2/\p.2.2.2.2.1<=(n:Int)/\(p.2.2.2.2.1=0->p.2.1=0/\p.2.2.1=0)
theorem aRb(N:Nat)(hN:20 < N){s:aE}(hlab:s.gA3.length=s.gJ.length){l:List aG}(h:smL s l):zZ N l s=some 0:=by
 obtain⟨⟨h1,h16⟩,hl⟩:=h;have main:T (zZ N l s) (λr=>r=0):=by
  unfold zZ;simp only[aP]
  refine T.cond (λhc=>?_) (λ_=>?_)
  ·exfalso;rw[show((l.length:Int)==0)=false from beq_eq_false_iff_ne.2 (by omega),df (show ¬(l.length:Int) > 16 by omega)] at hc;cases hc
  ·refine T.bind (P:=λo=>o=Sum.inl ()) ?_ λo ho=>by subst ho;exact T.ret rfl
   refine T.loopG0 (n:=l.length) (λ_ (_:Unit)=>True) _ (F:=λk (_:Unit) i=>tM N l s k i) (λk _ i hi _ hk=>?_) (λk _ _=>?_) (by omega) (s:=()) trivial
   ·rw[tM,aP,dt (by omega),cond_true,fX,af hi,ae]
    obtain⟨⟨ho,_⟩,_⟩:=hl _ (bj hi)
    generalize l[i]=x at *;simp only[aP]
    have e:eP (s.gJ.length:Int) (s.gA3.length:Int)=(s.gJ.length:Int):=by unfold eP;rw[hlab];split <;> rfl
    rw[e]
    have c1:cond (decide (x.gA2 < -1)) true (decide (x.gA2>=(s.gJ.length:Int)))=false:=by
     rcases ho with ⟨h,_⟩ | ⟨⟨h,h'⟩,_⟩
     ·rw[df (show ¬x.gA2 < -1 by omega),df (show ¬x.gA2>=(s.gJ.length:Int) by omega)];rfl
     ·rw[df (show ¬x.gA2 < -1 by omega),df (show ¬x.gA2>=(s.gJ.length:Int) by omega)];rfl
    have c2:cond (x.gA0 != 0) (x.gA0 != 1) false=false:=by
     have:x.gA0=0\/x.gA0=1:=by
      rcases ho with ⟨_,h⟩ | ⟨_,h⟩
      ·exact Or.inl h
      ·exact h
     rcases this with h | h <;> rw[h] <;> rfl
    rw[c1,cond_false,c2,ae,cond_false,eZ (by omega)]
    exact hk () trivial
   ·rw[tM,aP,df (by omega),cond_false];exact T.ret rfl
 obtain⟨r,e,rfl⟩:=main;exact e
theorem aWk(N:Nat)(hN:1000 < N){s:aE}(hid:s.gJ.length<=20)(hlab:s.gA3.length=s.gJ.length){l:List aG}(h:smL s l):T (qE N l s) (λr=>∃p,aQS s.gJ.length p/\r=(pxI p,0)):=by
 have may:=aRb N (by omega) hlab h;obtain⟨⟨h1,h16⟩,hl⟩:=h;obtain⟨k,rfl⟩:=nk (show 65<=N by omega)
 unfold qE;refine T.eq may ?_;simp only[bne_self_eq_false,cond_false]
 refine T.bind (P:=λp:aA×aA×Int×Int×Int×Int=>vin p.1/\vin p.2.1/\cG p.2.2.1/\(0<=p.2.2.2.1/\p.2.2.2.1<=(l.length:Int))/\(0<=p.2.2.2.2.1/\p.2.2.2.2.1<=(l.length:Int))/\(p.2.2.2.2.1=0->p.2.2.2.1=0/\p.2.2.2.2.2 < 0)/\(0 < p.2.2.2.2.1->0<=p.2.2.2.2.2/\p.2.2.2.2.2 < (s.gJ.length:Int))) ?_ λp hp=>?_
 ·refine T.loopG0 (n:=l.length) (λi (p:aA×aA×Int×Int×Int×Int)=>vin p.1/\vin p.2.1/\cG p.2.2.1/\(0<=p.2.2.2.1/\p.2.2.2.1<=(i:Int))/\(0<=p.2.2.2.2.1/\p.2.2.2.2.1<=(i:Int))/\(p.2.2.2.2.1=0->p.2.2.2.1=0/\p.2.2.2.2.2 < 0)/\(0 < p.2.2.2.2.1->0<=p.2.2.2.2.2/\p.2.2.2.2.2 < (s.gJ.length:Int))) _ (F:=λm (p:aA×aA×Int×Int×Int×Int) i=>pX (k+65) l m p.1 p.2.1 p.2.2.1 p.2.2.2.1 p.2.2.2.2.1 p.2.2.2.2.2 i) (λm p i hi hp hk=>?_) (λm p hp=>?_) (by omega) (s:=(aA.mk 0 0 0,aA.mk 0 0 0,0,0,0,-1)) ⟨aEz,aEz,z64,⟨by decide,by decide⟩,⟨by decide,by decide⟩,λ_=>⟨rfl,by decide⟩,λh=>absurd h (by decide)⟩
  ·rw[pX,aP,dt (by omega),cond_true,fX,af hi,ae]
   obtain⟨⟨ho,hd,hn⟩,hcol⟩:=hl _ (bj hi)
   generalize l[i]=x at *;obtain⟨p1,p2,p3,⟨p4,p4'⟩,⟨p5,p5'⟩,p6,p7⟩:=hp;obtain⟨c,n,d,al,met,fi⟩:=p;dsimp only at *;rw[show k+65=(k+62)+3 by omega,aIj (k+62) p1 hcol,ae,aIj (k+62) p2 hn,ae,aCM (k+62) p3 hd,ae]
   have al':0<=x.gA0/\x.gA0<=1:=by
    rcases ho with ⟨_,h⟩ | ⟨_,h | h⟩ <;> omega
   rw[bE (x:=al+x.gA0) (by omega) (by omega),bE (x:=met+1) (by omega) (by omega)]
   by_cases g:x.gA2>=0
   ·have ob:0<=x.gA2/\x.gA2 < (s.gJ.length:Int):=by
     rcases ho with ⟨h,_⟩ | ⟨h,_⟩
     ·omega
     ·exact h
    rw[dt g,cond_true]
    by_cases f:fi < 0
    ·rw[dt f,cond_true,ae,eZ (by omega)]
     exact hk (_,_,_,_,_,_) ⟨vK _ _,vK _ _,dY _,by dsimp only;omega,by dsimp only;omega,λh=>by dsimp only at h;omega,λ_=>ob⟩
    ·rw[df f,cond_false,ae,eZ (by omega)]
     refine hk (_,_,_,_,_,_) ⟨vK _ _,vK _ _,dY _,by dsimp only;omega,by dsimp only;omega,λh=>by dsimp only at h;omega,λ_=>?_⟩
     refine p7 ?_;by_cases z:met=0
     ·have:=p6 z;omega
     ·omega
   ·have a0:x.gA0=0:=by
     rcases ho with ⟨_,h⟩ | ⟨h,_⟩
     ·exact h
     ·omega
    rw[df g,cond_false,ae,eZ (by omega),a0]
    exact hk (_,_,_,_,_,_) ⟨vK _ _,vK _ _,dY _,by dsimp only;omega,by dsimp only;omega,λh=>by have:=p6 h;dsimp only;omega,p7⟩
  ·rw[pX,aP,df (by omega),cond_false];exact T.ret hp
 obtain⟨p1,p2,p3,⟨p4,p4'⟩,⟨p5,p5'⟩,p6,p7⟩:=hp;obtain⟨c,n,d,al,met,fi⟩:=p;dsimp only at *;have ln:cG (l.length:Int):=⟨by omega,by omega⟩
 refine T.eq (sQ _ ln) (T.bind (aF4 (k+62) o64 (dY _)) λr17 h17=>T.eq (sG (k+62) p1 h17) (T.bind (aOB (k+62) (pZ _ _)) λr19 h19=>?_))
 rw[aP,bE (x:=65535*al) (by omega) (by omega)]
 refine T.eq (aEa .i64 (by omega)) (T.bind (unitT k p2) λr22 h22=>T.bind (aOy (k+62) r22) λr23 h23=>?_)
 have q:0<=d6 (65535*al) (l.length:Int)/\d6 (65535*al) (l.length:Int)<=65535/\(al=0->d6 (65535*al) (l.length:Int)=0):=by
  rw[Int.tdiv_eq_ediv_of_nonneg (by omega)]
  refine⟨ci (by omega) (by omega),?_,λh=>by rw[h];simp⟩
  have:65535*al / (l.length:Int) < 65536:=j6 (by omega) (by omega)
  omega
 generalize d6 (65535*al) (l.length:Int)=X at *;have wX:IntKind.i64.wrap X=X:=bE (by omega) (by omega)
 rw[wX]
 refine T.bind (P:=λt:List Int×List Int×List Int=>∃u v w,t=([u],[v],[w])/\rg u/\rg v/\rg w/\v<=(s.gJ.length:Int)/\(v=0->X=0/\u=0)) ?_ λt ht=>?_
 ·rw[aP]
  refine T.cond (λhc=>?_) (λhc=>?_)
  ·have m0:=of_decide_eq_true hc;obtain⟨f0,f1⟩:=p7 m0;refine T.eq (sQ _ (a:=met) ⟨by omega,by omega⟩) (T.bind (aF4 (k+62) p3 (dY _)) λr27 h27=>T.bind (farT' _ r27) λr28 h28=>?_)
   refine T.bind (T.inRO (by decide) (by decide)) λ_ _=>T.eq rfl ?_;simp only[aP]
   rw[bE (x:=fi+1) (by omega) (by omega)]
   refine T.bind (T.idx (by omega) (by omega)) λe32 _=>?_;refine T.bind (T.inRO (by decide) (by decide)) λ_ _=>T.eq rfl (T.bind (T.inRO (by decide) (by decide)) λ_ _=>T.eq rfl (T.ret ⟨_,_,_,rfl,h28,?_,aUW _,?_,λh=>?_⟩))
   ·unfold rg eP;split <;> omega
   ·unfold eP;split <;> omega
   ·exfalso;unfold eP at h;split at h <;> omega
  ·have m0:met=0:=by have:=of_decide_eq_false hc;omega
   exact T.ret ⟨0,0,0,rfl,⟨by decide,by decide⟩,⟨by decide,by decide⟩,⟨by decide,by decide⟩,by omega,λ_=>⟨q.2.2 (p6 m0).1,rfl⟩⟩
 ·obtain⟨u,v,w,rfl,hu,hv,hw,hvi,hv0⟩:=ht;refine T.bind (T.lenO rfl) λ_ _=>T.bind (T.lenO rfl) λ_ _=>T.bind (T.lenO rfl) λ_ _=>T.ret ⟨(r19,X,u,r23,v,w),⟨h19,⟨q.1,q.2.1⟩,hu,h23,hv,hw,hvi,hv0⟩,rfl⟩
abbrev C3:=Int×Int×Int
abbrev Pa:=(aG×Int)×C3
def aRO(c d:C3):C3:=(c.1+d.1,c.2.1+d.2.1,c.2.2+d.2.2)
def sum3(f:Nat->C3):Nat->C3
 | 0=>(0,0,0)
 | n+1=>aRO (sum3 f n) (f n)
def Cnt(st:aH)(t:Int)(st':aH)(t':Int)(c:C3):Prop:=st'.gL=st.gL/\cZ t t' c.1/\cZ st.gN st'.gN c.2.1/\cZ st.gI st'.gI c.2.2
theorem Cnt.zero(st:aH)(t:Int):Cnt st t st t (0,0,0):=⟨rfl,lQ _,lQ _,lQ _⟩
theorem Cnt.add{st st' st'':aH}{t t' t'':Int}{c d:C3}(h:Cnt st t st' t' c)(h':Cnt st' t' st'' t'' d):Cnt st t st'' t'' (aRO c d):=⟨h'.1.trans h.1,pG h.2.1 h'.2.1,pG h.2.2.1 h'.2.2.1,pG h.2.2.2 h'.2.2.2⟩
def aFj(A:Nat->Nat->Nat->Pa)(x y n:Nat):List aG:=(List.range n).map λk=>(A x y k).1.1
theorem aSC(A:Nat->Nat->Nat->Pa)(x y n:Nat):aFj A x y (n+1)=aFj A x y n++[(A x y n).1.1]:=by unfold aFj;rw[List.range_succ,dh];rfl
theorem aOt(A:Nat->Nat->Nat->Pa)(x y n:Nat):(aFj A x y n).length=n:=by unfold aFj;simp
structure Dim(v:aF)(W H S:Nat):Prop where
 w:v.gW=(W:Int)
 h:v.gH=(H:Int)
 s:v.gB5=(S:Int)
 w1:1<=W/\W<=64
 h1:1<=H/\H<=64
 s1:1<=S/\S<=16
theorem dimV{v:aF}(h:aPA v):∃W H S,Dim v W H S:=by
 obtain⟨⟨⟨a1,a2⟩,⟨b1,b2⟩,_⟩,⟨s1,s2⟩,_⟩:=h;exact⟨v.gW.toNat,v.gH.toNat,v.gB5.toNat,by omega,by omega,by omega,by omega,by omega,by omega⟩
def PxF(N:Nat)(s:aE)(A:Nat->Nat->Nat->Pa)(W H S:Nat)(Q:Nat->Nat->Px):Prop:=∀x y,x < W->y < H->qE N (aFj A x y S) s=some (pxI (Q x y),0)/\aQS s.gJ.length (Q x y)
theorem pxF(N:Nat)(hN:1000 < N){s:aE}(hid:s.gJ.length<=20)(hlab:s.gA3.length=s.gJ.length){A:Nat->Nat->Nat->Pa}{W H S:Nat}(hS:1<=S/\S<=16)(h:∀x y k,x < W->y < H->k < S->aBs s (A x y k).1.1/\vin (A x y k).1.1.gA7):∃Q,PxF N s A W H S Q:=by
 have key:∀x y,∃p,x < W->y < H->qE N (aFj A x y S) s=some (pxI p,0)/\aQS s.gJ.length p:=by
  intro x y;by_cases c:x < W/\y < H
  ·obtain⟨r,e,p,hp,rfl⟩:=aWk N hN hid hlab (l:=aFj A x y S) ⟨by rw[aOt];exact hS,λm hm=>by
    unfold aFj at hm;rw[List.mem_map] at hm;obtain⟨k,hk,rfl⟩:=hm;exact h x y k c.1 c.2 (List.mem_range.1 hk)⟩
   exact⟨p,λ_ _=>⟨e,hp⟩⟩
  ·exact⟨(#v[0,0,0],0,0,#v[0,0,0],0,0),λh1 h2=>absurd ⟨h1,h2⟩ c⟩
 exact⟨λx y=>(key x y).choose,λx y=>(key x y).choose_spec⟩
set_option maxHeartbeats 4000000
def aRz(N:Nat)(b:List (List aC))(s:aE)(v:aF)(sky:aA)(gl:List aJ)(x y z:Int)(a:Pa):Prop:=∀st t,∃st' t',fS N b x y z s v sky st (swp gl t)=some (st',swp gl t',a.1.1,a.1.2)/\Cnt st t st' t' a.2
section
variable {N:Nat} (hN:4100 < N) {b:List (List aC)} {s:aE} {v:aF} {sky:aA}
include hN
theorem aVR(hr:Rdy b s v sky){gl:List aJ}(hsw:aMa s.gQ.length gl)(hcon:v.gA4=true)(hfit:(s.gM.length:Int)<=(eW v.gK).2)(hobj:aE8 s){W H S:Nat}(hd:Dim v W H S):∃A:Nat->Nat->Nat->Pa,∀x y k,x < W->y < H->k < S->aRz N b s v sky gl x y k (A x y k)/\(aBs s (A x y k).1.1/\vin (A x y k).1.1.gA7)/\exC (A x y k).2.1 ((gl.length:Int)*(1+(eW v.gK).2)*(v.gG+1))/\exC (A x y k).2.2.1 (4*(v.gG+1))/\exC (A x y k).2.2.2 (v.gG+1):=by
 have key:∀x y k:Nat,∃a:Pa,x < W->y < H->k < S->aRz N b s v sky gl x y k a/\(aBs s a.1.1/\vin a.1.1.gA7)/\exC a.2.1 ((gl.length:Int)*(1+(eW v.gK).2)*(v.gG+1))/\exC a.2.2.1 (4*(v.gG+1))/\exC a.2.2.2 (v.gG+1):=by
  intro x y k;obtain⟨a,⟨_,p1,p2⟩,h⟩:=pathS (ι:=aH×Int) hN hr hsw hcon hfit hobj (D:=False) ⟨λh=>h.elim,λh=>h.elim,λh=>h.elim⟩ (x:Int) (y:Int) (k:Int) (λi=>i.1) (λi=>i.2)
  refine⟨a,λhx hy hk=>⟨λst t=>?_,?_⟩⟩
  ·obtain⟨r,e,st',t',rfl,c⟩:=h (st,t)
   exact⟨st',t',e,c⟩
  ·have z:=p1 ⟨⟨by omega,by rw[hd.w];omega⟩,⟨by omega,by rw[hd.h];omega⟩,by omega,by rw[hd.s];omega⟩
   rcases p2 with ⟨_,q⟩ | q
   ·exact q
   ·rw[z] at q;cases q
 exact⟨λx y k=>(key x y k).choose,λx y k=>(key x y k).choose_spec⟩
end
def aSA(N:Nat)(b:List (List aC))(s:aE)(v:aF)(sky:aA)(bv:bD)(gl:List aJ)(x y z:Int)(a:Pa):Prop:=∀st t,∃st' t',iI N b x y z s v sky st (wlk bv gl t)=some (st',wlk bv gl t',a.1.1,a.1.2)/\Cnt st t st' t' a.2
section
variable {N:Nat} (hN:1000000000000 < N) {b:List (List aC)} {s:aE} {v:aF} {sky:aA}
include hN
theorem aWM(hr:Rdy b s v sky){bv:bD}{gl:List aJ}(hbv:aCe gl.length bv)(hgl:gl=s.gQ)(htr:zD gl bv)(hcon:v.gA4=false)(hfit:(s.gM.length:Int)<=(eW v.gK).2)(hobj:aE8 s){W H S:Nat}(hd:Dim v W H S):∃A:Nat->Nat->Nat->Pa,∀x y k,x < W->y < H->k < S->aSA N b s v sky bv gl x y k (A x y k)/\(aBs s (A x y k).1.1/\vin (A x y k).1.1.gA7)/\amC (A x y k).2.1 ((3*(gl.length:Int))*(1+(eW v.gK).2)*(v.gG+1))/\amC (A x y k).2.2.1 (4*(v.gG+1))/\aPt (A x y k).2.2.2 (v.gG+1):=by
 have key:∀x y k:Nat,∃a:Pa,x < W->y < H->k < S->aSA N b s v sky bv gl x y k a/\(aBs s a.1.1/\vin a.1.1.gA7)/\amC a.2.1 ((3*(gl.length:Int))*(1+(eW v.gK).2)*(v.gG+1))/\amC a.2.2.1 (4*(v.gG+1))/\aPt a.2.2.2 (v.gG+1):=by
  intro x y k;obtain⟨a,⟨_,p1,p2⟩,h⟩:=pathW (ι:=aH×Int) hN hr hbv hgl htr hcon hfit hobj (D:=False) ⟨λh=>h.elim,λh=>h.elim,λh=>h.elim⟩ (x:Int) (y:Int) (k:Int) (λi=>i.1) (λi=>i.2)
  refine⟨a,λhx hy hk=>⟨λst t=>?_,?_⟩⟩
  ·obtain⟨r,e,st',t',rfl,c⟩:=h (st,t)
   exact⟨st',t',e,c⟩
  ·have z:=p1 ⟨⟨by omega,by rw[hd.w];omega⟩,⟨by omega,by rw[hd.h];omega⟩,by omega,by rw[hd.s];omega⟩
   rcases p2 with ⟨_,q⟩ | q
   ·exact q
   ·rw[z] at q;cases q
 exact⟨λx y k=>(key x y k).choose,λx y k=>(key x y k).choose_spec⟩
end
end Go.UK
