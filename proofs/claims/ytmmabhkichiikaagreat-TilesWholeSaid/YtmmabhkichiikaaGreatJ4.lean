/- A part of the proof: what the functions of the program compute. -/
import Derived.Test.YtmmabhkichiikaaGreatJ3
open BitVec renaming ofInt→bf
open Int renaming ediv_lt_of_lt_mul→jg,ediv_nonneg→ck,eq_ofNat_of_zero_le→bm,le_refl→ff,mul_add→dv,mul_le_mul_of_nonneg_left→i9,mul_nonneg→dk,mul_one→er,mul_zero→fu,tdiv→d7,toNat_natCast→bn
open List renaming getElem?_eq_getElem→af,getElem?_eq_none→cr,getElem?_eq_some_iff→fh,getElem_mem→bh,length_drop→iy,length_take→bo,map_append→d9,mem_append→b9,mem_of_getElem?→az,range→be,range_succ→j5
open Nat renaming add_comm→eu,add_mul_div_right→gr,add_mul_mod_self_right→fj,div_eq_of_lt→gj,le_trans→dy,mod_eq_of_lt→gg,mul_le_mul→ba,succ_mul→kf,zero_le→ll,zero_mul→i6
open Option renaming bind→aa,bind_some→ae
namespace Go.UK
open Go Go.Proofs
set_option maxRecDepth 20000
set_option maxHeartbeats 2000000
set_option linter.all false
theorem TU.map{ι ρ α β:Type}{f:ι->Option ρ}{P:α->Prop}{P':β->Prop}{S:ι->α->ρ->Prop}{S':ι->β->ρ->Prop}(h:TU f P S)(g:α->β)(hp:∀a,P a->P' (g a))(hs:∀i a r,P a->S i a r->S' i (g a) r):TU f P' S':=by
 obtain⟨a,pa,h⟩:=h;refine⟨g a,hp a pa,λi=>?_⟩
 obtain⟨r,e,s⟩:=h i;exact⟨r,e,hs i a r pa s⟩
theorem aEL(a k:Int):cQ a (I64 (a+k)) k:=⟨bD (aLs _) (aLt _),λ_=>cG _⟩
def exC(c n:Int):Prop:=c=n
def amC(c n:Int):Prop:=0<=c/\c<=n
theorem aQK{a b n m:Int}(h:exC a n)(h':exC b m):exC (a+b) (n+m):=by unfold exC at *;omega
theorem aPV{a b n m:Int}(h:amC a n)(h':amC b m):amC (a+b) (n+m):=by unfold amC at *;omega
theorem aIx{a n m:Int}(h:exC a n)(e:n=m):exC a m:=e▸h
theorem aIw{a n m:Int}(h:amC a n)(e:n=m):amC a m:=e▸h
theorem aNw{a n m:Int}(h:amC a n)(e:n<=m):amC a m:=by unfold amC at *;omega
theorem aS7 : exC 0 0:=rfl
theorem aNW : amC 0 0:=⟨ff _,ff _⟩
def wt(d:List aX):Nat->Int->Nat
 | 0,_=>0
 | k+1,e=>match d[e.toNat]? with
  | none=>0
  | some nd=>if 0<=nd.gB3 then 1+wt d k nd.gB3+wt d k nd.gB6 else 1+nd.gC2.toNat
def aK7(n:Nat)(d:List aX):Prop:=∀i,(h:i < d.length)->aKw n d.length i d[i]
theorem aSj{n:Nat}{d:List aX}(hd:aK7 n d):∀(k:Nat) (e:Int),0<=e->d.length<=e.toNat+k->wt d (k+1) e=wt d k e:=by
 intro k
 induction k with
 | zero=>
  intro e h0 h;unfold wt;rw[cr (by omega)]
 | succ k ih=>
  intro e h0 h;rw[wt,wt]
  by_cases c:e.toNat < d.length
  ·rw[af c]
   have g:=hd _ c;dsimp only;split
   ·rename_i h2;have:=g.1 h2;rw[ih _ (by omega) (by omega),ih _ (by omega) (by omega)]
   ·rfl
  ·rw[cr (by omega)]
def wk1(d:List aX)(e:Int):Nat:=wt d d.length e
theorem aLG{n:Nat}{d:List aX}(hd:aK7 n d){e:Int}(h0:0<=e)(h:e.toNat < d.length)(hl:0<=d[e.toNat].gB3):wk1 d e=1+wk1 d d[e.toNat].gB3+wk1 d d[e.toNat].gB6:=by
 have g:=(hd _ h).1 hl;obtain⟨m,hm⟩:∃m,d.length=m+1:=⟨d.length - 1,by omega⟩
 unfold wk1;rw[hm]
 conv=>lhs;rw[wt]
 rw[af h]
 dsimp only;rw[if_pos hl,aSj hd m _ (by omega) (by omega),aSj hd m _ (by omega) (by omega)]
theorem aMf{n:Nat}{d:List aX}(hd:aK7 n d){e:Int}(h0:0<=e)(h:e.toNat < d.length)(hl:¬0<=d[e.toNat].gB3):wk1 d e=1+d[e.toNat].gC2.toNat:=by
 obtain⟨m,hm⟩:∃m,d.length=m+1:=⟨d.length - 1,by omega⟩
 unfold wk1;rw[hm,wt,af h]
 dsimp only;rw[if_neg hl]
theorem aLO{n:Nat}{d:List aX}(hd:aK7 n d){e:Int}(h0:0<=e)(h:e.toNat < d.length):1<=wk1 d e:=by
 by_cases c:0<=d[e.toNat].gB3
 ·rw[aLG hd h0 h c];omega
 ·rw[aMf hd h0 h c];omega
def wW1(b:bC)(l:List Int):Nat:=(l.map (wk1 b.gB0)).sum
theorem yL(b:bC)(x y:List Int):wW1 b (x++y)=wW1 b x+wW1 b y:=by unfold wW1;rw[d9,List.sum_append]
theorem aDU(b:bC)(x:Int):wW1 b [x]=wk1 b.gB0 x:=by unfold wW1;simp
theorem aPk(b:bC)(x y:Int):wW1 b [x,y]=wk1 b.gB0 x+wk1 b.gB0 y:=by unfold wW1;simp
theorem aIM{n:Nat}{b:bC}(hd:aK7 n b.gB0){l:List Int}(h:aTV b l):l.length<=wW1 b l:=by
 induction l with
 | nil=>exact ll _
 | cons x l ih=>
  have h1:=ih λy hy=>h y (List.mem_cons_of_mem _ hy)
  have h2:=h x (List.mem_cons_self ..)
  have h3:=aLO hd (e:=x) h2.1 (by omega)
  have:wW1 b (x :: l)=wW1 b [x]+wW1 b l:=yL b [x] l;rw[this,aDU,List.length_cons]
  omega
theorem aUx{n:Nat}{d:List aX}(hd:aK7 n d){R:List aJ}{o:List Int}{D:Int->Prop}{i:Int}{f c:Nat}{L:List aW}(h:Cv R o d D i f c L):L=[]->0<=i->wk1 d i+1<=3*c/\1<=c:=by
 induction h with
 | pend=>intro e;cases e
 | leaf i f c nd _ h2 h3 h4 h5 _ _=>
  intro _ h0;obtain⟨q,e⟩:=fh.1 h2;have g:=(hd _ q).2 (by rw[e];exact h3)
  rw[e] at g;have w:=aMf hd h0 q (by rw[e];omega)
  rw[e] at w;omega
 | node i f c1 c2 nd L1 L2 _ h2 h3 _ _ _ _ i1 i2=>
  intro e h0;obtain⟨e1,e2⟩:=List.append_eq_nil_iff.1 e;obtain⟨q,e'⟩:=fh.1 h2;have g:=(hd _ q).1 (by rw[e'];exact h3)
  rw[e'] at g;have w:=aLG hd h0 q (by rw[e'];exact h3)
  rw[e'] at w;have a1:=i1 e1 (by omega)
  have a2:=i2 e2 (by omega)
  omega
theorem aPU{gl:List aJ}{b:bC}(hb:aCs gl.length b)(ht:xW gl b):wk1 b.gB0 0<=3*gl.length:=by
 rcases ht with ⟨_,h2⟩ | ⟨_,_,h3⟩
 ·rw[h2];exact ll _
 ·have:=aUx (d:=b.gB0) hb.2.2.2 h3 rfl (by decide)
  omega
theorem aWM{ι:Type}(N:Nat)(hN:100 < N){b:bC}{gl:List aJ}(h20:gl.length<=20)(o d:aB)(m s:Int)(t0:ι->Int){l:List Int}(hl:ord gl.length l)(hl':l.length<=20)(t:ι->Int){mt:aS}{x:Int}(hm:x < (gl.length:Int)/\qL mt) :
  TU (λi=>cV N l o d m s (wlk b gl (t0 i)) N (t i) mt x 0) (λa:aS×Int=>a.2 < (gl.length:Int)/\qL a.1) (λi a r=>∃t',r=(t',a)/\cQ (t i) t' (l.length:Int)):=by
 refine TU.loop0 (n:=l.length) (λj (s:aS×Int) (t':ι->Int)=>(s.2 < (gl.length:Int)/\qL s.1)/\∀i,cQ (t i) (t' i) (j:Int)) (F:=λi k t' (x:aS×Int) j=>cV N l o d m s (wlk b gl (t0 i)) k t' x.1 x.2 j) (λk t' x j hj hx hk=>?_) (λk t' x hx=>?_) (by omega) (s:=(mt,x)) (h:=t) ⟨hm,λi=>kM _⟩
 ·obtain⟨hx,hu⟩:=hx;simp only[cV,aO,dt (show(j:Int) < (l.length:Int) by omega),cond_true,eP,af hj,ae]
  have he:=hl _ (bh hj)
  generalize l[j]=e at *;obtain⟨a,a1,a3⟩:=aP0 N (by omega) b o d m s he;have a3':∀i,dC N o d m s e (aL.mk (wlk b gl (t0 i)).gA1 (wlk b gl (t0 i)).gA (wlk b gl (t0 i)).gl (I64 (t' i+1)))=some a:=λi=>a3 _;simp only[a3',ae]
  refine TU.t (P:=λp:aS×aS×Int=>p.2.2 < (gl.length:Int)/\qL p.1) ?_ λp hp=>?_
  ·refine T.bind (P:=λ_=>True) ?_ λp33 _=>T.cond (λ_=>T.ret ⟨he.2,a1⟩) (λ_=>T.ret hx)
   refine T.cond (λ_=>T.cond (λ_=>T.ret trivial) (λ_=>T.bind (aRi N a1 hx.2) λr34 _=>T.cond (λ_=>T.ret trivial) (λ_=>T.cond (λ_=>T.bind (aRi N hx.2 a1) λ_ _=>T.ret trivial) (λ_=>T.ret trivial)))) (λ_=>T.ret trivial)
  ·rw[cW (by omega)]
   exact hk (p.1,p.2.2) (λi=>I64 (t' i+1)) ⟨hp,λi=>aER (hu i)⟩
 ·simp only[cV,aO,df (show ¬(l.length:Int) < (l.length:Int) by omega),cond_false]
  exact TU.ret x hx.1 λi=>⟨t' i,rfl,hx.2 i⟩
theorem aXB{ι:Type}(N:Nat)(hN:100 < N){b:bC}{gl:List aJ}(hb:aCs gl.length b)(h20:gl.length<=20)(o:aB){d:aB}(hd:pin d)(m s:Int)(t0:ι->Int):∀(k:Nat) (st:List Int) (t:ι->Int) (mt:aS) (x:Int) (l:Nat),l<=st.length->aTV b (st.take l)->wW1 b (st.take l) < k->wW1 b (st.take l) < 1000000000000->(x < (gl.length:Int)/\qL mt) ->
  TU (λi=>cU N (wlk b gl (t0 i)) o d m s k st (t i) mt x l) (λa:(aS×Int)×Int=>(a.1.2 < (gl.length:Int)/\qL a.1.1)/\amC a.2 (wW1 b (st.take l):Int)) (λi a r=>∃t' st',r=(st',t',a.1)/\cQ (t i) t' a.2):=by
 obtain⟨b1,b2,b3,b4⟩:=hb;intro k
 induction k with
 | zero=>intro st t mt x l _ _ h;omega
 | succ k ih=>
  intro st t mt x l hl hn hw hw' hm;simp only[cU,aO]
  have lenT:(st.take l).length=l:=by rw[bo];omega
  have wl:=aIM b4 hn;rw[lenT] at wl;refine TU.cond (λhc=>?_) (λhc=>?_)
  ·obtain⟨l,rfl⟩:∃l',l=l'+1:=⟨l - 1,by have:=of_decide_eq_true hc;omega⟩
   have im:I64 (((l+1:Nat):Int) - 1)=(l:Int):=by rw[bD (by omega) (by omega)];omega
   simp only[im,bn]
   obtain⟨e,et⟩:∃e,st[l]? = some e:=⟨_,af (by omega)⟩
   have hs:=aCX et;rw[hs] at hn hw hw';rw[yL b,aDU] at hw hw';have he:=hn e (by simp)
   have hn':aTV b (st.take l):=λy hy=>hn y (by simp[hy])
   have wl':=aIM b4 hn';rw[show(st.take l).length=l by rw[bo];omega] at wl';refine TU.t (T.inRS (by omega) (by omega) (by omega)) λ_ _=>TU.e (λi=>et) ?_;have hidx:e.toNat < b.gB0.length:=by omega
   have w1:=aLO b4 he.1 hidx;have wi:=aLG b4 he.1 hidx;have wl3:=aMf b4 he.1 hidx;rw[hs,yL b,aDU]
   refine TU.e (a:=b.gB0[e.toNat]) (λi=>aKs he.1 hidx) ?_;have gd:=b4 e.toNat hidx;generalize b.gB0[e.toNat]=nd at *;refine TU.t (T.slcG (by omega) (by omega) (by omega) (by omega) (Or.inl rfl)) λ_ _=>TU.t (aVD N (by omega) nd.gLo nd.gHi o hd) λr18 h18=>?_;refine TU.t (P:=λ_=>True) ?_ λp19 _=>?_
   ·refine T.cond (λ_=>T.ret trivial) (λ_=>T.cond (λ_=>T.bind (aGl N ⟨hm.2.1,hm.2.2.1⟩ h18) λ_ _=>T.ret trivial) (λ_=>T.ret trivial))
   refine TU.cond (λ_=>?_) (λ_=>TU.cond (λhc=>?_) (λhc=>?_))
   ·exact(ih st (λi=>I64 (t i+1)) mt x l (by omega) hn' (by omega) (by omega) hm).map (λa=>(a.1,1+a.2)) (λ_ h=>⟨h.1,by have:=h.2;unfold amC at *;omega⟩) λi a r _ h=>by obtain⟨t',st',e,u⟩:=h;exact⟨t',st',e,oM (aEL _ 1) u⟩
   ·have g:=gd.1 (of_decide_eq_true hc)
    have w2:=wi (of_decide_eq_true hc)
    have w3:=aPk b nd.gB6 nd.gB3;refine TU.t (T.appG (by omega) (show(l+2)*8<=140737488355328 by omega)) λz hz=>?_;subst hz;have tk:(vT st l [nd.gB6,nd.gB3]).take (l+2)=st.take l++[nd.gB6,nd.gB3]:=aGx st l [_,_] (by omega)
    refine(ih _ (λi=>I64 (t i+1)) mt x (l+2) (aLj st l [_,_] (by omega)) ?_ ?_ ?_ hm).map (λa=>(a.1,1+a.2)) (λ_ h=>⟨h.1,by have:=h.2;rw[tk,yL b] at this;unfold amC at *;omega⟩) λi a r _ h=>by obtain⟨t',st',e,u⟩:=h;exact⟨t',st',e,oM (aEL _ 1) u⟩
    ·rw[tk]
     intro y hy;rw[b9] at hy;rcases hy with hy | hy
     ·exact hn' y hy
     ·simp at hy;rcases hy with rfl | rfl <;> omega
    ·rw[tk,yL b];omega
    ·rw[tk,yL b];omega
   ·have g:=gd.2 (by have:=of_decide_eq_false hc;omega)
    rw[bD (x:=nd.gC7+nd.gC2) (by omega) (by omega)]
    refine TU.t (T.slcN (l:=b.gD2) g.1 (by omega) (by omega)) λs23 h23=>?_;refine TU.bind (aWM N hN h20 o d m s t0 (λy hy=>b1 y (h23.2.1 y hy)) (by omega) (λi=>I64 (t i+1)) hm) λa ha r hr=>?_;have h':∃t':ι->Int,∀i,r i=(t' i,a)/\cQ (I64 (t i+1)) (t' i) (s23.length:Int):=⟨λi=>(hr i).choose,λi=>(hr i).choose_spec⟩
    obtain⟨t',e'⟩:=h';simp only[λi=>(e' i).1]
    have wlf:=wl3 (by have:=of_decide_eq_false hc;omega)
    have sl:s23.length<=nd.gC2.toNat:=by rw[h23.1,iy,bo];omega
    exact(ih st t' a.1 a.2 l (by omega) hn' (by omega) (by omega) ha).map (λa=>(a.1,1+(s23.length:Int)+a.2)) (λ_ h=>⟨h.1,by have:=h.2;unfold amC at *;omega⟩) λi a r _ h=>by obtain⟨t2,st',e,u⟩:=h;exact⟨t2,st',e,oM (oM (aEL _ 1) (e' i).2) u⟩
  ·exact TU.ret ((mt,x),0) ⟨hm,by unfold amC;omega⟩ λi=>⟨_,_,rfl,kM _⟩
theorem aSe{ι:Type}(N:Nat)(hN:1000000000000 < N){b:bC}{gl:List aJ}(hb:aCs gl.length b)(ht:xW gl b)(h20:gl.length<=20)(o d:aB)(m s:Int)(t:ι->Int) :
  TU (λi=>lL N o d m s (wlk b gl (t i))) (λa:(Int×aS)×Int=>(a.1.1 < (gl.length:Int)/\qL a.1.2)/\amC a.2 (3*(gl.length:Int))) (λi a r=>∃t',r=(t',a.1)/\cQ (t i) t' a.2):=by
 unfold lL lT;simp only[show ∀t,(wlk b gl t).gA1=b from λ_=>rfl,show ∀t,(wlk b gl t).gA=true from λ_=>rfl,show ∀t,(wlk b gl t).gD3=t from λ_=>rfl,ae,aO]
 refine TU.t (P:=λp=>p=false->pin d/\0 < b.gB0.length) ?_ λp1 h1=>TU.cond (λ_=>TU.ret ((-1,aS.mk 0 0 0 0),0) ⟨⟨by dsimp only;omega,aEe⟩,by unfold amC;omega⟩ λi=>⟨_,rfl,kM _⟩) (λhc=>?_)
 ·refine T.cond (λ_=>T.ret λh=>by cases h) (λhc=>T.bind (aSg N o d) λr4 h4=>T.ret λe=>⟨aJv (h4 (by simpa using e)).2.1 (by decide),?_⟩)
  have:((b.gB0.length:Int)==0)=false:=hc;have:(b.gB0.length:Int)≠0:=by simpa using this
  omega
 ·obtain⟨hd,h0⟩:=h1 hc;have wr:=aPU hb ht;have w0:wW1 b ([0].take 1)=wk1 b.gB0 0:=by rw[show([0]:List Int).take 1=[0] from rfl,aDU]
  refine TU.bind (aXB N (by omega) hb h20 o hd m s t N [0] t (aS.mk 0 0 0 0) (-1) 1 (by simp) ?_ ?_ ?_ ⟨by omega,aEe⟩) λa ha r hr=>?_
  ·intro x hx;have:x=0:=by simpa using hx
   subst this;omega
  ·rw[w0];omega
  ·rw[w0];omega
  ·refine TU.ret ((a.1.2,a.1.1),a.2) ⟨ha.1,by have:=ha.2;rw[w0] at this;unfold amC at *;omega⟩ λi=>?_;obtain⟨t',st',e,u⟩:=hr i;rw[e]
   exact⟨t',rfl,u⟩
theorem anyK2{ι:Type}(N:Nat)(hN:100 < N){b:bC}{gl:List aJ}(o d:aB)(m s:Int)(w:Bool)(t0:ι->Int){l:List Int}(hl:ord gl.length l)(hl':l.length<=20)(t:ι->Int) :
  TU (λi=>dU N l o d m s (wlk b gl (t0 i)) w N (t i) 0) (λa:Bool×Int=>amC a.2 (l.length:Int)) (λi a r=>∃t',r=cond a.1 (Sum.inr (t',true)) (Sum.inl t')/\cQ (t i) t' a.2):=by
 refine TU.loop0 (n:=l.length) (λj (_:Unit) (t':ι->Int)=>∀i,cQ (t i) (t' i) (j:Int)) (F:=λi k t' (x:Unit) j=>dU N l o d m s (wlk b gl (t0 i)) w k t' j) (λk t' x j hj hx hk=>?_) (λk t' x hx=>?_) (by omega) (s:=()) (h:=t) λi=>kM _
 ·simp only[dU,aO,dt (show(j:Int) < (l.length:Int) by omega),cond_true,eP,af hj,ae]
  have he:=hl _ (bh hj)
  generalize l[j]=e at *;obtain⟨a,a1,a3⟩:=aP0 N (by omega) b o d m s he;have a3':∀i,dC N o d m s e (aL.mk (wlk b gl (t0 i)).gA1 (wlk b gl (t0 i)).gA (wlk b gl (t0 i)).gl (I64 (t' i+1)))=some a:=λi=>a3 _;simp only[a3',ae]
  refine TU.t (P:=λ_=>True) (T.cond (λ_=>T.ret trivial) (λ_=>T.ret trivial)) λp24 _=>?_;refine TU.cond (λ_=>TU.ret (true,((j+1:Nat):Int)) (by unfold amC;dsimp only;omega) λi=>⟨_,rfl,aER (hx i)⟩) (λ_=>?_)
  rw[cW (by omega)]
  exact hk () (λi=>I64 (t' i+1)) λi=>aER (hx i)
 ·simp only[dU,aO,df (show ¬(l.length:Int) < (l.length:Int) by omega),cond_false]
  exact TU.ret (false,(l.length:Int)) (by unfold amC;dsimp only;omega) λi=>⟨t' i,rfl,hx i⟩
theorem anyK1{ι:Type}(N:Nat)(hN:100 < N){b:bC}{gl:List aJ}(hb:aCs gl.length b)(h20:gl.length<=20)(o:aB){d:aB}(hd:pin d)(m s:Int)(w:Bool)(t0:ι->Int):∀(k:Nat) (st:List Int) (t:ι->Int) (l:Nat),l<=st.length->aTV b (st.take l)->wW1 b (st.take l) < k->wW1 b (st.take l) < 1000000000000 ->
  TU (λi=>dQ N (wlk b gl (t0 i)) o d m s w k st (t i) l) (λa:Bool×Int=>amC a.2 (wW1 b (st.take l):Int)) (λi a r=>∃t' st',r=cond a.1 (Sum.inr (t',true)) (Sum.inl (st',t'))/\cQ (t i) t' a.2):=by
 obtain⟨b1,b2,b3,b4⟩:=hb;intro k
 induction k with
 | zero=>intro st t l _ _ h;omega
 | succ k ih=>
  intro st t l hl hn hw hw';simp only[dQ,aO]
  have lenT:(st.take l).length=l:=by rw[bo];omega
  have wl:=aIM b4 hn;rw[lenT] at wl;refine TU.cond (λhc=>?_) (λhc=>?_)
  ·obtain⟨l,rfl⟩:∃l',l=l'+1:=⟨l - 1,by have:=of_decide_eq_true hc;omega⟩
   have im:I64 (((l+1:Nat):Int) - 1)=(l:Int):=by rw[bD (by omega) (by omega)];omega
   simp only[im,bn]
   obtain⟨e,et⟩:∃e,st[l]? = some e:=⟨_,af (by omega)⟩
   have hs:=aCX et;rw[hs] at hn hw hw';rw[yL b,aDU] at hw hw';have he:=hn e (by simp)
   have hn':aTV b (st.take l):=λy hy=>hn y (by simp[hy])
   have wl':=aIM b4 hn';rw[show(st.take l).length=l by rw[bo];omega] at wl';refine TU.t (T.inRS (by omega) (by omega) (by omega)) λ_ _=>TU.e (λi=>et) ?_;have hidx:e.toNat < b.gB0.length:=by omega
   have w1:=aLO b4 he.1 hidx;have wi:=aLG b4 he.1 hidx;have wl3:=aMf b4 he.1 hidx;rw[hs,yL b,aDU]
   refine TU.e (a:=b.gB0[e.toNat]) (λi=>aKs he.1 hidx) ?_;have gd:=b4 e.toNat hidx;generalize b.gB0[e.toNat]=nd at *;refine TU.t (T.slcG (by omega) (by omega) (by omega) (by omega) (Or.inl rfl)) λ_ _=>TU.t (aVD N (by omega) nd.gLo nd.gHi o hd) λr18 h18=>?_;refine TU.cond (λ_=>?_) (λ_=>TU.cond (λhc=>?_) (λhc=>?_))
   ·exact(ih st (λi=>I64 (t i+1)) l (by omega) hn' (by omega) (by omega)).map (λa=>(a.1,1+a.2)) (λ_ h=>by unfold amC at *;dsimp only;omega) λi a r _ h=>by obtain⟨t',st',e,u⟩:=h;exact⟨t',st',e,oM (aEL _ 1) u⟩
   ·have g:=gd.1 (of_decide_eq_true hc)
    have w2:=wi (of_decide_eq_true hc)
    have w3:=aPk b nd.gB6 nd.gB3;refine TU.t (T.appG (by omega) (show(l+2)*8<=140737488355328 by omega)) λz hz=>?_;subst hz;have tk:(vT st l [nd.gB6,nd.gB3]).take (l+2)=st.take l++[nd.gB6,nd.gB3]:=aGx st l [_,_] (by omega)
    refine(ih _ (λi=>I64 (t i+1)) (l+2) (aLj st l [_,_] (by omega)) ?_ ?_ ?_).map (λa=>(a.1,1+a.2)) (λ_ h=>by rw[tk,yL b] at h;unfold amC at *;dsimp only;omega) λi a r _ h=>by obtain⟨t',st',e,u⟩:=h;exact⟨t',st',e,oM (aEL _ 1) u⟩
    ·rw[tk]
     intro y hy;rw[b9] at hy;rcases hy with hy | hy
     ·exact hn' y hy
     ·simp at hy;rcases hy with rfl | rfl <;> omega
    ·rw[tk,yL b];omega
    ·rw[tk,yL b];omega
   ·have g:=gd.2 (by have:=of_decide_eq_false hc;omega)
    rw[bD (x:=nd.gC7+nd.gC2) (by omega) (by omega)]
    refine TU.t (T.slcN (l:=b.gD2) g.1 (by omega) (by omega)) λs23 h23=>?_;refine TU.bind (anyK2 N hN o d m s w t0 (λy hy=>b1 y (h23.2.1 y hy)) (by omega) (λi=>I64 (t i+1))) λa ha r hr=>?_;have h':∃t':ι->Int,∀i,r i=cond a.1 (Sum.inr (t' i,true)) (Sum.inl (t' i))/\cQ (I64 (t i+1)) (t' i) a.2:=⟨λi=>(hr i).choose,λi=>(hr i).choose_spec⟩
    obtain⟨t',e'⟩:=h';simp only[λi=>(e' i).1]
    have wlf:=wl3 (by have:=of_decide_eq_false hc;omega)
    have sl:s23.length<=nd.gC2.toNat:=by rw[h23.1,iy,bo];omega
    obtain⟨a,ac⟩:=a;cases a with
    | true=>exact TU.ret (true,1+ac) (by unfold amC at *;dsimp only at *;omega) λi=>⟨t' i,[],rfl,oM (aEL _ 1) (e' i).2⟩
    | false=>exact(ih st t' l (by omega) hn' (by omega) (by omega)).map (λa=>(a.1,1+ac+a.2)) (λ_ h=>by unfold amC at *;dsimp only at *;omega) λi a r _ h=>by obtain⟨t2,st',e,u⟩:=h;exact⟨t2,st',e,oM (oM (aEL _ 1) (e' i).2) u⟩
  ·exact TU.ret (false,0) (by unfold amC;dsimp only;omega) λi=>⟨_,_,rfl,kM _⟩
theorem anyK{ι:Type}(N:Nat)(hN:1000000000000 < N){b:bC}{gl:List aJ}(hb:aCs gl.length b)(ht:xW gl b)(h20:gl.length<=20)(o d:aB)(m s:Int)(w:Bool)(t:ι->Int) :
  TU (λi=>kV N o d m s w (wlk b gl (t i))) (λa:Bool×Int=>amC a.2 (3*(gl.length:Int))) (λi a r=>∃t',r=(t',a.1)/\cQ (t i) t' a.2):=by
 unfold kV lT;simp only[show ∀t,(wlk b gl t).gA1=b from λ_=>rfl,show ∀t,(wlk b gl t).gA=true from λ_=>rfl,show ∀t,(wlk b gl t).gD3=t from λ_=>rfl,ae,aO]
 refine TU.t (P:=λp=>p=false->pin d/\0 < b.gB0.length) ?_ λp1 h1=>TU.cond (λ_=>TU.ret (false,0) (by unfold amC;dsimp only;omega) λi=>⟨_,rfl,kM _⟩) (λhc=>?_)
 ·refine T.cond (λ_=>T.ret λh=>by cases h) (λhc=>T.bind (aSg N o d) λr4 h4=>T.ret λe=>⟨aJv (h4 (by simpa using e)).2.1 (by decide),?_⟩)
  have:((b.gB0.length:Int)==0)=false:=hc;have:(b.gB0.length:Int)≠0:=by simpa using this
  omega
 ·obtain⟨hd,h0⟩:=h1 hc;have wr:=aPU hb ht;have w0:wW1 b ([0].take 1)=wk1 b.gB0 0:=by rw[show([0]:List Int).take 1=[0] from rfl,aDU]
  refine TU.bind (anyK1 N (by omega) hb h20 o hd m s w t N [0] t 1 (by simp) ?_ ?_ ?_) λa ha r hr=>?_
  ·intro x hx;have:x=0:=by simpa using hx
   subst this;omega
  ·rw[w0];omega
  ·rw[w0];omega
  ·rw[w0] at ha;have h':∃t':ι->Int×List Int,∀i,r i=cond a.1 (Sum.inr ((t' i).1,true)) (Sum.inl ((t' i).2,(t' i).1))/\cQ (t i) (t' i).1 a.2:=⟨λi=>((hr i).choose,(hr i).choose_spec.choose),λi=>(hr i).choose_spec.choose_spec⟩
   obtain⟨t',e'⟩:=h';simp only[λi=>(e' i).1]
   obtain⟨a,ac⟩:=a;have hc:amC ac (3*(gl.length:Int)):=by unfold amC at *;dsimp only at *;omega
   cases a with
   | true=>exact TU.ret (true,ac) hc λi=>⟨_,rfl,(e' i).2⟩
   | false=>exact TU.ret (false,ac) hc λi=>⟨_,rfl,(e' i).2⟩
def aBl(s:aE)(m:aH):Prop:=((m.gA3 = -1/\m.gT=0)\/((0<=m.gA3/\m.gA3 < (s.gJ.length:Int))/\(m.gT=0\/m.gT=1)))/\cD m.gK/\vin m.gB5
def aE4(s:aE):Prop:=∀t∈s.gL,0<=t.gA3/\t.gA3 < (s.gJ.length:Int)
theorem sm0(s:aE):aBl s (aH.mk (aA.mk 0 0 0) 0 0 (aA.mk 0 0 0) (-1)):=⟨Or.inl ⟨rfl,rfl⟩,z64,z64,z64,z64⟩
def aQZ(c n:Int):Prop:=1<=c/\c<=n
theorem c04 : amC 0 4:=⟨by decide,by decide⟩
theorem c44 : amC 4 4:=⟨by decide,by decide⟩
set_option maxHeartbeats 4000000
section
variable {ι:Type} {N:Nat} (hN:4100 < N) {b:List (List aC)} {s:aE} {v:aG} {sky:aA} (hr:Rdy b s v sky)
structure DrkS(D:Prop)(s:aE)(sky:aA):Prop where
 sky:D->sky=v0
 lights:D->s.gI=[]
 mats:D->∀m∈s.gA4,m.gB1≠4
include hN
theorem aKt(x:Int)(ray:ι->aP)(f l:ι->aA)(dep:Int)(ov:ι->Bool)(sm:ι->aH)(st:ι->aF)(src:aD)(sw:ι->aK) :
  TC (λi=>cZ N b x (ray i) (f i) (l i) dep (ov i) (sm i) s v sky (st i) src (sw i)) (λ_=>True):=by
 obtain⟨a,e,_⟩:=aVQ N (by omega) dep x src;refine⟨(a.1,a.2),trivial,λi=>?_⟩
 unfold cZ;rw[e];rfl
theorem addS(D:Prop){c:List aA}(hc:∀x∈c,vin x)(hl:c.length<=2)(ray:ι->aP){f l:aA}(hf:vin f)(hlv:vin l)(hd:D->l=v0/\c=[v0])(dep:Int)(ov:Bool)(sm:ι->aH)(st:ι->aF)(src:ι->aD)(sw:ι->aK) :
  TC (λi=>jH N b c (ray i) f l dep ov (sm i) s v sky (st i) (src i) (sw i)) (λr=>vin r/\(D->r=v0)):=by
 unfold jH;refine TC.cond (λ_=>?_) (λ_=>TC.ret _ ⟨hlv,λh=>(hd h).1⟩)
 refine TC.t (P:=λz=>z=[f]++c) ⟨_,bY (by simp;omega),rfl⟩ λz hz=>?_;subst hz;refine TC.t (P:=λr=>vin r/\(D->r=v0)) ?_ λr2 h2=>?_
 ·by_cases hD:D
  ·rw[(hd hD).2]
   exact⟨_,aTa (by omega) hf,aE9,λ_=>rfl⟩
  ·exact(aMc (by omega) _ (by intro x hx;simp at hx;rcases hx with rfl | hx;exact hf;exact hc x hx) (by simp;omega)).mono λr h=>⟨h,λh=>absurd h hD⟩
 ·refine TC.t (P:=λr=>r=aJL l r2) ⟨_,aVI (by omega) hlv h2.1,rfl⟩ λr3 h3=>TC.ret _ ⟨by rw[h3];exact uT _ _,λh=>?_⟩
  rw[h3,h2.2 h,(hd h).1];rfl
omit hN in
theorem aQj(x:ι->Bool)(ray:ι->aP)(f l:ι->aA)(dep:Int)(ov:ι->Bool)(sm:ι->aH)(st:ι->aF)(src:ι->aD)(sw:ι->aK) :
  TC (λi=>eM N b (x i) (ray i) (f i) (l i) dep (ov i) (sm i) s v sky (st i) (src i) (sw i)) (λ_=>True):=⟨(),trivial,λi=>rfl⟩
include hr
theorem meetS{gl:List aJ}(hsw:aMG s.gL.length gl)(hcon:v.gA5=true)(hfit:(s.gI.length:Int)<=(dW v.gM).2)(hobj:aE4 s){ray:aP}(hray:aFE ray)(f l:aA)(dep:Int)(ov:Bool){sm:aH}(hsm:aBl s sm)(st:ι->aF)(src:aD)(t:ι->Int) :
  TU (λi=>pA N b ray f l dep ov sm s v sky (st i) src (swp gl (t i))) (λa:(aH×bE×Bool)×Int×Int=>(aIU a.1.2.1/\(a.1.2.1.gB4∈s.gA4\/a.1.2.1.gB4.gB1=0)/\aBl s a.1.1)/\exC a.2.1 (gl.length:Int)/\exC a.2.2 4) (λi a r=>∃x t',r=(a.1.1,x,swp gl t',a.1.2.1,a.1.2.2)/\cQ (t i) t' a.2.1/\cQ (st i).gO x a.2.2):=by
 unfold pA;refine TU.t (P:=λ_=>True) (T.cond (λ_=>T.ret trivial) (λ_=>T.ret trivial)) λp1 _=>?_;refine TU.bind (aR0 N (by omega) hsw ray.go ray.gd p1 ray.gE8 t) λa ha r hr'=>?_;have h':∃t':ι->Int,∀i,r i=(swp gl (t' i),a)/\cQ (t i) (t' i) (gl.length:Int):=⟨λi=>(hr' i).choose,λi=>(hr' i).choose_spec⟩
 obtain⟨t',e''⟩:=h';have e':∀i,r i=(swp gl (t' i),a):=λi=>(e'' i).1;simp only[e']
 have hx:∀i,∃x,(cond v.gA5 (some (I64 ((st i).gO+4))) (some (st i).gO))=some x/\cQ (st i).gO x 4:=λi=>⟨_,by rw[hcon];rfl,bD (aLs _) (aLt _),λ_=>cG _⟩
 have hx':∃x:ι->Int,∀i,(cond v.gA5 (some (I64 ((st i).gO+4))) (some (st i).gO))=some (x i)/\cQ (st i).gO (x i) 4:=⟨λi=>(hx i).choose,λi=>(hx i).choose_spec⟩
 obtain⟨x,ex⟩:=hx';simp only[λi=>(ex i).1,ae]
 refine TU.cond (λ_=>?_) (λhc=>?_)
 ·exact TU.ret ((sm,bE.mk 0 (aB.mk 0 0 0) (aA.mk 0 0 0) (aA.mk 0 0 0) (aN.mk 0 (#v[0,0,0]) 0) false,false),(gl.length:Int),4) ⟨⟨⟨⟨z64,z64,z64⟩,aE9,aE9,mat0⟩,Or.inr rfl,hsm⟩,rfl,rfl⟩ λi=>⟨x i,t' i,rfl,(e'' i).2,(ex i).2⟩
 have h0:=of_decide_eq_false hc;refine TU.t (T.idx (by omega) (by omega)) λe4 h4=>?_;have ht:=hr.tri e4 (az h4)
 refine TU.t (T.inRO (by decide) (by decide)) λ_ _=>TU.t (T.vg (i:=1) (by decide)) λe6 _=>TU.t (T.inRO (by decide) (by decide)) λ_ _=>TU.t (T.vg (i:=0) (by decide)) λe8 _=>TU.t (aNQ N _ _) λr9 _=>?_;refine TU.t (T.inRO (by decide) (by decide)) λ_ _=>TU.t (T.vg (i:=2) (by decide)) λe11 _=>TU.t (T.inRO (by decide) (by decide)) λ_ _=>TU.t (T.vg (i:=0) (by decide)) λe13 _=>TU.t (aNQ N _ _) λr14 _=>?_;refine TU.t (aMV N _ _) λr15 _=>TU.t (aPt (by omega) r15) λr16 h16=>?_;refine TU.t (P:=λp:bE=>pin p.gat/\vin p.gn/\aDk p.gB4/\p.gB4∈s.gA4) ?_ λp17 h17=>?_
 ·refine T.bind (aS9 (by omega) hray.1 hray.2 ha.2) λr18 h18=>T.bind (aQR (by omega) h16 ray.gd) λr19 h19=>T.bind (T.idx ht.1.1 ht.1.2) λe20 h20=>?_;have hm:=az h20;refine T.cond (λ_=>?_) (λ_=>T.ret ⟨h18,h19,hr.mat _ hm,hm⟩)
  rw[aO]
  exact T.ret ⟨h18,h19,hr.mat _ hm,hm⟩
 have hy:∃(lv:List aC) (tc:Int),(aHw lv/\exC tc 4)/\∀i,∃y,(cond (decide (e4.gB7>=0)) (aa (idx b e4.gB7) λe23=>cond (!v.gA5) (some ((I64 (x i+4),e23))) (some ((x i,e23)))) (some ((x i,[]))))=some (y,lv)/\cQ (st i).gO y tc:=by
  by_cases h:e4.gB7>=0
  ·obtain⟨lv,e,hl⟩:=T.idx h ht.2.1;refine⟨lv,4,⟨hr.lev lv (az hl),rfl⟩,λi=>?_⟩
   rw[dt h,cond_true,e,ae,hcon]
   exact⟨x i,rfl,(ex i).2⟩
  ·refine⟨[],4,⟨⟨by simp,λt h=>absurd h (by simp)⟩,rfl⟩,λi=>?_⟩
   rw[df h,cond_false]
   exact⟨x i,rfl,(ex i).2⟩
 obtain⟨lv,tc,⟨hlv,htc⟩,hy⟩:=hy;have hy':∃y:ι->Int,∀i,(cond (decide (e4.gB7>=0)) (aa (idx b e4.gB7) λe23=>cond (!v.gA5) (some ((I64 (x i+4),e23))) (some ((x i,e23)))) (some ((x i,[]))))=some (y i,lv)/\cQ (st i).gO (y i) tc:=⟨λi=>(hy i).choose,λi=>(hy i).choose_spec⟩
 obtain⟨y,ey⟩:=hy';simp only[λi=>(ey i).1,ae]
 refine TU.t (aNK (by omega) h17.2.2.1.1 hlv ht.2.2.1 ha.2 _) λr24 h24=>?_;refine TU.t (P:=aBl s) ?_ λp25 h25=>?_
 ·rw[aO]
  have ho:=hobj e4 (az h4)
  refine T.cond (λ_=>?_) (λ_=>T.ret hsm)
  refine T.eq (aCR _ h17.1) (T.eq (aCR _ hray.1) (T.eq (aIP _ (aCe _) (aCe _)) (T.bind (aQW (by omega) (aIg _ _)) λr hr=>T.cond (λ_=>T.ret ⟨Or.inr ⟨ho,Or.inl rfl⟩,hr,h17.2.1⟩) (λ_=>T.ret ⟨Or.inr ⟨ho,Or.inr rfl⟩,hr,h17.2.1⟩))))
 ·exact TU.ret ((p25,bE.mk p17.gi p17.gat p17.gn r24 p17.gB4 p17.gC1,true),(gl.length:Int),tc) ⟨⟨⟨h17.1,h17.2.1,h24,h17.2.2.1⟩,Or.inl h17.2.2.2,h25⟩,rfl,htc⟩ λi=>⟨y i,t' i,rfl,(e'' i).2,(ey i).2⟩
end
section
variable {ι:Type} {N:Nat} (hN:1000000000000 < N) {b:List (List aC)} {s:aE} {v:aG} {sky:aA} (hr:Rdy b s v sky)
structure DrkW(D:Prop)(s:aE)(sky:aA):Prop where
 sky:D->sky=v0
 lights:D->s.gI=[]
 mats:D->∀m∈s.gA4,m.gB1≠4
include hN
theorem aKx(x:Int)(ray:ι->aP)(f l:ι->aA)(dep:Int)(ov:ι->Bool)(sm:ι->aH)(st:ι->aF)(src:aD)(sw:ι->aL) :
  TC (λi=>dY N b x (ray i) (f i) (l i) dep (ov i) (sm i) s v sky (st i) src (sw i)) (λ_=>True):=by
 obtain⟨a,e,_⟩:=aVQ N (by omega) dep x src;refine⟨(a.1,a.2),trivial,λi=>?_⟩
 unfold dY;rw[e];rfl
theorem addW(D:Prop){c:List aA}(hc:∀x∈c,vin x)(hl:c.length<=2)(ray:ι->aP){f l:aA}(hf:vin f)(hlv:vin l)(hd:D->l=v0/\c=[v0])(dep:Int)(ov:Bool)(sm:ι->aH)(st:ι->aF)(src:ι->aD)(sw:ι->aL) :
  TC (λi=>lD N b c (ray i) f l dep ov (sm i) s v sky (st i) (src i) (sw i)) (λr=>vin r/\(D->r=v0)):=by
 unfold lD;refine TC.cond (λ_=>?_) (λ_=>TC.ret _ ⟨hlv,λh=>(hd h).1⟩)
 refine TC.t (P:=λz=>z=[f]++c) ⟨_,bY (by simp;omega),rfl⟩ λz hz=>?_;subst hz;refine TC.t (P:=λr=>vin r/\(D->r=v0)) ?_ λr2 h2=>?_
 ·by_cases hD:D
  ·rw[(hd hD).2]
   exact⟨_,aTa (by omega) hf,aE9,λ_=>rfl⟩
  ·exact(aMc (by omega) _ (by intro x hx;simp at hx;rcases hx with rfl | hx;exact hf;exact hc x hx) (by simp;omega)).mono λr h=>⟨h,λh=>absurd h hD⟩
 ·refine TC.t (P:=λr=>r=aJL l r2) ⟨_,aVI (by omega) hlv h2.1,rfl⟩ λr3 h3=>TC.ret _ ⟨by rw[h3];exact uT _ _,λh=>?_⟩
  rw[h3,h2.2 h,(hd h).1];rfl
omit hN in
theorem aRC(x:ι->Bool)(ray:ι->aP)(f l:ι->aA)(dep:Int)(ov:ι->Bool)(sm:ι->aH)(st:ι->aF)(src:ι->aD)(sw:ι->aL) :
  TC (λi=>fV N b (x i) (ray i) (f i) (l i) dep (ov i) (sm i) s v sky (st i) (src i) (sw i)) (λ_=>True):=⟨(),trivial,λi=>rfl⟩
include hr
theorem meetW{bv:bC}{gl:List aJ}(hbv:aCs gl.length bv)(hgl:gl=s.gL)(htr:xW gl bv)(hcon:v.gA5=false)(hfit:(s.gI.length:Int)<=(dW v.gM).2)(hobj:aE4 s){ray:aP}(hray:aFE ray)(f l:aA)(dep:Int)(ov:Bool){sm:aH}(hsm:aBl s sm)(st:ι->aF)(src:aD)(t:ι->Int) :
  TU (λi=>qF N b ray f l dep ov sm s v sky (st i) src (wlk bv gl (t i))) (λa:(aH×bE×Bool)×Int×Int=>(aIU a.1.2.1/\(a.1.2.1.gB4∈s.gA4\/a.1.2.1.gB4.gB1=0)/\aBl s a.1.1)/\amC a.2.1 (3*(gl.length:Int))/\amC a.2.2 4) (λi a r=>∃x t',r=(a.1.1,x,t',a.1.2.1,a.1.2.2)/\cQ (t i) t' a.2.1/\cQ (st i).gO x a.2.2):=by
 unfold qF;refine TU.t (P:=λ_=>True) (T.cond (λ_=>T.ret trivial) (λ_=>T.ret trivial)) λp1 _=>?_;subst hgl;refine TU.bind (aSe N (by omega) hbv htr hr.few ray.go ray.gd p1 ray.gE8 t) λa ha r hr'=>?_;obtain⟨a,nc⟩:=a;obtain⟨ha,hnc⟩:=ha;dsimp only at ha hnc hr';have h':∃t':ι->Int,∀i,r i=(t' i,a)/\cQ (t i) (t' i) nc:=⟨λi=>(hr' i).choose,λi=>(hr' i).choose_spec⟩
 obtain⟨t',e''⟩:=h';have e':∀i,r i=(t' i,a):=λi=>(e'' i).1;simp only[e']
 have hx:∀i,∃x,(cond v.gA5 (some (I64 ((st i).gO+4))) (some (st i).gO))=some x/\cQ (st i).gO x 0:=λi=>⟨_,by rw[hcon];rfl,kM _⟩
 have hx':∃x:ι->Int,∀i,(cond v.gA5 (some (I64 ((st i).gO+4))) (some (st i).gO))=some (x i)/\cQ (st i).gO (x i) 0:=⟨λi=>(hx i).choose,λi=>(hx i).choose_spec⟩
 obtain⟨x,ex⟩:=hx';simp only[λi=>(ex i).1,ae]
 refine TU.cond (λ_=>?_) (λhc=>?_)
 ·exact TU.ret ((sm,bE.mk 0 (aB.mk 0 0 0) (aA.mk 0 0 0) (aA.mk 0 0 0) (aN.mk 0 (#v[0,0,0]) 0) false,false),nc,0) ⟨⟨⟨⟨z64,z64,z64⟩,aE9,aE9,mat0⟩,Or.inr rfl,hsm⟩,hnc,c04⟩ λi=>⟨x i,t' i,rfl,(e'' i).2,(ex i).2⟩
 have h0:=of_decide_eq_false hc;refine TU.t (T.idx (by omega) (by omega)) λe4 h4=>?_;have ht:=hr.tri e4 (az h4)
 refine TU.t (T.inRO (by decide) (by decide)) λ_ _=>TU.t (T.vg (i:=1) (by decide)) λe6 _=>TU.t (T.inRO (by decide) (by decide)) λ_ _=>TU.t (T.vg (i:=0) (by decide)) λe8 _=>TU.t (aNQ N _ _) λr9 _=>?_;refine TU.t (T.inRO (by decide) (by decide)) λ_ _=>TU.t (T.vg (i:=2) (by decide)) λe11 _=>TU.t (T.inRO (by decide) (by decide)) λ_ _=>TU.t (T.vg (i:=0) (by decide)) λe13 _=>TU.t (aNQ N _ _) λr14 _=>?_;refine TU.t (aMV N _ _) λr15 _=>TU.t (aPt (by omega) r15) λr16 h16=>?_;refine TU.t (P:=λp:bE=>pin p.gat/\vin p.gn/\aDk p.gB4/\p.gB4∈s.gA4) ?_ λp17 h17=>?_
 ·refine T.bind (aS9 (by omega) hray.1 hray.2 ha.2) λr18 h18=>T.bind (aQR (by omega) h16 ray.gd) λr19 h19=>T.bind (T.idx ht.1.1 ht.1.2) λe20 h20=>?_;have hm:=az h20;refine T.cond (λ_=>?_) (λ_=>T.ret ⟨h18,h19,hr.mat _ hm,hm⟩)
  rw[aO]
  exact T.ret ⟨h18,h19,hr.mat _ hm,hm⟩
 have hy:∃(lv:List aC) (tc:Int),(aHw lv/\amC tc 4)/\∀i,∃y,(cond (decide (e4.gB7>=0)) (aa (idx b e4.gB7) λe23=>cond (!v.gA5) (some ((I64 (x i+4),e23))) (some ((x i,e23)))) (some ((x i,[]))))=some (y,lv)/\cQ (st i).gO y tc:=by
  by_cases h:e4.gB7>=0
  ·obtain⟨lv,e,hl⟩:=T.idx h ht.2.1;refine⟨lv,4,⟨hr.lev lv (az hl),c44⟩,λi=>?_⟩
   rw[dt h,cond_true,e,ae,hcon]
   exact⟨_,rfl,aTg (oM (ex i).2 (aEL _ 4)) (by decide)⟩
  ·refine⟨[],0,⟨⟨by simp,λt h=>absurd h (by simp)⟩,c04⟩,λi=>?_⟩
   rw[df h,cond_false]
   exact⟨x i,rfl,(ex i).2⟩
 obtain⟨lv,tc,⟨hlv,htc⟩,hy⟩:=hy;have hy':∃y:ι->Int,∀i,(cond (decide (e4.gB7>=0)) (aa (idx b e4.gB7) λe23=>cond (!v.gA5) (some ((I64 (x i+4),e23))) (some ((x i,e23)))) (some ((x i,[]))))=some (y i,lv)/\cQ (st i).gO (y i) tc:=⟨λi=>(hy i).choose,λi=>(hy i).choose_spec⟩
 obtain⟨y,ey⟩:=hy';simp only[λi=>(ey i).1,ae]
 refine TU.t (aNK (by omega) h17.2.2.1.1 hlv ht.2.2.1 ha.2 _) λr24 h24=>?_;refine TU.t (P:=aBl s) ?_ λp25 h25=>?_
 ·rw[aO]
  have ho:=hobj e4 (az h4)
  refine T.cond (λ_=>?_) (λ_=>T.ret hsm)
  refine T.eq (aCR _ h17.1) (T.eq (aCR _ hray.1) (T.eq (aIP _ (aCe _) (aCe _)) (T.bind (aQW (by omega) (aIg _ _)) λr hr=>T.cond (λ_=>T.ret ⟨Or.inr ⟨ho,Or.inl rfl⟩,hr,h17.2.1⟩) (λ_=>T.ret ⟨Or.inr ⟨ho,Or.inr rfl⟩,hr,h17.2.1⟩))))
 ·exact TU.ret ((p25,bE.mk p17.gi p17.gat p17.gn r24 p17.gB4 p17.gC1,true),nc,tc) ⟨⟨⟨h17.1,h17.2.1,h24,h17.2.2.1⟩,Or.inl h17.2.2.2,h25⟩,hnc,htc⟩ λi=>⟨y i,t' i,rfl,(e'' i).2,(ey i).2⟩
end
section
variable {ι:Type} {N:Nat} (hN:4100 < N) {b:List (List aC)} {s:aE} {v:aG} {sky:aA} (hr:Rdy b s v sky)
include hN hr
theorem aVp{gl:List aJ}(hsw:aMG s.gL.length gl)(hcon:v.gA5=true)(hfit:(s.gI.length:Int)<=(dW v.gM).2){D:Prop}(hD:DrkS D s sky){pl:bE}(hp:aIU pl)(ray:aP){f l:aA}(hf:vin f)(hl:vin l)(hl0:D->l=v0)(dep:Int)(ov:Bool)(sm:aH)(st:ι->aF)(src:aD)(t:ι->Int) :
  TU (λi=>mN N b pl ray f l dep ov sm s v sky (st i) src (swp gl (t i))) (λa:(aA×aD)×Int=>(vin a.1.1/\(D->a.1.1=v0))/\exC a.2 ((gl.length:Int)*(dW v.gM).2)) (λi a r=>∃t',r=(a.1.1,a.1.2,swp gl t')/\cQ (t i) t' a.2):=by
 unfold mN;have l5:=hr.lights;simp only[aO]
 refine TU.bind (P:=λa:(aA×aD)×Int=>(vin a.1.1/\(D->a.1.1=v0))/\exC a.2 ((gl.length:Int)*(s.gI.length:Int))) (S:=λi a r=>∃t',r=(a.1.1,a.1.2,swp gl t')/\cQ (t i) t' a.2) ?_ λa ha r hr'=>?_
 ·refine TU.loop0 (n:=s.gI.length) (λj (x:(aA×aD)×Int) t'=>((vin x.1.1/\(D->x.1.1=v0))/\exC x.2 ((gl.length:Int)*(j:Int)))/\∀i,cQ (t i) (t' i) x.2) (F:=λi k t' (x:(aA×aD)×Int) j=>eR N (s.gI.length:Int) s b ray f dep ov sm v sky (st i) pl k x.1.1 x.1.2 (swp gl t') j) (λk t' x j hj hx hk=>?_) (λk t' x hx=>?_) (by omega) (s:=((l,src),0)) (h:=t) ⟨⟨⟨hl,hl0⟩,aIx aS7 (by rw[show((0:Nat):Int)=0 from rfl,fu])⟩,λi=>kM _⟩
  ·have nd:¬D:=λh=>by have:=hD.lights h;rw[this] at hj;exact absurd hj (by simp)
   have hlj:=hr.light _ (bh hj)
   simp only[eR,dt (show(j:Int) < (s.gI.length:Int) by omega),cond_true,aO]
   refine TU.bind (P:=λa:(aA×aD×aQ×lV)×Int=>(vin a.1.1/\(D->a.1.1=v0))/\exC a.2 (gl.length:Int)) (S:=λi a r=>∃tn,r=(a.1.1,a.1.2.1,swp gl (tn),a.1.2.2.1,a.1.2.2.2)/\cQ (t' i) tn a.2) ?_ λa ha r hr'=>?_
   ·refine TU.e (a:=s.gI[j]) (λi=>by rw[eP,af hj]) ?_;refine TU.c (aKt hN _ _ _ _ _ _ _ _ _ _) λr10 _=>TU.c (aKt hN _ _ _ _ _ _ _ _ _ _) λr12 _=>?_;refine TU.t (aVY (by omega) hlj pl.gat hp.2.1 _) λr13 h13=>?_;refine TU.cond (λhc=>by rw[hcon] at hc;cases hd:r13.gE7 <;> rw[hd] at hc <;> cases hc) (λ_=>?_)
    refine TU.bind (P:=λa:Bool×Int=>exC a.2 (gl.length:Int)) (S:=λi a r=>∃tn,r=(swp gl (tn),a.1)/\cQ (t' i) tn a.2) ?_ λan han ra hra=>?_
    ·refine TU.bind (anyU N (by omega) hsw pl.gat r13.gE9 2 pl.gi (!r13.gF0) t') λan _ ra hra=>?_;have hnc:exC (gl.length:Int) (gl.length:Int):=rfl;have hn:∃tn:ι->Int,∀i,ra i=(swp gl (tn i),an)/\cQ (t' i) (tn i) (gl.length:Int):=⟨λi=>(hra i).choose,λi=>(hra i).choose_spec⟩
     obtain⟨tn,en⟩:=hn;simp only[λi=>(en i).1]
     exact TU.cond (λ_=>TU.cond (λ_=>TU.ret (_,(gl.length:Int)) hnc λi=>⟨tn i,rfl,(en i).2⟩) (λ_=>TU.ret (false,(gl.length:Int)) hnc λi=>⟨tn i,rfl,(en i).2⟩)) (λ_=>TU.ret (false,(gl.length:Int)) hnc λi=>⟨tn i,rfl,(en i).2⟩)
    ·have hn:∃tn:ι->Int,∀i,ra i=(swp gl (tn i),an.1)/\cQ (t' i) (tn i) an.2:=⟨λi=>(hra i).choose,λi=>(hra i).choose_spec⟩
     obtain⟨tn,en⟩:=hn;simp only[λi=>(en i).1]
     refine TU.cond (λ_=>?_) (λ_=>TU.ret ((_,_,_,_),an.2) ⟨hx.1.1,han⟩ λi=>⟨tn i,rfl,(en i).2⟩)
     refine TU.c (addS hN D (by intro y hy;simp at hy;rcases hy with rfl | rfl;exact hp.2.2.1;exact h13) (by simp) _ hf hx.1.1.1 (λh=>absurd h nd) _ _ _ _ _ _) λr17 h17=>TU.ret ((_,_,_,_),an.2) ⟨h17,han⟩ λi=>⟨tn i,rfl,(en i).2⟩
   ·have hn:∃tn:ι->Int,∀i,r i=(a.1.1,a.1.2.1,swp gl (tn i),a.1.2.2.1,a.1.2.2.2)/\cQ (t' i) (tn i) a.2:=⟨λi=>(hr' i).choose,λi=>(hr' i).choose_spec⟩
    obtain⟨tn,en⟩:=hn;simp only[λi=>(en i).1]
    rw[cW (by omega)]
    exact hk ((a.1.1,a.1.2.1),x.2+a.2) tn ⟨⟨ha.1,aIx (aQK hx.1.2 ha.2) (by rw[show((j+1:Nat):Int)=(j:Int)+1 from by omega,dv,er])⟩,λi=>oM (hx.2 i) (en i).2⟩
  ·simp only[eR,df (show ¬(s.gI.length:Int) < (s.gI.length:Int) by omega),cond_false]
   exact TU.ret x hx.1 λi=>⟨t' i,rfl,hx.2 i⟩
 have h2:∃t2:ι->Int,∀i,r i=(a.1.1,a.1.2,swp gl (t2 i))/\cQ (t i) (t2 i) a.2:=⟨λi=>(hr' i).choose,λi=>(hr' i).choose_spec⟩
 obtain⟨t2,e2⟩:=h2;simp only[λi=>(e2 i).1]
 simp only[hcon,Bool.not_true,cond_false,aOf,ae,aO]
 obtain⟨n,hn⟩:=bm (show 0<=(dW v.gM).2 - (s.gI.length:Int) by omega)
 have cl:(dW v.gM).2 < 1000:=by unfold dW;cases (v.gM==0) <;> cases (v.gM==1) <;> cases (v.gM==2) <;> decide
 have ig:I64 ((dW v.gM).2 - (s.gI.length:Int))=(n:Int):=by rw[hn,bD (by omega) (by omega)]
 refine TU.bind (P:=λ_:Unit=>True) (S:=λi _ r=>∃t',r=swp gl t'/\cQ (t2 i) t' ((gl.length:Int)*(n:Int))) ?_ λ_ _ r hr'=>?_
 ·refine TU.loop0 (n:=n) (λj (_:Unit) t'=>∀i,cQ (t2 i) (t' i) ((gl.length:Int)*(j:Int))) (F:=λi k t' (_:Unit) j=>fA N (dW v.gM) (s.gI.length:Int) pl k (swp gl t') j) (λk t' _ j hj hx hk=>?_) (λk t' _ hx=>?_) (by omega) (s:=()) (h:=t2) (λi=>by rw[show((0:Nat):Int)=0 from rfl,fu];exact kM _)
  ·simp only[fA,aO,ig,dt (show(j:Int) < (n:Int) by omega),cond_true]
   refine TU.bind (anyU N (by omega) hsw pl.gat (aB.mk 0 0 0) 2 pl.gi false t') λan _ ra hra=>?_;have hn:∃tn:ι->Int,∀i,ra i=(swp gl (tn i),an)/\cQ (t' i) (tn i) (gl.length:Int):=⟨λi=>(hra i).choose,λi=>(hra i).choose_spec⟩
   obtain⟨tn,en⟩:=hn;simp only[λi=>(en i).1]
   rw[cW (by omega)]
   exact hk () tn λi=>aTg (oM (hx i) (en i).2) (by rw[show((j+1:Nat):Int)=(j:Int)+1 from by omega,dv,er])
  ·simp only[fA,aO,ig,df (show ¬(n:Int) < (n:Int) by omega),cond_false]
   exact TU.ret () trivial λi=>⟨t' i,rfl,hx i⟩
 ·have h3:∃t3:ι->Int,∀i,r i=swp gl (t3 i)/\cQ (t2 i) (t3 i) ((gl.length:Int)*(n:Int)):=⟨λi=>(hr' i).choose,λi=>(hr' i).choose_spec⟩
  obtain⟨t3,e3⟩:=h3;simp only[λi=>(e3 i).1]
  exact TU.ret (a.1,a.2+(gl.length:Int)*(n:Int)) ⟨ha.1,by have h:=ha.2;unfold exC at *;dsimp only;rw[h,<- dv];congr 1;omega⟩ λi=>⟨t3 i,rfl,oM (e2 i).2 (e3 i).2⟩
end
section
variable {ι:Type} {N:Nat} (hN:1000000000000 < N) {b:List (List aC)} {s:aE} {v:aG} {sky:aA} (hr:Rdy b s v sky)
include hN hr
theorem aWj{bv:bC}{gl:List aJ}(hbv:aCs gl.length bv)(hgl:gl=s.gL)(htr:xW gl bv)(hcon:v.gA5=false)(hfit:(s.gI.length:Int)<=(dW v.gM).2){D:Prop}(hD:DrkW D s sky){pl:bE}(hp:aIU pl)(ray:aP){f l:aA}(hf:vin f)(hl:vin l)(hl0:D->l=v0)(dep:Int)(ov:Bool)(sm:aH)(st:ι->aF)(src:aD)(t:ι->Int) :
  TU (λi=>oY N b pl ray f l dep ov sm s v sky (st i) src (wlk bv gl (t i))) (λa:(aA×aD)×Int=>(vin a.1.1/\(D->a.1.1=v0))/\amC a.2 ((3*(gl.length:Int))*(dW v.gM).2)) (λi a r=>∃t',r=(a.1.1,a.1.2,wlk bv gl t')/\cQ (t i) t' a.2):=by
 unfold oY;have l5:=hr.lights;simp only[aO]
 refine TU.bind (P:=λa:(aA×aD)×Int=>(vin a.1.1/\(D->a.1.1=v0))/\amC a.2 ((3*(gl.length:Int))*(s.gI.length:Int))) (S:=λi a r=>∃t',r=(a.1.1,a.1.2,wlk bv gl t')/\cQ (t i) t' a.2) ?_ λa ha r hr'=>?_
 ·refine TU.loop0 (n:=s.gI.length) (λj (x:(aA×aD)×Int) t'=>((vin x.1.1/\(D->x.1.1=v0))/\amC x.2 ((3*(gl.length:Int))*(j:Int)))/\∀i,cQ (t i) (t' i) x.2) (F:=λi k t' (x:(aA×aD)×Int) j=>fU N (s.gI.length:Int) s b ray f dep ov sm v sky (st i) pl k x.1.1 x.1.2 (wlk bv gl t') j) (λk t' x j hj hx hk=>?_) (λk t' x hx=>?_) (by omega) (s:=((l,src),0)) (h:=t) ⟨⟨⟨hl,hl0⟩,aIw aNW (by rw[show((0:Nat):Int)=0 from rfl,fu])⟩,λi=>kM _⟩
  ·have nd:¬D:=λh=>by have:=hD.lights h;rw[this] at hj;exact absurd hj (by simp)
   have hlj:=hr.light _ (bh hj)
   simp only[fU,dt (show(j:Int) < (s.gI.length:Int) by omega),cond_true,aO]
   refine TU.bind (P:=λa:(aA×aD×aQ×lV)×Int=>(vin a.1.1/\(D->a.1.1=v0))/\amC a.2 (3*(gl.length:Int))) (S:=λi a r=>∃tn,r=(a.1.1,a.1.2.1,(tn),a.1.2.2.1,a.1.2.2.2)/\cQ (t' i) tn a.2) ?_ λa ha r hr'=>?_
   ·refine TU.e (a:=s.gI[j]) (λi=>by rw[eP,af hj]) ?_;refine TU.c (aKx hN _ _ _ _ _ _ _ _ _ _) λr10 _=>TU.c (aKx hN _ _ _ _ _ _ _ _ _ _) λr12 _=>?_;refine TU.t (aVY (by omega) hlj pl.gat hp.2.1 _) λr13 h13=>?_;refine TU.cond (λ_=>TU.ret ((x.1.1,aD.mk r12.1 ((aD.mk r10.1 x.1.2.gA x.1.2.gD x.1.2.gC x.1.2.gE).gA) ((aD.mk r10.1 x.1.2.gA x.1.2.gD x.1.2.gC x.1.2.gE).gD) ((aD.mk r10.1 x.1.2.gA x.1.2.gD x.1.2.gC x.1.2.gE).gC) ((aD.mk r10.1 x.1.2.gA x.1.2.gD x.1.2.gC x.1.2.gE).gE),s.gI[j],r13),0) ⟨hx.1.1,aNw aNW (by omega)⟩ λi=>⟨t' i,rfl,kM _⟩) (λ_=>?_)
    refine TU.bind (P:=λa:Bool×Int=>amC a.2 (3*(gl.length:Int))) (S:=λi a r=>∃tn,r=((tn),a.1)/\cQ (t' i) tn a.2) ?_ λan han ra hra=>?_
    ·refine TU.bind (anyK N (by omega) hbv htr (by rw[hgl];exact hr.few) pl.gat r13.gE9 2 pl.gi (!r13.gF0) t') λan hnc ra hra=>?_;obtain⟨an,nc⟩:=an;dsimp only at hnc hra;have hn:∃tn:ι->Int,∀i,ra i=(tn i,an)/\cQ (t' i) (tn i) nc:=⟨λi=>(hra i).choose,λi=>(hra i).choose_spec⟩
     obtain⟨tn,en⟩:=hn;simp only[λi=>(en i).1]
     exact TU.cond (λ_=>TU.cond (λ_=>TU.ret (_,nc) hnc λi=>⟨tn i,rfl,(en i).2⟩) (λ_=>TU.ret (false,nc) hnc λi=>⟨tn i,rfl,(en i).2⟩)) (λ_=>TU.ret (false,nc) hnc λi=>⟨tn i,rfl,(en i).2⟩)
    ·have hn:∃tn:ι->Int,∀i,ra i=((tn i),an.1)/\cQ (t' i) (tn i) an.2:=⟨λi=>(hra i).choose,λi=>(hra i).choose_spec⟩
     obtain⟨tn,en⟩:=hn;simp only[λi=>(en i).1]
     refine TU.cond (λ_=>?_) (λ_=>TU.ret ((_,_,_,_),an.2) ⟨hx.1.1,han⟩ λi=>⟨tn i,rfl,(en i).2⟩)
     refine TU.c (addW hN D (by intro y hy;simp at hy;rcases hy with rfl | rfl;exact hp.2.2.1;exact h13) (by simp) _ hf hx.1.1.1 (λh=>absurd h nd) _ _ _ _ _ _) λr17 h17=>TU.ret ((_,_,_,_),an.2) ⟨h17,han⟩ λi=>⟨tn i,rfl,(en i).2⟩
   ·have hn:∃tn:ι->Int,∀i,r i=(a.1.1,a.1.2.1,(tn i),a.1.2.2.1,a.1.2.2.2)/\cQ (t' i) (tn i) a.2:=⟨λi=>(hr' i).choose,λi=>(hr' i).choose_spec⟩
    obtain⟨tn,en⟩:=hn;simp only[λi=>(en i).1]
    rw[cW (by omega)]
    exact hk ((a.1.1,a.1.2.1),x.2+a.2) tn ⟨⟨ha.1,aIw (aPV hx.1.2 ha.2) (by rw[show((j+1:Nat):Int)=(j:Int)+1 from by omega,dv,er])⟩,λi=>oM (hx.2 i) (en i).2⟩
  ·simp only[fU,df (show ¬(s.gI.length:Int) < (s.gI.length:Int) by omega),cond_false]
   exact TU.ret x hx.1 λi=>⟨t' i,rfl,hx.2 i⟩
 have h2:∃t2:ι->Int,∀i,r i=(a.1.1,a.1.2,wlk bv gl (t2 i))/\cQ (t i) (t2 i) a.2:=⟨λi=>(hr' i).choose,λi=>(hr' i).choose_spec⟩
 obtain⟨t2,e2⟩:=h2;simp only[λi=>(e2 i).1]
 simp only[hcon,Bool.not_false,cond_true]
 exact TU.ret a ⟨ha.1,aNw ha.2 (i9 hfit (by omega))⟩ λi=>⟨t2 i,rfl,(e2 i).2⟩
end
section
variable {ι:Type} {N:Nat} (hN:4100 < N) {b:List (List aC)} {s:aE} {v:aG} {sky:aA} (hr:Rdy b s v sky)
include hN hr
theorem stepS{gl:List aJ}(hsw:aMG s.gL.length gl)(hcon:v.gA5=true)(hfit:(s.gI.length:Int)<=(dW v.gM).2)(hobj:aE4 s){D:Prop}(hD:DrkS D s sky){ray:aP}(hray:aFE ray){f l:aA}(hf:vin f)(hl:vin l)(hl0:D->l=v0)(dep:Int)(ov:Bool){sm:aH}(hsm:aBl s sm)(st:ι->aF)(src:aD)(t:ι->Int) :
  TU (λi=>pB N b ray f l dep ov sm s v sky (st i) src (swp gl (t i))) (λa:(aP×aA×aA×Bool×aH×aD)×Int×Int=>(aFE a.1.1/\vin a.1.2.1/\vin a.1.2.2.1/\(D->a.1.2.2.1=v0)/\aBl s a.1.2.2.2.2.1)/\exC a.2.1 ((gl.length:Int)*(1+(dW v.gM).2))/\exC a.2.2 4) (λi a r=>∃x t',r=(a.1.1,a.1.2.1,a.1.2.2.1,a.1.2.2.2.1,a.1.2.2.2.2.1,x,a.1.2.2.2.2.2,swp gl t')/\cQ (t i) t' a.2.1/\cQ (st i).gO x a.2.2):=by
 unfold pB;refine TU.bind (meetS hN hr hsw hcon hfit hobj hray f l dep ov hsm st src t) λa ha r hr'=>?_;obtain⟨a,mc,tc⟩:=a;obtain⟨ha,hmc,htc⟩:=ha;dsimp only at ha hmc htc hr';have h1:∃(x t1:ι->Int),∀i,r i=(a.1,x i,swp gl (t1 i),a.2.1,a.2.2)/\cQ (t i) (t1 i) mc/\cQ (st i).gO (x i) tc:=⟨λi=>(hr' i).choose,λi=>(hr' i).choose_spec.choose,λi=>(hr' i).choose_spec.choose_spec⟩
 obtain⟨x,t1,e1⟩:=h1;simp only[λi=>(e1 i).1]
 obtain⟨hp,hm,hs⟩:=ha;have nd:∀h:(a.2.1.gB4.gB1==4)=true,¬D:=λh d=>by
  have h4:a.2.1.gB4.gB1=4:=by simpa using h
  rcases hm with hm | hm
  ·exact hD.mats d _ hm h4
  ·rw[hm] at h4;cases h4
 generalize a.2.1=pl at *;refine TU.c (P:=λp:aA×Bool=>vin p.1/\(D->p.1=v0)) (TC.cond (λ_=>TC.bind (addS hN D (by intro y hy;simp at hy;rcases hy with rfl;exact hr.sky) (by simp) _ hf hl (λd=>⟨hl0 d,by rw[hD.sky d]⟩) _ _ _ _ _ _) λr3 h3=>TC.bind (aQj _ _ _ _ _ _ _ _ _ _) λ_ _=>TC.ret _ h3) (λ_=>TC.ret _ ⟨hl,hl0⟩)) λp2 h2=>?_;refine TU.c (aQj _ _ _ _ _ _ _ _ _ _) λ_ _=>?_;simp only[aO]
 refine TU.c (P:=λp:aA×Bool=>vin p.1/\(D->p.1=v0)) (TC.cond (λhc=>TC.bind (addS hN D (by intro y hy;simp at hy;rcases hy with rfl;exact hp.2.2.1) (by simp) _ hf h2.1 (λd=>absurd d (nd hc)) _ _ _ _ _ _) λr3 h3=>TC.bind (aQj _ _ _ _ _ _ _ _ _ _) λ_ _=>TC.ret _ h3) (λ_=>TC.ret _ h2)) λp6 p6l=>?_;refine TU.bind (P:=λz:(aA×aD)×Int=>(vin z.1.1/\(D->z.1.1=v0))/\exC z.2 ((gl.length:Int)*(dW v.gM).2)) (S:=λi z r=>∃t2,r=(z.1.1,z.1.2,swp gl t2)/\cQ (t1 i) t2 z.2) ?_ λz hz rz hrz=>?_
 ·simp only[hcon,cond_true,ae]
  refine TU.bind (aVp hN hr hsw hcon hfit hD hp (ι:=ι) ray hf p6l.1 p6l.2 dep p6.2 a.1 _ src t1) λz hz rz hrz=>?_;have h2:∃t2:ι->Int,∀i,rz i=(z.1.1,z.1.2,swp gl (t2 i))/\cQ (t1 i) (t2 i) z.2:=⟨λi=>(hrz i).choose,λi=>(hrz i).choose_spec⟩
  obtain⟨t2,e2⟩:=h2;simp only[λi=>(e2 i).1]
  exact TU.ret ((z.1.1,z.1.2),z.2) hz λi=>⟨t2 i,rfl,(e2 i).2⟩
 have h2':∃t2:ι->Int,∀i,rz i=(z.1.1,z.1.2,swp gl (t2 i))/\cQ (t1 i) (t2 i) z.2:=⟨λi=>(hrz i).choose,λi=>(hrz i).choose_spec⟩
 obtain⟨t2,e2⟩:=h2';simp only[λi=>(e2 i).1]
 obtain⟨z,zc⟩:=z;obtain⟨hz,hzc⟩:=hz;dsimp only at hz hzc e2;have rt:∀i,cQ (t i) (t2 i) (mc+zc):=λi=>oM (e1 i).2.1 (e2 i).2;have rc:exC (mc+zc) ((gl.length:Int)*(1+(dW v.gM).2)):=aIx (aQK hmc hzc) (by rw[dv,er])
 refine TU.t (P:=λ_=>True) (T.cond (λ_=>T.ret trivial) (λ_=>T.ret trivial)) λp14 _=>TU.cond (λ_=>?_) (λ_=>?_)
 ·exact TU.c (aQj _ _ _ _ _ _ _ _ _ _) λ_ _=>TU.ret ((ray,f,z.1,_,a.1,z.2),mc+zc,tc) ⟨⟨hray,hf,hz.1,hz.2,hs⟩,rc,htc⟩ λi=>⟨x i,t2 i,rfl,rt i,(e1 i).2.2⟩
 refine TU.c (aKt hN _ _ _ _ _ _ _ _ _ _) λr16 _=>TU.c (aKt hN _ _ _ _ _ _ _ _ _ _) λr17 _=>?_;refine TU.t (aNb (by omega) hp.2.2.2 hp.2.2.1 hp.2.1 ray.gd _) λr18 h18=>TU.t (aMc (by omega) _ (by intro y hy;simp at hy;rcases hy with rfl | rfl;exact hf;exact h18.2) (by simp)) λr19 h19=>?_;refine TU.c (aQj _ _ _ _ _ _ _ _ _ _) λ_ _=>?_;refine TU.c (P:=λp:aA×Bool×aD=>vin p.1) ?_ λp21 h21=>?_
 ·refine TC.cond (λ_=>TC.bind (aKt hN _ _ _ _ _ _ _ _ _ _) λr22 _=>TC.t (aKp (by omega) h19 _) λr23 h23=>TC.bind (aQj _ _ _ _ _ _ _ _ _ _) λ_ _=>TC.ret _ h23) (λ_=>TC.ret _ h19)
 ·exact TU.ret ((_,p21.1,z.1,p21.2.1,a.1,p21.2.2),mc+zc,tc) ⟨⟨⟨hp.1,h18.1⟩,h21,hz.1,hz.2,hs⟩,rc,htc⟩ λi=>⟨x i,t2 i,rfl,rt i,(e1 i).2.2⟩
def inVS(v:aG)(x y z:Int):Prop:=(0<=x/\x < v.gW)/\(0<=y/\y < v.gH)/\0<=z/\z < v.gA8
theorem pathS{gl:List aJ}(hsw:aMG s.gL.length gl)(hcon:v.gA5=true)(hfit:(s.gI.length:Int)<=(dW v.gM).2)(hobj:aE4 s){D:Prop}(hD:DrkS D s sky)(x y z:Int)(st:ι->aF)(t:ι->Int) :
  TU (λi=>eX N b x y z s v sky (st i) (swp gl (t i))) (λa:(aH×Int)×Int×Int×Int=>(D->a.1.1.gA9=v0)/\(inVS v x y z->a.1.2=0)/\(a.1.2=0/\(aBl s a.1.1/\vin a.1.1.gA9)/\exC a.2.1 ((gl.length:Int)*(1+(dW v.gM).2)*(v.gK+1))/\exC a.2.2.1 (4*(v.gK+1))/\exC a.2.2.2 (v.gK+1)\/a.1.2=2)) (λi a r=>∃st' t',r=(st',swp gl t',a.1.1,a.1.2)/\st'.gN=(st i).gN/\cQ (t i) t' a.2.1/\cQ (st i).gO st'.gO a.2.2.1/\cQ (st i).gF st'.gF a.2.2.2):=by
 unfold eX yP;simp only[aO,ae]
 refine TU.cond (λhc=>TU.ret ((aH.mk (aA.mk 0 0 0) 0 0 (aA.mk 0 0 0) 0,2),0,0,0) ⟨λ_=>rfl,λh=>?_,Or.inr rfl⟩ λi=>⟨st i,t i,rfl,rfl,kM _,kM _,kM _⟩) (λ_=>?_)
 ·exfalso;obtain⟨⟨h1,h2⟩,⟨h3,h4⟩,h5,h6⟩:=h;rw[df (show ¬x < 0 by omega),df (show ¬x>=v.gW by omega),df (show ¬y < 0 by omega),df (show ¬y>=v.gH by omega),df (show ¬z < 0 by omega),df (show ¬z>=v.gA8 by omega)] at hc;cases hc
 refine TU.c (P:=λ_=>True) ?_ λp8 _=>?_
 ·have main:∀(k j:Nat) (src:aD) (q:Vector Int 4),4 - j < k->j<=4->TC (λi=>fH N b s v sky (st i) (swp gl (t i)) k src q (j:Int)) (λ_=>True):=by
   intro k
   induction k with
   | zero=>intro j src q h;omega
   | succ k ih=>
    intro j src q hk hj;simp only[fH]
    refine TC.cond (λhc=>?_) (λ_=>TC.ret _ trivial)
    have hj4:j < 4:=by have:=of_decide_eq_true hc;omega
    refine TC.bind (aKt (by omega) _ _ _ _ _ _ _ _ _ _) λr12 _=>TC.t (T.inRO (by omega) (by omega)) λ_ _=>TC.t (T.vgI hj4) λ_ _=>?_;rw[cW (by omega)]
    exact ih (j+1) _ _ (by omega) (by omega)
  exact main N 0 _ _ (by omega) (by decide)
 refine TU.t (rayN (by omega) _ _ _ _ _ _) λr15 h15=>?_;obtain⟨_,_,⟨d0,d8⟩,_⟩:=hr.view;obtain⟨n,hn⟩:=bm (show 0<=v.gK+1 by omega)
 refine TU.bind (P:=λa:(aD×aP×aA×aA×Bool×aH)×Int×Int×Int=>(aFE a.1.2.1/\vin a.1.2.2.1/\vin a.1.2.2.2.1/\(D->a.1.2.2.2.1=v0)/\aBl s a.1.2.2.2.2.2)/\exC a.2.1 ((gl.length:Int)*(1+(dW v.gM).2)*(n:Int))/\exC a.2.2.1 (4*(n:Int))/\exC a.2.2.2 (n:Int)) (S:=λi a r=>∃(st':aF) (t':Int),∃dd:Int,r=(st',swp gl t',a.1.1,a.1.2.1,a.1.2.2.1,a.1.2.2.2.1,dd,a.1.2.2.2.2.1,a.1.2.2.2.2.2)/\st'.gN=(st i).gN/\cQ (t i) t' a.2.1/\cQ (st i).gO st'.gO a.2.2.1/\cQ (st i).gF st'.gF a.2.2.2) ?_ λa ha r hr'=>?_
 ·refine TU.loop0 (n:=n) (λj (x:(aD×aP×aA×aA×Bool×aH)×Int×Int) (h:ι->aF×Int)=>(((aFE x.1.2.1/\vin x.1.2.2.1/\vin x.1.2.2.2.1/\(D->x.1.2.2.2.1=v0)/\aBl s x.1.2.2.2.2.2)/\exC x.2.1 ((gl.length:Int)*(1+(dW v.gM).2)*(j:Int))/\exC x.2.2 (4*(j:Int))))/\∀i,(h i).1.gN=(st i).gN/\cQ (t i) (h i).2 x.2.1/\cQ (st i).gO (h i).1.gO x.2.2/\cQ (st i).gF (h i).1.gF (j:Int)) (F:=λi k (h:aF×Int) (x:(aD×aP×aA×aA×Bool×aH)×Int×Int) j=>dM N v b s sky k h.1 (swp gl h.2) x.1.1 x.1.2.1 x.1.2.2.1 x.1.2.2.2.1 j x.1.2.2.2.2.1 x.1.2.2.2.2.2) (λk h x j hj hx hk=>?_) (λk h x hx=>?_) (by omega) (s:=((p8.1,aP.mk r15.1 r15.2.1 (-1),aA.mk 4294967296 4294967296 4294967296,aA.mk 0 0 0,false,aH.mk (aA.mk 0 0 0) 0 0 (aA.mk 0 0 0) (-1)),0,0)) (h:=λi=>(st i,t i)) ⟨⟨⟨h15,aVE,aE9,λ_=>rfl,sm0 s⟩,aIx aS7 (by rw[show((0:Nat):Int)=0 from rfl,fu]),aIx aS7 (by rfl)⟩,λi=>⟨rfl,kM _,kM _,kM _⟩⟩
  ·simp only[dM,aO,dt (show(j:Int)<=v.gK by omega),cond_true]
   simp only[hcon]
   refine TU.t (P:=λr=>r=true) (by cases x.1.2.2.2.2.1 <;> exact⟨_,rfl,rfl⟩) λp26 h26=>?_;rw[h26]
   simp only[cond_true]
   obtain⟨⟨⟨x1,x2,x3,x4,x6⟩,x7,x8⟩,x5⟩:=hx;refine TU.bind (stepS hN hr hsw hcon hfit hobj hD x1 x2 x3 x4 (j:Int) x.1.2.2.2.2.1 x6 (λi=>(h i).1) x.1.1 (λi=>(h i).2)) λa ha r hr'=>?_;have h1:∃(y t1:ι->Int),∀i,r i=(a.1.1,a.1.2.1,a.1.2.2.1,a.1.2.2.2.1,a.1.2.2.2.2.1,y i,a.1.2.2.2.2.2,swp gl (t1 i))/\cQ (h i).2 (t1 i) a.2.1/\cQ (h i).1.gO (y i) a.2.2:=⟨λi=>(hr' i).choose,λi=>(hr' i).choose_spec.choose,λi=>(hr' i).choose_spec.choose_spec⟩
   obtain⟨y,t1,e1⟩:=h1;simp only[λi=>(e1 i).1]
   rw[cW (by omega)]
   obtain⟨ha,hc1,hc2⟩:=ha;refine hk ((a.1.2.2.2.2.2,a.1.1,a.1.2.1,a.1.2.2.1,a.1.2.2.2.1,a.1.2.2.2.2.1),x.2.1+a.2.1,x.2.2+a.2.2) (λi=>(aF.mk (h i).1.gN (y i) (I64 ((h i).1.gF+1)),t1 i)) ⟨⟨ha,?_,?_⟩,λi=>⟨(x5 i).1,oM (x5 i).2.1 (e1 i).2.1,oM (x5 i).2.2.1 (e1 i).2.2,aER (x5 i).2.2.2⟩⟩
   ·refine aIx (aQK x7 hc1) ?_;generalize (gl.length:Int)*(1+(dW v.gM).2)=X;rw[show((j+1:Nat):Int)=(j:Int)+1 from by omega,dv,er]
   ·exact aIx (aQK x8 hc2) (by omega)
  ·simp only[dM,aO,df (show ¬(n:Int)<=v.gK by omega),cond_false,ae]
   exact TU.ret (x.1,x.2.1,x.2.2,(n:Int)) ⟨hx.1.1,hx.1.2.1,hx.1.2.2,rfl⟩ λi=>⟨_,_,_,rfl,hx.2 i⟩
 ·have h1:∃(st':ι->aF) (t':ι->Int) (dd:ι->Int),∀i,r i=(st' i,swp gl (t' i),a.1.1,a.1.2.1,a.1.2.2.1,a.1.2.2.2.1,dd i,a.1.2.2.2.2.1,a.1.2.2.2.2.2)/\(st' i).gN=(st i).gN/\cQ (t i) (t' i) a.2.1/\cQ (st i).gO (st' i).gO a.2.2.1/\cQ (st i).gF (st' i).gF a.2.2.2:=⟨λi=>(hr' i).choose,λi=>(hr' i).choose_spec.choose,λi=>(hr' i).choose_spec.choose_spec.choose,λi=>(hr' i).choose_spec.choose_spec.choose_spec⟩
  obtain⟨st',t',dd,e1⟩:=h1;simp only[λi=>(e1 i).1]
  rw[hn]
  exact TU.ret ((aH.mk a.1.2.2.2.1 a.1.2.2.2.2.2.gT a.1.2.2.2.2.2.gK a.1.2.2.2.2.2.gB5 a.1.2.2.2.2.2.gA3,0),a.2) ⟨ha.1.2.2.2.1,λ_=>rfl,Or.inl ⟨rfl,⟨ha.1.2.2.2.2,ha.1.2.2.1⟩,ha.2⟩⟩ λi=>⟨st' i,t' i,rfl,(e1 i).2⟩
end
section
variable {ι:Type} {N:Nat} (hN:1000000000000 < N) {b:List (List aC)} {s:aE} {v:aG} {sky:aA} (hr:Rdy b s v sky)
include hN hr
theorem stepW{bv:bC}{gl:List aJ}(hbv:aCs gl.length bv)(hgl:gl=s.gL)(htr:xW gl bv)(hcon:v.gA5=false)(hfit:(s.gI.length:Int)<=(dW v.gM).2)(hobj:aE4 s){D:Prop}(hD:DrkW D s sky){ray:aP}(hray:aFE ray){f l:aA}(hf:vin f)(hl:vin l)(hl0:D->l=v0)(dep:Int)(ov:Bool){sm:aH}(hsm:aBl s sm)(st:ι->aF)(src:aD)(t:ι->Int) :
  TU (λi=>qH N b ray f l dep ov sm s v sky (st i) src (wlk bv gl (t i))) (λa:(aP×aA×aA×Bool×aH×aD)×Int×Int=>(aFE a.1.1/\vin a.1.2.1/\vin a.1.2.2.1/\(D->a.1.2.2.1=v0)/\aBl s a.1.2.2.2.2.1)/\amC a.2.1 ((3*(gl.length:Int))*(1+(dW v.gM).2))/\amC a.2.2 4) (λi a r=>∃x t',r=(a.1.1,a.1.2.1,a.1.2.2.1,a.1.2.2.2.1,a.1.2.2.2.2.1,x,a.1.2.2.2.2.2,wlk bv gl t')/\cQ (t i) t' a.2.1/\cQ (st i).gO x a.2.2):=by
 unfold qH;refine TU.bind (meetW hN hr hbv hgl htr hcon hfit hobj hray f l dep ov hsm st src t) λa ha r hr'=>?_;obtain⟨a,mc,tc⟩:=a;obtain⟨ha,hmc,htc⟩:=ha;dsimp only at ha hmc htc hr';have h1:∃(x t1:ι->Int),∀i,r i=(a.1,x i,(t1 i),a.2.1,a.2.2)/\cQ (t i) (t1 i) mc/\cQ (st i).gO (x i) tc:=⟨λi=>(hr' i).choose,λi=>(hr' i).choose_spec.choose,λi=>(hr' i).choose_spec.choose_spec⟩
 obtain⟨x,t1,e1⟩:=h1;simp only[λi=>(e1 i).1]
 obtain⟨hp,hm,hs⟩:=ha;have nd:∀h:(a.2.1.gB4.gB1==4)=true,¬D:=λh d=>by
  have h4:a.2.1.gB4.gB1=4:=by simpa using h
  rcases hm with hm | hm
  ·exact hD.mats d _ hm h4
  ·rw[hm] at h4;cases h4
 generalize a.2.1=pl at *;refine TU.c (P:=λp:aA×Bool=>vin p.1/\(D->p.1=v0)) (TC.cond (λ_=>TC.bind (addW hN D (by intro y hy;simp at hy;rcases hy with rfl;exact hr.sky) (by simp) _ hf hl (λd=>⟨hl0 d,by rw[hD.sky d]⟩) _ _ _ _ _ _) λr3 h3=>TC.bind (aRC _ _ _ _ _ _ _ _ _ _) λ_ _=>TC.ret _ h3) (λ_=>TC.ret _ ⟨hl,hl0⟩)) λp2 h2=>?_;refine TU.c (aRC _ _ _ _ _ _ _ _ _ _) λ_ _=>?_;simp only[aO]
 refine TU.c (P:=λp:aA×Bool=>vin p.1/\(D->p.1=v0)) (TC.cond (λhc=>TC.bind (addW hN D (by intro y hy;simp at hy;rcases hy with rfl;exact hp.2.2.1) (by simp) _ hf h2.1 (λd=>absurd d (nd hc)) _ _ _ _ _ _) λr3 h3=>TC.bind (aRC _ _ _ _ _ _ _ _ _ _) λ_ _=>TC.ret _ h3) (λ_=>TC.ret _ h2)) λp6 p6l=>?_;refine TU.bind (P:=λz:(aA×aD)×Int=>(vin z.1.1/\(D->z.1.1=v0))/\amC z.2 ((3*(gl.length:Int))*(dW v.gM).2)) (S:=λi z r=>∃t2,r=(z.1.1,z.1.2,wlk bv gl t2)/\cQ (t1 i) t2 z.2) ?_ λz hz rz hrz=>?_
 ·refine TU.t (P:=λ_=>True) (T.cond (λ_=>T.ret trivial) (λ_=>T.ret trivial)) λp11 _=>TU.cond (λ_=>?_) (λ_=>TU.ret ((p6.1,src),0) ⟨p6l,aNw aNW (dk (by omega) (by omega))⟩ λi=>⟨t1 i,rfl,kM _⟩)
  refine TU.bind (aWj hN hr hbv hgl htr hcon hfit hD hp (ι:=ι) ray hf p6l.1 p6l.2 dep p6.2 a.1 _ src t1) λz hz rz hrz=>?_;have h2:∃t2:ι->Int,∀i,rz i=(z.1.1,z.1.2,wlk bv gl (t2 i))/\cQ (t1 i) (t2 i) z.2:=⟨λi=>(hrz i).choose,λi=>(hrz i).choose_spec⟩
  obtain⟨t2,e2⟩:=h2;simp only[λi=>(e2 i).1]
  exact TU.ret ((z.1.1,z.1.2),z.2) hz λi=>⟨t2 i,rfl,(e2 i).2⟩
 have h2':∃t2:ι->Int,∀i,rz i=(z.1.1,z.1.2,wlk bv gl (t2 i))/\cQ (t1 i) (t2 i) z.2:=⟨λi=>(hrz i).choose,λi=>(hrz i).choose_spec⟩
 obtain⟨t2,e2⟩:=h2';simp only[λi=>(e2 i).1]
 obtain⟨z,zc⟩:=z;obtain⟨hz,hzc⟩:=hz;dsimp only at hz hzc e2;have rt:∀i,cQ (t i) (t2 i) (mc+zc):=λi=>oM (e1 i).2.1 (e2 i).2;have rc:amC (mc+zc) ((3*(gl.length:Int))*(1+(dW v.gM).2)):=aIw (aPV hmc hzc) (by rw[dv,er])
 refine TU.t (P:=λ_=>True) (T.cond (λ_=>T.ret trivial) (λ_=>T.ret trivial)) λp14 _=>TU.cond (λ_=>?_) (λ_=>?_)
 ·exact TU.c (aRC _ _ _ _ _ _ _ _ _ _) λ_ _=>TU.ret ((ray,f,z.1,_,a.1,z.2),mc+zc,tc) ⟨⟨hray,hf,hz.1,hz.2,hs⟩,rc,htc⟩ λi=>⟨x i,t2 i,rfl,rt i,(e1 i).2.2⟩
 refine TU.c (aKx hN _ _ _ _ _ _ _ _ _ _) λr16 _=>TU.c (aKx hN _ _ _ _ _ _ _ _ _ _) λr17 _=>?_;refine TU.t (aNb (by omega) hp.2.2.2 hp.2.2.1 hp.2.1 ray.gd _) λr18 h18=>TU.t (aMc (by omega) _ (by intro y hy;simp at hy;rcases hy with rfl | rfl;exact hf;exact h18.2) (by simp)) λr19 h19=>?_;refine TU.c (aRC _ _ _ _ _ _ _ _ _ _) λ_ _=>?_;refine TU.c (P:=λp:aA×Bool×aD=>vin p.1) ?_ λp21 h21=>?_
 ·refine TC.cond (λ_=>TC.bind (aKx hN _ _ _ _ _ _ _ _ _ _) λr22 _=>TC.t (aKp (by omega) h19 _) λr23 h23=>TC.bind (aRC _ _ _ _ _ _ _ _ _ _) λ_ _=>TC.ret _ h23) (λ_=>TC.ret _ h19)
 ·exact TU.ret ((_,p21.1,z.1,p21.2.1,a.1,p21.2.2),mc+zc,tc) ⟨⟨⟨hp.1,h18.1⟩,h21,hz.1,hz.2,hs⟩,rc,htc⟩ λi=>⟨x i,t2 i,rfl,rt i,(e1 i).2.2⟩
def inVW(v:aG)(x y z:Int):Prop:=(0<=x/\x < v.gW)/\(0<=y/\y < v.gH)/\0<=z/\z < v.gA8
theorem pathW{bv:bC}{gl:List aJ}(hbv:aCs gl.length bv)(hgl:gl=s.gL)(htr:xW gl bv)(hcon:v.gA5=false)(hfit:(s.gI.length:Int)<=(dW v.gM).2)(hobj:aE4 s){D:Prop}(hD:DrkW D s sky)(x y z:Int)(st:ι->aF)(t:ι->Int) :
  TU (λi=>fT N b x y z s v sky (st i) (wlk bv gl (t i))) (λa:(aH×Int)×Int×Int×Int=>(D->a.1.1.gA9=v0)/\(inVW v x y z->a.1.2=0)/\(a.1.2=0/\(aBl s a.1.1/\vin a.1.1.gA9)/\amC a.2.1 ((3*(gl.length:Int))*(1+(dW v.gM).2)*(v.gK+1))/\amC a.2.2.1 (4*(v.gK+1))/\aQZ a.2.2.2 (v.gK+1)\/a.1.2=2)) (λi a r=>∃st' t',r=(st',wlk bv gl t',a.1.1,a.1.2)/\st'.gN=(st i).gN/\cQ (t i) t' a.2.1/\cQ (st i).gO st'.gO a.2.2.1/\cQ (st i).gF st'.gF a.2.2.2):=by
 unfold fT yP;simp only[aO,ae]
 refine TU.cond (λhc=>TU.ret ((aH.mk (aA.mk 0 0 0) 0 0 (aA.mk 0 0 0) 0,2),0,0,0) ⟨λ_=>rfl,λh=>?_,Or.inr rfl⟩ λi=>⟨st i,t i,rfl,rfl,kM _,kM _,kM _⟩) (λ_=>?_)
 ·exfalso;obtain⟨⟨h1,h2⟩,⟨h3,h4⟩,h5,h6⟩:=h;rw[df (show ¬x < 0 by omega),df (show ¬x>=v.gW by omega),df (show ¬y < 0 by omega),df (show ¬y>=v.gH by omega),df (show ¬z < 0 by omega),df (show ¬z>=v.gA8 by omega)] at hc;cases hc
 refine TU.c (P:=λ_=>True) ?_ λp8 _=>?_
 ·have main:∀(k j:Nat) (src:aD) (q:Vector Int 4),4 - j < k->j<=4->TC (λi=>iA N b s v sky (st i) (wlk bv gl (t i)) k src q (j:Int)) (λ_=>True):=by
   intro k
   induction k with
   | zero=>intro j src q h;omega
   | succ k ih=>
    intro j src q hk hj;simp only[iA]
    refine TC.cond (λhc=>?_) (λ_=>TC.ret _ trivial)
    have hj4:j < 4:=by have:=of_decide_eq_true hc;omega
    refine TC.bind (aKx (by omega) _ _ _ _ _ _ _ _ _ _) λr12 _=>TC.t (T.inRO (by omega) (by omega)) λ_ _=>TC.t (T.vgI hj4) λ_ _=>?_;rw[cW (by omega)]
    exact ih (j+1) _ _ (by omega) (by omega)
  exact main N 0 _ _ (by omega) (by decide)
 refine TU.t (rayN (by omega) _ _ _ _ _ _) λr15 h15=>?_;obtain⟨_,_,⟨d0,d8⟩,_⟩:=hr.view;obtain⟨n,hn⟩:=bm (show 0<=v.gK+1 by omega)
 refine TU.bind (P:=λa:(aD×aP×aA×aA×Bool×aH)×Int×Int×Int=>(aFE a.1.2.1/\vin a.1.2.2.1/\vin a.1.2.2.2.1/\(D->a.1.2.2.2.1=v0)/\aBl s a.1.2.2.2.2.2)/\amC a.2.1 ((3*(gl.length:Int))*(1+(dW v.gM).2)*(n:Int))/\amC a.2.2.1 (4*(n:Int))/\aQZ a.2.2.2 (n:Int)) (S:=λi a r=>∃(st':aF) (t':Int),∃dd:Int,r=(st',wlk bv gl t',a.1.1,a.1.2.1,a.1.2.2.1,a.1.2.2.2.1,dd,a.1.2.2.2.2.1,a.1.2.2.2.2.2)/\st'.gN=(st i).gN/\cQ (t i) t' a.2.1/\cQ (st i).gO st'.gO a.2.2.1/\cQ (st i).gF st'.gF a.2.2.2) ?_ λa ha r hr'=>?_
 ·refine TU.loop0 (n:=n) (λj (x:(aD×aP×aA×aA×Bool×aH)×Int×Int) (h:ι->aF×Int)=>(((aFE x.1.2.1/\vin x.1.2.2.1/\vin x.1.2.2.2.1/\(D->x.1.2.2.2.1=v0)/\aBl s x.1.2.2.2.2.2)/\amC x.2.1 ((3*(gl.length:Int))*(1+(dW v.gM).2)*(j:Int))/\amC x.2.2 (4*(j:Int)))/\(x.1.2.2.2.2.1=true->1<=(j:Int)))/\∀i,(h i).1.gN=(st i).gN/\cQ (t i) (h i).2 x.2.1/\cQ (st i).gO (h i).1.gO x.2.2/\cQ (st i).gF (h i).1.gF (j:Int)) (F:=λi k (h:aF×Int) (x:(aD×aP×aA×aA×Bool×aH)×Int×Int) j=>eJ N v b s sky k h.1 (wlk bv gl h.2) x.1.1 x.1.2.1 x.1.2.2.1 x.1.2.2.2.1 j x.1.2.2.2.2.1 x.1.2.2.2.2.2) (λk h x j hj hx hk=>?_) (λk h x hx=>?_) (by omega) (s:=((p8.1,aP.mk r15.1 r15.2.1 (-1),aA.mk 4294967296 4294967296 4294967296,aA.mk 0 0 0,false,aH.mk (aA.mk 0 0 0) 0 0 (aA.mk 0 0 0) (-1)),0,0)) (h:=λi=>(st i,t i)) ⟨⟨⟨⟨h15,aVE,aE9,λ_=>rfl,sm0 s⟩,aIw aNW (by rw[show((0:Nat):Int)=0 from rfl,fu]),aIw aNW (by rfl)⟩,λh=>by cases h⟩,λi=>⟨rfl,kM _,kM _,kM _⟩⟩
  ·simp only[eJ,aO,dt (show(j:Int)<=v.gK by omega),cond_true]
   refine TU.t (P:=λr=>r=false->1<=(j:Int)) (T.cond (λ_=>T.ret λh=>by cases h) (λhc=>T.ret λ_=>hx.1.2 (by simpa using hc))) λp26 j0=>TU.cond (λ_=>?_) (λhc=>TU.ret (x.1,x.2.1,x.2.2,(j:Int)) ⟨hx.1.1.1,aNw hx.1.1.2.1 (i9 (by omega) (dk (by omega) (by omega))),aNw hx.1.1.2.2 (by omega),j0 hc,by show(j:Int)<=n;omega⟩ λi=>⟨_,_,_,rfl,hx.2 i⟩)
   obtain⟨⟨⟨⟨x1,x2,x3,x4,x6⟩,x7,x8⟩,_⟩,x5⟩:=hx;refine TU.bind (stepW hN hr hbv hgl htr hcon hfit hobj hD x1 x2 x3 x4 (j:Int) x.1.2.2.2.2.1 x6 (λi=>(h i).1) x.1.1 (λi=>(h i).2)) λa ha r hr'=>?_;have h1:∃(y t1:ι->Int),∀i,r i=(a.1.1,a.1.2.1,a.1.2.2.1,a.1.2.2.2.1,a.1.2.2.2.2.1,y i,a.1.2.2.2.2.2,wlk bv gl (t1 i))/\cQ (h i).2 (t1 i) a.2.1/\cQ (h i).1.gO (y i) a.2.2:=⟨λi=>(hr' i).choose,λi=>(hr' i).choose_spec.choose,λi=>(hr' i).choose_spec.choose_spec⟩
   obtain⟨y,t1,e1⟩:=h1;simp only[λi=>(e1 i).1]
   rw[cW (by omega)]
   obtain⟨ha,hc1,hc2⟩:=ha;refine hk ((a.1.2.2.2.2.2,a.1.1,a.1.2.1,a.1.2.2.1,a.1.2.2.2.1,a.1.2.2.2.2.1),x.2.1+a.2.1,x.2.2+a.2.2) (λi=>(aF.mk (h i).1.gN (y i) (I64 ((h i).1.gF+1)),t1 i)) ⟨⟨⟨ha,?_,?_⟩,λ_=>by omega⟩,λi=>⟨(x5 i).1,oM (x5 i).2.1 (e1 i).2.1,oM (x5 i).2.2.1 (e1 i).2.2,aER (x5 i).2.2.2⟩⟩
   ·refine aIw (aPV x7 hc1) ?_;generalize (3*(gl.length:Int))*(1+(dW v.gM).2)=X;rw[show((j+1:Nat):Int)=(j:Int)+1 from by omega,dv,er]
   ·exact aIw (aPV x8 hc2) (by omega)
  ·simp only[eJ,aO,df (show ¬(n:Int)<=v.gK by omega),cond_false,ae]
   exact TU.ret (x.1,x.2.1,x.2.2,(n:Int)) ⟨hx.1.1.1,hx.1.1.2.1,hx.1.1.2.2,by show(1:Int)<=n;omega,ff _⟩ λi=>⟨_,_,_,rfl,hx.2 i⟩
 ·have h1:∃(st':ι->aF) (t':ι->Int) (dd:ι->Int),∀i,r i=(st' i,wlk bv gl (t' i),a.1.1,a.1.2.1,a.1.2.2.1,a.1.2.2.2.1,dd i,a.1.2.2.2.2.1,a.1.2.2.2.2.2)/\(st' i).gN=(st i).gN/\cQ (t i) (t' i) a.2.1/\cQ (st i).gO (st' i).gO a.2.2.1/\cQ (st i).gF (st' i).gF a.2.2.2:=⟨λi=>(hr' i).choose,λi=>(hr' i).choose_spec.choose,λi=>(hr' i).choose_spec.choose_spec.choose,λi=>(hr' i).choose_spec.choose_spec.choose_spec⟩
  obtain⟨st',t',dd,e1⟩:=h1;simp only[λi=>(e1 i).1]
  rw[hn]
  exact TU.ret ((aH.mk a.1.2.2.2.1 a.1.2.2.2.2.2.gT a.1.2.2.2.2.2.gK a.1.2.2.2.2.2.gB5 a.1.2.2.2.2.2.gA3,0),a.2) ⟨ha.1.2.2.2.1,λ_=>rfl,Or.inl ⟨rfl,⟨ha.1.2.2.2.2,ha.1.2.2.1⟩,ha.2⟩⟩ λi=>⟨st' i,t' i,rfl,(e1 i).2⟩
end
set_option maxHeartbeats 2000000
theorem objT(N:Nat)(hN:10 < N)(s:aE)(t:aJ):T (oG N s t) (λr=>r=0->0<=t.gA3/\t.gA3 < (s.gJ.length:Int)):=by
 obtain⟨r,e,_⟩:=triT N hN s t;refine⟨r,e,λh=>?_⟩
 subst h;unfold oG at e;simp only[aO] at e;have tt:∀b:Bool,cond b true true=true:=λb=>by cases b <;> rfl
 by_cases h1:t.gA3 < 0
 ·rw[dt h1,tt] at e;cases e
 ·by_cases h2:t.gA3>=(s.gJ.length:Int)
  ·rw[dt h2,tt] at e;cases e
  ·omega
theorem aVU(N:Nat)(hN:300 < N){s:aE}(h:few s)(e:kI N s=some 0):aE4 s/\s.gS.length=s.gJ.length:=by
 have h1:=h.1;have f:T (dK N s.gL s) (λr=>r=0->aE4 s):=by
  unfold dK;refine aJl s.gL (λt=>mA N t s) (λt=>0<=t.gA3/\t.gA3 < (s.gJ.length:Int)) (λk i=>by rw[eC]) (λt _=>?_) (by omega) (by omega)
  unfold mA;exact T.bind (objT N (by omega) s t) λr h=>T.ret h
 obtain⟨r,e1,hr⟩:=f;unfold kI at e;simp only[aO] at e;cases c:((s.gS.length:Int) != (s.gJ.length:Int)) with
 | true=>rw[c] at e;cases e
 | false=>
  rw[c,cond_false,e1,ae] at e;have c':(s.gS.length:Int)=(s.gJ.length:Int):=by simpa using c
  refine⟨?_,by omega⟩
  cases d:(r != 0) with
  | true=>rw[d,cond_true] at e;cases e;cases d
  | false=>exact hr (by simpa using d)
theorem aPv{N:Nat}{s:aE}{v:aG}(h:aRr N s v 0):kI N s=some 0/\fits s v.gM:=by
 have f:∀{c:Int},rE N s c=some 0->fits s c:=by
  intro c e;obtain⟨r,e',h⟩:=aVG N s c;exact h (lO e' e)
 rcases h with ⟨_,h⟩ | ⟨_,_,h⟩ | ⟨h1,_,h3⟩
 ·exact absurd rfl h
 ·exact absurd rfl h
 ·exact⟨h1,f h3⟩
def rg(x:Int):Prop:=0<=x/\x<=65535
theorem aGq(N:Nat)(a:Int):xI N a=some (a / 4294967296):=by unfold xI;rw[aRj]
theorem aF7(k:Nat){a y:Int}(ha:cD a)(hy:cD y):T (jG (k+3) a y) cD:=by
 by_cases h:y=0
 ·subst h;unfold jG;exact T.cond (λ_=>T.cond (λ_=>T.ret ⟨by decide,by decide⟩) (λ_=>T.cond (λ_=>T.ret ⟨by decide,by decide⟩) (λ_=>T.ret z64))) (λh=>by cases h)
 ·exact⟨_,yH k ha hy h,dD _⟩
theorem o64 : cD 4294967296:=⟨by decide,by decide⟩
theorem aR3(k:Nat){a:Int}(ha:cD a):T (xD (k+3) a) rg:=by
 unfold xD;refine T.cond (λ_=>T.ret ⟨by decide,by decide⟩) (λhc=>?_)
 have h0:=of_decide_eq_false hc;have ha':=ha;obtain⟨a1,a2⟩:=ha';have s:0 < S64 (a+4294967296)/\a*4294967296 < 4294967297*S64 (a+4294967296):=by
  by_cases h:a+4294967296<=9223372036854775807
  ·rw[qR ⟨by omega,h⟩];omega
  ·have:S64 (a+4294967296)=9223372036854775807:=by unfold S64;rw[if_neg (by omega),if_pos (by omega)]
   rw[this];omega
 refine T.eq (aCK k ha o64) ?_;have si:=dD (a+4294967296)
 generalize S64 (a+4294967296)=y at *;refine T.eq (yH k ha si (by omega)) ?_;have e:aMg (ab a*4294967296) (ab y) (!(decide (a < 0)==decide (y < 0)))=a*4294967296 / y:=by
  rw[df (show ¬a < 0 by omega),df (show ¬y < 0 by omega)]
  unfold aMg ab;simp only[beq_self_eq_true,Bool.not_true,cond_false]
  rw[if_neg (by omega),if_neg (by omega)]
 rw[e]
 have q1:0<=a*4294967296 / y:=ck (by omega) (by omega)
 have q2:a*4294967296 / y < 4294967297:=jg s.1 s.2;generalize a*4294967296 / y=q at *;refine T.eq (rQ _ (a:=65535) ⟨by decide,by decide⟩) ?_;rw[qR (z:=q) ⟨by omega,by omega⟩,show S64 (65535*4294967296)=65535*4294967296 by decide]
 refine T.eq (aGS k (a:=q) (b:=65535*4294967296) ⟨by omega,by omega⟩ ⟨by decide,by decide⟩) (T.eq (aGq _ _) (T.ret ?_))
 rw[show q*(65535*4294967296) / 4294967296=q*65535 by omega,qR ⟨by omega,by omega⟩]
 unfold rg;omega
theorem aO4(k:Nat)(a:Int):T (wY (k+3) a) rg:=by
 unfold wY;refine T.eq (rQ _ (a:=32767) ⟨by decide,by decide⟩) ?_;refine T.bind (P:=λc => -4294967296<=c/\c<=4294967296) ?_ λc hc=>?_
 ·unfold aAO;refine T.ret ?_;unfold dO jB;constructor <;> (repeat' split) <;> omega
 rw[show S64 (32767*4294967296)=32767*4294967296 by decide]
 refine T.eq (aCK k o64 (b:=c) ⟨by omega,by omega⟩) ?_;rw[qR (z:=4294967296+c) ⟨by omega,by omega⟩]
 refine T.eq (aGS k (a:=32767*4294967296) (b:=4294967296+c) ⟨by decide,by decide⟩ ⟨by omega,by omega⟩) (T.eq (aGq _ _) (T.ret ?_))
 rw[show 32767*4294967296*(4294967296+c) / 4294967296=32767*(4294967296+c) by omega,qR ⟨by omega,by omega⟩]
 unfold rg;omega
theorem farT'(N:Nat)(a:Int):T (aCw N a) rg:=by
 unfold aCw;refine T.eq (aGq N a) (T.ret ?_)
 unfold rg dO jB;constructor <;> (repeat' split) <;> omega
theorem rg3{a b c:Int}(ha:rg a)(hb:rg b)(hc:rg c):∀x∈(#v[a,b,c]:Vector Int 3).toList,rg x:=by
 intro x hx;simp at hx;rcases hx with rfl | rfl | rfl
 ·exact ha
 ·exact hb
 ·exact hc
theorem aPC(k:Nat){v:aA}(hv:vin v):T (tF (k+3) v) (λr=>∀x∈r.toList,rg x):=by
 unfold tF;exact T.bind (aR3 k hv.1) λa ha=>T.bind (aR3 k hv.2.1) λb hb=>T.bind (aR3 k hv.2.2) λc hc=>T.ret (rg3 ha hb hc)
theorem aOH(k:Nat)(v:aA):T (tB (k+3) v) (λr=>∀x∈r.toList,rg x):=by
 unfold tB;exact T.bind (aO4 k v.gX) λa ha=>T.bind (aO4 k v.gY) λb hb=>T.bind (aO4 k v.gZ) λc hc=>T.ret (rg3 ha hb hc)
theorem unitT(k:Nat){v:aA}(hv:vin v):T (aDM (k+65) v) vin:=by
 unfold aDM;refine T.cond (λ_=>T.ret hv) (λ_=>T.bind (aQQ k hv) λr hr=>T.bind (P:=vin) ?_ λu hu=>T.ret hu)
 unfold aBj;exact T.bind (aF7 (k+62) hv.1 hr) λa ha=>T.bind (aF7 (k+62) hv.2.1 hr) λb hb=>T.bind (aF7 (k+62) hv.2.2 hr) λc hc=>T.ret ⟨ha,hb,hc⟩
theorem aT3(a:Int):rg (I64 (kB .u32 a 65535)):=by
 have e:kB .u32 a 65535=IntKind.u32.wrap ((bf 32 a &&& bf 32 65535).toNat:Int):=rfl;have h:(bf 32 a &&& bf 32 65535).toNat<=65535:=by
  rw[BitVec.toNat_and,show(bf 32 65535).toNat=65535 by decide]
  exact Nat.and_le_right
 generalize (bf 32 a &&& bf 32 65535).toNat=m at *;have w:IntKind.u32.wrap (m:Int)=(m:Int):=by
  show((bf 32 (m:Int)).toNat:Int)=(m:Int)
  rw[BitVec.toNat_ofInt]
  omega
 rw[e,w,bD (by omega) (by omega)]
 unfold rg;omega
def smL(s:aE)(l:List aH):Prop:=(1<=l.length/\l.length<=16)/\∀x∈l,aBl s x/\vin x.gA9
abbrev Px:=Vector Int 3×Int×Int×Vector Int 3×Int×Int
def pxI(p:Px):aI:=aI.mk 1 1 [p.1] [p.2.1] [p.2.2.1] [p.2.2.2.1] [p.2.2.2.2.1] [p.2.2.2.2.2]
def aRQ(n:Nat)(p:Px):Prop:=(∀x∈p.1.toList,rg x)/\rg p.2.1/\rg p.2.2.1/\(∀x∈p.2.2.2.1.toList,rg x)/\rg p.2.2.2.2.1/\rg p.2.2.2.2.2/\p.2.2.2.2.1<=(n:Int)/\(p.2.2.2.2.1=0->p.2.1=0/\p.2.2.1=0)
theorem aTW(N:Nat)(hN:20 < N){s:aE}(hlab:s.gS.length=s.gJ.length){l:List aH}(h:smL s l):aBw N l s=some 0:=by
 obtain⟨⟨h1,h16⟩,hl⟩:=h;have main:T (aBw N l s) (λr=>r=0):=by
  unfold aBw;simp only[aO]
  refine T.cond (λhc=>?_) (λ_=>?_)
  ·exfalso;rw[show((l.length:Int)==0)=false from beq_eq_false_iff_ne.2 (by omega),df (show ¬(l.length:Int) > 16 by omega)] at hc;cases hc
  ·refine T.bind (P:=λo=>o=Sum.inl ()) ?_ λo ho=>by subst ho;exact T.ret rfl
   refine T.loopG0 (n:=l.length) (λ_ (_:Unit)=>True) _ (F:=λk (_:Unit) i=>sP N l s k i) (λk _ i hi _ hk=>?_) (λk _ _=>?_) (by omega) (s:=()) trivial
   ·rw[sP,aO,dt (by omega),cond_true,eP,af hi,ae]
    obtain⟨⟨ho,_⟩,_⟩:=hl _ (bh hi)
    generalize l[i]=x at *;simp only[aO]
    have e:dO (s.gJ.length:Int) (s.gS.length:Int)=(s.gJ.length:Int):=by unfold dO;rw[hlab];split <;> rfl
    rw[e]
    have c1:cond (decide (x.gA3 < -1)) true (decide (x.gA3>=(s.gJ.length:Int)))=false:=by
     rcases ho with ⟨h,_⟩ | ⟨⟨h,h'⟩,_⟩
     ·rw[df (show ¬x.gA3 < -1 by omega),df (show ¬x.gA3>=(s.gJ.length:Int) by omega)];rfl
     ·rw[df (show ¬x.gA3 < -1 by omega),df (show ¬x.gA3>=(s.gJ.length:Int) by omega)];rfl
    have c2:cond (x.gT != 0) (x.gT != 1) false=false:=by
     have:x.gT=0\/x.gT=1:=by
      rcases ho with ⟨_,h⟩ | ⟨_,h⟩
      ·exact Or.inl h
      ·exact h
     rcases this with h | h <;> rw[h] <;> rfl
    rw[c1,cond_false,c2,ae,cond_false,cW (by omega)]
    exact hk () trivial
   ·rw[sP,aO,df (by omega),cond_false];exact T.ret rfl
 obtain⟨r,e,rfl⟩:=main;exact e
theorem aWW(N:Nat)(hN:1000 < N){s:aE}(hid:s.gJ.length<=20)(hlab:s.gS.length=s.gJ.length){l:List aH}(h:smL s l):T (oA N l s) (λr=>∃p,aRQ s.gJ.length p/\r=(pxI p,0)):=by
 have may:=aTW N (by omega) hlab h;obtain⟨⟨h1,h16⟩,hl⟩:=h;obtain⟨k,rfl⟩:=nk (show 65<=N by omega)
 unfold oA;refine T.eq may ?_;simp only[bne_self_eq_false,cond_false]
 refine T.bind (P:=λp:aA×aA×Int×Int×Int×Int=>vin p.1/\vin p.2.1/\cD p.2.2.1/\(0<=p.2.2.2.1/\p.2.2.2.1<=(l.length:Int))/\(0<=p.2.2.2.2.1/\p.2.2.2.2.1<=(l.length:Int))/\(p.2.2.2.2.1=0->p.2.2.2.1=0/\p.2.2.2.2.2 < 0)/\(0 < p.2.2.2.2.1->0<=p.2.2.2.2.2/\p.2.2.2.2.2 < (s.gJ.length:Int))) ?_ λp hp=>?_
 ·refine T.loopG0 (n:=l.length) (λi (p:aA×aA×Int×Int×Int×Int)=>vin p.1/\vin p.2.1/\cD p.2.2.1/\(0<=p.2.2.2.1/\p.2.2.2.1<=(i:Int))/\(0<=p.2.2.2.2.1/\p.2.2.2.2.1<=(i:Int))/\(p.2.2.2.2.1=0->p.2.2.2.1=0/\p.2.2.2.2.2 < 0)/\(0 < p.2.2.2.2.1->0<=p.2.2.2.2.2/\p.2.2.2.2.2 < (s.gJ.length:Int))) _ (F:=λm (p:aA×aA×Int×Int×Int×Int) i=>pE (k+65) l m p.1 p.2.1 p.2.2.1 p.2.2.2.1 p.2.2.2.2.1 p.2.2.2.2.2 i) (λm p i hi hp hk=>?_) (λm p hp=>?_) (by omega) (s:=(aA.mk 0 0 0,aA.mk 0 0 0,0,0,0,-1)) ⟨aE9,aE9,z64,⟨by decide,by decide⟩,⟨by decide,by decide⟩,λ_=>⟨rfl,by decide⟩,λh=>absurd h (by decide)⟩
  ·rw[pE,aO,dt (by omega),cond_true,eP,af hi,ae]
   obtain⟨⟨ho,hd,hn⟩,hcol⟩:=hl _ (bh hi)
   generalize l[i]=x at *;obtain⟨p1,p2,p3,⟨p4,p4'⟩,⟨p5,p5'⟩,p6,p7⟩:=hp;obtain⟨c,n,d,al,met,fi⟩:=p;dsimp only at *;rw[show k+65=(k+62)+3 by omega,aJ5 (k+62) p1 hcol,ae,aJ5 (k+62) p2 hn,ae,aCK (k+62) p3 hd,ae]
   have al':0<=x.gT/\x.gT<=1:=by
    rcases ho with ⟨_,h⟩ | ⟨_,h | h⟩ <;> omega
   rw[bD (x:=al+x.gT) (by omega) (by omega),bD (x:=met+1) (by omega) (by omega)]
   by_cases g:x.gA3>=0
   ·have ob:0<=x.gA3/\x.gA3 < (s.gJ.length:Int):=by
     rcases ho with ⟨h,_⟩ | ⟨h,_⟩
     ·omega
     ·exact h
    rw[dt g,cond_true]
    by_cases f:fi < 0
    ·rw[dt f,cond_true,ae,cW (by omega)]
     exact hk (_,_,_,_,_,_) ⟨uT _ _,uT _ _,dD _,by dsimp only;omega,by dsimp only;omega,λh=>by dsimp only at h;omega,λ_=>ob⟩
    ·rw[df f,cond_false,ae,cW (by omega)]
     refine hk (_,_,_,_,_,_) ⟨uT _ _,uT _ _,dD _,by dsimp only;omega,by dsimp only;omega,λh=>by dsimp only at h;omega,λ_=>?_⟩
     refine p7 ?_;by_cases z:met=0
     ·have:=p6 z;omega
     ·omega
   ·have a0:x.gT=0:=by
     rcases ho with ⟨_,h⟩ | ⟨h,_⟩
     ·exact h
     ·omega
    rw[df g,cond_false,ae,cW (by omega),a0]
    exact hk (_,_,_,_,_,_) ⟨uT _ _,uT _ _,dD _,by dsimp only;omega,by dsimp only;omega,λh=>by have:=p6 h;dsimp only;omega,p7⟩
  ·rw[pE,aO,df (by omega),cond_false];exact T.ret hp
 obtain⟨p1,p2,p3,⟨p4,p4'⟩,⟨p5,p5'⟩,p6,p7⟩:=hp;obtain⟨c,n,d,al,met,fi⟩:=p;dsimp only at *;have ln:cD (l.length:Int):=⟨by omega,by omega⟩
 refine T.eq (rQ _ ln) (T.bind (aF7 (k+62) o64 (dD _)) λr17 h17=>T.eq (rD (k+62) p1 h17) (T.bind (aPC (k+62) (pK _ _)) λr19 h19=>?_))
 rw[aO,bD (x:=65535*al) (by omega) (by omega)]
 refine T.eq (aEa .i64 (by omega)) (T.bind (unitT k p2) λr22 h22=>T.bind (aOH (k+62) r22) λr23 h23=>?_)
 have q:0<=d7 (65535*al) (l.length:Int)/\d7 (65535*al) (l.length:Int)<=65535/\(al=0->d7 (65535*al) (l.length:Int)=0):=by
  rw[Int.tdiv_eq_ediv_of_nonneg (by omega)]
  refine⟨ck (by omega) (by omega),?_,λh=>by rw[h];simp⟩
  have:65535*al / (l.length:Int) < 65536:=jg (by omega) (by omega)
  omega
 generalize d7 (65535*al) (l.length:Int)=X at *;have wX:IntKind.i64.wrap X=X:=bD (by omega) (by omega)
 rw[wX]
 refine T.bind (P:=λt:List Int×List Int×List Int=>∃u v w,t=([u],[v],[w])/\rg u/\rg v/\rg w/\v<=(s.gJ.length:Int)/\(v=0->X=0/\u=0)) ?_ λt ht=>?_
 ·rw[aO]
  refine T.cond (λhc=>?_) (λhc=>?_)
  ·have m0:=of_decide_eq_true hc;obtain⟨f0,f1⟩:=p7 m0;refine T.eq (rQ _ (a:=met) ⟨by omega,by omega⟩) (T.bind (aF7 (k+62) p3 (dD _)) λr27 h27=>T.bind (farT' _ r27) λr28 h28=>?_)
   refine T.bind (T.inRO (by decide) (by decide)) λ_ _=>T.eq rfl ?_;simp only[aO]
   rw[bD (x:=fi+1) (by omega) (by omega)]
   refine T.bind (T.idx (by omega) (by omega)) λe32 _=>?_;refine T.bind (T.inRO (by decide) (by decide)) λ_ _=>T.eq rfl (T.bind (T.inRO (by decide) (by decide)) λ_ _=>T.eq rfl (T.ret ⟨_,_,_,rfl,h28,?_,aT3 _,?_,λh=>?_⟩))
   ·unfold rg dO;split <;> omega
   ·unfold dO;split <;> omega
   ·exfalso;unfold dO at h;split at h <;> omega
  ·have m0:met=0:=by have:=of_decide_eq_false hc;omega
   exact T.ret ⟨0,0,0,rfl,⟨by decide,by decide⟩,⟨by decide,by decide⟩,⟨by decide,by decide⟩,by omega,λ_=>⟨q.2.2 (p6 m0).1,rfl⟩⟩
 ·obtain⟨u,v,w,rfl,hu,hv,hw,hvi,hv0⟩:=ht;refine T.bind (T.lenO rfl) λ_ _=>T.bind (T.lenO rfl) λ_ _=>T.bind (T.lenO rfl) λ_ _=>T.ret ⟨(r19,X,u,r23,v,w),⟨h19,⟨q.1,q.2.1⟩,hu,h23,hv,hw,hvi,hv0⟩,rfl⟩
abbrev C3:=Int×Int×Int
abbrev Pa:=(aH×Int)×C3
def tM(c d:C3):C3:=(c.1+d.1,c.2.1+d.2.1,c.2.2+d.2.2)
def zO(f:Nat->C3):Nat->C3
 | 0=>(0,0,0)
 | n+1=>tM (zO f n) (f n)
def Cnt(st:aF)(t:Int)(st':aF)(t':Int)(c:C3):Prop:=st'.gN=st.gN/\cQ t t' c.1/\cQ st.gO st'.gO c.2.1/\cQ st.gF st'.gF c.2.2
theorem Cnt.zero(st:aF)(t:Int):Cnt st t st t (0,0,0):=⟨rfl,kM _,kM _,kM _⟩
theorem Cnt.add{st st' st'':aF}{t t' t'':Int}{c d:C3}(h:Cnt st t st' t' c)(h':Cnt st' t' st'' t'' d):Cnt st t st'' t'' (tM c d):=⟨h'.1.trans h.1,oM h.2.1 h'.2.1,oM h.2.2.1 h'.2.2.1,oM h.2.2.2 h'.2.2.2⟩
def aDr(A:Nat->Nat->Nat->Pa)(x y n:Nat):List aH:=(be n).map λk=>(A x y k).1.1
theorem aMp(A:Nat->Nat->Nat->Pa)(x y n:Nat):aDr A x y (n+1)=aDr A x y n++[(A x y n).1.1]:=by unfold aDr;rw[j5,d9];rfl
theorem aJZ(A:Nat->Nat->Nat->Pa)(x y n:Nat):(aDr A x y n).length=n:=by unfold aDr;simp
def aDe{α:Type}(f:Px->α)(Q:Nat->Nat->Px)(W n:Nat):List α:=(be n).map λj=>f (Q (j % W) (j / W))
theorem wB{α:Type}(f:Px->α)(Q:Nat->Nat->Px){W x:Nat}(y:Nat)(h:x < W):aDe f Q W (y*W+x+1)=aDe f Q W (y*W+x)++[f (Q x y)]:=by
 unfold aDe;rw[j5,d9]
 have e1:(y*W+x) % W=x:=by rw[eu,fj,gg h]
 have e2:(y*W+x) / W=y:=by rw[eu,gr _ _ (by omega),gj h];omega
 simp only[List.map_cons,List.map_nil,e1,e2]
theorem wF{α:Type}(f:Px->α)(Q:Nat->Nat->Px)(W n:Nat):(aDe f Q W n).length=n:=by unfold aDe;simp
abbrev Pls:=List (Vector Int 3)×List Int×List Int×List (Vector Int 3)×List Int×List Int
def pls(Q:Nat->Nat->Px)(W n:Nat):Pls:=(aDe (·.1) Q W n,aDe (·.2.1) Q W n,aDe (·.2.2.1) Q W n,aDe (·.2.2.2.1) Q W n,aDe (·.2.2.2.2.1) Q W n,aDe (·.2.2.2.2.2) Q W n)
def yO(A:Nat->Nat->Nat->Pa)(W S n:Nat):C3:=zO (λj=>zO (λk=>(A (j % W) (j / W) k).2) S) n
theorem aSR(A:Nat->Nat->Nat->Pa){W x:Nat}(y S:Nat)(h:x < W):yO A W S (y*W+x+1)=tM (yO A W S (y*W+x)) (zO (λk=>(A x y k).2) S):=by
 unfold yO;have e1:(y*W+x) % W=x:=by rw[eu,fj,gg h]
 have e2:(y*W+x) / W=y:=by rw[eu,gr _ _ (by omega),gj h];omega
 conv=>lhs;rw[zO,e1,e2]
structure Dim(v:aG)(W H S:Nat):Prop where
 w:v.gW=(W:Int)
 h:v.gH=(H:Int)
 s:v.gA8=(S:Int)
 w1:1<=W/\W<=64
 h1:1<=H/\H<=64
 s1:1<=S/\S<=16
theorem dimV{v:aG}(h:aOJ v):∃W H S,Dim v W H S:=by
 obtain⟨⟨⟨a1,a2⟩,⟨b1,b2⟩,_⟩,⟨s1,s2⟩,_⟩:=h;exact⟨v.gW.toNat,v.gH.toNat,v.gA8.toNat,by omega,by omega,by omega,by omega,by omega,by omega⟩
def PxF(N:Nat)(s:aE)(A:Nat->Nat->Nat->Pa)(W H S:Nat)(Q:Nat->Nat->Px):Prop:=∀x y,x < W->y < H->oA N (aDr A x y S) s=some (pxI (Q x y),0)/\aRQ s.gJ.length (Q x y)
theorem pxF(N:Nat)(hN:1000 < N){s:aE}(hid:s.gJ.length<=20)(hlab:s.gS.length=s.gJ.length){A:Nat->Nat->Nat->Pa}{W H S:Nat}(hS:1<=S/\S<=16)(h:∀x y k,x < W->y < H->k < S->aBl s (A x y k).1.1/\vin (A x y k).1.1.gA9):∃Q,PxF N s A W H S Q:=by
 have key:∀x y,∃p,x < W->y < H->oA N (aDr A x y S) s=some (pxI p,0)/\aRQ s.gJ.length p:=by
  intro x y;by_cases c:x < W/\y < H
  ·obtain⟨r,e,p,hp,rfl⟩:=aWW N hN hid hlab (l:=aDr A x y S) ⟨by rw[aJZ];exact hS,λm hm=>by
    unfold aDr at hm;rw[List.mem_map] at hm;obtain⟨k,hk,rfl⟩:=hm;exact h x y k c.1 c.2 (List.mem_range.1 hk)⟩
   exact⟨p,λ_ _=>⟨e,hp⟩⟩
  ·exact⟨(#v[0,0,0],0,0,#v[0,0,0],0,0),λh1 h2=>absurd ⟨h1,h2⟩ c⟩
 exact⟨λx y=>(key x y).choose,λx y=>(key x y).choose_spec⟩
set_option maxHeartbeats 4000000
def aMH(N:Nat)(b:List (List aC))(s:aE)(v:aG)(sky:aA)(gl:List aJ)(x y z:Int)(a:Pa):Prop:=∀st t,∃st' t',eX N b x y z s v sky st (swp gl t)=some (st',swp gl t',a.1.1,a.1.2)/\Cnt st t st' t' a.2
section
variable {N:Nat} (hN:4100 < N) {b:List (List aC)} {s:aE} {v:aG} {sky:aA}
include hN
theorem aWS(hr:Rdy b s v sky){gl:List aJ}(hsw:aMG s.gL.length gl)(hcon:v.gA5=true)(hfit:(s.gI.length:Int)<=(dW v.gM).2)(hobj:aE4 s){W H S:Nat}(hd:Dim v W H S):∃A:Nat->Nat->Nat->Pa,∀x y k,x < W->y < H->k < S->aMH N b s v sky gl x y k (A x y k)/\(aBl s (A x y k).1.1/\vin (A x y k).1.1.gA9)/\exC (A x y k).2.1 ((gl.length:Int)*(1+(dW v.gM).2)*(v.gK+1))/\exC (A x y k).2.2.1 (4*(v.gK+1))/\exC (A x y k).2.2.2 (v.gK+1):=by
 have key:∀x y k:Nat,∃a:Pa,x < W->y < H->k < S->aMH N b s v sky gl x y k a/\(aBl s a.1.1/\vin a.1.1.gA9)/\exC a.2.1 ((gl.length:Int)*(1+(dW v.gM).2)*(v.gK+1))/\exC a.2.2.1 (4*(v.gK+1))/\exC a.2.2.2 (v.gK+1):=by
  intro x y k;obtain⟨a,⟨_,p1,p2⟩,h⟩:=pathS (ι:=aF×Int) hN hr hsw hcon hfit hobj (D:=False) ⟨λh=>h.elim,λh=>h.elim,λh=>h.elim⟩ (x:Int) (y:Int) (k:Int) (λi=>i.1) (λi=>i.2)
  refine⟨a,λhx hy hk=>⟨λst t=>?_,?_⟩⟩
  ·obtain⟨r,e,st',t',rfl,c⟩:=h (st,t)
   exact⟨st',t',e,c⟩
  ·have z:=p1 ⟨⟨by omega,by rw[hd.w];omega⟩,⟨by omega,by rw[hd.h];omega⟩,by omega,by rw[hd.s];omega⟩
   rcases p2 with ⟨_,q⟩ | q
   ·exact q
   ·rw[z] at q;cases q
 exact⟨λx y k=>(key x y k).choose,λx y k=>(key x y k).choose_spec⟩
theorem sampS{gl:List aJ}{A1:List aJ}{B1:List aN}{D1:List aQ}{e1:Int}{W H S:Nat}(hd:Dim v W H S){A:Nat->Nat->Nat->Pa}{x y:Nat}(hA:∀k,k < S->aMH N b s v sky gl x y k (A x y k))(st:aF)(t:Int) :
  T (nF N v (A1,B1,D1,b,sky,gl,e1) (x:Int) (y:Int) s N [] st (swp gl t) 0) (λr=>r.1=aDr A x y S/\∃t',r.2.2=swp gl t'/\Cnt st t r.2.1 t' (zO (λk=>(A x y k).2) S)):=by
 have s1:=hd.s1;refine T.loopG0 (n:=S) (λk (q:List aH×aF×Int)=>q.1=aDr A x y k/\Cnt st t q.2.1 q.2.2 (zO (λk=>(A x y k).2) k)) _ (F:=λm (q:List aH×aF×Int) i=>nF N v (A1,B1,D1,b,sky,gl,e1) (x:Int) (y:Int) s m q.1 q.2.1 (swp gl q.2.2) i) (λm q i hi hq hk=>?_) (λm q hq=>?_) (by omega) (s:=([],st,t)) ⟨rfl,Cnt.zero _ _⟩
 ·rw[nF,aO,dt (show(i:Int) < v.gA8 by rw[hd.s];omega),cond_true]
  obtain⟨st',t',e,c⟩:=hA i hi q.2.1 q.2.2;refine T.eq e (T.eq (bY (by rw[hq.1];simp[aJZ];omega)) ?_)
  rw[cW (by omega)]
  exact hk (_,st',t') ⟨by rw[hq.1,aMp],hq.2.add c⟩
 ·rw[nF,aO,df (show ¬(S:Int) < v.gA8 by rw[hd.s];omega),cond_false]
  exact T.ret ⟨hq.1,_,rfl,hq.2⟩
theorem rowS{gl:List aJ}{A1:List aJ}{B1:List aN}{D1:List aQ}{e1:Int}{W H S:Nat}(hd:Dim v W H S){A:Nat->Nat->Nat->Pa}{Q:Nat->Nat->Px}(hQ:PxF N s A W H S Q){y:Nat}(hy:y < H)(hA:∀x k,x < W->k < S->aMH N b s v sky gl x y k (A x y k))(st0:aF)(t0:Int){p:Pls}(hp:p=pls Q W (y*W)){st:aF}{t:Int}(hc:Cnt st0 t0 st t (yO A W S (y*W))) :
  T (nE N v (A1,B1,D1,b,sky,gl,e1) (y:Int) s N p.1 p.2.1 p.2.2.1 p.2.2.2.1 p.2.2.2.2.1 p.2.2.2.2.2 s st (swp gl t) 0) (λr=>(r.1,r.2.1,r.2.2.1,r.2.2.2.1,r.2.2.2.2.1,r.2.2.2.2.2.1)=pls Q W ((y+1)*W)/\r.2.2.2.2.2.2.1=s/\∃t',r.2.2.2.2.2.2.2.2=swp gl t'/\Cnt st0 t0 r.2.2.2.2.2.2.2.1 t' (yO A W S ((y+1)*W))):=by
 have hw1:=hd.w1;have s1:=hd.s1;have h1:=hd.h1;have yw:y*W<=4096:=dy (ba (show y<=64 by omega) hw1.2) (by decide)
 have e2:(y+1)*W=y*W+W:=kf _ _;rw[e2]
 refine T.loopG0 (n:=W) (λi (q:Pls×aF×Int)=>q.1=pls Q W (y*W+i)/\Cnt st0 t0 q.2.1 q.2.2 (yO A W S (y*W+i))) _ (F:=λm (q:Pls×aF×Int) i=>nE N v (A1,B1,D1,b,sky,gl,e1) (y:Int) s m q.1.1 q.1.2.1 q.1.2.2.1 q.1.2.2.2.1 q.1.2.2.2.2.1 q.1.2.2.2.2.2 s q.2.1 (swp gl q.2.2) i) (λm q i hi hq hk=>?_) (λm q hq=>?_) (by omega) (s:=(p,st,t)) ⟨hp,hc⟩
 ·rw[nE,dt (show(i:Int) < v.gW by rw[hd.w];omega),cond_true]
  refine T.bind (sampS hN hd (λk hk'=>hA i k hi hk') q.2.1 q.2.2) λr hr=>?_;obtain⟨hr1,t',hr2,hr3⟩:=hr;obtain⟨l,st',fd⟩:=r;dsimp only at hr1 hr2 hr3;subst hr1 hr2;obtain⟨e,_⟩:=hQ i y hi hy;refine T.eq e ?_;obtain⟨⟨b0,a0,d0,n0,s0,l0⟩,st1,t1⟩:=q;obtain⟨hq1,hq2⟩:=hq;unfold pls at hq1;simp only[Prod.mk.injEq] at hq1;obtain⟨rfl,rfl,rfl,rfl,rfl,rfl⟩:=hq1;refine T.eq (bY (by simp[wF,pxI];omega)) (T.eq (bY (by simp[wF,pxI];omega)) (T.eq (bY (by simp[wF,pxI];omega)) (T.eq (bY (by simp[wF,pxI];omega)) (T.eq (bY (by simp[wF,pxI];omega)) (T.eq (bY (by simp[wF,pxI];omega)) ?_)))))
  rw[cW (by omega)]
  refine hk ((_,_,_,_,_,_),st',t') ⟨?_,?_⟩
  ·unfold pls;rw[show y*W+(i+1)=y*W+i+1 from rfl,wB _ Q y hi,wB _ Q y hi,wB _ Q y hi,wB _ Q y hi,wB _ Q y hi,wB _ Q y hi]
   rfl
  ·rw[show y*W+(i+1)=y*W+i+1 from rfl,aSR A y S hi]
   exact hq2.add hr3
 ·rw[nE,df (show ¬(W:Int) < v.gW by rw[hd.w];omega),cond_false]
  exact T.ret ⟨hq.1,rfl,_,rfl,hq.2⟩
theorem rowsS{gl:List aJ}{A1:List aJ}{B1:List aN}{D1:List aQ}{e1:Int}{W H S:Nat}(hd:Dim v W H S){A:Nat->Nat->Nat->Pa}{Q:Nat->Nat->Px}(hQ:PxF N s A W H S Q)(hA:∀x y k,x < W->y < H->k < S->aMH N b s v sky gl x y k (A x y k))(st0:aF)(t0:Int) :
  T (nC N v (A1,B1,D1,b,sky,gl,e1) s N [] [] [] [] [] [] s.gL s.gA4 s.gQ s.gI s.gJ s.gS s.gR s.gB2 s.gTo st0 (swp gl t0) 0) (λr=>(r.1,r.2.1,r.2.2.1,r.2.2.2.1,r.2.2.2.2.1,r.2.2.2.2.2.1)=pls Q W (H*W)/\r.2.2.2.2.2.2.1=s/\∃t',r.2.2.2.2.2.2.2.2=swp gl t'/\Cnt st0 t0 r.2.2.2.2.2.2.2.1 t' (yO A W S (H*W))):=by
 have h1:=hd.h1;refine T.loopG0 (n:=H) (λi (q:Pls×aE×aF×Int)=>q.1=pls Q W (i*W)/\q.2.1=s/\Cnt st0 t0 q.2.2.1 q.2.2.2 (yO A W S (i*W))) _ (F:=λm (q:Pls×aE×aF×Int) i=>nC N v (A1,B1,D1,b,sky,gl,e1) s m q.1.1 q.1.2.1 q.1.2.2.1 q.1.2.2.2.1 q.1.2.2.2.2.1 q.1.2.2.2.2.2 q.2.1.gL q.2.1.gA4 q.2.1.gQ q.2.1.gI q.2.1.gJ q.2.1.gS q.2.1.gR q.2.1.gB2 q.2.1.gTo q.2.2.1 (swp gl q.2.2.2) i) (λm q i hi hq hk=>?_) (λm q hq=>?_) (by omega) (s:=(([],[],[],[],[],[]),s,st0,t0)) ⟨by rw[i6];rfl,rfl,by rw[i6];exact Cnt.zero _ _⟩
 ·rw[nC,dt (show(i:Int) < v.gH by rw[hd.h];omega),cond_true]
  obtain⟨p,sc,st,t⟩:=q;obtain⟨hp,hsc,hc⟩:=hq;dsimp only at hp hsc hc;subst hsc;refine T.bind (rowS hN hd hQ hi (λx k hx hk'=>hA x i k hx hi hk') st0 t0 hp hc) λr hr=>?_;obtain⟨hr1,hr2,t',hr3,hr4⟩:=hr;obtain⟨b1,a1,d1,n1,c1,l1,sc,st1,fd⟩:=r;dsimp only at hr1 hr2 hr3 hr4;subst hr2 hr3;rw[cW (by omega)]
  exact hk ((b1,a1,d1,n1,c1,l1),sc,st1,t') ⟨hr1,rfl,hr4⟩
 ·rw[nC,df (show ¬(H:Int) < v.gH by rw[hd.h];omega),cond_false]
  exact T.ret ⟨hq.1,hq.2.1,_,rfl,hq.2.2⟩
end
def aL4(N:Nat)(b:List (List aC))(s:aE)(v:aG)(sky:aA)(bv:bC)(gl:List aJ)(x y z:Int)(a:Pa):Prop:=∀st t,∃st' t',fT N b x y z s v sky st (wlk bv gl t)=some (st',wlk bv gl t',a.1.1,a.1.2)/\Cnt st t st' t' a.2
section
variable {N:Nat} (hN:1000000000000 < N) {b:List (List aC)} {s:aE} {v:aG} {sky:aA}
include hN
theorem aW9(hr:Rdy b s v sky){bv:bC}{gl:List aJ}(hbv:aCs gl.length bv)(hgl:gl=s.gL)(htr:xW gl bv)(hcon:v.gA5=false)(hfit:(s.gI.length:Int)<=(dW v.gM).2)(hobj:aE4 s){W H S:Nat}(hd:Dim v W H S):∃A:Nat->Nat->Nat->Pa,∀x y k,x < W->y < H->k < S->aL4 N b s v sky bv gl x y k (A x y k)/\(aBl s (A x y k).1.1/\vin (A x y k).1.1.gA9)/\amC (A x y k).2.1 ((3*(gl.length:Int))*(1+(dW v.gM).2)*(v.gK+1))/\amC (A x y k).2.2.1 (4*(v.gK+1))/\aQZ (A x y k).2.2.2 (v.gK+1):=by
 have key:∀x y k:Nat,∃a:Pa,x < W->y < H->k < S->aL4 N b s v sky bv gl x y k a/\(aBl s a.1.1/\vin a.1.1.gA9)/\amC a.2.1 ((3*(gl.length:Int))*(1+(dW v.gM).2)*(v.gK+1))/\amC a.2.2.1 (4*(v.gK+1))/\aQZ a.2.2.2 (v.gK+1):=by
  intro x y k;obtain⟨a,⟨_,p1,p2⟩,h⟩:=pathW (ι:=aF×Int) hN hr hbv hgl htr hcon hfit hobj (D:=False) ⟨λh=>h.elim,λh=>h.elim,λh=>h.elim⟩ (x:Int) (y:Int) (k:Int) (λi=>i.1) (λi=>i.2)
  refine⟨a,λhx hy hk=>⟨λst t=>?_,?_⟩⟩
  ·obtain⟨r,e,st',t',rfl,c⟩:=h (st,t)
   exact⟨st',t',e,c⟩
  ·have z:=p1 ⟨⟨by omega,by rw[hd.w];omega⟩,⟨by omega,by rw[hd.h];omega⟩,by omega,by rw[hd.s];omega⟩
   rcases p2 with ⟨_,q⟩ | q
   ·exact q
   ·rw[z] at q;cases q
 exact⟨λx y k=>(key x y k).choose,λx y k=>(key x y k).choose_spec⟩
theorem sampW{bv:bC}{gl:List aJ}{A1:List aJ}{B1:List aN}{D1:List aQ}{wv:aL}{e1:Int}{W H S:Nat}(hd:Dim v W H S){A:Nat->Nat->Nat->Pa}{x y:Nat}(hA:∀k,k < S->aL4 N b s v sky bv gl x y k (A x y k))(st:aF)(t:Int) :
  T (nJ N v (A1,B1,D1,b,sky,wv,e1) (x:Int) (y:Int) s N [] st (wlk bv gl t) 0) (λr=>r.1=aDr A x y S/\∃t',r.2.2=wlk bv gl t'/\Cnt st t r.2.1 t' (zO (λk=>(A x y k).2) S)):=by
 have s1:=hd.s1;refine T.loopG0 (n:=S) (λk (q:List aH×aF×Int)=>q.1=aDr A x y k/\Cnt st t q.2.1 q.2.2 (zO (λk=>(A x y k).2) k)) _ (F:=λm (q:List aH×aF×Int) i=>nJ N v (A1,B1,D1,b,sky,wv,e1) (x:Int) (y:Int) s m q.1 q.2.1 (wlk bv gl q.2.2) i) (λm q i hi hq hk=>?_) (λm q hq=>?_) (by omega) (s:=([],st,t)) ⟨rfl,Cnt.zero _ _⟩
 ·rw[nJ,aO,dt (show(i:Int) < v.gA8 by rw[hd.s];omega),cond_true]
  obtain⟨st',t',e,c⟩:=hA i hi q.2.1 q.2.2;refine T.eq e (T.eq (bY (by rw[hq.1];simp[aJZ];omega)) ?_)
  rw[cW (by omega)]
  exact hk (_,st',t') ⟨by rw[hq.1,aMp],hq.2.add c⟩
 ·rw[nJ,aO,df (show ¬(S:Int) < v.gA8 by rw[hd.s];omega),cond_false]
  exact T.ret ⟨hq.1,_,rfl,hq.2⟩
theorem rowW{bv:bC}{gl:List aJ}{A1:List aJ}{B1:List aN}{D1:List aQ}{wv:aL}{e1:Int}{W H S:Nat}(hd:Dim v W H S){A:Nat->Nat->Nat->Pa}{Q:Nat->Nat->Px}(hQ:PxF N s A W H S Q){y:Nat}(hy:y < H)(hA:∀x k,x < W->k < S->aL4 N b s v sky bv gl x y k (A x y k))(st0:aF)(t0:Int){p:Pls}(hp:p=pls Q W (y*W)){st:aF}{t:Int}(hc:Cnt st0 t0 st t (yO A W S (y*W))) :
  T (nH N v (A1,B1,D1,b,sky,wv,e1) (y:Int) s N p.1 p.2.1 p.2.2.1 p.2.2.2.1 p.2.2.2.2.1 p.2.2.2.2.2 s st (wlk bv gl t) 0) (λr=>(r.1,r.2.1,r.2.2.1,r.2.2.2.1,r.2.2.2.2.1,r.2.2.2.2.2.1)=pls Q W ((y+1)*W)/\r.2.2.2.2.2.2.1=s/\∃t',r.2.2.2.2.2.2.2.2=wlk bv gl t'/\Cnt st0 t0 r.2.2.2.2.2.2.2.1 t' (yO A W S ((y+1)*W))):=by
 have hw1:=hd.w1;have s1:=hd.s1;have h1:=hd.h1;have yw:y*W<=4096:=dy (ba (show y<=64 by omega) hw1.2) (by decide)
 have e2:(y+1)*W=y*W+W:=kf _ _;rw[e2]
 refine T.loopG0 (n:=W) (λi (q:Pls×aF×Int)=>q.1=pls Q W (y*W+i)/\Cnt st0 t0 q.2.1 q.2.2 (yO A W S (y*W+i))) _ (F:=λm (q:Pls×aF×Int) i=>nH N v (A1,B1,D1,b,sky,wv,e1) (y:Int) s m q.1.1 q.1.2.1 q.1.2.2.1 q.1.2.2.2.1 q.1.2.2.2.2.1 q.1.2.2.2.2.2 s q.2.1 (wlk bv gl q.2.2) i) (λm q i hi hq hk=>?_) (λm q hq=>?_) (by omega) (s:=(p,st,t)) ⟨hp,hc⟩
 ·rw[nH,dt (show(i:Int) < v.gW by rw[hd.w];omega),cond_true]
  refine T.bind (sampW hN hd (λk hk'=>hA i k hi hk') q.2.1 q.2.2) λr hr=>?_;obtain⟨hr1,t',hr2,hr3⟩:=hr;obtain⟨l,st',fd⟩:=r;dsimp only at hr1 hr2 hr3;subst hr1 hr2;obtain⟨e,_⟩:=hQ i y hi hy;refine T.eq e ?_;obtain⟨⟨b0,a0,d0,n0,s0,l0⟩,st1,t1⟩:=q;obtain⟨hq1,hq2⟩:=hq;unfold pls at hq1;simp only[Prod.mk.injEq] at hq1;obtain⟨rfl,rfl,rfl,rfl,rfl,rfl⟩:=hq1;refine T.eq (bY (by simp[wF,pxI];omega)) (T.eq (bY (by simp[wF,pxI];omega)) (T.eq (bY (by simp[wF,pxI];omega)) (T.eq (bY (by simp[wF,pxI];omega)) (T.eq (bY (by simp[wF,pxI];omega)) (T.eq (bY (by simp[wF,pxI];omega)) ?_)))))
  rw[cW (by omega)]
  refine hk ((_,_,_,_,_,_),st',t') ⟨?_,?_⟩
  ·unfold pls;rw[show y*W+(i+1)=y*W+i+1 from rfl,wB _ Q y hi,wB _ Q y hi,wB _ Q y hi,wB _ Q y hi,wB _ Q y hi,wB _ Q y hi]
   rfl
  ·rw[show y*W+(i+1)=y*W+i+1 from rfl,aSR A y S hi]
   exact hq2.add hr3
 ·rw[nH,df (show ¬(W:Int) < v.gW by rw[hd.w];omega),cond_false]
  exact T.ret ⟨hq.1,rfl,_,rfl,hq.2⟩
theorem rowsW{bv:bC}{gl:List aJ}{A1:List aJ}{B1:List aN}{D1:List aQ}{wv:aL}{e1:Int}{W H S:Nat}(hd:Dim v W H S){A:Nat->Nat->Nat->Pa}{Q:Nat->Nat->Px}(hQ:PxF N s A W H S Q)(hA:∀x y k,x < W->y < H->k < S->aL4 N b s v sky bv gl x y k (A x y k))(st0:aF)(t0:Int) :
  T (nI N v (A1,B1,D1,b,sky,wv,e1) s N [] [] [] [] [] [] s.gL s.gA4 s.gQ s.gI s.gJ s.gS s.gR s.gB2 s.gTo st0 (wlk bv gl t0) 0) (λr=>(r.1,r.2.1,r.2.2.1,r.2.2.2.1,r.2.2.2.2.1,r.2.2.2.2.2.1)=pls Q W (H*W)/\r.2.2.2.2.2.2.1=s/\∃t',r.2.2.2.2.2.2.2.2=wlk bv gl t'/\Cnt st0 t0 r.2.2.2.2.2.2.2.1 t' (yO A W S (H*W))):=by
 have h1:=hd.h1;refine T.loopG0 (n:=H) (λi (q:Pls×aE×aF×Int)=>q.1=pls Q W (i*W)/\q.2.1=s/\Cnt st0 t0 q.2.2.1 q.2.2.2 (yO A W S (i*W))) _ (F:=λm (q:Pls×aE×aF×Int) i=>nI N v (A1,B1,D1,b,sky,wv,e1) s m q.1.1 q.1.2.1 q.1.2.2.1 q.1.2.2.2.1 q.1.2.2.2.2.1 q.1.2.2.2.2.2 q.2.1.gL q.2.1.gA4 q.2.1.gQ q.2.1.gI q.2.1.gJ q.2.1.gS q.2.1.gR q.2.1.gB2 q.2.1.gTo q.2.2.1 (wlk bv gl q.2.2.2) i) (λm q i hi hq hk=>?_) (λm q hq=>?_) (by omega) (s:=(([],[],[],[],[],[]),s,st0,t0)) ⟨by rw[i6];rfl,rfl,by rw[i6];exact Cnt.zero _ _⟩
 ·rw[nI,dt (show(i:Int) < v.gH by rw[hd.h];omega),cond_true]
  obtain⟨p,sc,st,t⟩:=q;obtain⟨hp,hsc,hc⟩:=hq;dsimp only at hp hsc hc;subst hsc;refine T.bind (rowW hN hd hQ hi (λx k hx hk'=>hA x i k hx hi hk') st0 t0 hp hc) λr hr=>?_;obtain⟨hr1,hr2,t',hr3,hr4⟩:=hr;obtain⟨b1,a1,d1,n1,c1,l1,sc,st1,fd⟩:=r;dsimp only at hr1 hr2 hr3 hr4;subst hr2 hr3;rw[cW (by omega)]
  exact hk ((b1,a1,d1,n1,c1,l1),sc,st1,t') ⟨hr1,rfl,hr4⟩
 ·rw[nI,df (show ¬(H:Int) < v.gH by rw[hd.h];omega),cond_false]
  exact T.ret ⟨hq.1,hq.2.1,_,rfl,hq.2.2⟩
end
def aHY(Q:Nat->Nat->Px)(W H:Nat):aI:=aI.mk W H (pls Q W (H*W)).1 (pls Q W (H*W)).2.1 (pls Q W (H*W)).2.2.1 (pls Q W (H*W)).2.2.2.1 (pls Q W (H*W)).2.2.2.2.1 (pls Q W (H*W)).2.2.2.2.2
def img0 : aI:=aI.mk 0 0 [] [] [] [] [] []
theorem filmE{N:Nat}{s:aE}{v:aG}{e:Int}(h:jX N s v=some (.inl e))(he:e≠0):jQ N s v=some (img0,aF.mk 0 0 0,e):=by
 unfold jQ;rw[h,ae]
 simp only[kG,show(e != 0)=true by simpa using he,cond_true]
 rfl
theorem filmS{N:Nat}(hN:4100 < N){s:aE}{v:aG}{r:(List aJ)×(List aN)×(List aQ)×(List (List aC))×aA×(List aJ)×Int}(e:jX N s v=some (.inr (.inr (.inl r))))(hn:newS s v r){W H S:Nat}(hd:Dim v W H S){A:Nat->Nat->Nat->Pa}{Q:Nat->Nat->Px}(hQ:PxF N s A W H S Q)(hA:∀x y k,x < W->y < H->k < S->aMH N r.2.2.2.1 s v r.2.2.2.2.1 r.2.2.2.2.2.1 x y k (A x y k)) :
  ∃st' t',Cnt (aF.mk 0 0 0) 0 st' t' (yO A W S (H*W))/\jQ N s v=some (aHY Q W H,aF.mk t' st'.gO st'.gF,0):=by
 obtain⟨A1,B1,D1,b,sky,gl,e1⟩:=r;obtain⟨rfl,rfl,rfl,_,_,he,_⟩:=hn;dsimp only at he hA;subst he;obtain⟨q,eq,hq1,hq2,t',hq3,hq4⟩:=rowsS hN (A1:=s.gL) (B1:=s.gA4) (D1:=s.gI) (e1:=0) hd hQ hA (aF.mk 0 0 0) 0;obtain⟨b1,a1,d1,n1,c1,l1,sc,st1,fd⟩:=q;dsimp only at hq1 hq2 hq3 hq4;subst hq2 hq3;refine⟨st1,t',hq4,?_⟩
 unfold pls at hq1;simp only[Prod.mk.injEq] at hq1;obtain⟨rfl,rfl,rfl,rfl,rfl,rfl⟩:=hq1;unfold jQ;rw[e,ae]
 simp only[kG,bne_self_eq_false,cond_false]
 have q':(swp gl 0)=aK.mk (fD.mk 0) true gl:=rfl;rw[<- q',eq,ae]
 show aa (jM N b sc v sky st1 (swp gl t')) _=_;unfold jM aHY pls;rw[hd.w,hd.h]
 rfl
theorem filmW{N:Nat}(hN:1000000000000 < N){s:aE}{v:aG}{r:(List aJ)×(List aN)×(List aQ)×(List (List aC))×aA×aL×Int}(e:jX N s v=some (.inr (.inr (.inr (.inr r)))))(hn:newW s v r){bv:bC}(hw:r.2.2.2.2.2.1=aL.mk bv true s.gL 0){W H S:Nat}(hd:Dim v W H S){A:Nat->Nat->Nat->Pa}{Q:Nat->Nat->Px}(hQ:PxF N s A W H S Q)(hA:∀x y k,x < W->y < H->k < S->aL4 N r.2.2.2.1 s v r.2.2.2.2.1 bv s.gL x y k (A x y k)) :
  ∃st' t',Cnt (aF.mk 0 0 0) 0 st' t' (yO A W S (H*W))/\jQ N s v=some (aHY Q W H,aF.mk t' st'.gO st'.gF,0):=by
 obtain⟨A1,B1,D1,b,sky,w,e1⟩:=r;obtain⟨rfl,rfl,rfl,_,_,he,_⟩:=hn;dsimp only at he hA hw;subst he hw;obtain⟨q,eq,hq1,hq2,t',hq3,hq4⟩:=rowsW hN (A1:=s.gL) (B1:=s.gA4) (D1:=s.gI) (wv:=aL.mk bv true s.gL 0) (e1:=0) hd hQ hA (aF.mk 0 0 0) 0;obtain⟨b1,a1,d1,n1,c1,l1,sc,st1,fd⟩:=q;dsimp only at hq1 hq2 hq3 hq4;subst hq2 hq3;refine⟨st1,t',hq4,?_⟩
 unfold pls at hq1;simp only[Prod.mk.injEq] at hq1;obtain⟨rfl,rfl,rfl,rfl,rfl,rfl⟩:=hq1;unfold jQ;rw[e,ae]
 simp only[kG,bne_self_eq_false,cond_false]
 have q':(wlk bv sc.gL 0)=aL.mk bv true sc.gL 0:=rfl;rw[q'] at eq;rw[eq,ae]
 show aa (kR N b sc v sky st1 (wlk bv sc.gL t')) _=_;unfold kR aHY pls;rw[hd.w,hd.h]
 rfl
end Go.UK
