/- A part of the proof: what the functions of the program compute. -/
import Derived.Test.YtmmabhkichiikaaGreatJ4
open Bool renaming not_true→cu
open Int renaming lt_tmod_of_pos→jw,natCast_mul→db,natCast_zero→kq,ofNat_sub→kx,tmod→eg,tmod_lt_of_pos→jv,toNat_natCast→bn
open List renaming all_eq_true→ca,getElem?_eq_getElem→af,getElem_mem→bj,mem_range→ii,nil_append→fa,range→bl,replicate→ai
open Nat renaming div_add_mod→ku,div_lt_iff_lt_mul→j7,le_refl→ay,mod_lt→ke,mul_div_cancel→ju,mul_le_mul→b9,mul_one→fg,sub_self→gq,sub_zero→l7,zero_add→cy,zero_div→l0,zero_le→kw,zero_mod→kz
open Option renaming bind→aa,bind_some→ae
namespace Go.UK
open Go Go.Proofs
set_option maxRecDepth 20000
set_option maxHeartbeats 4000000
set_option linter.all false
structure Img(W H:Nat)(i:aI):Prop where
 w:i.gW=(W:Int)
 h:i.gH=(H:Int)
 l1:i.gC1.length=W*H
 l2:i.gA0.length=W*H
 l3:i.gG.length=W*H
 l4:i.gB6.length=W*H
 l5:i.gB8.length=W*H
 l6:i.gR.length=W*H
 r1:∀x∈i.gC1,∀y∈x.toList,rg y
 r2:∀x∈i.gA0,rg x
 r3:∀x∈i.gG,rg x
 r4:∀x∈i.gB6,∀y∈x.toList,rg y
 r5:∀x∈i.gB8,rg x
 r6:∀x∈i.gR,rg x
theorem aUu(N:Nat)(l:List (Vector Int 3))(hl:l.length<=4096)(hN:4096 < N)(h:∀x∈l,∀y∈x.toList,rg y):T (aAA N l) (λr=>r.length=l.length*3/\∀x∈r,rg x):=by
 unfold aAA;refine T.bind (P:=λr=>r.length=l.length*3/\∀x∈r,rg x) ?_ λr hr=>T.ret hr;refine T.loopG0 (n:=l.length) (λi (s:List Int)=>s.length=i*3/\∀x∈s,rg x) _ (F:=λk (s:List Int) i=>tJ N l k s i) (λk s i hi hs hk=>?_) (λk s hs=>?_) (by omega) (s:=[]) ⟨by simp,by simp⟩
 ·rw[tJ,aP,dt (by omega),cond_true,fX,af hi,ae]
  have e:yN l[i].toList 0 3=some l[i].toList:=by
   rw[aGE (by decide) (by decide) (by simp)]
   congr 1;rw[List.take_of_length_le (by simp)];rfl
  rw[e,ae,dQ (by simp;omega),ae,eZ (by omega)]
  refine hk _ ⟨by simp;omega,λx hx=>?_⟩
  rcases List.mem_append.1 hx with h' | h'
  ·exact hs.2 x h'
  ·exact h _ (bj hi) x h'
 ·rw[tJ,aP,df (by omega),cond_false]
  exact T.ret hs
theorem aGG(N:Nat)(a lo hi:Int)(h:lo<=a/\a<=hi):nJ N a lo hi=some true:=by
 unfold nJ;rw[aP,dt (show a>=lo from h.1),cond_true,dt h.2]
theorem aUE(N:Nat)(p:aU){W H D:Nat}(hN:20000 < N)(hw:p.gW=W)(hh:p.gH=H)(hd:p.gC9=D)(w1:1<=W/\W<=64)(h1:1<=H/\H<=64)(d1:1<=D/\D<=3)(hn:nP N p.gD0=some true)(hl:p.gE1.length=W*H*D)(hr:∀x∈p.gE1,rg x):aAa N p=some 0:=by
 have hm:W*H<=64*64:=b9 w1.2 h1.2;have hm2:W*H*D<=4096*3:=b9 hm d1.2;unfold aAa;rw[hw,hh,hd,aGG N _ _ _ ⟨by omega,by omega⟩,ae,cu,cond_false,aGG N _ _ _ ⟨by omega,by omega⟩,ae,cu,cond_false,aGG N _ _ _ ⟨by omega,by omega⟩,ae,ae,cu,cond_false,hn,ae]
 have e1:I64 ((W:Int)*(H:Int))=((W*H:Nat):Int):=by rw[<- db,bE (by omega) (by omega)]
 have e2:I64 (((W*H:Nat):Int)*(D:Int))=((W*H*D:Nat):Int):=by rw[<- db,bE (by omega) (by omega)]
 simp only[aP,cu,cond_false,e1,e2,hl,bne_self_eq_false]
 have main:T (pO N ((W*H*D:Nat):Int) p N 0) (λo=>o=Sum.inl ()):=by
  refine T.loopG0 (n:=W*H*D) (λ_ (_:Unit)=>True) _ (F:=λk (_:Unit) i=>pO N ((W*H*D:Nat):Int) p k i) (λk _ i hi _ hk=>?_) (λk _ _=>?_) (by omega) (s:=()) trivial
  ·have hi':i < p.gE1.length:=by omega
   have:=hr _ (bj hi')
   unfold rg at this;rw[pO,dt (by omega),cond_true,fX,af hi',ae,aGG N _ _ _ this,ae,cu,cond_false,eZ (by omega)]
   exact hk () trivial
  ·rw[pO,df (by omega),cond_false];exact T.ret rfl
 obtain⟨r,e,rfl⟩:=main;rw[e]
 rfl
def aD2 : Vector aU 6:=#v[aU.mk 0 0 3 aMv [],aU.mk 0 0 1 (ByteArray.mk #[65,76,80,72,65]) [],aU.mk 0 0 1 (ByteArray.mk #[68,69,80,84,72]) [],aU.mk 0 0 3 aNy [],aU.mk 0 0 1 (ByteArray.mk #[65,83,83,69,84]) [],aU.mk 0 0 1 (ByteArray.mk #[76,65,66,69,76]) []]
theorem aLD(N:Nat)(hN:20000 < N){W H:Nat}(w1:1<=W/\W<=64)(h1:1<=H/\H<=64){i:aI}(h:Img W H i):T (yZ N i) (λr=>r.2=0):=by
 have hm:W*H<=64*64:=b9 w1.2 h1.2;unfold yZ;refine T.bind (aUu N _ (by rw[h.l1];omega) (by omega) h.r1) λr1 q1=>T.bind (aUu N _ (by rw[h.l4];omega) (by omega) h.r4) λr2 q2=>?_;rw[h.l1] at q1;rw[h.l4] at q2;rw[show aCJ N=some aD2 from rfl,ae]
 obtain⟨k,rfl⟩:=nk (show 20<=N by omega)
 have n0:nP (k+20) aMv=some true:=rfl;have n1:nP (k+20) (ByteArray.mk #[65,76,80,72,65])=some true:=rfl;have n2:nP (k+20) (ByteArray.mk #[68,69,80,84,72])=some true:=rfl;have n3:nP (k+20) aNy=some true:=rfl;have n4:nP (k+20) (ByteArray.mk #[65,83,83,69,84])=some true:=rfl;have n5:nP (k+20) (ByteArray.mk #[76,65,66,69,76])=some true:=rfl;have round:∀(m j:Nat) (kn:Vector aU 6) (e7:aU) (e9:List Int) (D:Nat) (s:List aU),j < 6->idx kn.toList (j:Int)=some e7->(#v[r1,i.gA0,i.gG,r2,i.gB8,i.gR]:Vector (List Int) 6).toList[j]? = some e9 ->
   e7.gC9=(D:Int)->(1<=D/\D<=3)->nP (k+20) e7.gD0=some true->e9.length=W*H*D->(∀x∈e9,rg x)->s.length<=6 ->
   ∃s',s'.length=s.length+1/\oG (k+20) kn r1 i r2 (m+1) s (j:Int)=oG (k+20) kn r1 i r2 m s' ((j+1:Nat):Int):=by
  intro m j kn e7 e9 D s hj g1 g2 g3 g4 g5 g6 g7 g8;have hm2:W*H*D<=4096*3:=b9 hm g4.2;refine⟨s++[aU.mk i.gW i.gH e7.gC9 e7.gD0 e9],by simp,?_⟩
  rw[oG,dt (by omega),cond_true,g1,ae,aL8 (by omega) (by omega),ae,bn,g2,ae,dQ (by simp;omega),ae,fa]
  rw[aUE (k+20) (aU.mk i.gW i.gH e7.gC9 e7.gD0 e9) (W:=W) (H:=H) (D:=D) (by omega) h.w h.h g3 w1 h1 g4 g5 g6 g7,ae,bne_self_eq_false,cond_false,dQ (by simp;omega),ae,eZ (by omega)]
 have hl:∀D:Nat,D=1->W*H*D=W*H:=λD h=>by rw[h,fg]
 obtain⟨s0,z0,e0⟩:=round (k+19) 0 aD2 (aU.mk 0 0 3 aMv []) r1 3 [] (by decide) rfl rfl rfl (by decide) n0 q1.1 q1.2 (by simp)
 obtain⟨s1,z1,e1⟩:=round (k+18) 1 aD2 (aU.mk 0 0 1 (ByteArray.mk #[65,76,80,72,65]) []) i.gA0 1 s0 (by decide) rfl rfl rfl (by decide) n1 (by rw[fg];exact h.l2) h.r2 (by simp at z0;omega)
 obtain⟨s2,z2,e2⟩:=round (k+17) 2 aD2 (aU.mk 0 0 1 (ByteArray.mk #[68,69,80,84,72]) []) i.gG 1 s1 (by decide) rfl rfl rfl (by decide) n2 (by rw[fg];exact h.l3) h.r3 (by simp at z0;omega)
 obtain⟨s3,z3,e3⟩:=round (k+16) 3 aD2 (aU.mk 0 0 3 aNy []) r2 3 s2 (by decide) rfl rfl rfl (by decide) n3 q2.1 q2.2 (by simp at z0;omega)
 obtain⟨s4,z4,e4⟩:=round (k+15) 4 aD2 (aU.mk 0 0 1 (ByteArray.mk #[65,83,83,69,84]) []) i.gB8 1 s3 (by decide) rfl rfl rfl (by decide) n4 (by rw[fg];exact h.l5) h.r5 (by simp at z0;omega)
 obtain⟨s5,z5,e5⟩:=round (k+14) 5 aD2 (aU.mk 0 0 1 (ByteArray.mk #[76,65,66,69,76]) []) i.gR 1 s4 (by decide) rfl rfl rfl (by decide) n5 (by rw[fg];exact h.l6) h.r6 (by simp at z0;omega)
 have e:oG (k+20) aD2 r1 i r2 (k+20) [] 0=some (Sum.inl s5):=(e0.trans (e1.trans (e2.trans (e3.trans (e4.trans (e5.trans rfl))))))
 exact T.eq e ⟨_,rfl,rfl⟩
theorem chk1(N:Nat)(hN:20000 < N){W H:Nat}(w1:1<=W/\W<=64)(h1:1<=H/\H<=64){i:aI}(h:Img W H i):oW N [i]=some 0:=by
 obtain⟨r,e,hr⟩:=aLD N hN w1 h1 h;obtain⟨k,rfl⟩:=nk (show 3<=N by omega)
 unfold oW;have:mE (k+3) [i] (k+3) 0=some (Sum.inl ()):=by
  rw[mE,aP,dt (by simp),cond_true,show idx [i] 0=some i from rfl,ae,e,ae,hr,bne_self_eq_false,cond_false]
  rfl
 rw[this]
 rfl
theorem chk2(N:Nat)(hN:20000 < N){W H W' H':Nat}(w1:1<=W/\W<=64)(h1:1<=H/\H<=64)(w2:1<=W'/\W'<=64)(h2:1<=H'/\H'<=64){i j:aI}(h:Img W H i)(hj:Img W' H' j):oW N [i,j]=some 0:=by
 obtain⟨r,e,hr⟩:=aLD N hN w1 h1 h;obtain⟨r',e',hr'⟩:=aLD N hN w2 h2 hj;obtain⟨k,rfl⟩:=nk (show 3<=N by omega)
 unfold oW;have:mE (k+3) [i,j] (k+3) 0=some (Sum.inl ()):=by
  rw[mE,aP,dt (by simp),cond_true,show idx [i,j] 0=some i from rfl,ae,e,ae,hr,bne_self_eq_false,cond_false,show I64 ((0:Int)+1)=1 from rfl]
  rw[mE,aP,dt (by simp),cond_true,show idx [i,j] 1=some j from rfl,ae,e',ae,hr',bne_self_eq_false,cond_false]
  rfl
 rw[this]
 rfl
def uG(i:aI)(j:Nat)(p:Px):aI:=aI.mk i.gW i.gH (i.gC1.set j p.1) (i.gA0.set j p.2.1) (i.gG.set j p.2.2.1) (i.gB6.set j p.2.2.2.1) (i.gB8.set j p.2.2.2.2.1) (i.gR.set j p.2.2.2.2.2)
theorem pxImg{n:Nat}{p:Px}(h:aQS n p):Img 1 1 (pxI p):=by
 obtain⟨a,b,c,d,e,f,_⟩:=h;constructor <;> first | rfl | (intro x hx;simp only[pxI,List.mem_singleton] at hx;subst hx;assumption)
theorem aVZ{W H n:Nat}{i:aI}(h:Img W H i)(j:Nat){p:Px}(hp:aQS n p):Img W H (uG i j p):=by
 obtain⟨a,b,c,d,e,f,_⟩:=hp;have m:∀{α:Type} {l:List α} {y:α} {P:α->Prop},(∀x∈l,P x)->P y->∀x∈l.set j y,P x:=by
  intro α l y P h1 h2 x hx;rcases List.mem_or_eq_of_mem_set hx with h' | h'
  ·exact h1 x h'
  ·rw[h'];exact h2
 exact⟨h.w,h.h,by simp[uG,h.l1],by simp[uG,h.l2],by simp[uG,h.l3],by simp[uG,h.l4],by simp[uG,h.l5],by simp[uG,h.l6],m h.r1 a,m h.r2 b,m h.r3 c,m h.r4 d,m h.r5 e,m h.r6 f⟩
theorem putT(N:Nat)(hN:20000 < N){W H n x y:Nat}(w1:1<=W/\W<=64)(h1:1<=H/\H<=64)(hx:x < W)(hy:y < H){i:aI}(h:Img W H i){p:Px}(hp:aQS n p):aAQ N i (pxI p) (x:Int) (y:Int)=some (uG i (y*W+x) p,0):=by
 have hm:W*H<=64*64:=b9 w1.2 h1.2;have hj:y*W+x < W*H:=by
  have:y*W+W<=H*W:=by rw[<- Nat.succ_mul];exact Nat.mul_le_mul_right _ hy
  rw[Nat.mul_comm W H];omega
 have hyW:y*W<=W*H:=by omega
 unfold aAQ;rw[chk2 N hN w1 h1 ⟨by decide,by decide⟩ ⟨by decide,by decide⟩ h (pxImg hp),ae,bne_self_eq_false,cond_false]
 have wi:wV N i (x:Int) (y:Int) (pxI p).gW (pxI p).gH=some true:=by
  unfold wV;simp only[aP]
  show some (cond (cond (cond (cond (cond (decide (eP (x:Int) (y:Int)>=0)) (decide (eP 1 1>=1)) false) (decide ((1:Int)<=i.gW)) false) (decide ((1:Int)<=i.gH)) false) (decide ((x:Int)<=I64 (i.gW - 1))) false) (decide ((y:Int)<=I64 (i.gH - 1))) false)=some true;rw[h.w,h.h,bE (by omega) (by omega),bE (by omega) (by omega),dt (show eP (x:Int) (y:Int)>=0 by unfold eP;split <;> omega),dt (show eP 1 1>=1 by decide),dt (show(1:Int)<=W by omega),dt (show(1:Int)<=H by omega),dt (show(x:Int)<=(W:Int) - 1 by omega),dt (show(y:Int)<=(H:Int) - 1 by omega)]
  rfl
 rw[wi,ae,cu,cond_false]
 have cp:rV N i=some (i.gC1,i.gA0,i.gG,i.gB6,i.gB8,i.gR):=by
  unfold rV cK bR;rw[dQ (by simp[h.l1];omega),dQ (by simp[h.l2];omega),dQ (by simp[h.l3];omega),dQ (by simp[h.l4];omega),dQ (by simp[h.l5];omega),dQ (by simp[h.l6];omega)]
  rfl
 rw[cp,ae]
 obtain⟨k,rfl⟩:=nk (show 3<=N by omega)
 have so:∀{α:Type} (l:List α) (e:α),l.length=W*H->aC7 l (y*W+x) e=some (l.set (y*W+x) e):=by
  intro α l e hl;unfold aC7;rw[show Nat.blt (y*W+x) l.length=Bool.true by rw[Nat.blt_eq,hl];exact hj]
  rfl
 have ir:∀{α:Type} (l:List α),l.length=W*H->eY ((y*W+x:Nat):Int) l.length=some ():=λl hl=>aL8 (by omega) (by rw[hl];omega)
 have mv:sF (k+3) i.gC1 i.gA0 i.gG i.gB6 i.gB8 i.gR ((y*W+x:Nat):Int) (pxI p) 0 i.gW i.gH=some ((uG i (y*W+x) p).gC1,(uG i (y*W+x) p).gA0,(uG i (y*W+x) p).gG,(uG i (y*W+x) p).gB6,(uG i (y*W+x) p).gB8,(uG i (y*W+x) p).gR):=by
  unfold sF;rw[show idx (pxI p).gC1 0=some p.1 from rfl,show idx (pxI p).gA0 0=some p.2.1 from rfl,show idx (pxI p).gG 0=some p.2.2.1 from rfl,show idx (pxI p).gB6 0=some p.2.2.2.1 from rfl,show idx (pxI p).gB8 0=some p.2.2.2.2.1 from rfl,show idx (pxI p).gR 0=some p.2.2.2.2.2 from rfl]
  simp only[ae,bn,ir _ h.l1,ir _ h.l2,ir _ h.l3,ir _ h.l4,ir _ h.l5,ir _ h.l6,so _ _ h.l1,so _ _ h.l2,so _ _ h.l3,so _ _ h.l4,so _ _ h.l5,so _ _ h.l6]
  rfl
 have lp:xF (k+3) (pxI p) (y:Int) i (x:Int) (k+3) i.gC1 i.gA0 i.gG i.gB6 i.gB8 i.gR 0=some ((uG i (y*W+x) p).gC1,(uG i (y*W+x) p).gA0,(uG i (y*W+x) p).gG,(uG i (y*W+x) p).gB6,(uG i (y*W+x) p).gB8,(uG i (y*W+x) p).gR):=by
  rw[xF,aP,show decide ((0:Int) < I64 ((pxI p).gW*(pxI p).gH))=Bool.true from rfl,cond_true,show aDm .i64 0 (pxI p).gW=some 0 from rfl,ae,aP,show aG6 .i64 0 (pxI p).gW=some 0 from rfl,ae,aP]
  have e:I64 (I64 (I64 (I64 ((y:Int)+0)*i.gW)+(x:Int))+0)=((y*W+x:Nat):Int):=by
   simp only[Int.add_zero]
   rw[h.w,bE (x:=(y:Int)) (by omega) (by omega),<- db,bE (x:=((y*W:Nat):Int)) (by omega) (by omega),<- Int.natCast_add,bE (x:=((y*W+x:Nat):Int)) (by omega) (by omega),bE (by omega) (by omega)]
  rw[e,mv,ae]
  rfl
 rw[lp,ae]
 rfl
theorem aSl(N:Nat)(hN:20000 < N){W H:Nat}(w1:1<=W/\W<=64)(h1:1<=H/\H<=64){i:aI}(h:Img W H i):zP N [i]=some (i,0):=by
 have hm:W*H<=64*64:=b9 w1.2 h1.2;have c:=chk1 N hN w1 h1 h;have cp:∀N,tL N i=some i:=by
  intro N;unfold tL cK bR;rw[dQ (by simp[h.l1];omega),dQ (by simp[h.l2];omega),dQ (by simp[h.l3];omega),dQ (by simp[h.l4];omega),dQ (by simp[h.l5];omega),dQ (by simp[h.l6];omega)]
  rfl
 obtain⟨k,rfl⟩:=nk (show 3<=N by omega)
 unfold zP;rw[vB,aBu]
 simp only[aP]
 show aa (oW (k+3) [i]) _=_;rw[c,ae,bne_self_eq_false,cond_false]
 show aa (tL (k+3) i) _=_;rw[cp]
 rfl
structure aFV(W H:Nat)(l:List aK):Prop where
 len:l.length=W*H
 rng:∀w∈l,∃x y:Nat,w.gx=(x:Int)/\w.gy=(y:Int)/\x < W/\y < H
 cov:∀x y:Nat,x < W->y < H->∃w∈l,w.gx=(x:Int)/\w.gy=(y:Int)
def aPa(W H:Nat):Option (List aK)->Bool
 | none=>false
 | some l=>Nat.beq l.length (W*H)&&(l.all (λw=>decide (0<=w.gx/\w.gx < (W:Int)/\0<=w.gy/\w.gy < (H:Int)))&&(bl W).all λx=>(bl H).all λy=>l.any λw=>decide (w.gx=(x:Int)/\w.gy=(y:Int)))
theorem aIs{W H:Nat}{o:Option (List aK)}(h:aPa W H o=true):∃l,o=some l/\aFV W H l:=by
 cases o with
 | none=>cases h
 | some l=>
  simp only[aPa,Bool.and_eq_true,ca,List.any_eq_true,ii,decide_eq_true_eq] at h;obtain⟨h1,h2,h3⟩:=h;refine⟨l,rfl,Nat.eq_of_beq_eq_true h1,λw hw=>?_,λx y hx hy=>?_⟩
  ·obtain⟨a,b,c,d⟩:=h2 w hw;exact⟨w.gx.toNat,w.gy.toNat,by omega,by omega,by omega,by omega⟩
  ·obtain⟨w,hw,e⟩:=h3 x hx y hy;exact⟨w,hw,e⟩
section
variable (k:Nat) (b4:List aG) (b6:List (List aC)) (a6:aE) (a7:aF) (a8 a9:Int) (a10:aI) (a11:aE) (a12:aF) (a13:aA) (a14:aH)
theorem aVf(a15:aL):((bl 3).all λw=>(bl 3).all λh=>[2].all λz=>aPa (w+1) (h+1) (fB (k+20) [] b4 b6 ((h+1:Nat):Int) ((z:Nat):Int) ((w+1:Nat):Int) a6 a7 a8 a9 a10 a11 a12 a13 a14 a15))=true:=by kernel_rfl
theorem aWi(a15:aM):((bl 3).all λw=>(bl 3).all λh=>[2].all λz=>aPa (w+1) (h+1) (fC (k+20) [] b4 b6 ((h+1:Nat):Int) ((z:Nat):Int) ((w+1:Nat):Int) a6 a7 a8 a9 a10 a11 a12 a13 a14 a15))=true:=by kernel_rfl
end
def zsT : List Nat:=[2]
theorem todoS{N W H z:Nat}(hN:20<=N)(hW:1<=W/\W<=3)(hH:1<=H/\H<=3)(hz:z∈zsT)(b4:List aG)(b6:List (List aC))(a6:aE)(a7:aF)(a8 a9:Int)(a10:aI)(a11:aE)(a12:aF)(a13:aA)(a14:aH)(a15:aL) :
  ∃l,fB N [] b4 b6 (H:Int) (z:Int) (W:Int) a6 a7 a8 a9 a10 a11 a12 a13 a14 a15=some l/\aFV W H l:=by
 obtain⟨k,rfl⟩:=nk hN;have h:=aVf k b4 b6 a6 a7 a8 a9 a10 a11 a12 a13 a14 a15;simp only[ca,ii] at h;have:=h (W - 1) (by omega) (H - 1) (by omega) z hz;rw[show W - 1+1=W by omega,show H - 1+1=H by omega] at this;exact aIs this
theorem todoW{N W H z:Nat}(hN:20<=N)(hW:1<=W/\W<=3)(hH:1<=H/\H<=3)(hz:z∈zsT)(b4:List aG)(b6:List (List aC))(a6:aE)(a7:aF)(a8 a9:Int)(a10:aI)(a11:aE)(a12:aF)(a13:aA)(a14:aH)(a15:aM) :
  ∃l,fC N [] b4 b6 (H:Int) (z:Int) (W:Int) a6 a7 a8 a9 a10 a11 a12 a13 a14 a15=some l/\aFV W H l:=by
 obtain⟨k,rfl⟩:=nk hN;have h:=aWi k b4 b6 a6 a7 a8 a9 a10 a11 a12 a13 a14 a15;simp only[ca,ii] at h;have:=h (W - 1) (by omega) (H - 1) (by omega) z hz;rw[show W - 1+1=W by omega,show H - 1+1=H by omega] at this;exact aIs this
theorem aPm(N:Nat)(hN:20 < N){s:aE}(h:few s)(hid:s.gJ.length<=20)(hlab:s.gA3.length=s.gJ.length):rS N s=some s:=by
 obtain⟨h1,h2,h3,h4,h5⟩:=h;unfold rS dX eJ iD kO kR;rw[dQ (by simp;omega),dQ (by simp;omega),dQ (by simp;omega),dQ (by simp;omega),dQ (by simp;omega)]
 simp only[ae,fa,aP]
 have main:T (lU N (s.gO.length:Int) s N [] 0) (λr=>r=s.gO):=by
  refine T.loopG0 (n:=s.gO.length) (λi (l:List aC)=>l=s.gO.take i) _ (F:=λk (l:List aC) i=>lU N (s.gO.length:Int) s k l i) (λk l i hi hl hk=>?_) (λk l hl=>?_) (by omega) (s:=[]) (by simp)
  ·have t5:=h5 _ (bj hi)
   rw[lU,dt (by omega),cond_true,fX,af hi,ae]
   unfold eE;rw[dQ (by simp;omega),ae,ae,fa,dQ (by rw[hl];simp;omega),ae,eZ (by omega)]
   refine hk _ ?_;rw[hl,List.take_succ_eq_append_getElem hi]
  ·rw[lU,df (by omega),cond_false]
   exact T.ret (by rw[hl];simp)
 obtain⟨r,e,rfl⟩:=main;rw[e]
 rfl
def aDb(W H:Nat):aI:=aI.mk W H (ai (W*H) #v[0,0,0]) (ai (W*H) 0) (ai (W*H) 0) (ai (W*H) #v[0,0,0]) (ai (W*H) 0) (ai (W*H) 0)
theorem aTc(W H:Nat):Img W H (aDb W H):=by
 have z:rg 0:=by unfold rg;omega
 constructor <;> first | rfl | (simp[aDb];done) | (intro x hx;rw[List.eq_of_mem_replicate hx];first | exact z | (intro y hy;simp at hy;subst hy;exact z))
theorem aSX(N:Nat){W H:Nat}(w1:1<=W/\W<=64)(h1:1<=H/\H<=64):vQ N (W:Int) (H:Int)=some (aDb W H,0):=by
 have hm:W*H<=64*64:=b9 w1.2 h1.2;have e:I64 ((W:Int)*(H:Int))=((W*H:Nat):Int):=by rw[<- db,bE (by omega) (by omega)]
 have mk:∀b:Nat,b<=100->mkO b ((W*H:Nat):Int)=some ():=by
  intro b hb;have h2:((W*H:Nat):Int)*(b:Int)<=140737488355328:=by
   have:W*H*b<=4096*100:=b9 hm hb;rw[<- db];omega
  unfold mkO;rw[dt (by omega),dt (show((W*H:Nat):Int)<=140737488355328 by omega),dt h2]
  rfl
 have ln:∀{α:Type} (z:α) (n:Nat),zQ (ai n z) n=some ():=by
  intro α z n;unfold zQ;rw[List.length_replicate];simp
 unfold vQ;simp only[aP]
 rw[df (show ¬eP (W:Int) H < 1 by unfold eP;split <;> omega),df (show ¬jZ (W:Int) H > 64 by unfold jZ;split <;> omega),cond_false,cond_false]
 unfold aBI lL;rw[e,mk 24 (by omega),mk 8 (by omega)]
 simp only[ae,bn,ln]
 rfl
theorem jobS{N W H z:Nat}(hN:20 < N){s:aE}{v:aF}(hf:few s)(hid:s.gJ.length<=20)(hlab:s.gA3.length=s.gJ.length)(hw:v.gW=(W:Int))(hh:v.gH=(H:Int))(w1:1<=W/\W<=3)(h1:1<=H/\H<=3)(hz:z∈zsT)(hz1:1<=z/\z<=64)
  {r:(List aJ)×(List aO)×(List aS)×(List (List aC))×aA×(List aJ)×Int} (e:mH N s v=some (.inr (.inr (.inl r)))) (hn:newS s v r) :
  ∃l,aFV W H l/\fM N s v (z:Int)=some (.inr (.inl (r.2.2.2.1,s,r.2.2.2.2.1,swp r.2.2.2.2.2.1 0,s,l,aDb W H,0))):=by
 obtain⟨A1,B1,D1,b,sky,gl,e1⟩:=r;obtain⟨rfl,rfl,rfl,_,_,he,_⟩:=hn;dsimp only at he ⊢;subst he;obtain⟨l,el,hl⟩:=todoS (N:=N) (by omega) w1 h1 hz [] b s v (z:Int) 0 (aI.mk 0 0 [] [] [] [] [] []) s v sky (aH.mk 0 0 0) (aL.mk (jJ.mk 0) true gl)
 refine⟨l,hl,?_⟩
 unfold fM;rw[e,ae]
 simp only[jY,bne_self_eq_false,cond_false]
 have bt:eC N (z:Int)=some true:=by unfold eC;rw[aP,dt (show(z:Int)>=1 by omega),cond_true,dt (show(z:Int)<=64 by omega)]
 rw[bt,ae,cu,cond_false,aPm N hN hf hid hlab,ae,show qZ N v.gW v.gH (z:Int)=some () from rfl,ae,hw,hh]
 refine Eq.trans (congrArg (λo=>aa o _) el) ?_;rw[ae,aSX N ⟨w1.1,by omega⟩ ⟨h1.1,by omega⟩,ae]
 rfl
theorem jobW{N W H z:Nat}(hN:20 < N){s:aE}{v:aF}(hf:few s)(hid:s.gJ.length<=20)(hlab:s.gA3.length=s.gJ.length)(hw:v.gW=(W:Int))(hh:v.gH=(H:Int))(w1:1<=W/\W<=3)(h1:1<=H/\H<=3)(hz:z∈zsT)(hz1:1<=z/\z<=64)
  {r:(List aJ)×(List aO)×(List aS)×(List (List aC))×aA×aM×Int} (e:mH N s v=some (.inr (.inr (.inr (.inr r))))) (hn:newW s v r) :
  ∃l,aFV W H l/\fM N s v (z:Int)=some (.inr (.inr (r.2.2.2.1,s,r.2.2.2.2.1,r.2.2.2.2.2.1,s,l,aDb W H,0))):=by
 obtain⟨A1,B1,D1,b,sky,w,e1⟩:=r;obtain⟨rfl,rfl,rfl,_,_,he,_⟩:=hn;dsimp only at he ⊢;subst he;obtain⟨l,el,hl⟩:=todoW (N:=N) (by omega) w1 h1 hz [] b s v (z:Int) 0 (aI.mk 0 0 [] [] [] [] [] []) s v sky (aH.mk 0 0 0) w;refine⟨l,hl,?_⟩
 unfold fM;rw[e,ae]
 simp only[jY,bne_self_eq_false,cond_false]
 have bt:eC N (z:Int)=some true:=by unfold eC;rw[aP,dt (show(z:Int)>=1 by omega),cond_true,dt (show(z:Int)<=64 by omega)]
 rw[bt,ae,cu,cond_false,aPm N hN hf hid hlab,ae,show qZ N v.gW v.gH (z:Int)=some () from rfl,ae,hw,hh]
 refine Eq.trans (congrArg (λo=>aa o _) el) ?_;rw[ae,aSX N ⟨w1.1,by omega⟩ ⟨h1.1,by omega⟩,ae]
def wx(l:List aK)(p:Nat):Nat:=match l[p]? with | some w=>w.gx.toNat | none=>0
def wy(l:List aK)(p:Nat):Nat:=match l[p]? with | some w=>w.gy.toNat | none=>0
theorem wxy{W H:Nat}{l:List aK}(h:aFV W H l){p:Nat}(hp:p < W*H):∃w,idx l (p:Int)=some w/\w.gx=(wx l p:Int)/\w.gy=(wy l p:Int)/\wx l p < W/\wy l p < H:=by
 have hp':p < l.length:=by rw[h.len];exact hp
 obtain⟨x,y,a,b,c,d⟩:=h.rng _ (bj hp')
 refine⟨l[p],by rw[fX,af hp'],?_⟩
 unfold wx wy;rw[af hp']
 dsimp only;rw[a,b]
 exact⟨rfl,rfl,c,d⟩
def tA(A:Nat->Nat->Nat->Pa)(l:List aK)(S n:Nat):Pa:=A (wx l (n / S)) (wy l (n / S)) (n % S)
def tS(A:Nat->Nat->Nat->Pa)(l:List aK)(S n:Nat):List aG:=aFj A (wx l (n / S)) (wy l (n / S)) (n % S)
def tC(A:Nat->Nat->Nat->Pa)(l:List aK)(S n:Nat):C3:=sum3 (λj=>(tA A l S j).2) n
def tI(Q:Nat->Nat->Px)(l:List aK)(W H:Nat):Nat->aI
 | 0=>aDb W H
 | p+1=>uG (tI Q l W H p) (wy l p*W+wx l p) (Q (wx l p) (wy l p))
def stF(c:C3):aH:=aH.mk 0 (I64 c.2.1) (I64 c.2.2)
theorem aVN{c d:C3}{st':aH}{t':Int}(h:Cnt (stF c) (I64 c.1) st' t' d):st'=stF (aRO c d)/\t'=I64 (aRO c d).1:=by
 obtain⟨a,b,e,f⟩:=h;have e1:=aOd b (cL _)
 have e2:=aOd e (cL _)
 have e3:=aOd f (cL _)
 have a1:∀x y:Int,I64 (I64 x+y)=I64 (x+y):=λx y=>by rw[xC,xC,xC];omega
 obtain⟨w,t,g⟩:=st';simp only at a e2 e3;refine⟨?_,by rw[e1];exact a1 _ _⟩
 unfold stF;rw[a,e2,e3]
 show aH.mk 0 (I64 (I64 c.2.1+d.2.1)) (I64 (I64 c.2.2+d.2.2))=_;rw[a1,a1]
 rfl
structure Jb(N:Nat)(s:aE)(v:aF)(W H S:Nat)(l:List aK)(A:Nat->Nat->Nat->Pa)(Q:Nat->Nat->Px):Prop where
 big:1000000000000 < N
 d:Dim v W H S
 l:aFV W H l
 q:PxF N s A W H S Q
theorem aKj{N:Nat}{s:aE}{v:aF}{W H S:Nat}{l:List aK}{A:Nat->Nat->Nat->Pa}{Q:Nat->Nat->Px}(j:Jb N s v W H S l A Q):∀p,p<=W*H->Img W H (tI Q l W H p):=by
 intro p
 induction p with
 | zero=>exact λ_=>aTc W H
 | succ p ih=>
  intro hp;obtain⟨w,_,_,_,x,y⟩:=wxy j.l (p:=p) (by omega)
  exact aVZ (ih (by omega)) _ (j.q _ _ x y).2
theorem quoN(n S:Nat)(hS:1<=S)(hn:n < 1000000):aDm .i64 (n:Int) (S:Int)=some ((n / S:Nat):Int):=by
 have:n / S<=n:=Nat.div_le_self _ _;unfold aDm;rw[df (show ¬(S:Int)=0 by omega)]
 show some (I64 (Int.tdiv (n:Int) (S:Int)))=_;rw[<- Int.ofNat_tdiv]
 generalize n / S=q at *;rw[bE (by omega) (by omega)]
theorem remN(n S:Nat)(hS:1<=S):aG6 .i64 (n:Int) (S:Int)=some ((n % S:Nat):Int):=by
 unfold aG6;rw[df (show ¬(S:Int)=0 by omega)]
 show some (eg (n:Int) (S:Int))=_;rw[<- Int.ofNat_tmod]
theorem aVK{n S:Nat}(hS:1<=S)(c:n % S+1=S):(n+1) / S=n / S+1/\(n+1) % S=0:=by
 have e:n+1=S*(n / S+1):=by rw[Nat.mul_add,fg];have:=ku n S;omega
 exact⟨by rw[e,Nat.mul_div_cancel_left _ (by omega)],by rw[e,Nat.mul_mod_right]⟩
theorem aVG{n S:Nat}(hS:1<=S)(c:¬n % S+1=S):(n+1) / S=n / S/\(n+1) % S=n % S+1:=by
 have hr:n % S < S:=ke _ (by omega)
 have e:n+1=n % S+1+S*(n / S):=by have:=ku n S;omega
 exact⟨Eq.trans (congrArg (· / S) e) (by rw[Nat.add_mul_div_left _ _ (by omega),Nat.div_eq_of_lt (by omega),cy]),Eq.trans (congrArg (· % S) e) (by rw[Nat.add_mul_mod_self_left,Nat.mod_eq_of_lt (by omega)])⟩
section
variable {N:Nat} {s:aE} {v:aF} {W H S:Nat} {l:List aK} {A:Nat→Nat→Nat→Pa} {Q:Nat→Nat→Px} (j:Jb N s v W H S l A Q) {b:List (List aC)} {sky:aA} {gl:List aJ} (hp:∀ x y k,x < W→y < H→k < S→aRz N b s v sky gl x y k (A x y k))
include j
theorem aNl(z:Int){n:Nat}(hn:n<=W*H*S)(b2:List aG)(i:aI)(st:aH)(w:aL):bT N b2 b s v z l (n:Int) i s v sky st w=some (((W*H*S - n:Nat):Int)):=by
 have hm:W*H<=64*64:=b9 j.d.w1.2 j.d.h1.2;have hm2:W*H*S<=4096*16:=b9 hm j.d.s1.2;unfold bT dN;rw[ae,aP,j.l.len,j.d.s,<- db,bE (x:=((W*H*S:Nat):Int)) (by omega) (by omega),bE (by omega) (by omega),kx hn]
include hp
theorem do1S(z a2:Int)(ha:a2<=1048576):∀m n k i:Nat,n+m<=W*H*S->m < k->(n+m=W*H*S\/¬((i+m:Nat):Int) < a2)->(∀q,q < m->((i+q:Nat):Int) < a2)->jF N a2 b s v z l s v sky k (tS A l S n) (n:Int) (tI Q l W H (n / S)) (stF (tC A l S n)) (swp gl (I64 (tC A l S n).1)) (i:Int)=some (tS A l S (n+m),((n+m:Nat):Int),tI Q l W H ((n+m) / S),stF (tC A l S (n+m)),swp gl (I64 (tC A l S (n+m)).1),((i+m:Nat):Int)):=by
 have hm:W*H<=64*64:=b9 j.d.w1.2 j.d.h1.2;have hm2:W*H*S<=4096*16:=b9 hm j.d.s1.2;have S1:=j.d.s1;intro m
 induction m with
 | zero=>
  intro n k i h1 h2 h3 _;obtain⟨k,rfl⟩:∃q,k=q+1:=⟨k - 1,by omega⟩
  rw[jF]
  have e:cond (decide ((i:Int) < a2)) (aa (bT N (tS A l S n) b s v z l (n:Int) (tI Q l W H (n / S)) s v sky (stF (tC A l S n)) (swp gl (I64 (tC A l S n).1))) λr10=>some (decide (r10 > 0))) (some false)=some false:=by
   rcases h3 with h3 | h3
   ·rw[aNl j z (by omega),ae,df (show ¬((W*H*S - n:Nat):Int) > 0 by omega)]
    cases decide ((i:Int) < a2) <;> rfl
   ·rw[df (show ¬(i:Int) < a2 by simpa using h3)];rfl
  rw[e]
  rfl
 | succ m ih=>
  intro n k i h1 h2 h3 h4;obtain⟨k,rfl⟩:∃q,k=q+1:=⟨k - 1,by omega⟩
  have hn:n / S < W*H:=(j7 (by omega)).2 (by omega)
  have hr:n % S < S:=ke _ (by omega)
  obtain⟨w,ei,ex,ey,hx,hy⟩:=wxy j.l hn;have h40:=h4 0 (by omega)
  have I:=ih (n+1) k (i+1) (by omega) (by omega) (by rcases h3 with h | h;exact Or.inl (by omega);exact Or.inr (by rw[show i+1+m=i+(m+1) by omega];exact h)) (λq hq=>by rw[show i+1+q=i+(q+1) by omega];exact h4 _ (by omega))
  rw[show n+1+m=n+(m+1) by omega,show i+1+m=i+(m+1) by omega] at I;obtain⟨st',t',ep,hc⟩:=hp _ _ _ hx hy hr (stF (tC A l S n)) (I64 (tC A l S n).1)
  have ec:aRO (tC A l S n) (A (wx l (n / S)) (wy l (n / S)) (n % S)).2=tC A l S (n+1):=rfl;obtain⟨rfl,rfl⟩:=aVN hc;rw[ec] at ep;rw[jF,dt (show(i:Int) < a2 by simpa using h40),cond_true,aNl j z (by omega),ae,dt (show((W*H*S - n:Nat):Int) > 0 by omega),ae,cond_true,j.d.s]
  rw[quoN n S (by omega) (by omega),ae,ei,ae,remN n S (by omega),ae,ex,ey]
  refine Eq.trans (congrArg (λo=>aa o _) ep) ?_;rw[ae]
  dsimp only;rw[dQ (by unfold tS;rw[aOt];simp;omega),ae,aP,bE (x:=((n % S:Nat):Int)+1) (by omega) (by omega),bE (x:=(n:Int)+1) (by omega) (by omega),bE (x:=(i:Int)+1) (by omega) (by omega)]
  have es:tS A l S n++[(A (wx l (n / S)) (wy l (n / S)) (n % S)).1.1]=aFj A (wx l (n / S)) (wy l (n / S)) (n % S+1):=(aSC _ _ _ _).symm;rw[es]
  by_cases c:n % S+1=S
  ·obtain⟨d1,d2⟩:=aVK (by omega) c;rw[show(((n % S:Nat):Int)+1==(S:Int))=true by rw[beq_iff_eq];omega,cond_true,c,(j.q _ _ hx hy).1,ae]
   dsimp only;rw[putT N (by have:=j.big;omega) j.d.w1 j.d.h1 hx hy (aKj j _ (by omega)) (j.q _ _ hx hy).2,ae]
   dsimp only;have i1:tS A l S (n+1)=[]:=by unfold tS;rw[d2];rfl
   have i2:tI Q l W H ((n+1) / S)=uG (tI Q l W H (n / S)) (wy l (n / S)*W+wx l (n / S)) (Q (wx l (n / S)) (wy l (n / S))):=by rw[d1];rfl
   rw[i1,i2] at I;exact I
  ·obtain⟨d1,d2⟩:=aVG (by omega) c;rw[show(((n % S:Nat):Int)+1==(S:Int))=false by rw[beq_eq_false_iff_ne];omega,cond_false]
   have i1:tS A l S (n+1)=aFj A (wx l (n / S)) (wy l (n / S)) (n % S+1):=by unfold tS;rw[d1,d2]
   rw[i1,d1] at I;exact I
theorem doS(z a2:Int)(ha:a2<=1048576){n:Nat}(hn:n<=W*H*S):cN N (tS A l S n) b a2 s v z l (n:Int) (tI Q l W H (n / S)) s v sky (stF (tC A l S n)) (swp gl (I64 (tC A l S n).1))=some (tS A l S (n+min a2.toNat (W*H*S - n)),((n+min a2.toNat (W*H*S - n):Nat):Int),tI Q l W H ((n+min a2.toNat (W*H*S - n)) / S),stF (tC A l S (n+min a2.toNat (W*H*S - n))),swp gl (I64 (tC A l S (n+min a2.toNat (W*H*S - n))).1),((min a2.toNat (W*H*S - n):Nat):Int)):=by
 have hm:W*H<=64*64:=b9 j.d.w1.2 j.d.h1.2;have hm2:W*H*S<=4096*16:=b9 hm j.d.s1.2;have hN:=j.big;unfold cN dN;have e:=do1S j hp z a2 ha (min a2.toNat (W*H*S - n)) n N 0 (by omega) (by omega) (by omega) (λq hq=>by omega)
 rw[ae]
 refine Eq.trans (congrArg (λo=>aa o _) e) ?_;rw[ae,cy]
theorem imgS(z:Int)(b2:List aG):iO N b2 b s v z l ((W*H*S:Nat):Int) (tI Q l W H (W*H*S / S)) s v sky (stF (tC A l S (W*H*S))) (swp gl (I64 (tC A l S (W*H*S)).1))=some (tI Q l W H (W*H),aH.mk (I64 (tC A l S (W*H*S)).1) (I64 (tC A l S (W*H*S)).2.1) (I64 (tC A l S (W*H*S)).2.2),0):=by
 unfold iO dN pQ dN;rw[ae,aNl j z (ay _),ae,gq,show decide (((0:Nat):Int) > 0)=false from rfl,cond_false,ae]
 have e:W*H*S / S=W*H:=ju _ (by have:=j.d.s1;omega)
 rw[e,aSl N (by have:=j.big;omega) j.d.w1 j.d.h1 (aKj j _ (ay _)),ae,ae]
 rfl
end
section
variable {N:Nat} {s:aE} {v:aF} {W H S:Nat} {l:List aK} {A:Nat→Nat→Nat→Pa} {Q:Nat→Nat→Px} (j:Jb N s v W H S l A Q) {b:List (List aC)} {sky:aA} {bv:bD} {gl:List aJ} (hp:∀ x y k,x < W→y < H→k < S→aSA N b s v sky bv gl x y k (A x y k))
include j
theorem aNY(z:Int){n:Nat}(hn:n<=W*H*S)(b2:List aG)(i:aI)(st:aH)(w:aM):bK N b2 b s v z l (n:Int) i s v sky st w=some (((W*H*S - n:Nat):Int)):=by
 have hm:W*H<=64*64:=b9 j.d.w1.2 j.d.h1.2;have hm2:W*H*S<=4096*16:=b9 hm j.d.s1.2;unfold bK cR;rw[ae,aP,j.l.len,j.d.s,<- db,bE (x:=((W*H*S:Nat):Int)) (by omega) (by omega),bE (by omega) (by omega),kx hn]
include hp
theorem do1W(z a2:Int)(ha:a2<=1048576):∀m n k i:Nat,n+m<=W*H*S->m < k->(n+m=W*H*S\/¬((i+m:Nat):Int) < a2)->(∀q,q < m->((i+q:Nat):Int) < a2)->iA N a2 b s v z l s v sky k (tS A l S n) (n:Int) (tI Q l W H (n / S)) (stF (tC A l S n)) (wlk bv gl (I64 (tC A l S n).1)) (i:Int)=some (tS A l S (n+m),((n+m:Nat):Int),tI Q l W H ((n+m) / S),stF (tC A l S (n+m)),wlk bv gl (I64 (tC A l S (n+m)).1),((i+m:Nat):Int)):=by
 have hm:W*H<=64*64:=b9 j.d.w1.2 j.d.h1.2;have hm2:W*H*S<=4096*16:=b9 hm j.d.s1.2;have S1:=j.d.s1;intro m
 induction m with
 | zero=>
  intro n k i h1 h2 h3 _;obtain⟨k,rfl⟩:∃q,k=q+1:=⟨k - 1,by omega⟩
  rw[iA]
  have e:cond (decide ((i:Int) < a2)) (aa (bK N (tS A l S n) b s v z l (n:Int) (tI Q l W H (n / S)) s v sky (stF (tC A l S n)) (wlk bv gl (I64 (tC A l S n).1))) λr10=>some (decide (r10 > 0))) (some false)=some false:=by
   rcases h3 with h3 | h3
   ·rw[aNY j z (by omega),ae,df (show ¬((W*H*S - n:Nat):Int) > 0 by omega)]
    cases decide ((i:Int) < a2) <;> rfl
   ·rw[df (show ¬(i:Int) < a2 by simpa using h3)];rfl
  rw[e]
  rfl
 | succ m ih=>
  intro n k i h1 h2 h3 h4;obtain⟨k,rfl⟩:∃q,k=q+1:=⟨k - 1,by omega⟩
  have hn:n / S < W*H:=(j7 (by omega)).2 (by omega)
  have hr:n % S < S:=ke _ (by omega)
  obtain⟨w,ei,ex,ey,hx,hy⟩:=wxy j.l hn;have h40:=h4 0 (by omega)
  have I:=ih (n+1) k (i+1) (by omega) (by omega) (by rcases h3 with h | h;exact Or.inl (by omega);exact Or.inr (by rw[show i+1+m=i+(m+1) by omega];exact h)) (λq hq=>by rw[show i+1+q=i+(q+1) by omega];exact h4 _ (by omega))
  rw[show n+1+m=n+(m+1) by omega,show i+1+m=i+(m+1) by omega] at I;obtain⟨st',t',ep,hc⟩:=hp _ _ _ hx hy hr (stF (tC A l S n)) (I64 (tC A l S n).1)
  have ec:aRO (tC A l S n) (A (wx l (n / S)) (wy l (n / S)) (n % S)).2=tC A l S (n+1):=rfl;obtain⟨rfl,rfl⟩:=aVN hc;rw[ec] at ep;rw[iA,dt (show(i:Int) < a2 by simpa using h40),cond_true,aNY j z (by omega),ae,dt (show((W*H*S - n:Nat):Int) > 0 by omega),ae,cond_true,j.d.s]
  rw[quoN n S (by omega) (by omega),ae,ei,ae,remN n S (by omega),ae,ex,ey]
  refine Eq.trans (congrArg (λo=>aa o _) ep) ?_;rw[ae]
  dsimp only;rw[dQ (by unfold tS;rw[aOt];simp;omega),ae,aP,bE (x:=((n % S:Nat):Int)+1) (by omega) (by omega),bE (x:=(n:Int)+1) (by omega) (by omega),bE (x:=(i:Int)+1) (by omega) (by omega)]
  have es:tS A l S n++[(A (wx l (n / S)) (wy l (n / S)) (n % S)).1.1]=aFj A (wx l (n / S)) (wy l (n / S)) (n % S+1):=(aSC _ _ _ _).symm;rw[es]
  by_cases c:n % S+1=S
  ·obtain⟨d1,d2⟩:=aVK (by omega) c;rw[show(((n % S:Nat):Int)+1==(S:Int))=true by rw[beq_iff_eq];omega,cond_true,c,(j.q _ _ hx hy).1,ae]
   dsimp only;rw[putT N (by have:=j.big;omega) j.d.w1 j.d.h1 hx hy (aKj j _ (by omega)) (j.q _ _ hx hy).2,ae]
   dsimp only;have i1:tS A l S (n+1)=[]:=by unfold tS;rw[d2];rfl
   have i2:tI Q l W H ((n+1) / S)=uG (tI Q l W H (n / S)) (wy l (n / S)*W+wx l (n / S)) (Q (wx l (n / S)) (wy l (n / S))):=by rw[d1];rfl
   rw[i1,i2] at I;exact I
  ·obtain⟨d1,d2⟩:=aVG (by omega) c;rw[show(((n % S:Nat):Int)+1==(S:Int))=false by rw[beq_eq_false_iff_ne];omega,cond_false]
   have i1:tS A l S (n+1)=aFj A (wx l (n / S)) (wy l (n / S)) (n % S+1):=by unfold tS;rw[d1,d2]
   rw[i1,d1] at I;exact I
theorem doW(z a2:Int)(ha:a2<=1048576){n:Nat}(hn:n<=W*H*S):bZ N (tS A l S n) b a2 s v z l (n:Int) (tI Q l W H (n / S)) s v sky (stF (tC A l S n)) (wlk bv gl (I64 (tC A l S n).1))=some (tS A l S (n+min a2.toNat (W*H*S - n)),((n+min a2.toNat (W*H*S - n):Nat):Int),tI Q l W H ((n+min a2.toNat (W*H*S - n)) / S),stF (tC A l S (n+min a2.toNat (W*H*S - n))),wlk bv gl (I64 (tC A l S (n+min a2.toNat (W*H*S - n))).1),((min a2.toNat (W*H*S - n):Nat):Int)):=by
 have hm:W*H<=64*64:=b9 j.d.w1.2 j.d.h1.2;have hm2:W*H*S<=4096*16:=b9 hm j.d.s1.2;have hN:=j.big;unfold bZ cR;have e:=do1W j hp z a2 ha (min a2.toNat (W*H*S - n)) n N 0 (by omega) (by omega) (by omega) (λq hq=>by omega)
 rw[ae]
 refine Eq.trans (congrArg (λo=>aa o _) e) ?_;rw[ae,cy]
theorem imgW(z:Int)(b2:List aG):fN N b2 b s v z l ((W*H*S:Nat):Int) (tI Q l W H (W*H*S / S)) s v sky (stF (tC A l S (W*H*S))) (wlk bv gl (I64 (tC A l S (W*H*S)).1))=some (tI Q l W H (W*H),aH.mk (I64 (tC A l S (W*H*S)).1) (I64 (tC A l S (W*H*S)).2.1) (I64 (tC A l S (W*H*S)).2.2),0):=by
 unfold fN cR nV cR;rw[ae,aNY j z (ay _),ae,gq,show decide (((0:Nat):Int) > 0)=false from rfl,cond_false,ae]
 have e:W*H*S / S=W*H:=ju _ (by have:=j.d.s1;omega)
 rw[e,aSl N (by have:=j.big;omega) j.d.w1 j.d.h1 (aKj j _ (ay _)),ae,ae]
 rfl
end
theorem aL5(N:Nat)(l:List Int)(hl:l.length < N)(h6:l.length < 4611686018427387904):lI N l l=some true:=by
 have main:T (jW N l l N 0) (λo=>o=Sum.inl ()):=by
  refine T.loopG0 (n:=l.length) (λ_ (_:Unit)=>True) _ (F:=λk (_:Unit) i=>jW N l l k i) (λk _ i hi _ hk=>?_) (λk _ _=>?_) (by omega) (s:=()) trivial
  ·rw[jW,aP,dt (by omega),cond_true,fX,af hi,ae,ae,bne_self_eq_false,cond_false,eZ (by omega)]
   exact hk () trivial
  ·rw[jW,aP,df (by omega),cond_false];exact T.ret rfl
 obtain⟨r,e,rfl⟩:=main;unfold lI;rw[aP,bne_self_eq_false,cond_false,e]
 rfl
theorem eqV_r(v:Vector Int 3):eqV (λa b=>a==b) v v=true:=by
 have h:∀l:List Int,eqL (λa b=>a==b) l l=true:=by
  intro l
  induction l with
  | nil=>rfl
  | cons a l ih=>unfold eqL;rw[ih];simp
 exact h _
theorem aQB(N:Nat)(l:List (Vector Int 3))(hl:l.length < N)(h6:l.length < 4611686018427387904):nA N l l=some true:=by
 have main:T (iP N l l N 0) (λo=>o=Sum.inl ()):=by
  refine T.loopG0 (n:=l.length) (λ_ (_:Unit)=>True) _ (F:=λk (_:Unit) i=>iP N l l k i) (λk _ i hi _ hk=>?_) (λk _ _=>?_) (by omega) (s:=()) trivial
  ·rw[iP,aP,dt (by omega),cond_true,fX,af hi,ae,ae,eqV_r,cu,cond_false,eZ (by omega)]
   exact hk () trivial
  ·rw[iP,aP,df (by omega),cond_false];exact T.ret rfl
 obtain⟨r,e,rfl⟩:=main;unfold nA;rw[aP,bne_self_eq_false,cond_false,e]
 rfl
theorem aPT(v:aH):aH.eq v v=true:=by unfold aH.eq;simp
theorem aVF(N:Nat)(hN:5000 < N){W H:Nat}{a:aI}(h:Img W H a)(hm:W*H<=4096):sL N a a=some true:=by
 have l1:=h.l1;have l2:=h.l2;have l3:=h.l3;have l4:=h.l4;have l5:=h.l5;have l6:=h.l6;unfold sL;rw[aQB N _ (by omega) (by omega),aQB N _ (by omega) (by omega),aL5 N _ (by omega) (by omega),aL5 N _ (by omega) (by omega),aL5 N _ (by omega) (by omega),aL5 N _ (by omega) (by omega),aP]
 simp only[beq_self_eq_true,cond_true,ae]
theorem aMW{x:Int}{W:Nat}(h:eP x 3=(W:Int)):W<=3:=by unfold eP at h;split at h <;> omega
section
variable {N:Nat} {s:aE} {v:aF} {W H S:Nat} {l:List aK} {A:Nat→Nat→Nat→Pa} {Q:Nat→Nat→Px} (j:Jb N s v W H S l A Q) {b:List (List aC)} {sky:aA} {gl:List aJ} (hp:∀ x y k,x < W→y < H→k < S→aRz N b s v sky gl x y k (A x y k))
include j hp
theorem do0S(z a2:Int)(ha:a2<=1048576):cN N [] b a2 s v z l 0 (aDb W H) s v sky (aH.mk 0 0 0) (swp gl 0)=some (tS A l S (min a2.toNat (W*H*S)),((min a2.toNat (W*H*S):Nat):Int),tI Q l W H ((min a2.toNat (W*H*S)) / S),stF (tC A l S (min a2.toNat (W*H*S))),swp gl (I64 (tC A l S (min a2.toNat (W*H*S))).1),((min a2.toNat (W*H*S):Nat):Int)):=by
 have e:=doS j hp z a2 ha (n:=0) (kw _)
 have i1:tS A l S 0=[]:=by unfold tS;rw[kz];rfl
 rw[i1,l0,l7,cy] at e;exact e
theorem doES(z:Int){n:Nat}(hn:n<=W*H*S):∃k:Int,cN N (tS A l S n) b 1048576 s v z l (n:Int) (tI Q l W H (n / S)) s v sky (stF (tC A l S n)) (swp gl (I64 (tC A l S n).1))=some (tS A l S (W*H*S),((W*H*S:Nat):Int),tI Q l W H ((W*H*S) / S),stF (tC A l S (W*H*S)),swp gl (I64 (tC A l S (W*H*S)).1),k):=by
 have hm:W*H<=64*64:=b9 j.d.w1.2 j.d.h1.2;have hm2:W*H*S<=4096*16:=b9 hm j.d.s1.2;have e:=doS j hp z 1048576 (by decide) hn;rw[show n+min (1048576:Int).toNat (W*H*S - n)=W*H*S by simp only[show(1048576:Int).toNat=1048576 from rfl];omega] at e;exact⟨_,e⟩
variable (z:Int) (eT:fM N s v z=some (.inr <| .inl (b,s,sky,swp gl 0,s,l,aDb W H,0)))
include eT
theorem copyS{n:Nat}(hn:n<=W*H*S)(b2:List aG)(i:aI)(st:aH)(w:aL):jG N b2 b s v z l (n:Int) i s v sky st w=some (.inr <| .inl (b,tS A l S n,s,sky,stF (tC A l S n),swp gl (I64 (tC A l S n).1),s,l,(n:Int),tI Q l W H (n / S))):=by
 have hm:W*H<=64*64:=b9 j.d.w1.2 j.d.h1.2;have hm2:W*H*S<=4096*16:=b9 hm j.d.s1.2;unfold jG dN;rw[ae,eT,ae]
 simp only[jY]
 have e:=do0S j hp z (n:Int) (by omega)
 rw[show min (n:Int).toNat (W*H*S)=n by rw[bn];omega] at e;refine Eq.trans (congrArg (λo=>aa o _) e) ?_;rw[ae]
end
theorem lawS{N:Nat}{s s0:aE}{v v0:aF}{W H S:Nat}{l:List aK}{A:Nat->Nat->Nat->Pa}{Q:Nat->Nat->Px}(j:Jb N s v W H S l A Q){b:List (List aC)}{sky:aA}{gl:List aJ}(hp:∀x y k,x < W->y < H->k < S->aRz N b s v sky gl x y k (A x y k))(e0:mU N s0=some s)(e1:mS N v0=some v)(hw:cY N=some true)(eT:fM N s v 2=some (.inr <| .inl (b,s,sky,swp gl 0,s,l,aDb W H,0)))(two:Vector Int 2):fD N s0 v0 two=some true:=by
 have hm:W*H<=64*64:=b9 j.d.w1.2 j.d.h1.2;have hN:=j.big;obtain⟨t0,g0⟩:∃t,idx two.toList 0=some t:=⟨_,aGs two 0 (by decide)⟩
 obtain⟨t1,g1⟩:∃t,idx two.toList 1=some t:=⟨_,aGs two 1 (by decide)⟩
 have tb:∀t:Int,I64 (eg t 8)<=1048576:=λt=>by have h1:=jv t (show(0:Int) < 8 by decide);have h2:=jw t (show(0:Int) < 8 by decide);rw[bE (by omega) (by omega)];omega
 unfold fD;rw[e0,ae,e1,ae,eT,ae]
 simp only[jY,bne_self_eq_false,cond_false,ae,g0,g1]
 rw[do0S j hp 2 _ (tb t0),ae]
 generalize hn:min (I64 (eg t0 8)).toNat (W*H*S)=n;have n1:n<=W*H*S:=by omega
 dsimp only;rw[copyS j hp 2 eT n1,ae]
 simp only[jY]
 rw[aNl j 2 n1,ae,ae]
 simp only[bne_self_eq_false,cond_false]
 rw[ae]
 obtain⟨k,e2⟩:=doES j hp 2 n1;rw[e2,ae]
 dsimp only;rw[aNl j 2 (ay _),ae,ae,aP,gq]
 simp only[bne_self_eq_false,cond_false,kq]
 rw[doS j hp 2 _ (tb t1) n1,ae]
 dsimp only;obtain⟨k2,e3⟩:=doES j hp 2 (n:=n+min (I64 (eg t1 8)).toNat (W*H*S - n)) (by omega)
 rw[e3,ae]
 dsimp only;rw[imgS j hp 2,ae,ae]
 simp only[aP,beq_self_eq_true,cond_true]
 rw[aVF N (by omega) (aKj j _ (ay _)) (by omega),ae,cond_true,aPT,cond_true,hw]
 rfl
section
variable {N:Nat} {s:aE} {v:aF} {W H S:Nat} {l:List aK} {A:Nat→Nat→Nat→Pa} {Q:Nat→Nat→Px} (j:Jb N s v W H S l A Q) {b:List (List aC)} {sky:aA} {bv:bD} {gl:List aJ} (hp:∀ x y k,x < W→y < H→k < S→aSA N b s v sky bv gl x y k (A x y k))
include j hp
theorem do0W(z a2:Int)(ha:a2<=1048576):bZ N [] b a2 s v z l 0 (aDb W H) s v sky (aH.mk 0 0 0) (wlk bv gl 0)=some (tS A l S (min a2.toNat (W*H*S)),((min a2.toNat (W*H*S):Nat):Int),tI Q l W H ((min a2.toNat (W*H*S)) / S),stF (tC A l S (min a2.toNat (W*H*S))),wlk bv gl (I64 (tC A l S (min a2.toNat (W*H*S))).1),((min a2.toNat (W*H*S):Nat):Int)):=by
 have e:=doW j hp z a2 ha (n:=0) (kw _)
 have i1:tS A l S 0=[]:=by unfold tS;rw[kz];rfl
 rw[i1,l0,l7,cy] at e;exact e
theorem doEW(z:Int){n:Nat}(hn:n<=W*H*S):∃k:Int,bZ N (tS A l S n) b 1048576 s v z l (n:Int) (tI Q l W H (n / S)) s v sky (stF (tC A l S n)) (wlk bv gl (I64 (tC A l S n).1))=some (tS A l S (W*H*S),((W*H*S:Nat):Int),tI Q l W H ((W*H*S) / S),stF (tC A l S (W*H*S)),wlk bv gl (I64 (tC A l S (W*H*S)).1),k):=by
 have hm:W*H<=64*64:=b9 j.d.w1.2 j.d.h1.2;have hm2:W*H*S<=4096*16:=b9 hm j.d.s1.2;have e:=doW j hp z 1048576 (by decide) hn;rw[show n+min (1048576:Int).toNat (W*H*S - n)=W*H*S by simp only[show(1048576:Int).toNat=1048576 from rfl];omega] at e;exact⟨_,e⟩
variable (z:Int) (eT:fM N s v z=some (.inr <| .inr (b,s,sky,wlk bv gl 0,s,l,aDb W H,0)))
include eT
theorem copyW{n:Nat}(hn:n<=W*H*S)(b2:List aG)(i:aI)(st:aH)(w:aM):fY N b2 b s v z l (n:Int) i s v sky st w=some (.inr <| .inr (b,tS A l S n,s,sky,stF (tC A l S n),wlk bv gl (I64 (tC A l S n).1),s,l,(n:Int),tI Q l W H (n / S))):=by
 have hm:W*H<=64*64:=b9 j.d.w1.2 j.d.h1.2;have hm2:W*H*S<=4096*16:=b9 hm j.d.s1.2;unfold fY cR;rw[ae,eT,ae]
 simp only[jY]
 have e:=do0W j hp z (n:Int) (by omega)
 rw[show min (n:Int).toNat (W*H*S)=n by rw[bn];omega] at e;refine Eq.trans (congrArg (λo=>aa o _) e) ?_;rw[ae]
end
theorem lawW{N:Nat}{s s0:aE}{v v0:aF}{W H S:Nat}{l:List aK}{A:Nat->Nat->Nat->Pa}{Q:Nat->Nat->Px}(j:Jb N s v W H S l A Q){b:List (List aC)}{sky:aA}{bv:bD}{gl:List aJ}(hp:∀x y k,x < W->y < H->k < S->aSA N b s v sky bv gl x y k (A x y k))(e0:mU N s0=some s)(e1:mS N v0=some v)(hw:cY N=some true)(eT:fM N s v 2=some (.inr <| .inr (b,s,sky,wlk bv gl 0,s,l,aDb W H,0)))(two:Vector Int 2):fD N s0 v0 two=some true:=by
 have hm:W*H<=64*64:=b9 j.d.w1.2 j.d.h1.2;have hN:=j.big;obtain⟨t0,g0⟩:∃t,idx two.toList 0=some t:=⟨_,aGs two 0 (by decide)⟩
 obtain⟨t1,g1⟩:∃t,idx two.toList 1=some t:=⟨_,aGs two 1 (by decide)⟩
 have tb:∀t:Int,I64 (eg t 8)<=1048576:=λt=>by have h1:=jv t (show(0:Int) < 8 by decide);have h2:=jw t (show(0:Int) < 8 by decide);rw[bE (by omega) (by omega)];omega
 unfold fD;rw[e0,ae,e1,ae,eT,ae]
 simp only[jY,bne_self_eq_false,cond_false,ae,g0,g1]
 rw[do0W j hp 2 _ (tb t0),ae]
 generalize hn:min (I64 (eg t0 8)).toNat (W*H*S)=n;have n1:n<=W*H*S:=by omega
 dsimp only;rw[copyW j hp 2 eT n1,ae]
 simp only[jY]
 rw[aNY j 2 n1,ae,ae]
 simp only[bne_self_eq_false,cond_false]
 rw[ae]
 obtain⟨k,e2⟩:=doEW j hp 2 n1;rw[e2,ae]
 dsimp only;rw[aNY j 2 (ay _),ae,ae,aP,gq]
 simp only[bne_self_eq_false,cond_false,kq]
 rw[doW j hp 2 _ (tb t1) n1,ae]
 dsimp only;obtain⟨k2,e3⟩:=doEW j hp 2 (n:=n+min (I64 (eg t1 8)).toNat (W*H*S - n)) (by omega)
 rw[e3,ae]
 dsimp only;rw[imgW j hp 2,ae,ae]
 simp only[aP,beq_self_eq_true,cond_true]
 rw[aVF N (by omega) (aKj j _ (ay _)) (by omega),ae,cond_true,aPT,cond_true,hw]
 rfl
theorem aOr(N:Nat)(hN:1000000000000 < N)(hw:cY N=some true)(s0:aE)(v0:aF)(two:Vector Int 2):fD N s0 v0 two=some true:=by
 obtain⟨s,e0,h0⟩:=fewT2 N (by omega) s0;obtain⟨hf,_,_,hid⟩:=h0;obtain⟨v,e1,v1,v2⟩:∃v,mS N v0=some v/\v.gW=eP v0.gW 3/\v.gH=eP v0.gH 3:=⟨_,rfl,rfl,rfl⟩
 obtain⟨q,eN,hq⟩:=newT N (by omega) s v hf
 match q,eN,hq with
 | .inl e,eN,hq=>
  obtain⟨he,_⟩:=hq;have eT:fM N s v 2=some (.inl e):=by
   unfold fM;rw[eN,ae]
   simp only[jY]
   rw[show(e != 0)=true by simpa using he,cond_true]
  unfold fD;rw[e0,ae,e1,ae,eT,ae]
  simp only[jY]
  rw[show(e != 0)=true by simpa using he]
  simp only[cond_true,ae,hw]
 | .inr (.inr (.inl r)),eN,hq=>
  obtain⟨hr,nv,_⟩:=hq;obtain⟨hc,fit⟩:=aPn nv;obtain⟨obj,lab⟩:=aVM N (by omega) hf hc;obtain⟨W,H,S,hd⟩:=dimV hr.2.2.2.1.view;have w3:W<=3:=aMW (v1.symm.trans hd.w)
  have h3:H<=3:=aMW (v2.symm.trans hd.h)
  obtain⟨l,hl,eT⟩:=jobS (N:=N) (z:=2) (by omega) hf hid lab hd.w hd.h ⟨hd.w1.1,w3⟩ ⟨hd.h1.1,h3⟩ (by decide) (by decide) eN hr;obtain⟨A,hA⟩:=aVR (N:=N) (by omega) hr.2.2.2.1 hr.2.2.2.2.1 hr.2.2.2.2.2.2.1 fit.2 obj hd;obtain⟨Q,hQ⟩:=pxF N (by omega) hid lab (W:=W) (H:=H) hd.s1 (λx y k a b c=>(hA x y k a b c).2.1)
  exact lawS ⟨hN,hd,hl,hQ⟩ (λx y k a b c=>(hA x y k a b c).1) e0 e1 hw eT two
 | .inr (.inr (.inr (.inr r))),eN,hq=>
  obtain⟨hr,nv,_⟩:=hq;obtain⟨hc,fit⟩:=aPn nv;obtain⟨obj,lab⟩:=aVM N (by omega) hf hc;obtain⟨W,H,S,hd⟩:=dimV hr.2.2.2.1.view;have w3:W<=3:=aMW (v1.symm.trans hd.w)
  have h3:H<=3:=aMW (v2.symm.trans hd.h)
  obtain⟨l,hl,eT⟩:=jobW (N:=N) (z:=2) (by omega) hf hid lab hd.w hd.h ⟨hd.w1.1,w3⟩ ⟨hd.h1.1,h3⟩ (by decide) (by decide) eN hr;obtain⟨bv,hbv,ew,htr⟩:=hr.2.2.2.2.1;rw[ew] at eT;obtain⟨A,hA⟩:=aWM (N:=N) hN hr.2.2.2.1 hbv rfl htr hr.2.2.2.2.2.2 fit.2 obj hd;obtain⟨Q,hQ⟩:=pxF N (by omega) hid lab (W:=W) (H:=H) hd.s1 (λx y k a b c=>(hA x y k a b c).2.1)
  exact lawW ⟨hN,hd,hl,hQ⟩ (λx y k a b c=>(hA x y k a b c).1) e0 e1 hw eT two
end Go.UK
