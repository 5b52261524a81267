/- A part of the proof: what the functions of the program compute. -/
import Derived.Test.YtmmabhkichiikaaGreatJ4
open Bool renaming not_true→cx
open Int renaming add_comm→ji,natCast_mul→cg,ofNat_sub→ld,tmod→ga,toNat_natCast→bn
open List renaming all_eq_true→ca,getElem?_eq_getElem→af,getElem?_eq_none→cr,getElem_mem→bh,map_map→le,mem_map→cj,mem_range→fa,nil_append→fc,range→be,replicate→ak
open Nat renaming add_comm→eu,add_mul_div_right→gr,add_mul_mod_self_right→fj,add_zero→lh,div_add_mod→ip,div_eq_of_lt→gj,div_lt_iff_lt_mul→jh,le_refl→ay,min_zero→lg,mod_eq_of_lt→gg,mod_lt→j4,mul_comm→i7,mul_div_cancel→ki,mul_le_mul→ba,mul_one→fk,sub_self→fb,succ_mul→kf,zero_add→cz,zero_div→lf,zero_mod→jj
open Option renaming bind→aa,bind_some→ae
namespace Go.UK
open Go Go.Proofs
set_option maxRecDepth 20000
set_option maxHeartbeats 4000000
set_option linter.all false
structure Img(W H:Nat)(i:aI):Prop where
 w:i.gW=(W:Int)
 h:i.gH=(H:Int)
 l1:i.gB9.length=W*H
 l2:i.gT.length=W*H
 l3:i.gK.length=W*H
 l4:i.gB5.length=W*H
 l5:i.gB8.length=W*H
 l6:i.gR.length=W*H
 r1:∀x∈i.gB9,∀y∈x.toList,rg y
 r2:∀x∈i.gT,rg x
 r3:∀x∈i.gK,rg x
 r4:∀x∈i.gB5,∀y∈x.toList,rg y
 r5:∀x∈i.gB8,rg x
 r6:∀x∈i.gR,rg x
theorem aU4(N:Nat)(l:List (Vector Int 3))(hl:l.length<=4096)(hN:4096 < N)(h:∀x∈l,∀y∈x.toList,rg y):T (aBS N l) (λr=>r.length=l.length*3/\∀x∈r,rg x):=by
 unfold aBS;refine T.bind (P:=λr=>r.length=l.length*3/\∀x∈r,rg x) ?_ λr hr=>T.ret hr;refine T.loopG0 (n:=l.length) (λi (s:List Int)=>s.length=i*3/\∀x∈s,rg x) _ (F:=λk (s:List Int) i=>sQ N l k s i) (λk s i hi hs hk=>?_) (λk s hs=>?_) (by omega) (s:=[]) ⟨by simp,by simp⟩
 ·rw[sQ,aO,dt (by omega),cond_true,eP,af hi,ae]
  have e:xR l[i].toList 0 3=some l[i].toList:=by
   rw[aGe (by decide) (by decide) (by simp)]
   congr 1;rw[List.take_of_length_le (by simp)];rfl
  rw[e,ae,bY (by simp;omega),ae,cW (by omega)]
  refine hk _ ⟨by simp;omega,λx hx=>?_⟩
  rcases List.mem_append.1 hx with h' | h'
  ·exact hs.2 x h'
  ·exact h _ (bh hi) x h'
 ·rw[sQ,aO,df (by omega),cond_false]
  exact T.ret hs
theorem aF8(N:Nat)(a lo hi:Int)(h:lo<=a/\a<=hi):oE N a lo hi=some true:=by
 unfold oE;rw[aO,dt (show a>=lo from h.1),cond_true,dt h.2]
theorem aUk(N:Nat)(p:aU){W H D:Nat}(hN:20000 < N)(hw:p.gW=W)(hh:p.gH=H)(hd:p.gC9=D)(w1:1<=W/\W<=64)(h1:1<=H/\H<=64)(d1:1<=D/\D<=3)(hn:oF N p.gD0=some true)(hl:p.gE1.length=W*H*D)(hr:∀x∈p.gE1,rg x):aB9 N p=some 0:=by
 have hm:W*H<=64*64:=ba w1.2 h1.2;have hm2:W*H*D<=4096*3:=ba hm d1.2;unfold aB9;rw[hw,hh,hd,aF8 N _ _ _ ⟨by omega,by omega⟩,ae,cx,cond_false,aF8 N _ _ _ ⟨by omega,by omega⟩,ae,cx,cond_false,aF8 N _ _ _ ⟨by omega,by omega⟩,ae,ae,cx,cond_false,hn,ae]
 have e1:I64 ((W:Int)*(H:Int))=((W*H:Nat):Int):=by rw[<- cg,bD (by omega) (by omega)]
 have e2:I64 (((W*H:Nat):Int)*(D:Int))=((W*H*D:Nat):Int):=by rw[<- cg,bD (by omega) (by omega)]
 simp only[aO,cx,cond_false,e1,e2,hl,bne_self_eq_false]
 have main:T (oU N ((W*H*D:Nat):Int) p N 0) (λo=>o=Sum.inl ()):=by
  refine T.loopG0 (n:=W*H*D) (λ_ (_:Unit)=>True) _ (F:=λk (_:Unit) i=>oU N ((W*H*D:Nat):Int) p k i) (λk _ i hi _ hk=>?_) (λk _ _=>?_) (by omega) (s:=()) trivial
  ·have hi':i < p.gE1.length:=by omega
   have:=hr _ (bh hi')
   unfold rg at this;rw[oU,dt (by omega),cond_true,eP,af hi',ae,aF8 N _ _ _ this,ae,cx,cond_false,cW (by omega)]
   exact hk () trivial
  ·rw[oU,df (by omega),cond_false];exact T.ret rfl
 obtain⟨r,e,rfl⟩:=main;rw[e]
 rfl
def aDt : Vector aU 6:=#v[aU.mk 0 0 3 aNp [],aU.mk 0 0 1 (ByteArray.mk #[65,76,80,72,65]) [],aU.mk 0 0 1 (ByteArray.mk #[68,69,80,84,72]) [],aU.mk 0 0 3 aNz [],aU.mk 0 0 1 (ByteArray.mk #[65,83,83,69,84]) [],aU.mk 0 0 1 (ByteArray.mk #[76,65,66,69,76]) []]
theorem aMs(N:Nat)(hN:20000 < N){W H:Nat}(w1:1<=W/\W<=64)(h1:1<=H/\H<=64){i:aI}(h:Img W H i):T (aBB N i) (λr=>r.2=0):=by
 have hm:W*H<=64*64:=ba w1.2 h1.2;unfold aBB;refine T.bind (aU4 N _ (by rw[h.l1];omega) (by omega) h.r1) λr1 q1=>T.bind (aU4 N _ (by rw[h.l4];omega) (by omega) h.r4) λr2 q2=>?_;rw[h.l1] at q1;rw[h.l4] at q2;rw[show aEG N=some aDt from rfl,ae]
 obtain⟨k,rfl⟩:=nk (show 20<=N by omega)
 have n0:oF (k+20) aNp=some true:=rfl;have n1:oF (k+20) (ByteArray.mk #[65,76,80,72,65])=some true:=rfl;have n2:oF (k+20) (ByteArray.mk #[68,69,80,84,72])=some true:=rfl;have n3:oF (k+20) aNz=some true:=rfl;have n4:oF (k+20) (ByteArray.mk #[65,83,83,69,84])=some true:=rfl;have n5:oF (k+20) (ByteArray.mk #[76,65,66,69,76])=some true:=rfl;have round:∀(m j:Nat) (kn:Vector aU 6) (e7:aU) (e9:List Int) (D:Nat) (s:List aU),j < 6->idx kn.toList (j:Int)=some e7->(#v[r1,i.gT,i.gK,r2,i.gB8,i.gR]:Vector (List Int) 6).toList[j]? = some e9 ->
   e7.gC9=(D:Int)->(1<=D/\D<=3)->oF (k+20) e7.gD0=some true->e9.length=W*H*D->(∀x∈e9,rg x)->s.length<=6 ->
   ∃s',s'.length=s.length+1/\nK (k+20) kn r1 i r2 (m+1) s (j:Int)=nK (k+20) kn r1 i r2 m s' ((j+1:Nat):Int):=by
  intro m j kn e7 e9 D s hj g1 g2 g3 g4 g5 g6 g7 g8;have hm2:W*H*D<=4096*3:=ba hm g4.2;refine⟨s++[aU.mk i.gW i.gH e7.gC9 e7.gD0 e9],by simp,?_⟩
  rw[nK,dt (by omega),cond_true,g1,ae,aLk (by omega) (by omega),ae,bn,g2,ae,bY (by simp;omega),ae,fc]
  rw[aUk (k+20) (aU.mk i.gW i.gH e7.gC9 e7.gD0 e9) (W:=W) (H:=H) (D:=D) (by omega) h.w h.h g3 w1 h1 g4 g5 g6 g7,ae,bne_self_eq_false,cond_false,bY (by simp;omega),ae,cW (by omega)]
 have hl:∀D:Nat,D=1->W*H*D=W*H:=λD h=>by rw[h,fk]
 obtain⟨s0,z0,e0⟩:=round (k+19) 0 aDt (aU.mk 0 0 3 aNp []) r1 3 [] (by decide) rfl rfl rfl (by decide) n0 q1.1 q1.2 (by simp)
 obtain⟨s1,z1,e1⟩:=round (k+18) 1 aDt (aU.mk 0 0 1 (ByteArray.mk #[65,76,80,72,65]) []) i.gT 1 s0 (by decide) rfl rfl rfl (by decide) n1 (by rw[fk];exact h.l2) h.r2 (by simp at z0;omega)
 obtain⟨s2,z2,e2⟩:=round (k+17) 2 aDt (aU.mk 0 0 1 (ByteArray.mk #[68,69,80,84,72]) []) i.gK 1 s1 (by decide) rfl rfl rfl (by decide) n2 (by rw[fk];exact h.l3) h.r3 (by simp at z0;omega)
 obtain⟨s3,z3,e3⟩:=round (k+16) 3 aDt (aU.mk 0 0 3 aNz []) r2 3 s2 (by decide) rfl rfl rfl (by decide) n3 q2.1 q2.2 (by simp at z0;omega)
 obtain⟨s4,z4,e4⟩:=round (k+15) 4 aDt (aU.mk 0 0 1 (ByteArray.mk #[65,83,83,69,84]) []) i.gB8 1 s3 (by decide) rfl rfl rfl (by decide) n4 (by rw[fk];exact h.l5) h.r5 (by simp at z0;omega)
 obtain⟨s5,z5,e5⟩:=round (k+14) 5 aDt (aU.mk 0 0 1 (ByteArray.mk #[76,65,66,69,76]) []) i.gR 1 s4 (by decide) rfl rfl rfl (by decide) n5 (by rw[fk];exact h.l6) h.r6 (by simp at z0;omega)
 have e:nK (k+20) aDt r1 i r2 (k+20) [] 0=some (Sum.inl s5):=(e0.trans (e1.trans (e2.trans (e3.trans (e4.trans (e5.trans rfl))))))
 exact T.eq e ⟨_,rfl,rfl⟩
theorem chk1(N:Nat)(hN:20000 < N){W H:Nat}(w1:1<=W/\W<=64)(h1:1<=H/\H<=64){i:aI}(h:Img W H i):pX N [i]=some 0:=by
 obtain⟨r,e,hr⟩:=aMs N hN w1 h1 h;obtain⟨k,rfl⟩:=nk (show 3<=N by omega)
 unfold pX;have:lF (k+3) [i] (k+3) 0=some (Sum.inl ()):=by
  rw[lF,aO,dt (by simp),cond_true,show idx [i] 0=some i from rfl,ae,e,ae,hr,bne_self_eq_false,cond_false]
  rfl
 rw[this]
 rfl
theorem chk2(N:Nat)(hN:20000 < N){W H W' H':Nat}(w1:1<=W/\W<=64)(h1:1<=H/\H<=64)(w2:1<=W'/\W'<=64)(h2:1<=H'/\H'<=64){i j:aI}(h:Img W H i)(hj:Img W' H' j):pX N [i,j]=some 0:=by
 obtain⟨r,e,hr⟩:=aMs N hN w1 h1 h;obtain⟨r',e',hr'⟩:=aMs N hN w2 h2 hj;obtain⟨k,rfl⟩:=nk (show 3<=N by omega)
 unfold pX;have:lF (k+3) [i,j] (k+3) 0=some (Sum.inl ()):=by
  rw[lF,aO,dt (by simp),cond_true,show idx [i,j] 0=some i from rfl,ae,e,ae,hr,bne_self_eq_false,cond_false,show I64 ((0:Int)+1)=1 from rfl]
  rw[lF,aO,dt (by simp),cond_true,show idx [i,j] 1=some j from rfl,ae,e',ae,hr',bne_self_eq_false,cond_false]
  rfl
 rw[this]
 rfl
def rY(i:aI)(j:Nat)(p:Px):aI:=aI.mk i.gW i.gH (i.gB9.set j p.1) (i.gT.set j p.2.1) (i.gK.set j p.2.2.1) (i.gB5.set j p.2.2.2.1) (i.gB8.set j p.2.2.2.2.1) (i.gR.set j p.2.2.2.2.2)
theorem pxImg{n:Nat}{p:Px}(h:aRQ n p):Img 1 1 (pxI p):=by
 obtain⟨a,b,c,d,e,f,_⟩:=h;constructor <;> first | rfl | (intro x hx;simp only[pxI,List.mem_singleton] at hx;subst hx;assumption)
theorem aWR{W H n:Nat}{i:aI}(h:Img W H i)(j:Nat){p:Px}(hp:aRQ n p):Img W H (rY i j p):=by
 obtain⟨a,b,c,d,e,f,_⟩:=hp;have m:∀{α:Type} {l:List α} {y:α} {P:α->Prop},(∀x∈l,P x)->P y->∀x∈l.set j y,P x:=by
  intro α l y P h1 h2 x hx;rcases List.mem_or_eq_of_mem_set hx with h' | h'
  ·exact h1 x h'
  ·rw[h'];exact h2
 exact⟨h.w,h.h,by simp[rY,h.l1],by simp[rY,h.l2],by simp[rY,h.l3],by simp[rY,h.l4],by simp[rY,h.l5],by simp[rY,h.l6],m h.r1 a,m h.r2 b,m h.r3 c,m h.r4 d,m h.r5 e,m h.r6 f⟩
theorem putT(N:Nat)(hN:20000 < N){W H n x y:Nat}(w1:1<=W/\W<=64)(h1:1<=H/\H<=64)(hx:x < W)(hy:y < H){i:aI}(h:Img W H i){p:Px}(hp:aRQ n p):aBO N i (pxI p) (x:Int) (y:Int)=some (rY i (y*W+x) p,0):=by
 have hm:W*H<=64*64:=ba w1.2 h1.2;have hj:y*W+x < W*H:=by
  have:y*W+W<=H*W:=by rw[<- kf];exact Nat.mul_le_mul_right _ hy
  rw[i7 W H];omega
 have hyW:y*W<=W*H:=by omega
 unfold aBO;rw[chk2 N hN w1 h1 ⟨by decide,by decide⟩ ⟨by decide,by decide⟩ h (pxImg hp),ae,bne_self_eq_false,cond_false]
 have wi:aAC N i (x:Int) (y:Int) (pxI p).gW (pxI p).gH=some true:=by
  unfold aAC;simp only[aO]
  show some (cond (cond (cond (cond (cond (decide (dO (x:Int) (y:Int)>=0)) (decide (dO 1 1>=1)) false) (decide ((1:Int)<=i.gW)) false) (decide ((1:Int)<=i.gH)) false) (decide ((x:Int)<=I64 (i.gW - 1))) false) (decide ((y:Int)<=I64 (i.gH - 1))) false)=some true;rw[h.w,h.h,bD (by omega) (by omega),bD (by omega) (by omega),dt (show dO (x:Int) (y:Int)>=0 by unfold dO;split <;> omega),dt (show dO 1 1>=1 by decide),dt (show(1:Int)<=W by omega),dt (show(1:Int)<=H by omega),dt (show(x:Int)<=(W:Int) - 1 by omega),dt (show(y:Int)<=(H:Int) - 1 by omega)]
  rfl
 rw[wi,ae,cx,cond_false]
 have cp:uS N i=some (i.gB9,i.gT,i.gK,i.gB5,i.gB8,i.gR):=by
  unfold uS cS bT;rw[bY (by simp[h.l1];omega),bY (by simp[h.l2];omega),bY (by simp[h.l3];omega),bY (by simp[h.l4];omega),bY (by simp[h.l5];omega),bY (by simp[h.l6];omega)]
  rfl
 rw[cp,ae]
 obtain⟨k,rfl⟩:=nk (show 3<=N by omega)
 have so:∀{α:Type} (l:List α) (e:α),l.length=W*H->aC3 l (y*W+x) e=some (l.set (y*W+x) e):=by
  intro α l e hl;unfold aC3;rw[show Nat.blt (y*W+x) l.length=Bool.true by rw[Nat.blt_eq,hl];exact hj]
  rfl
 have ir:∀{α:Type} (l:List α),l.length=W*H->dS ((y*W+x:Nat):Int) l.length=some ():=λl hl=>aLk (by omega) (by rw[hl];omega)
 have mv:uO (k+3) i.gB9 i.gT i.gK i.gB5 i.gB8 i.gR ((y*W+x:Nat):Int) (pxI p) 0 i.gW i.gH=some ((rY i (y*W+x) p).gB9,(rY i (y*W+x) p).gT,(rY i (y*W+x) p).gK,(rY i (y*W+x) p).gB5,(rY i (y*W+x) p).gB8,(rY i (y*W+x) p).gR):=by
  unfold uO;rw[show idx (pxI p).gB9 0=some p.1 from rfl,show idx (pxI p).gT 0=some p.2.1 from rfl,show idx (pxI p).gK 0=some p.2.2.1 from rfl,show idx (pxI p).gB5 0=some p.2.2.2.1 from rfl,show idx (pxI p).gB8 0=some p.2.2.2.2.1 from rfl,show idx (pxI p).gR 0=some p.2.2.2.2.2 from rfl]
  simp only[ae,bn,ir _ h.l1,ir _ h.l2,ir _ h.l3,ir _ h.l4,ir _ h.l5,ir _ h.l6,so _ _ h.l1,so _ _ h.l2,so _ _ h.l3,so _ _ h.l4,so _ _ h.l5,so _ _ h.l6]
  rfl
 have lp:vW (k+3) (pxI p) (y:Int) i (x:Int) (k+3) i.gB9 i.gT i.gK i.gB5 i.gB8 i.gR 0=some ((rY i (y*W+x) p).gB9,(rY i (y*W+x) p).gT,(rY i (y*W+x) p).gK,(rY i (y*W+x) p).gB5,(rY i (y*W+x) p).gB8,(rY i (y*W+x) p).gR):=by
  rw[vW,aO,show decide ((0:Int) < I64 ((pxI p).gW*(pxI p).gH))=Bool.true from rfl,cond_true,show aDp .i64 0 (pxI p).gW=some 0 from rfl,ae,aO,show aDq .i64 0 (pxI p).gW=some 0 from rfl,ae,aO]
  have e:I64 (I64 (I64 (I64 ((y:Int)+0)*i.gW)+(x:Int))+0)=((y*W+x:Nat):Int):=by
   simp only[Int.add_zero]
   rw[h.w,bD (x:=(y:Int)) (by omega) (by omega),<- cg,bD (x:=((y*W:Nat):Int)) (by omega) (by omega),<- Int.natCast_add,bD (x:=((y*W+x:Nat):Int)) (by omega) (by omega),bD (by omega) (by omega)]
  rw[e,mv,ae]
  rfl
 rw[lp,ae]
 rfl
theorem aTK(N:Nat)(hN:20000 < N){W H:Nat}(w1:1<=W/\W<=64)(h1:1<=H/\H<=64){i:aI}(h:Img W H i):yQ N [i]=some (i,0):=by
 have hm:W*H<=64*64:=ba w1.2 h1.2;have c:=chk1 N hN w1 h1 h;have cp:∀N,vS N i=some i:=by
  intro N;unfold vS cS bT;rw[bY (by simp[h.l1];omega),bY (by simp[h.l2];omega),bY (by simp[h.l3];omega),bY (by simp[h.l4];omega),bY (by simp[h.l5];omega),bY (by simp[h.l6];omega)]
  rfl
 obtain⟨k,rfl⟩:=nk (show 3<=N by omega)
 unfold yQ;rw[uD,aBY]
 simp only[aO]
 show aa (pX (k+3) [i]) _=_;rw[c,ae,bne_self_eq_false,cond_false]
 show aa (vS (k+3) i) _=_;rw[cp]
 rfl
structure aBV(W H:Nat)(l:List aM):Prop where
 rng:∀w∈l,∃x y:Nat,w.gx=(x:Int)/\w.gy=(y:Int)/\x < W/\y < H
 cov:(l.map λw=>(w.gx.toNat,w.gy.toNat)).Perm ((be (W*H)).map λj=>(j % W,j / W))
theorem aBV.len{W H:Nat}{l:List aM}(h:aBV W H l):l.length=W*H:=by have:=h.cov.length_eq;simpa using this
def aPp(W H:Nat):Option (List aM)->Bool
 | none=>false
 | some l=>l.all (λw=>decide (0<=w.gx/\w.gx < (W:Int)/\0<=w.gy/\w.gy < (H:Int)))&&(l.map λw=>(w.gx.toNat,w.gy.toNat)).isPerm ((be (W*H)).map λj=>(j % W,j / W))
theorem aJk{W H:Nat}{o:Option (List aM)}(h:aPp W H o=true):∃l,o=some l/\aBV W H l:=by
 cases o with
 | none=>cases h
 | some l=>
  simp only[aPp,Bool.and_eq_true,ca,decide_eq_true_eq] at h;obtain⟨h2,h3⟩:=h;refine⟨l,rfl,λw hw=>?_,List.isPerm_iff.1 h3⟩
  obtain⟨a,b,c,d⟩:=h2 w hw;exact⟨w.gx.toNat,w.gy.toNat,by omega,by omega,by omega,by omega⟩
def zsT : List Nat:=(be 64).map (·+1)
section
variable (k:Nat) (b4:List aH) (b6:List (List aC)) (a6:aE) (a7:aG) (a8 a9:Int) (a10:aI) (a11:aE) (a12:aG) (a13:aA) (a14:aF)
theorem aWy(a15:aK):((be 3).all λw=>(be 3).all λh=>zsT.all λz=>aPp (w+1) (h+1) (eD (k+20) [] b4 b6 ((h+1:Nat):Int) ((z:Nat):Int) ((w+1:Nat):Int) a6 a7 a8 a9 a10 a11 a12 a13 a14 a15))=true:=by kernel_rfl
theorem aWq(a15:aL):((be 3).all λw=>(be 3).all λh=>zsT.all λz=>aPp (w+1) (h+1) (dX (k+20) [] b4 b6 ((h+1:Nat):Int) ((z:Nat):Int) ((w+1:Nat):Int) a6 a7 a8 a9 a10 a11 a12 a13 a14 a15))=true:=by kernel_rfl
end
theorem todoS{N W H z:Nat}(hN:20<=N)(hW:1<=W/\W<=3)(hH:1<=H/\H<=3)(hz:z∈zsT)(b4:List aH)(b6:List (List aC))(a6:aE)(a7:aG)(a8 a9:Int)(a10:aI)(a11:aE)(a12:aG)(a13:aA)(a14:aF)(a15:aK) :
  ∃l,eD N [] b4 b6 (H:Int) (z:Int) (W:Int) a6 a7 a8 a9 a10 a11 a12 a13 a14 a15=some l/\aBV W H l:=by
 obtain⟨k,rfl⟩:=nk hN;have h:=aWy k b4 b6 a6 a7 a8 a9 a10 a11 a12 a13 a14 a15;simp only[ca,fa] at h;have:=h (W - 1) (by omega) (H - 1) (by omega) z hz;rw[show W - 1+1=W by omega,show H - 1+1=H by omega] at this;exact aJk this
theorem todoW{N W H z:Nat}(hN:20<=N)(hW:1<=W/\W<=3)(hH:1<=H/\H<=3)(hz:z∈zsT)(b4:List aH)(b6:List (List aC))(a6:aE)(a7:aG)(a8 a9:Int)(a10:aI)(a11:aE)(a12:aG)(a13:aA)(a14:aF)(a15:aL) :
  ∃l,dX N [] b4 b6 (H:Int) (z:Int) (W:Int) a6 a7 a8 a9 a10 a11 a12 a13 a14 a15=some l/\aBV W H l:=by
 obtain⟨k,rfl⟩:=nk hN;have h:=aWq k b4 b6 a6 a7 a8 a9 a10 a11 a12 a13 a14 a15;simp only[ca,fa] at h;have:=h (W - 1) (by omega) (H - 1) (by omega) z hz;rw[show W - 1+1=W by omega,show H - 1+1=H by omega] at this;exact aJk this
theorem aPl(N:Nat)(hN:20 < N){s:aE}(h:few s)(hid:s.gJ.length<=20)(hlab:s.gS.length=s.gJ.length):tU N s=some s:=by
 obtain⟨h1,h2,h3,h4,h5⟩:=h;unfold tU eU hJ jV nA nN;rw[bY (by simp;omega),bY (by simp;omega),bY (by simp;omega),bY (by simp;omega),bY (by simp;omega)]
 simp only[ae,fc,aO]
 have main:T (kO N (s.gQ.length:Int) s N [] 0) (λr=>r=s.gQ):=by
  refine T.loopG0 (n:=s.gQ.length) (λi (l:List aC)=>l=s.gQ.take i) _ (F:=λk (l:List aC) i=>kO N (s.gQ.length:Int) s k l i) (λk l i hi hl hk=>?_) (λk l hl=>?_) (by omega) (s:=[]) (by simp)
  ·have t5:=h5 _ (bh hi)
   rw[kO,dt (by omega),cond_true,eP,af hi,ae]
   unfold eY;rw[bY (by simp;omega),ae,ae,fc,bY (by rw[hl];simp;omega),ae,cW (by omega)]
   refine hk _ ?_;rw[hl,List.take_succ_eq_append_getElem hi]
  ·rw[kO,df (by omega),cond_false]
   exact T.ret (by rw[hl];simp)
 obtain⟨r,e,rfl⟩:=main;rw[e]
 rfl
def aAk(W H:Nat):aI:=aI.mk W H (ak (W*H) #v[0,0,0]) (ak (W*H) 0) (ak (W*H) 0) (ak (W*H) #v[0,0,0]) (ak (W*H) 0) (ak (W*H) 0)
theorem aM9(W H:Nat):Img W H (aAk W H):=by
 have z:rg 0:=by unfold rg;omega
 constructor <;> first | rfl | (simp[aAk];done) | (intro x hx;rw[List.eq_of_mem_replicate hx];first | exact z | (intro y hy;simp at hy;subst hy;exact z))
theorem aTF(N:Nat){W H:Nat}(w1:1<=W/\W<=64)(h1:1<=H/\H<=64):yM N (W:Int) (H:Int)=some (aAk W H,0):=by
 have hm:W*H<=64*64:=ba w1.2 h1.2;have e:I64 ((W:Int)*(H:Int))=((W*H:Nat):Int):=by rw[<- cg,bD (by omega) (by omega)]
 have mk:∀b:Nat,b<=100->mkO b ((W*H:Nat):Int)=some ():=by
  intro b hb;have h2:((W*H:Nat):Int)*(b:Int)<=140737488355328:=by
   have:W*H*b<=4096*100:=ba hm hb;rw[<- cg];omega
  unfold mkO;rw[dt (by omega),dt (show((W*H:Nat):Int)<=140737488355328 by omega),dt h2]
  rfl
 have ln:∀{α:Type} (z:α) (n:Nat),yS (ak n z) n=some ():=by
  intro α z n;unfold yS;rw[List.length_replicate];simp
 unfold yM;simp only[aO]
 rw[df (show ¬dO (W:Int) H < 1 by unfold dO;split <;> omega),df (show ¬jB (W:Int) H > 64 by unfold jB;split <;> omega),cond_false,cond_false]
 unfold aDY mU;rw[e,mk 24 (by omega),mk 8 (by omega)]
 simp only[ae,bn,ln]
 rfl
theorem jobS{N W H z:Nat}(hN:20 < N){s:aE}{v:aG}(hf:few s)(hid:s.gJ.length<=20)(hlab:s.gS.length=s.gJ.length)(hw:v.gW=(W:Int))(hh:v.gH=(H:Int))(w1:1<=W/\W<=3)(h1:1<=H/\H<=3)(hz:z∈zsT)(hz1:1<=z/\z<=64)
  {r:(List aJ)×(List aN)×(List aQ)×(List (List aC))×aA×(List aJ)×Int} (e:jX N s v=some (.inr (.inr (.inl r)))) (hn:newS s v r) :
  ∃l,aBV W H l/\jD N s v (z:Int)=some (.inr (.inl (r.2.2.2.1,s,r.2.2.2.2.1,swp r.2.2.2.2.2.1 0,s,l,aAk W H,0))):=by
 obtain⟨A1,B1,D1,b,sky,gl,e1⟩:=r;obtain⟨rfl,rfl,rfl,_,_,he,_⟩:=hn;dsimp only at he ⊢;subst he;obtain⟨l,el,hl⟩:=todoS (N:=N) (by omega) w1 h1 hz [] b s v (z:Int) 0 (aI.mk 0 0 [] [] [] [] [] []) s v sky (aF.mk 0 0 0) (aK.mk (fD.mk 0) true gl)
 refine⟨l,hl,?_⟩
 unfold jD;rw[e,ae]
 simp only[kG,bne_self_eq_false,cond_false]
 have bt:fQ N (z:Int)=some true:=by unfold fQ;rw[aO,dt (show(z:Int)>=1 by omega),cond_true,dt (show(z:Int)<=64 by omega)]
 rw[bt,ae,cx,cond_false,aPl N hN hf hid hlab,ae,show sD N v.gW v.gH (z:Int)=some () from rfl,ae,hw,hh]
 refine Eq.trans (congrArg (λo=>aa o _) el) ?_;rw[ae,aTF N ⟨w1.1,by omega⟩ ⟨h1.1,by omega⟩,ae]
 rfl
theorem jobW{N W H z:Nat}(hN:20 < N){s:aE}{v:aG}(hf:few s)(hid:s.gJ.length<=20)(hlab:s.gS.length=s.gJ.length)(hw:v.gW=(W:Int))(hh:v.gH=(H:Int))(w1:1<=W/\W<=3)(h1:1<=H/\H<=3)(hz:z∈zsT)(hz1:1<=z/\z<=64)
  {r:(List aJ)×(List aN)×(List aQ)×(List (List aC))×aA×aL×Int} (e:jX N s v=some (.inr (.inr (.inr (.inr r))))) (hn:newW s v r) :
  ∃l,aBV W H l/\jD N s v (z:Int)=some (.inr (.inr (r.2.2.2.1,s,r.2.2.2.2.1,r.2.2.2.2.2.1,s,l,aAk W H,0))):=by
 obtain⟨A1,B1,D1,b,sky,w,e1⟩:=r;obtain⟨rfl,rfl,rfl,_,_,he,_⟩:=hn;dsimp only at he ⊢;subst he;obtain⟨l,el,hl⟩:=todoW (N:=N) (by omega) w1 h1 hz [] b s v (z:Int) 0 (aI.mk 0 0 [] [] [] [] [] []) s v sky (aF.mk 0 0 0) w;refine⟨l,hl,?_⟩
 unfold jD;rw[e,ae]
 simp only[kG,bne_self_eq_false,cond_false]
 have bt:fQ N (z:Int)=some true:=by unfold fQ;rw[aO,dt (show(z:Int)>=1 by omega),cond_true,dt (show(z:Int)<=64 by omega)]
 rw[bt,ae,cx,cond_false,aPl N hN hf hid hlab,ae,show sD N v.gW v.gH (z:Int)=some () from rfl,ae,hw,hh]
 refine Eq.trans (congrArg (λo=>aa o _) el) ?_;rw[ae,aTF N ⟨w1.1,by omega⟩ ⟨h1.1,by omega⟩,ae]
def wx(l:List aM)(p:Nat):Nat:=match l[p]? with | some w=>w.gx.toNat | none=>0
def wy(l:List aM)(p:Nat):Nat:=match l[p]? with | some w=>w.gy.toNat | none=>0
theorem wxy{W H:Nat}{l:List aM}(h:aBV W H l){p:Nat}(hp:p < W*H):∃w,idx l (p:Int)=some w/\w.gx=(wx l p:Int)/\w.gy=(wy l p:Int)/\wx l p < W/\wy l p < H:=by
 have hp':p < l.length:=by rw[h.len];exact hp
 obtain⟨x,y,a,b,c,d⟩:=h.rng _ (bh hp')
 refine⟨l[p],by rw[eP,af hp'],?_⟩
 unfold wx wy;rw[af hp']
 dsimp only;rw[a,b]
 exact⟨rfl,rfl,c,d⟩
def tA(A:Nat->Nat->Nat->Pa)(l:List aM)(S n:Nat):Pa:=A (wx l (n / S)) (wy l (n / S)) (n % S)
def tS(A:Nat->Nat->Nat->Pa)(l:List aM)(S n:Nat):List aH:=aDr A (wx l (n / S)) (wy l (n / S)) (n % S)
def tC(A:Nat->Nat->Nat->Pa)(l:List aM)(S n:Nat):C3:=zO (λj=>(tA A l S j).2) n
def tI(Q:Nat->Nat->Px)(l:List aM)(W H:Nat):Nat->aI
 | 0=>aAk W H
 | p+1=>rY (tI Q l W H p) (wy l p*W+wx l p) (Q (wx l p) (wy l p))
def stF(c:C3):aF:=aF.mk 0 (I64 c.2.1) (I64 c.2.2)
theorem aPs{c d:C3}{st':aF}{t':Int}(h:Cnt (stF c) (I64 c.1) st' t' d):st'=stF (tM c d)/\t'=I64 (tM c d).1:=by
 obtain⟨a,b,e,f⟩:=h;have e1:=aPM b (cG _)
 have e2:=aPM e (cG _)
 have e3:=aPM f (cG _)
 have a1:∀x y:Int,I64 (I64 x+y)=I64 (x+y):=λx y=>by rw[vR,vR,vR];omega
 obtain⟨w,t,g⟩:=st';simp only at a e2 e3;refine⟨?_,by rw[e1];exact a1 _ _⟩
 unfold stF;rw[a,e2,e3]
 show aF.mk 0 (I64 (I64 c.2.1+d.2.1)) (I64 (I64 c.2.2+d.2.2))=_;rw[a1,a1]
 rfl
structure Jb(N:Nat)(s:aE)(v:aG)(W H S:Nat)(l:List aM)(A:Nat->Nat->Nat->Pa)(Q:Nat->Nat->Px):Prop where
 big:1000000000000 < N
 d:Dim v W H S
 l:aBV W H l
 q:PxF N s A W H S Q
theorem aKi{N:Nat}{s:aE}{v:aG}{W H S:Nat}{l:List aM}{A:Nat->Nat->Nat->Pa}{Q:Nat->Nat->Px}(j:Jb N s v W H S l A Q):∀p,p<=W*H->Img W H (tI Q l W H p):=by
 intro p
 induction p with
 | zero=>exact λ_=>aM9 W H
 | succ p ih=>
  intro hp;obtain⟨w,_,_,_,x,y⟩:=wxy j.l (p:=p) (by omega)
  exact aWR (ih (by omega)) _ (j.q _ _ x y).2
theorem quoN(n S:Nat)(hS:1<=S)(hn:n < 1000000):aDp .i64 (n:Int) (S:Int)=some ((n / S:Nat):Int):=by
 have:n / S<=n:=Nat.div_le_self _ _;unfold aDp;rw[df (show ¬(S:Int)=0 by omega)]
 show some (I64 (Int.tdiv (n:Int) (S:Int)))=_;rw[<- Int.ofNat_tdiv]
 generalize n / S=q at *;rw[bD (by omega) (by omega)]
theorem remN(n S:Nat)(hS:1<=S):aDq .i64 (n:Int) (S:Int)=some ((n % S:Nat):Int):=by
 unfold aDq;rw[df (show ¬(S:Int)=0 by omega)]
 show some (ga (n:Int) (S:Int))=_;rw[<- Int.ofNat_tmod]
theorem aU8{n S:Nat}(hS:1<=S)(c:n % S+1=S):(n+1) / S=n / S+1/\(n+1) % S=0:=by
 have e:n+1=S*(n / S+1):=by rw[Nat.mul_add,fk];have:=ip n S;omega
 exact⟨by rw[e,Nat.mul_div_cancel_left _ (by omega)],by rw[e,Nat.mul_mod_right]⟩
theorem aVa{n S:Nat}(hS:1<=S)(c:¬n % S+1=S):(n+1) / S=n / S/\(n+1) % S=n % S+1:=by
 have hr:n % S < S:=j4 _ (by omega)
 have e:n+1=n % S+1+S*(n / S):=by have:=ip n S;omega
 exact⟨Eq.trans (congrArg (· / S) e) (by rw[Nat.add_mul_div_left _ _ (by omega),gj (by omega),cz]),Eq.trans (congrArg (· % S) e) (by rw[Nat.add_mul_mod_self_left,gg (by omega)])⟩
section
variable {N:Nat} {s:aE} {v:aG} {W H S:Nat} {l:List aM} {A:Nat→Nat→Nat→Pa} {Q:Nat→Nat→Px} (j:Jb N s v W H S l A Q) {b:List (List aC)} {sky:aA} {gl:List aJ} (hp:∀ x y k,x < W→y < H→k < S→aMH N b s v sky gl x y k (A x y k))
include j
theorem aMz(z:Int){n:Nat}(hn:n<=W*H*S)(b2:List aH)(i:aI)(st:aF)(w:aK):jT N b2 b s v z l (n:Int) i s v sky st w=some (((W*H*S - n:Nat):Int)):=by
 have hm:W*H<=64*64:=ba j.d.w1.2 j.d.h1.2;have hm2:W*H*S<=4096*16:=ba hm j.d.s1.2;unfold jT fM;rw[ae,aO,j.l.len,j.d.s,<- cg,bD (x:=((W*H*S:Nat):Int)) (by omega) (by omega),bD (by omega) (by omega),ld hn]
include hp
theorem do1S(z a2:Int)(ha:a2<=1048576):∀m n k i:Nat,n+m<=W*H*S->m < k->(n+m=W*H*S\/¬((i+m:Nat):Int) < a2)->(∀q,q < m->((i+q:Nat):Int) < a2)->iJ N a2 b s v z l s v sky k (tS A l S n) (n:Int) (tI Q l W H (n / S)) (stF (tC A l S n)) (swp gl (I64 (tC A l S n).1)) (i:Int)=some (tS A l S (n+m),((n+m:Nat):Int),tI Q l W H ((n+m) / S),stF (tC A l S (n+m)),swp gl (I64 (tC A l S (n+m)).1),((i+m:Nat):Int)):=by
 have hm:W*H<=64*64:=ba j.d.w1.2 j.d.h1.2;have hm2:W*H*S<=4096*16:=ba hm j.d.s1.2;have S1:=j.d.s1;intro m
 induction m with
 | zero=>
  intro n k i h1 h2 h3 _;obtain⟨k,rfl⟩:∃q,k=q+1:=⟨k - 1,by omega⟩
  rw[iJ]
  have e:cond (decide ((i:Int) < a2)) (aa (jT N (tS A l S n) b s v z l (n:Int) (tI Q l W H (n / S)) s v sky (stF (tC A l S n)) (swp gl (I64 (tC A l S n).1))) λr10=>some (decide (r10 > 0))) (some false)=some false:=by
   rcases h3 with h3 | h3
   ·rw[aMz j z (by omega),ae,df (show ¬((W*H*S - n:Nat):Int) > 0 by omega)]
    cases decide ((i:Int) < a2) <;> rfl
   ·rw[df (show ¬(i:Int) < a2 by simpa using h3)];rfl
  rw[e]
  rfl
 | succ m ih=>
  intro n k i h1 h2 h3 h4;obtain⟨k,rfl⟩:∃q,k=q+1:=⟨k - 1,by omega⟩
  have hn:n / S < W*H:=(jh (by omega)).2 (by omega)
  have hr:n % S < S:=j4 _ (by omega)
  obtain⟨w,ei,ex,ey,hx,hy⟩:=wxy j.l hn;have h40:=h4 0 (by omega)
  have I:=ih (n+1) k (i+1) (by omega) (by omega) (by rcases h3 with h | h;exact Or.inl (by omega);exact Or.inr (by rw[show i+1+m=i+(m+1) by omega];exact h)) (λq hq=>by rw[show i+1+q=i+(q+1) by omega];exact h4 _ (by omega))
  rw[show n+1+m=n+(m+1) by omega,show i+1+m=i+(m+1) by omega] at I;obtain⟨st',t',ep,hc⟩:=hp _ _ _ hx hy hr (stF (tC A l S n)) (I64 (tC A l S n).1)
  have ec:tM (tC A l S n) (A (wx l (n / S)) (wy l (n / S)) (n % S)).2=tC A l S (n+1):=rfl;obtain⟨rfl,rfl⟩:=aPs hc;rw[ec] at ep;rw[iJ,dt (show(i:Int) < a2 by simpa using h40),cond_true,aMz j z (by omega),ae,dt (show((W*H*S - n:Nat):Int) > 0 by omega),ae,cond_true,j.d.s]
  rw[quoN n S (by omega) (by omega),ae,ei,ae,remN n S (by omega),ae,ex,ey]
  refine Eq.trans (congrArg (λo=>aa o _) ep) ?_;rw[ae]
  dsimp only;rw[bY (by unfold tS;rw[aJZ];simp;omega),ae,aO,bD (x:=((n % S:Nat):Int)+1) (by omega) (by omega),bD (x:=(n:Int)+1) (by omega) (by omega),bD (x:=(i:Int)+1) (by omega) (by omega)]
  have es:tS A l S n++[(A (wx l (n / S)) (wy l (n / S)) (n % S)).1.1]=aDr A (wx l (n / S)) (wy l (n / S)) (n % S+1):=(aMp _ _ _ _).symm;rw[es]
  by_cases c:n % S+1=S
  ·obtain⟨d1,d2⟩:=aU8 (by omega) c;rw[show(((n % S:Nat):Int)+1==(S:Int))=true by rw[beq_iff_eq];omega,cond_true,c,(j.q _ _ hx hy).1,ae]
   dsimp only;rw[putT N (by have:=j.big;omega) j.d.w1 j.d.h1 hx hy (aKi j _ (by omega)) (j.q _ _ hx hy).2,ae]
   dsimp only;have i1:tS A l S (n+1)=[]:=by unfold tS;rw[d2];rfl
   have i2:tI Q l W H ((n+1) / S)=rY (tI Q l W H (n / S)) (wy l (n / S)*W+wx l (n / S)) (Q (wx l (n / S)) (wy l (n / S))):=by rw[d1];rfl
   rw[i1,i2] at I;exact I
  ·obtain⟨d1,d2⟩:=aVa (by omega) c;rw[show(((n % S:Nat):Int)+1==(S:Int))=false by rw[beq_eq_false_iff_ne];omega,cond_false]
   have i1:tS A l S (n+1)=aDr A (wx l (n / S)) (wy l (n / S)) (n % S+1):=by unfold tS;rw[d1,d2]
   rw[i1,d1] at I;exact I
theorem doS(z a2:Int)(ha:a2<=1048576){n:Nat}(hn:n<=W*H*S):pY N (tS A l S n) b a2 s v z l (n:Int) (tI Q l W H (n / S)) s v sky (stF (tC A l S n)) (swp gl (I64 (tC A l S n).1))=some (tS A l S (n+min a2.toNat (W*H*S - n)),((n+min a2.toNat (W*H*S - n):Nat):Int),tI Q l W H ((n+min a2.toNat (W*H*S - n)) / S),stF (tC A l S (n+min a2.toNat (W*H*S - n))),swp gl (I64 (tC A l S (n+min a2.toNat (W*H*S - n))).1),((min a2.toNat (W*H*S - n):Nat):Int)):=by
 have hm:W*H<=64*64:=ba j.d.w1.2 j.d.h1.2;have hm2:W*H*S<=4096*16:=ba hm j.d.s1.2;have hN:=j.big;unfold pY fM;have e:=do1S j hp z a2 ha (min a2.toNat (W*H*S - n)) n N 0 (by omega) (by omega) (by omega) (λq hq=>by omega)
 rw[ae]
 refine Eq.trans (congrArg (λo=>aa o _) e) ?_;rw[ae,cz]
theorem imgS(z:Int)(b2:List aH):qI N b2 b s v z l ((W*H*S:Nat):Int) (tI Q l W H (W*H*S / S)) s v sky (stF (tC A l S (W*H*S))) (swp gl (I64 (tC A l S (W*H*S)).1))=some (tI Q l W H (W*H),aF.mk (I64 (tC A l S (W*H*S)).1) (I64 (tC A l S (W*H*S)).2.1) (I64 (tC A l S (W*H*S)).2.2),0):=by
 unfold qI fM sU fM;rw[ae,aMz j z (ay _),ae,fb,show decide (((0:Nat):Int) > 0)=false from rfl,cond_false,ae]
 have e:W*H*S / S=W*H:=ki _ (by have:=j.d.s1;omega)
 rw[e,aTK N (by have:=j.big;omega) j.d.w1 j.d.h1 (aKi j _ (ay _)),ae,ae]
 rfl
end
section
variable {N:Nat} {s:aE} {v:aG} {W H S:Nat} {l:List aM} {A:Nat→Nat→Nat→Pa} {Q:Nat→Nat→Px} (j:Jb N s v W H S l A Q) {b:List (List aC)} {sky:aA} {bv:bC} {gl:List aJ} (hp:∀ x y k,x < W→y < H→k < S→aL4 N b s v sky bv gl x y k (A x y k))
include j
theorem aNL(z:Int){n:Nat}(hn:n<=W*H*S)(b2:List aH)(i:aI)(st:aF)(w:aL):iN N b2 b s v z l (n:Int) i s v sky st w=some (((W*H*S - n:Nat):Int)):=by
 have hm:W*H<=64*64:=ba j.d.w1.2 j.d.h1.2;have hm2:W*H*S<=4096*16:=ba hm j.d.s1.2;unfold iN eE;rw[ae,aO,j.l.len,j.d.s,<- cg,bD (x:=((W*H*S:Nat):Int)) (by omega) (by omega),bD (by omega) (by omega),ld hn]
include hp
theorem do1W(z a2:Int)(ha:a2<=1048576):∀m n k i:Nat,n+m<=W*H*S->m < k->(n+m=W*H*S\/¬((i+m:Nat):Int) < a2)->(∀q,q < m->((i+q:Nat):Int) < a2)->fJ N a2 b s v z l s v sky k (tS A l S n) (n:Int) (tI Q l W H (n / S)) (stF (tC A l S n)) (wlk bv gl (I64 (tC A l S n).1)) (i:Int)=some (tS A l S (n+m),((n+m:Nat):Int),tI Q l W H ((n+m) / S),stF (tC A l S (n+m)),wlk bv gl (I64 (tC A l S (n+m)).1),((i+m:Nat):Int)):=by
 have hm:W*H<=64*64:=ba j.d.w1.2 j.d.h1.2;have hm2:W*H*S<=4096*16:=ba hm j.d.s1.2;have S1:=j.d.s1;intro m
 induction m with
 | zero=>
  intro n k i h1 h2 h3 _;obtain⟨k,rfl⟩:∃q,k=q+1:=⟨k - 1,by omega⟩
  rw[fJ]
  have e:cond (decide ((i:Int) < a2)) (aa (iN N (tS A l S n) b s v z l (n:Int) (tI Q l W H (n / S)) s v sky (stF (tC A l S n)) (wlk bv gl (I64 (tC A l S n).1))) λr10=>some (decide (r10 > 0))) (some false)=some false:=by
   rcases h3 with h3 | h3
   ·rw[aNL j z (by omega),ae,df (show ¬((W*H*S - n:Nat):Int) > 0 by omega)]
    cases decide ((i:Int) < a2) <;> rfl
   ·rw[df (show ¬(i:Int) < a2 by simpa using h3)];rfl
  rw[e]
  rfl
 | succ m ih=>
  intro n k i h1 h2 h3 h4;obtain⟨k,rfl⟩:∃q,k=q+1:=⟨k - 1,by omega⟩
  have hn:n / S < W*H:=(jh (by omega)).2 (by omega)
  have hr:n % S < S:=j4 _ (by omega)
  obtain⟨w,ei,ex,ey,hx,hy⟩:=wxy j.l hn;have h40:=h4 0 (by omega)
  have I:=ih (n+1) k (i+1) (by omega) (by omega) (by rcases h3 with h | h;exact Or.inl (by omega);exact Or.inr (by rw[show i+1+m=i+(m+1) by omega];exact h)) (λq hq=>by rw[show i+1+q=i+(q+1) by omega];exact h4 _ (by omega))
  rw[show n+1+m=n+(m+1) by omega,show i+1+m=i+(m+1) by omega] at I;obtain⟨st',t',ep,hc⟩:=hp _ _ _ hx hy hr (stF (tC A l S n)) (I64 (tC A l S n).1)
  have ec:tM (tC A l S n) (A (wx l (n / S)) (wy l (n / S)) (n % S)).2=tC A l S (n+1):=rfl;obtain⟨rfl,rfl⟩:=aPs hc;rw[ec] at ep;rw[fJ,dt (show(i:Int) < a2 by simpa using h40),cond_true,aNL j z (by omega),ae,dt (show((W*H*S - n:Nat):Int) > 0 by omega),ae,cond_true,j.d.s]
  rw[quoN n S (by omega) (by omega),ae,ei,ae,remN n S (by omega),ae,ex,ey]
  refine Eq.trans (congrArg (λo=>aa o _) ep) ?_;rw[ae]
  dsimp only;rw[bY (by unfold tS;rw[aJZ];simp;omega),ae,aO,bD (x:=((n % S:Nat):Int)+1) (by omega) (by omega),bD (x:=(n:Int)+1) (by omega) (by omega),bD (x:=(i:Int)+1) (by omega) (by omega)]
  have es:tS A l S n++[(A (wx l (n / S)) (wy l (n / S)) (n % S)).1.1]=aDr A (wx l (n / S)) (wy l (n / S)) (n % S+1):=(aMp _ _ _ _).symm;rw[es]
  by_cases c:n % S+1=S
  ·obtain⟨d1,d2⟩:=aU8 (by omega) c;rw[show(((n % S:Nat):Int)+1==(S:Int))=true by rw[beq_iff_eq];omega,cond_true,c,(j.q _ _ hx hy).1,ae]
   dsimp only;rw[putT N (by have:=j.big;omega) j.d.w1 j.d.h1 hx hy (aKi j _ (by omega)) (j.q _ _ hx hy).2,ae]
   dsimp only;have i1:tS A l S (n+1)=[]:=by unfold tS;rw[d2];rfl
   have i2:tI Q l W H ((n+1) / S)=rY (tI Q l W H (n / S)) (wy l (n / S)*W+wx l (n / S)) (Q (wx l (n / S)) (wy l (n / S))):=by rw[d1];rfl
   rw[i1,i2] at I;exact I
  ·obtain⟨d1,d2⟩:=aVa (by omega) c;rw[show(((n % S:Nat):Int)+1==(S:Int))=false by rw[beq_eq_false_iff_ne];omega,cond_false]
   have i1:tS A l S (n+1)=aDr A (wx l (n / S)) (wy l (n / S)) (n % S+1):=by unfold tS;rw[d1,d2]
   rw[i1,d1] at I;exact I
theorem doW(z a2:Int)(ha:a2<=1048576){n:Nat}(hn:n<=W*H*S):nU N (tS A l S n) b a2 s v z l (n:Int) (tI Q l W H (n / S)) s v sky (stF (tC A l S n)) (wlk bv gl (I64 (tC A l S n).1))=some (tS A l S (n+min a2.toNat (W*H*S - n)),((n+min a2.toNat (W*H*S - n):Nat):Int),tI Q l W H ((n+min a2.toNat (W*H*S - n)) / S),stF (tC A l S (n+min a2.toNat (W*H*S - n))),wlk bv gl (I64 (tC A l S (n+min a2.toNat (W*H*S - n))).1),((min a2.toNat (W*H*S - n):Nat):Int)):=by
 have hm:W*H<=64*64:=ba j.d.w1.2 j.d.h1.2;have hm2:W*H*S<=4096*16:=ba hm j.d.s1.2;have hN:=j.big;unfold nU eE;have e:=do1W j hp z a2 ha (min a2.toNat (W*H*S - n)) n N 0 (by omega) (by omega) (by omega) (λq hq=>by omega)
 rw[ae]
 refine Eq.trans (congrArg (λo=>aa o _) e) ?_;rw[ae,cz]
theorem imgW(z:Int)(b2:List aH):oZ N b2 b s v z l ((W*H*S:Nat):Int) (tI Q l W H (W*H*S / S)) s v sky (stF (tC A l S (W*H*S))) (wlk bv gl (I64 (tC A l S (W*H*S)).1))=some (tI Q l W H (W*H),aF.mk (I64 (tC A l S (W*H*S)).1) (I64 (tC A l S (W*H*S)).2.1) (I64 (tC A l S (W*H*S)).2.2),0):=by
 unfold oZ eE qW eE;rw[ae,aNL j z (ay _),ae,fb,show decide (((0:Nat):Int) > 0)=false from rfl,cond_false,ae]
 have e:W*H*S / S=W*H:=ki _ (by have:=j.d.s1;omega)
 rw[e,aTK N (by have:=j.big;omega) j.d.w1 j.d.h1 (aKi j _ (ay _)),ae,ae]
 rfl
end
theorem aME(N:Nat)(l:List Int)(hl:l.length < N)(h6:l.length < 4611686018427387904):lZ N l l=some true:=by
 have main:T (iZ N l l N 0) (λo=>o=Sum.inl ()):=by
  refine T.loopG0 (n:=l.length) (λ_ (_:Unit)=>True) _ (F:=λk (_:Unit) i=>iZ N l l k i) (λk _ i hi _ hk=>?_) (λk _ _=>?_) (by omega) (s:=()) trivial
  ·rw[iZ,aO,dt (by omega),cond_true,eP,af hi,ae,ae,bne_self_eq_false,cond_false,cW (by omega)]
   exact hk () trivial
  ·rw[iZ,aO,df (by omega),cond_false];exact T.ret rfl
 obtain⟨r,e,rfl⟩:=main;unfold lZ;rw[aO,bne_self_eq_false,cond_false,e]
 rfl
theorem eqV_r(v:Vector Int 3):eqV (λa b=>a==b) v v=true:=by
 have h:∀l:List Int,eqL (λa b=>a==b) l l=true:=by
  intro l
  induction l with
  | nil=>rfl
  | cons a l ih=>unfold eqL;rw[ih];simp
 exact h _
theorem aPz(N:Nat)(l:List (Vector Int 3))(hl:l.length < N)(h6:l.length < 4611686018427387904):oN N l l=some true:=by
 have main:T (fZ N l l N 0) (λo=>o=Sum.inl ()):=by
  refine T.loopG0 (n:=l.length) (λ_ (_:Unit)=>True) _ (F:=λk (_:Unit) i=>fZ N l l k i) (λk _ i hi _ hk=>?_) (λk _ _=>?_) (by omega) (s:=()) trivial
  ·rw[fZ,aO,dt (by omega),cond_true,eP,af hi,ae,ae,eqV_r,cx,cond_false,cW (by omega)]
   exact hk () trivial
  ·rw[fZ,aO,df (by omega),cond_false];exact T.ret rfl
 obtain⟨r,e,rfl⟩:=main;unfold oN;rw[aO,bne_self_eq_false,cond_false,e]
 rfl
theorem aPw(v:aF):aF.eq v v=true:=by unfold aF.eq;simp
theorem aU9(N:Nat)(hN:5000 < N){W H:Nat}{a:aI}(h:Img W H a)(hm:W*H<=4096):aAS N a a=some true:=by
 have l1:=h.l1;have l2:=h.l2;have l3:=h.l3;have l4:=h.l4;have l5:=h.l5;have l6:=h.l6;unfold aAS;rw[aPz N _ (by omega) (by omega),aPz N _ (by omega) (by omega),aME N _ (by omega) (by omega),aME N _ (by omega) (by omega),aME N _ (by omega) (by omega),aME N _ (by omega) (by omega),aO]
 simp only[beq_self_eq_true,cond_true,ae]
theorem aMZ{x:Int}{W:Nat}(h:dO x 3=(W:Int)):W<=3:=by unfold dO at h;split at h <;> omega
def aN5 : List C3->C3
 | []=>(0,0,0)
 | a :: l=>tM a (aN5 l)
theorem aOv(a b:C3):tM a b=tM b a:=by unfold tM;rw[ji,ji a.2.1,ji a.2.2]
theorem aLQ(a b c:C3):tM (tM a b) c=tM a (tM b c):=by unfold tM;simp only[Int.add_assoc]
theorem aJC(a:C3):tM (0,0,0) a=a:=by unfold tM;simp only[Int.zero_add]
theorem aVs(l m:List C3):aN5 (l++m)=tM (aN5 l) (aN5 m):=by
 induction l with
 | nil=>exact(aJC _).symm
 | cons a l ih=>show tM a (aN5 (l++m))=_;rw[ih,<- aLQ];rfl
theorem aWH{l m:List C3}(h:l.Perm m):aN5 l=aN5 m:=by
 induction h with
 | nil=>rfl
 | cons a _ ih=>show tM a _=tM a _;rw[ih]
 | swap a b l=>show tM _ (tM _ _)=tM _ (tM _ _);rw[<- aLQ,aOv b a,aLQ]
 | trans _ _ h1 h2=>exact h1.trans h2
theorem aSP(f:Nat->C3)(n:Nat):zO f n=aN5 ((be n).map f):=by
 induction n with
 | zero=>rfl
 | succ n ih=>rw[List.range_succ,List.map_append,aVs,<- ih];show tM _ _=tM _ (tM _ (0,0,0));rw[aOv (f n) (0,0,0),aJC]
theorem aWD(f:Nat->C3)(S:Nat):∀p,zO f (p*S)=zO (λq=>zO (λk=>f (q*S+k)) S) p:=by
 have h:∀a n,zO f (a+n)=tM (zO f a) (zO (λk=>f (a+k)) n):=by
  intro a n
  induction n with
  | zero=>show zO f a=tM (zO f a) (0,0,0);rw[aOv,aJC]
  | succ n ih=>show tM (zO f (a+n)) (f (a+n))=tM _ (tM _ _);rw[ih,aLQ]
 intro p
 induction p with
 | zero=>rw[Nat.zero_mul];rfl
 | succ p ih=>rw[kf,h,ih];rfl
theorem aRn{f g:Nat->C3}{n:Nat}(h:∀k,k < n->f k=g k):zO f n=zO g n:=by
 induction n with
 | zero=>rfl
 | succ n ih=>show tM _ _=tM _ _;rw[ih (λk hk=>h k (by omega)),h n (by omega)]
theorem wxL(l:List aM):(be l.length).map (λq=>(wx l q,wy l q))=l.map λw=>(w.gx.toNat,w.gy.toNat):=by
 refine List.ext_getElem (by simp) λi h1 h2=>?_;have:i < l.length:=by simpa using h2
 simp only[List.getElem_map,List.getElem_range]
 unfold wx wy;rw[af this]
theorem aU7{W H S:Nat}{l:List aM}(h:aBV W H l)(hS:1<=S)(A:Nat->Nat->Nat->Pa):tC A l S (W*H*S)=yO A W S (H*W):=by
 have e:tC A l S (W*H*S)=zO (λq=>(λp:Nat×Nat=>zO (λk=>(A p.1 p.2 k).2) S) (wx l q,wy l q)) (W*H):=by
  unfold tC;rw[aWD]
  refine aRn λq _=>aRn λk hk=>?_;unfold tA;have d1:(q*S+k) / S=q:=by rw[eu,gr _ _ (by omega),gj hk,cz]
  have d2:(q*S+k) % S=k:=by rw[eu,fj,gg hk]
  rw[d1,d2]
 have e2:yO A W S (H*W)=zO (λj=>(λp:Nat×Nat=>zO (λk=>(A p.1 p.2 k).2) S) (j % W,j / W)) (W*H):=by rw[i7 W H];rfl
 rw[e,e2,aSP,aSP]
 refine aWH ?_;have p:=h.cov;rw[<- wxL,h.len] at p;have p2:=p.map (λp:Nat×Nat=>zO (λk=>(A p.1 p.2 k).2) S)
 rw[le,le] at p2;exact p2
def aJW{α:Type}(g:Nat->α)(ix:Nat->Nat)(b:List α):Nat->List α
 | 0=>b
 | p+1=>(aJW g ix b p).set (ix p) (g (ix p))
theorem aG3{α:Type}(g:Nat->α)(ix:Nat->Nat)(b:List α){n p:Nat}(hb:b.length=n)(h:∀j,j < n->∃q,q < p/\ix q=j):aJW g ix b p=(be n).map g:=by
 have len:∀p,(aJW g ix b p).length=n:=by intro p;induction p with | zero=>exact hb | succ p ih=>show(List.set _ _ _).length=n;rw[List.length_set,ih]
 have get:∀p j,j < n->(∃q,q < p/\ix q=j)->(aJW g ix b p)[j]? = some (g j):=by
  intro p
  induction p with
  | zero=>intro j _ ⟨q,hq,_⟩;omega
  | succ p ih=>
   intro j hj ⟨q,hq,e⟩
   show(List.set _ _ _)[j]? = _;by_cases c:ix p=j
   ·subst c;rw[List.getElem?_set_self (by rw[len];exact hj)]
   ·rw[List.getElem?_set_ne c]
    exact ih j hj ⟨q,by have:q≠p:=(λh=>c (h▸e));omega,e⟩
 refine List.ext_getElem? λj=>?_;by_cases c:j < n
 ·rw[get p j c (h j c)];simp[c]
 ·rw[cr (by rw[len];omega),cr (by simp;omega)]
theorem imgP{W H:Nat}{l:List aM}(h:aBV W H l)(Q:Nat->Nat->Px):tI Q l W H (W*H)=aHY Q W H:=by
 have e:∀p,p<=W*H->tI Q l W H p=aI.mk W H (aJW (λj=>(Q (j % W) (j / W)).1) (λq=>wy l q*W+wx l q) (aAk W H).gB9 p) (aJW (λj=>(Q (j % W) (j / W)).2.1) (λq=>wy l q*W+wx l q) (aAk W H).gT p) (aJW (λj=>(Q (j % W) (j / W)).2.2.1) (λq=>wy l q*W+wx l q) (aAk W H).gK p) (aJW (λj=>(Q (j % W) (j / W)).2.2.2.1) (λq=>wy l q*W+wx l q) (aAk W H).gB5 p) (aJW (λj=>(Q (j % W) (j / W)).2.2.2.2.1) (λq=>wy l q*W+wx l q) (aAk W H).gB8 p) (aJW (λj=>(Q (j % W) (j / W)).2.2.2.2.2) (λq=>wy l q*W+wx l q) (aAk W H).gR p):=by
  intro p
  induction p with
  | zero=>exact λ_=>rfl
  | succ p ih=>
   intro hp;obtain⟨w,_,_,_,hx,hy⟩:=wxy h (p:=p) (by omega)
   have e1:(wy l p*W+wx l p) % W=wx l p:=by rw[eu,fj,gg hx]
   have e2:(wy l p*W+wx l p) / W=wy l p:=by rw[eu,gr _ _ (by omega),gj hx,cz]
   show rY (tI Q l W H p) _ _=_;rw[ih (by omega)]
   unfold rY;simp only[aJW,e1,e2]
 have c:∀j,j < W*H->∃q,q < W*H/\wy l q*W+wx l q=j:=by
  intro j hj;have p:=h.cov;rw[<- wxL,h.len] at p;have m:=p.mem_iff.2 (cj.2 ⟨j,fa.2 hj,rfl⟩)
  obtain⟨q,hq,e⟩:=cj.1 m;have e1:=congrArg Prod.fst e;have e2:=congrArg Prod.snd e;dsimp only at e1 e2;exact⟨q,fa.1 hq,by rw[e1,e2,i7];exact ip j W⟩
 have l0:=aM9 W H;rw[e _ (ay _),aG3 _ _ _ l0.l1 c,aG3 _ _ _ l0.l2 c,aG3 _ _ _ l0.l3 c,aG3 _ _ _ l0.l4 c,aG3 _ _ _ l0.l5 c,aG3 _ _ _ l0.l6 c]
 unfold aHY pls aDe;rw[i7 H W]
theorem aO5{a2:List Int}(ha:∀x∈a2,0<=x/\x < 256)(m:Nat)(hm:0 < m/\m<=64)(i:Int)(hi:0<=i):∃k:Nat,1<=k/\k<=m/\(aa (aDq .i64 i (a2.length:Int)) λx=>aa (idx a2 x) λe=>aR (I64 (1+ga (I64 e) m)) λy=>some y)=(cond (decide ((a2.length:Int) > 0)) (some (k:Int)) none):=by
 obtain⟨n,rfl⟩:∃n:Nat,i=n:=⟨i.toNat,by omega⟩
 by_cases c:0 < a2.length
 ·have hr:n % a2.length < a2.length:=j4 _ c;have hx:=ha _ (bh hr)
  have t0:=Int.emod_nonneg a2[n % a2.length] (show(m:Int)≠0 by omega)
  have t1:=Int.emod_lt_of_pos a2[n % a2.length] (show(0:Int) < m by omega)
  refine⟨(1+a2[n % a2.length] % (m:Int)).toNat,by omega,by omega,?_⟩
  rw[remN n _ c,ae,eP,af hr,ae,aO,bD (x:=a2[n % a2.length]) (by omega) (by omega),Int.tmod_eq_emod_of_nonneg hx.1,bD (by omega) (by omega),dt (show(a2.length:Int) > 0 by omega),cond_true,Int.toNat_of_nonneg (by omega)]
 ·have:a2=[]:=List.eq_nil_of_length_eq_zero (by omega)
  subst this;exact⟨1,by omega,by omega,rfl⟩
theorem loopS{N:Nat}{s:aE}{v:aG}{W H S:Nat}{l:List aM}{A:Nat->Nat->Nat->Pa}{Q:Nat->Nat->Px}(j:Jb N s v W H S l A Q){b:List (List aC)}{sky:aA}{gl:List aJ}(hp:∀x y k,x < W->y < H->k < S->aMH N b s v sky gl x y k (A x y k))(z:Int){a2:List Int}(ha:∀x∈a2,0<=x/\x < 256):∀m n k i:Nat,n<=W*H*S->W*H*S - n<=m->m < k->i<=n->eZ N ((W*H*S:Nat):Int) (b,s,sky,swp gl 0,s,l,aAk W H,0) v z a2 k (tS A l S n) (stF (tC A l S n)) (swp gl (I64 (tC A l S n).1)) (n:Int) (tI Q l W H (n / S)) (n:Int) (i:Int)=some (tS A l S (W*H*S),stF (tC A l S (W*H*S)),swp gl (I64 (tC A l S (W*H*S)).1),((W*H*S:Nat):Int),tI Q l W H (W*H*S / S),((W*H*S:Nat):Int)):=by
 have hm:W*H<=64*64:=ba j.d.w1.2 j.d.h1.2;have hm2:W*H*S<=4096*16:=ba hm j.d.s1.2;intro m
 induction m with
 | zero=>
  intro n k i h1 h2 h3 h4;obtain⟨k,rfl⟩:∃q,k=q+1:=⟨k - 1,by omega⟩
  obtain rfl:n=W*H*S:=by omega
  rw[eZ,aO]
  dsimp only;rw[aMz j z (ay _),fb,ae,show decide (((0:Nat):Int) > 0)=false from rfl]
  cases decide ((i:Int) < I64 (I64 (2*((W*H*S:Nat):Int))+1)) <;> rfl
 | succ m ih=>
  intro n k i h1 h2 h3 h4;by_cases c:n=W*H*S
  ·exact c▸ih n k i h1 (by omega) (by omega) h4
  obtain⟨k,rfl⟩:∃q,k=q+1:=⟨k - 1,by omega⟩
  obtain⟨t,t1,t5,et⟩:∃t:Nat,1<=t/\t<=5/\(cond (decide ((a2.length:Int) > 0)) (aa (aDq .i64 (i:Int) (a2.length:Int)) λx=>aa (idx a2 x) λe=>aR (I64 (1+ga (I64 e) 5)) λy=>some y) (some 1))=some (t:Int):=by
   obtain⟨t,t1,t5,e⟩:=aO5 ha 5 (by decide) (i:Int) (by omega)
   cases d:decide ((a2.length:Int) > 0) with
   | true=>rw[d] at e;exact⟨t,t1,t5,e⟩
   | false=>exact⟨1,by decide,by decide,rfl⟩
  rw[eZ,aO,bD (x:=2*((W*H*S:Nat):Int)) (by omega) (by omega),bD (x:=2*((W*H*S:Nat):Int)+1) (by omega) (by omega),dt (show(i:Int) < 2*((W*H*S:Nat):Int)+1 by omega),cond_true]
  dsimp only;rw[aMz j z h1,ae,dt (show((W*H*S - n:Nat):Int) > 0 by omega),ae,cond_true,aO]
  refine Eq.trans (congrArg (λo=>aa o _) et) ?_;rw[ae,doS j hp z (t:Int) (by omega) h1,ae]
  simp only[aO,bn]
  have e3:I64 ((n:Int)+((min t (W*H*S - n):Nat):Int))=((n+min t (W*H*S - n):Nat):Int):=by rw[bD (by omega) (by omega)];rfl
  rw[e3,cW (by omega)]
  exact ih _ k (i+1) (by omega) (by omega) (by omega) (by omega)
theorem aWC{N:Nat}{s s0:aE}{v v0:aG}{W H S:Nat}{l:List aM}{A:Nat->Nat->Nat->Pa}{Q:Nat->Nat->Px}(j:Jb N s v W H S l A Q){b:List (List aC)}{sky:aA}{gl:List aJ}(hp:∀x y k,x < W->y < H->k < S->aMH N b s v sky gl x y k (A x y k))(e0:oH N s0=some s)(e1:oS N v0=some v)(hw:eH N=some true){a2:List Int}(ha:∀x∈a2,0<=x/\x < 256){z:Int}(ez:(cond (decide ((a2.length:Int) > 0)) (aa (idx a2 0) λe=>aR (I64 (1+ga (I64 e) 64)) λy=>some y) (some 1))=some z)(eT:jD N s v z=some (.inr <| .inl (b,s,sky,swp gl 0,s,l,aAk W H,0)))(eF:∃st' t',Cnt (aF.mk 0 0 0) 0 st' t' (yO A W S (H*W))/\jQ N s v=some (aHY Q W H,aF.mk t' st'.gO st'.gF,0)):eQ N s0 v0 a2=some true:=by
 have hm:W*H<=64*64:=ba j.d.w1.2 j.d.h1.2;have hm2:W*H*S<=4096*16:=ba hm j.d.s1.2;have hN:=j.big;obtain⟨st',t',hc,eF⟩:=eF;obtain⟨rfl,rfl⟩:=aPs (c:=(0,0,0)) hc;rw[aJC,<- aU7 j.l j.d.s1.1 A,<- imgP j.l Q] at eF;unfold eQ;rw[e0,ae,e1,ae,aO]
 refine Eq.trans (congrArg (λo=>aa o _) ez) ?_;rw[ae,eT,ae]
 simp only[kG]
 rw[eF,ae,aO]
 simp only[bne_self_eq_false,cond_false,ae]
 have all:I64 (I64 (v.gW*v.gH)*v.gA8)=((W*H*S:Nat):Int):=by
  rw[j.d.w,j.d.h,j.d.s,<- cg,bD (x:=((W*H:Nat):Int)) (by omega) (by omega),<- cg,bD (by omega) (by omega)]
 rw[all]
 have i1:tS A l S 0=[]:=by unfold tS;rw[jj];rfl
 have L:=loopS j hp z ha (W*H*S) 0 N 0 (by omega) (by omega) (by omega) (by omega)
 rw[i1,lf] at L;refine Eq.trans (congrArg (λo=>aa o _) L) ?_;rw[ae]
 dsimp only;rw[imgS j hp z,ae,doS j hp z 5 (by decide) (ay _),ae]
 simp only[aO,fb,lg,lh,beq_self_eq_true,cond_true]
 rw[aU9 N (by omega) (aKi j _ (ay _)) (by omega),ae,cond_true]
 have e9:aF.eq (aF.mk (I64 (tC A l S (W*H*S)).1) (stF (tC A l S (W*H*S))).gO (stF (tC A l S (W*H*S))).gF) (aF.mk (I64 (tC A l S (W*H*S)).1) (I64 (tC A l S (W*H*S)).2.1) (I64 (tC A l S (W*H*S)).2.2))=true:=aPw _;rw[e9,cond_true,hw]
 rfl
theorem loopW{N:Nat}{s:aE}{v:aG}{W H S:Nat}{l:List aM}{A:Nat->Nat->Nat->Pa}{Q:Nat->Nat->Px}(j:Jb N s v W H S l A Q){b:List (List aC)}{sky:aA}{bv:bC}{gl:List aJ}(hp:∀x y k,x < W->y < H->k < S->aL4 N b s v sky bv gl x y k (A x y k))(z:Int){a2:List Int}(ha:∀x∈a2,0<=x/\x < 256):∀m n k i:Nat,n<=W*H*S->W*H*S - n<=m->m < k->i<=n->fB N ((W*H*S:Nat):Int) (b,s,sky,wlk bv gl 0,s,l,aAk W H,0) v z a2 k (tS A l S n) (stF (tC A l S n)) (wlk bv gl (I64 (tC A l S n).1)) (n:Int) (tI Q l W H (n / S)) (n:Int) (i:Int)=some (tS A l S (W*H*S),stF (tC A l S (W*H*S)),wlk bv gl (I64 (tC A l S (W*H*S)).1),((W*H*S:Nat):Int),tI Q l W H (W*H*S / S),((W*H*S:Nat):Int)):=by
 have hm:W*H<=64*64:=ba j.d.w1.2 j.d.h1.2;have hm2:W*H*S<=4096*16:=ba hm j.d.s1.2;intro m
 induction m with
 | zero=>
  intro n k i h1 h2 h3 h4;obtain⟨k,rfl⟩:∃q,k=q+1:=⟨k - 1,by omega⟩
  obtain rfl:n=W*H*S:=by omega
  rw[fB,aO]
  dsimp only;rw[aNL j z (ay _),fb,ae,show decide (((0:Nat):Int) > 0)=false from rfl]
  cases decide ((i:Int) < I64 (I64 (2*((W*H*S:Nat):Int))+1)) <;> rfl
 | succ m ih=>
  intro n k i h1 h2 h3 h4;by_cases c:n=W*H*S
  ·exact c▸ih n k i h1 (by omega) (by omega) h4
  obtain⟨k,rfl⟩:∃q,k=q+1:=⟨k - 1,by omega⟩
  obtain⟨t,t1,t5,et⟩:∃t:Nat,1<=t/\t<=5/\(cond (decide ((a2.length:Int) > 0)) (aa (aDq .i64 (i:Int) (a2.length:Int)) λx=>aa (idx a2 x) λe=>aR (I64 (1+ga (I64 e) 5)) λy=>some y) (some 1))=some (t:Int):=by
   obtain⟨t,t1,t5,e⟩:=aO5 ha 5 (by decide) (i:Int) (by omega)
   cases d:decide ((a2.length:Int) > 0) with
   | true=>rw[d] at e;exact⟨t,t1,t5,e⟩
   | false=>exact⟨1,by decide,by decide,rfl⟩
  rw[fB,aO,bD (x:=2*((W*H*S:Nat):Int)) (by omega) (by omega),bD (x:=2*((W*H*S:Nat):Int)+1) (by omega) (by omega),dt (show(i:Int) < 2*((W*H*S:Nat):Int)+1 by omega),cond_true]
  dsimp only;rw[aNL j z h1,ae,dt (show((W*H*S - n:Nat):Int) > 0 by omega),ae,cond_true,aO]
  refine Eq.trans (congrArg (λo=>aa o _) et) ?_;rw[ae,doW j hp z (t:Int) (by omega) h1,ae]
  simp only[aO,bn]
  have e3:I64 ((n:Int)+((min t (W*H*S - n):Nat):Int))=((n+min t (W*H*S - n):Nat):Int):=by rw[bD (by omega) (by omega)];rfl
  rw[e3,cW (by omega)]
  exact ih _ k (i+1) (by omega) (by omega) (by omega) (by omega)
theorem aVz{N:Nat}{s s0:aE}{v v0:aG}{W H S:Nat}{l:List aM}{A:Nat->Nat->Nat->Pa}{Q:Nat->Nat->Px}(j:Jb N s v W H S l A Q){b:List (List aC)}{sky:aA}{bv:bC}{gl:List aJ}(hp:∀x y k,x < W->y < H->k < S->aL4 N b s v sky bv gl x y k (A x y k))(e0:oH N s0=some s)(e1:oS N v0=some v)(hw:eH N=some true){a2:List Int}(ha:∀x∈a2,0<=x/\x < 256){z:Int}(ez:(cond (decide ((a2.length:Int) > 0)) (aa (idx a2 0) λe=>aR (I64 (1+ga (I64 e) 64)) λy=>some y) (some 1))=some z)(eT:jD N s v z=some (.inr <| .inr (b,s,sky,wlk bv gl 0,s,l,aAk W H,0)))(eF:∃st' t',Cnt (aF.mk 0 0 0) 0 st' t' (yO A W S (H*W))/\jQ N s v=some (aHY Q W H,aF.mk t' st'.gO st'.gF,0)):eQ N s0 v0 a2=some true:=by
 have hm:W*H<=64*64:=ba j.d.w1.2 j.d.h1.2;have hm2:W*H*S<=4096*16:=ba hm j.d.s1.2;have hN:=j.big;obtain⟨st',t',hc,eF⟩:=eF;obtain⟨rfl,rfl⟩:=aPs (c:=(0,0,0)) hc;rw[aJC,<- aU7 j.l j.d.s1.1 A,<- imgP j.l Q] at eF;unfold eQ;rw[e0,ae,e1,ae,aO]
 refine Eq.trans (congrArg (λo=>aa o _) ez) ?_;rw[ae,eT,ae]
 simp only[kG]
 rw[eF,ae,aO]
 simp only[bne_self_eq_false,cond_false,ae]
 have all:I64 (I64 (v.gW*v.gH)*v.gA8)=((W*H*S:Nat):Int):=by
  rw[j.d.w,j.d.h,j.d.s,<- cg,bD (x:=((W*H:Nat):Int)) (by omega) (by omega),<- cg,bD (by omega) (by omega)]
 rw[all]
 have i1:tS A l S 0=[]:=by unfold tS;rw[jj];rfl
 have L:=loopW j hp z ha (W*H*S) 0 N 0 (by omega) (by omega) (by omega) (by omega)
 rw[i1,lf] at L;refine Eq.trans (congrArg (λo=>aa o _) L) ?_;rw[ae]
 dsimp only;rw[imgW j hp z,ae,doW j hp z 5 (by decide) (ay _),ae]
 simp only[aO,fb,lg,lh,beq_self_eq_true,cond_true]
 rw[aU9 N (by omega) (aKi j _ (ay _)) (by omega),ae,cond_true]
 have e9:aF.eq (aF.mk (I64 (tC A l S (W*H*S)).1) (stF (tC A l S (W*H*S))).gO (stF (tC A l S (W*H*S))).gF) (aF.mk (I64 (tC A l S (W*H*S)).1) (I64 (tC A l S (W*H*S)).2.1) (I64 (tC A l S (W*H*S)).2.2))=true:=aPw _;rw[e9,cond_true,hw]
 rfl
theorem aNM(N:Nat)(hN:1000000000000 < N)(hw:eH N=some true)(s0:aE)(v0:aG)(a2:List Int)(ha:∀x∈a2,0<=x/\x < 256):eQ N s0 v0 a2=some true:=by
 obtain⟨s,e0,h0⟩:=fewT2 N (by omega) s0;obtain⟨hf,_,_,hid⟩:=h0;obtain⟨v,e1,v1,v2⟩:∃v,oS N v0=some v/\v.gW=dO v0.gW 3/\v.gH=dO v0.gH 3:=⟨_,rfl,rfl,rfl⟩
 obtain⟨z,z1,z64,ez⟩:∃z:Nat,1<=z/\z<=64/\(cond (decide ((a2.length:Int) > 0)) (aa (idx a2 0) λe=>aR (I64 (1+ga (I64 e) 64)) λy=>some y) (some 1))=some (z:Int):=by
  obtain⟨t,t1,t5,e⟩:=aO5 ha 64 (by decide) 0 (by decide)
  cases d:decide ((a2.length:Int) > 0) with
  | true=>
   rw[d] at e;have hl:1<=a2.length:=by have:=of_decide_eq_true d;omega
   have r:=remN 0 a2.length hl;rw[jj] at r;have e':=(congrArg (λo=>aa o _) r).symm.trans e;exact⟨t,t1,t5,e'⟩
  | false=>exact⟨1,by decide,by decide,rfl⟩
 have hz:z∈zsT:=cj.2 ⟨z - 1,fa.2 (by omega),by omega⟩
 obtain⟨q,eN,hq⟩:=newT N (by omega) s v hf
 match q,eN,hq with
 | .inl e,eN,hq=>
  obtain⟨he,_⟩:=hq;have eT:jD N s v z=some (.inl e):=by
   unfold jD;rw[eN,ae]
   simp only[kG]
   rw[show(e != 0)=true by simpa using he,cond_true]
  unfold eQ;rw[e0,ae,e1,ae,aO]
  refine Eq.trans (congrArg (λo=>aa o _) ez) ?_;rw[ae,eT,ae]
  simp only[kG]
  rw[filmE eN he,ae]
  dsimp only;rw[show(e != 0)=true by simpa using he]
  simp only[cond_true,ae,beq_self_eq_true,hw]
 | .inr (.inr (.inl r)),eN,hq=>
  obtain⟨hr,nv,_⟩:=hq;obtain⟨hc,fit⟩:=aPv nv;obtain⟨obj,lab⟩:=aVU N (by omega) hf hc;obtain⟨W,H,S,hd⟩:=dimV hr.2.2.2.1.view;have w3:W<=3:=aMZ (v1.symm.trans hd.w)
  have h3:H<=3:=aMZ (v2.symm.trans hd.h)
  obtain⟨l,hl,eT⟩:=jobS (N:=N) (z:=z) (by omega) hf hid lab hd.w hd.h ⟨hd.w1.1,w3⟩ ⟨hd.h1.1,h3⟩ hz ⟨z1,z64⟩ eN hr;obtain⟨A,hA⟩:=aWS (N:=N) (by omega) hr.2.2.2.1 hr.2.2.2.2.1 hr.2.2.2.2.2.2.1 fit.2 obj hd;obtain⟨Q,hQ⟩:=pxF N (by omega) hid lab (W:=W) (H:=H) hd.s1 (λx y k a b c=>(hA x y k a b c).2.1)
  exact aWC ⟨hN,hd,hl,hQ⟩ (λx y k a b c=>(hA x y k a b c).1) e0 e1 hw ha ez eT (filmS (by omega) eN hr hd hQ (λx y k a b c=>(hA x y k a b c).1))
 | .inr (.inr (.inr (.inr r))),eN,hq=>
  obtain⟨hr,nv,_⟩:=hq;obtain⟨hc,fit⟩:=aPv nv;obtain⟨obj,lab⟩:=aVU N (by omega) hf hc;obtain⟨W,H,S,hd⟩:=dimV hr.2.2.2.1.view;have w3:W<=3:=aMZ (v1.symm.trans hd.w)
  have h3:H<=3:=aMZ (v2.symm.trans hd.h)
  obtain⟨l,hl,eT⟩:=jobW (N:=N) (z:=z) (by omega) hf hid lab hd.w hd.h ⟨hd.w1.1,w3⟩ ⟨hd.h1.1,h3⟩ hz ⟨z1,z64⟩ eN hr;obtain⟨bv,hbv,ew,htr⟩:=hr.2.2.2.2.1;rw[ew] at eT;obtain⟨A,hA⟩:=aW9 (N:=N) hN hr.2.2.2.1 hbv rfl htr hr.2.2.2.2.2.2 fit.2 obj hd;obtain⟨Q,hQ⟩:=pxF N (by omega) hid lab (W:=W) (H:=H) hd.s1 (λx y k a b c=>(hA x y k a b c).2.1)
  exact aVz ⟨hN,hd,hl,hQ⟩ (λx y k a b c=>(hA x y k a b c).1) e0 e1 hw ha ez eT (filmW hN eN hr ew hd hQ (λx y k a b c=>(hA x y k a b c).1))
end Go.UK
