/- A part of the proof: what the functions of the program compute. -/
import Derived.Test.YtfndgielkmppbaaDoorJ2
open BitVec renaming ofInt→bm
open Bool renaming and_eq_true→am,false_or→fw
open Int renaming eq_ofNat_of_zero_le→cm,tdiv→d9,tmod→d7
open List renaming any_cons→cj,append_assoc→ar,drop_eq_getElem_cons→bf,drop_eq_nil_of_le→bn,drop_zero→bt,flatMap_cons→bq,getElem_mem→bk,length→g8,length_append→an,length_cons→ai,length_nil→al,length_take→d6,map_cons→du,mem_append→ci,mem_cons→ba,mem_of_mem_take→cv,mem_singleton→ak,not_mem_nil→av
open Option renaming bind→ae,bind_some→aa
namespace Go.UK
open Go Go.Proofs
set_option maxRecDepth 20000
set_option maxHeartbeats 4000000
set_option linter.all false
structure O64(o:aF):Prop where
 k:dI o.gC
 ha:dI o.gK
 me:dI o.gA.gG
 ma:dI o.gA.gI
 te:dI o.gA.gJ
 n:dI o.gA.gN
 m:∀x∈o.gA.gT.gM.toList,dI x
 x:dI o.gA.gT.gT.gX
 y:dI o.gA.gT.gT.gY
 z:dI o.gA.gT.gT.gZ
 la:dI o.gF
 v:V64 o.gD
 q:dI o.gA3
 wh:dI o.gP
 lb:0<=o.gA2/\o.gA2 < 4294967296
 mn:dI o.gA6
 ti:dI o.gA7
 bl:o.gL.length<=1000000
def zO(o:aF):List Int:=o.gA.gT.gM.toList++[o.gA.gT.gT.gX,o.gA.gT.gT.gY,o.gA.gT.gT.gZ]
def fO(o:aF):Nat->List Fld
 | 1=>[⟨false,1,o.gC⟩,⟨false,4,o.gK⟩,⟨false,2,(o.gL.length:Int)⟩]
 | 2=>[⟨false,1,o.gC⟩,⟨false,4,o.gK⟩]
 | 3=>[⟨false,1,o.gC⟩,⟨false,4,o.gA.gG⟩,⟨false,4,o.gA.gI⟩,⟨false,4,o.gA.gJ⟩,⟨false,4,o.gA.gN⟩]++(zO o).map λx=>⟨true,8,x⟩
 | 4=>[⟨false,1,o.gC⟩,⟨false,4,o.gA.gG⟩,⟨false,4,o.gA.gI⟩,⟨false,4,o.gA.gJ⟩,⟨false,4,o.gA.gN⟩]
 | 5=>[⟨false,1,o.gC⟩,⟨false,1,o.gF⟩]++(vF o.gD++[⟨false,2,o.gA3⟩])
 | 6=>[⟨false,1,o.gC⟩,⟨false,1,o.gF⟩]
 | 7=>[⟨false,1,o.gC⟩,⟨false,1,o.gF⟩,⟨false,1,o.gP⟩,⟨false,4,I64 o.gA2⟩,⟨false,4,o.gA6⟩]
 | 8=>[⟨false,1,o.gC⟩,⟨false,1,o.gF⟩,⟨false,1,o.gP⟩]
 | 9=>[⟨false,1,o.gC⟩,⟨false,1,o.gF⟩]
 | 10=>[⟨false,1,o.gC⟩,⟨false,4,o.gA7⟩]
 | _=>[]
def tO(o:aF):Nat->List Int
 | 1=>o.gL
 | _=>[]
theorem yK(o:aF):(zO o).length=12:=by unfold zO;simp
theorem aDQ{o:aF}(h:O64 o):∀x∈zO o,dI x:=by
 intro x hx;unfold zO at hx;rw[ci] at hx;rcases hx with hx | hx
 ·exact h.m x hx
 ·simp only[ba,av,or_false] at hx;rcases hx with rfl | rfl | rfl
  ·exact h.x
  ·exact h.y
  ·exact h.z
theorem lenI{n:Nat}(h:n<=1000000):dI (n:Int):=⟨by omega,by omega⟩
theorem O64.lb64{o:aF}(h:O64 o):dI (I64 o.gA2):=by
 have:=h.lb;rw[jQ (by omega) (by omega)]
 exact⟨by omega,by omega⟩
theorem aCZ(N:Nat)(hN:1000 < N)(ns:List Int)(h64:∀p∈ns,dI p)(hl:ns.length<=20):∀(k i:Nat) (b:List Int) (e:Int),b.length<=150000+8*i->i<=ns.length->ns.length - i < k->∃r,cC N ns k b e (i:Int)=some r/\Wr 0 b e ((ns.drop i).map λx=>⟨true,8,x⟩) (8*(ns.length - i)) r
 | 0,_,_,_,_,_,h=>by omega
 | k+1,i,b,e,hb,hi,hk=>by
  rw[cC]
  by_cases c:i < ns.length
  ·have hx:=h64 _ (bk c)
   obtain⟨r7,h1,h2⟩:=aEr N hN 8 (by decide) (by decide) [ns[i]] (λx hx'=>by rw[ak] at hx';rw[hx'];exact hx) (by simp) b e (by omega)
   have l2:=h2.len;simp only[ai,al] at l2;rw[dt (by omega),aK,cond_true,iQ c,aa,show dM N b 8 [ns[i]]=_ from h1,aa,aAH,aa,jK (by omega)]
   obtain⟨r,g1,g2⟩:=aCZ N hN ns h64 hl k (i+1) r7.1 (mQ e r7.2) (by omega) (by omega) (by omega)
   refine⟨r,g1,(h2.seq g2).cast ?_ ?_⟩
   ·rw[bf c,du];rfl
   ·simp only[ai,al];omega
  ·rw[df (by omega),aK,cond_false,bn (by omega)]
   exact⟨_,rfl,(Wr.nil 0 b e).cast rfl (by omega)⟩
theorem aCb(N:Nat)(hN:1000 < N){o:aF}(ho:O64 o)(h3:o.gC=3):∀(k i:Nat) (b:List Int) (e:Bool),b.length<=150000+8*i->i<=9->9 - i < k->∃r,bC N o k b e (i:Int)=some r/\Wr false b e ((o.gA.gT.gM.toList.drop i).map λx=>⟨true,8,x⟩) (8*(9 - i)) r
 | 0,_,_,_,_,_,h=>by omega
 | k+1,i,b,e,hb,hi,hk=>by
  rw[bC,show(o.gC==3)=true by rw[h3];rfl]
  have hl:o.gA.gT.gM.toList.length=9:=Vector.length_toList;by_cases c:i < 9
  ·have c':i < o.gA.gT.gM.toList.length:=by omega
   have hx:=ho.m _ (bk c')
   obtain⟨r7,h1,h2⟩:=uR N hN 8 (by decide) (by decide) hx b e (by omega)
   have l2:=h2.len;rw[dt (by omega),aK,cond_true,cond_true,iQ c',aa,show aG N b 8 (o.gA.gT.gM.toList[i]) e=_ from h1,aa,jK (by omega)]
   obtain⟨r,g1,g2⟩:=aCb N hN ho h3 k (i+1) r7.1 r7.2 (by omega) (by omega) (by omega)
   refine⟨r,g1,(h2.seq g2).cast ?_ ?_⟩
   ·rw[bf c',du];rfl
   ·omega
  ·rw[df (by omega),aK,cond_false,cond_false,bn (by omega)]
   exact⟨_,rfl,(Wr.nil false b e).cast rfl (by omega)⟩
theorem opC1(N:Nat)(hN:1000 < N){o:aF}(ho:O64 o)(hk:o.gC=1):∃r,aH N [] o 0=some r/\∃q,Wr 0 [] 0 (fO o 1) 1000 q/\r=(q.1++tO o 1,q.2):=by
 unfold aH;obtain⟨r1,e1,w1⟩:=kA N hN 1 (by decide) (by decide) [o.gC] (λx hx=>by rw[ak] at hx;rw[hx];exact ho.k) (by simp) [] 0 (by first | omega | simp)
 have l1:=w1.len;simp only[ai,al] at l1;obtain⟨r2,e2,w2⟩:=kA N hN 4 (by decide) (by decide) [o.gK] (λx hx=>by rw[ak] at hx;rw[hx];exact ho.ha) (by simp) r1.1 r1.2 (by first | omega | simp)
 have l2:=w2.len;simp only[ai,al] at l2;obtain⟨r3,e3,w3⟩:=kA N hN 2 (by decide) (by decide) [(o.gL.length:Int)] (λx hx=>by rw[ak] at hx;rw[hx];exact(lenI ho.bl)) (by simp) r2.1 r2.2 (by first | omega | simp)
 have l3:=w3.len;simp only[ai,al] at l3;rw[show aB N [] 1 [o.gC] 0=_ from e1,aa,hk,show((1:Int)==1)=true from rfl,cond_true,show aB N r1.1 4 [o.gK] r1.2=_ from e2,aa,aK,show aB N r2.1 2 [(o.gL.length:Int)] r2.2=_ from e3,aa,eM (by have:=ho.bl;omega),aa]
 exact⟨_,rfl,_,((w1.seq w2).seq w3).cast (by simp[fO]) (by simp),by simp[tO]⟩
theorem opC2(N:Nat)(hN:1000 < N){o:aF}(ho:O64 o)(hk:o.gC=2):∃r,aH N [] o 0=some r/\∃q,Wr 0 [] 0 (fO o 2) 1000 q/\r=(q.1++tO o 2,q.2):=by
 unfold aH;obtain⟨r1,e1,w1⟩:=kA N hN 1 (by decide) (by decide) [o.gC] (λx hx=>by rw[ak] at hx;rw[hx];exact ho.k) (by simp) [] 0 (by first | omega | simp)
 have l1:=w1.len;simp only[ai,al] at l1;obtain⟨r2,e2,w2⟩:=kA N hN 4 (by decide) (by decide) [o.gK] (λx hx=>by rw[ak] at hx;rw[hx];exact ho.ha) (by simp) r1.1 r1.2 (by first | omega | simp)
 have l2:=w2.len;simp only[ai,al] at l2;rw[show aB N [] 1 [o.gC] 0=_ from e1,aa,hk,show((2:Int)==1)=false from rfl,cond_false,show((2:Int)==2)=true from rfl,cond_true,show aB N r1.1 4 [o.gK] r1.2=_ from e2,aa]
 exact⟨_,rfl,_,(w1.seq w2).cast (by simp[fO]) (by simp),by simp[tO]⟩
theorem opC3(N:Nat)(hN:1000 < N){o:aF}(ho:O64 o)(hk:o.gC=3):∃r,aH N [] o 0=some r/\∃q,Wr 0 [] 0 (fO o 3) 1000 q/\r=(q.1++tO o 3,q.2):=by
 unfold aH;obtain⟨r1,e1,w1⟩:=kA N hN 1 (by decide) (by decide) [o.gC] (λx hx=>by rw[ak] at hx;rw[hx];exact ho.k) (by simp) [] 0 (by first | omega | simp)
 have l1:=w1.len;simp only[ai,al] at l1;obtain⟨r2,e2,w2⟩:=kA N hN 4 (by decide) (by decide) [o.gA.gG,o.gA.gI,o.gA.gJ,o.gA.gN] (λx hx=>by simp only[ba,av,or_false] at hx;rcases hx with rfl | rfl | rfl | rfl;exact ho.me;exact ho.ma;exact ho.te;exact ho.n) (by simp) r1.1 r1.2 (by first | omega | simp)
 have l2:=w2.len;simp only[ai,al] at l2;obtain⟨r3,e3,w3⟩:=aCZ N hN (zO o) (aDQ ho) (by rw[yK];omega) N 0 r2.1 r2.2 (by omega) (by omega) (by rw[yK];omega)
 rw[bt,yK] at w3;rw[show aB N [] 1 [o.gC] 0=_ from e1,aa,hk,show((3:Int)==1)=false from rfl,cond_false,show((3:Int)==2)=false from rfl,cond_false,show((3:Int)==3)=true from rfl,cond_true,aa,cond_true,show aB N r1.1 4 [o.gA.gG,o.gA.gI,o.gA.gJ,o.gA.gN] r1.2=_ from e2,aa,show((3:Int)==4)=false from rfl,cond_false,eM (by simp),aa,show cC N (o.gA.gT.gM.toList++[o.gA.gT.gT.gX,o.gA.gT.gT.gY,o.gA.gT.gT.gZ]) N r2.1 r2.2 0=_ from e3,aa]
 exact⟨_,rfl,_,((w1.seq w2).seq w3).cast (by simp[fO]) (by simp),by simp[tO]⟩
theorem opC4(N:Nat)(hN:1000 < N){o:aF}(ho:O64 o)(hk:o.gC=4):∃r,aH N [] o 0=some r/\∃q,Wr 0 [] 0 (fO o 4) 1000 q/\r=(q.1++tO o 4,q.2):=by
 unfold aH;obtain⟨r1,e1,w1⟩:=kA N hN 1 (by decide) (by decide) [o.gC] (λx hx=>by rw[ak] at hx;rw[hx];exact ho.k) (by simp) [] 0 (by first | omega | simp)
 have l1:=w1.len;simp only[ai,al] at l1;obtain⟨r2,e2,w2⟩:=kA N hN 4 (by decide) (by decide) [o.gA.gG,o.gA.gI,o.gA.gJ,o.gA.gN] (λx hx=>by simp only[ba,av,or_false] at hx;rcases hx with rfl | rfl | rfl | rfl;exact ho.me;exact ho.ma;exact ho.te;exact ho.n) (by simp) r1.1 r1.2 (by first | omega | simp)
 have l2:=w2.len;simp only[ai,al] at l2;rw[show aB N [] 1 [o.gC] 0=_ from e1,aa,hk,show((4:Int)==1)=false from rfl,cond_false,show((4:Int)==2)=false from rfl,cond_false,show((4:Int)==3)=false from rfl,cond_false,show((4:Int)==4)=true from rfl,aa,cond_true,show aB N r1.1 4 [o.gA.gG,o.gA.gI,o.gA.gJ,o.gA.gN] r1.2=_ from e2,aa]
 rw[cond_true]
 exact⟨_,rfl,_,(w1.seq w2).cast (by simp[fO]) (by simp),by simp[tO]⟩
theorem opC5(N:Nat)(hN:1000 < N){o:aF}(ho:O64 o)(hk:o.gC=5):∃r,aH N [] o 0=some r/\∃q,Wr 0 [] 0 (fO o 5) 1000 q/\r=(q.1++tO o 5,q.2):=by
 unfold aH;obtain⟨r1,e1,w1⟩:=kA N hN 1 (by decide) (by decide) [o.gC] (λx hx=>by rw[ak] at hx;rw[hx];exact ho.k) (by simp) [] 0 (by first | omega | simp)
 have l1:=w1.len;simp only[ai,al] at l1;obtain⟨r2,e2,w2⟩:=kA N hN 1 (by decide) (by decide) [o.gF] (λx hx=>by rw[ak] at hx;rw[hx];exact ho.la) (by simp) r1.1 r1.2 (by first | omega | simp)
 have l2:=w2.len;simp only[ai,al] at l2;obtain⟨r3,e3,w3⟩:=viewC N hN ho.v r2.1 r2.2 (by omega)
 have l3:=w3.len;obtain⟨r4,e4,w4⟩:=kA N hN 2 (by decide) (by decide) [o.gA3] (λx hx=>by rw[ak] at hx;rw[hx];exact ho.q) (by simp) r3.1 r3.2 (by first | omega | simp)
 have l4:=w4.len;simp only[ai,al] at l4;rw[show aB N [] 1 [o.gC] 0=_ from e1,aa,hk,show((5:Int)==1)=false from rfl,cond_false,show((5:Int)==2)=false from rfl,cond_false,show((5:Int)==3)=false from rfl,cond_false,show((5:Int)==4)=false from rfl,aa,cond_false,show((5:Int)==5)=true from rfl,cond_true,show aB N r1.1 1 [o.gF] r1.2=_ from e2,aa,e3,aa,show aB N r3.1 2 [o.gA3] r3.2=_ from e4,aa]
 exact⟨_,rfl,_,(((w1.seq w2).seq w3).seq w4).cast (by simp[fO]) (by simp),by simp[tO]⟩
theorem opC6(N:Nat)(hN:1000 < N){o:aF}(ho:O64 o)(hk:o.gC=6):∃r,aH N [] o 0=some r/\∃q,Wr 0 [] 0 (fO o 6) 1000 q/\r=(q.1++tO o 6,q.2):=by
 unfold aH;obtain⟨r1,e1,w1⟩:=kA N hN 1 (by decide) (by decide) [o.gC] (λx hx=>by rw[ak] at hx;rw[hx];exact ho.k) (by simp) [] 0 (by first | omega | simp)
 have l1:=w1.len;simp only[ai,al] at l1;obtain⟨r2,e2,w2⟩:=kA N hN 1 (by decide) (by decide) [o.gF] (λx hx=>by rw[ak] at hx;rw[hx];exact ho.la) (by simp) r1.1 r1.2 (by first | omega | simp)
 have l2:=w2.len;simp only[ai,al] at l2;rw[show aB N [] 1 [o.gC] 0=_ from e1,aa,hk,show((6:Int)==1)=false from rfl,cond_false,show((6:Int)==2)=false from rfl,cond_false,show((6:Int)==3)=false from rfl,cond_false,show((6:Int)==4)=false from rfl,aa,cond_false,show((6:Int)==5)=false from rfl,cond_false,show((6:Int)==6)=true from rfl,cond_true,aa,cond_true,show aB N r1.1 1 [o.gF] r1.2=_ from e2,aa]
 exact⟨_,rfl,_,(w1.seq w2).cast (by simp[fO]) (by simp),by simp[tO]⟩
theorem opC7(N:Nat)(hN:1000 < N){o:aF}(ho:O64 o)(hk:o.gC=7):∃r,aH N [] o 0=some r/\∃q,Wr 0 [] 0 (fO o 7) 1000 q/\r=(q.1++tO o 7,q.2):=by
 unfold aH;obtain⟨r1,e1,w1⟩:=kA N hN 1 (by decide) (by decide) [o.gC] (λx hx=>by rw[ak] at hx;rw[hx];exact ho.k) (by simp) [] 0 (by first | omega | simp)
 have l1:=w1.len;simp only[ai,al] at l1;obtain⟨r2,e2,w2⟩:=kA N hN 1 (by decide) (by decide) [o.gF,o.gP] (λx hx=>by simp only[ba,av,or_false] at hx;rcases hx with rfl | rfl;exact ho.la;exact ho.wh) (by simp) r1.1 r1.2 (by first | omega | simp)
 have l2:=w2.len;simp only[ai,al] at l2;obtain⟨r3,e3,w3⟩:=kA N hN 4 (by decide) (by decide) [I64 o.gA2,o.gA6] (λx hx=>by simp only[ba,av,or_false] at hx;rcases hx with rfl | rfl;exact ho.lb64;exact ho.mn) (by simp) r2.1 r2.2 (by first | omega | simp)
 have l3:=w3.len;simp only[ai,al] at l3;rw[show aB N [] 1 [o.gC] 0=_ from e1,aa,hk,show((7:Int)==1)=false from rfl,cond_false,show((7:Int)==2)=false from rfl,cond_false,show((7:Int)==3)=false from rfl,cond_false,show((7:Int)==4)=false from rfl,aa,cond_false,show((7:Int)==5)=false from rfl,cond_false,show((7:Int)==6)=false from rfl,cond_false,show((7:Int)==9)=false from rfl,aa,cond_false,show((7:Int)==7)=true from rfl,cond_true,show aB N r1.1 1 [o.gF,o.gP] r1.2=_ from e2,aa,show aB N r2.1 4 [I64 o.gA2,o.gA6] r2.2=_ from e3,aa]
 exact⟨_,rfl,_,((w1.seq w2).seq w3).cast (by simp[fO]) (by simp),by simp[tO]⟩
theorem opC8(N:Nat)(hN:1000 < N){o:aF}(ho:O64 o)(hk:o.gC=8):∃r,aH N [] o 0=some r/\∃q,Wr 0 [] 0 (fO o 8) 1000 q/\r=(q.1++tO o 8,q.2):=by
 unfold aH;obtain⟨r1,e1,w1⟩:=kA N hN 1 (by decide) (by decide) [o.gC] (λx hx=>by rw[ak] at hx;rw[hx];exact ho.k) (by simp) [] 0 (by first | omega | simp)
 have l1:=w1.len;simp only[ai,al] at l1;obtain⟨r2,e2,w2⟩:=kA N hN 1 (by decide) (by decide) [o.gF,o.gP] (λx hx=>by simp only[ba,av,or_false] at hx;rcases hx with rfl | rfl;exact ho.la;exact ho.wh) (by simp) r1.1 r1.2 (by first | omega | simp)
 have l2:=w2.len;simp only[ai,al] at l2;rw[show aB N [] 1 [o.gC] 0=_ from e1,aa,hk,show((8:Int)==1)=false from rfl,cond_false,show((8:Int)==2)=false from rfl,cond_false,show((8:Int)==3)=false from rfl,cond_false,show((8:Int)==4)=false from rfl,aa,cond_false,show((8:Int)==5)=false from rfl,cond_false,show((8:Int)==6)=false from rfl,cond_false,show((8:Int)==9)=false from rfl,aa,cond_false,show((8:Int)==7)=false from rfl,cond_false,show((8:Int)==8)=true from rfl,cond_true,show aB N r1.1 1 [o.gF,o.gP] r1.2=_ from e2,aa]
 exact⟨_,rfl,_,(w1.seq w2).cast (by simp[fO]) (by simp),by simp[tO]⟩
theorem opC9(N:Nat)(hN:1000 < N){o:aF}(ho:O64 o)(hk:o.gC=9):∃r,aH N [] o 0=some r/\∃q,Wr 0 [] 0 (fO o 9) 1000 q/\r=(q.1++tO o 9,q.2):=by
 unfold aH;obtain⟨r1,e1,w1⟩:=kA N hN 1 (by decide) (by decide) [o.gC] (λx hx=>by rw[ak] at hx;rw[hx];exact ho.k) (by simp) [] 0 (by first | omega | simp)
 have l1:=w1.len;simp only[ai,al] at l1;obtain⟨r2,e2,w2⟩:=kA N hN 1 (by decide) (by decide) [o.gF] (λx hx=>by rw[ak] at hx;rw[hx];exact ho.la) (by simp) r1.1 r1.2 (by first | omega | simp)
 have l2:=w2.len;simp only[ai,al] at l2;rw[show aB N [] 1 [o.gC] 0=_ from e1,aa,hk,show((9:Int)==1)=false from rfl,cond_false,show((9:Int)==2)=false from rfl,cond_false,show((9:Int)==3)=false from rfl,cond_false,show((9:Int)==4)=false from rfl,aa,cond_false,show((9:Int)==5)=false from rfl,cond_false,show((9:Int)==6)=false from rfl,cond_false,show((9:Int)==9)=true from rfl,aa,cond_true,show aB N r1.1 1 [o.gF] r1.2=_ from e2,aa]
 exact⟨_,rfl,_,(w1.seq w2).cast (by simp[fO]) (by simp),by simp[tO]⟩
theorem opC10(N:Nat)(hN:1000 < N){o:aF}(ho:O64 o)(hk:o.gC=10):∃r,aH N [] o 0=some r/\∃q,Wr 0 [] 0 (fO o 10) 1000 q/\r=(q.1++tO o 10,q.2):=by
 unfold aH;obtain⟨r1,e1,w1⟩:=kA N hN 1 (by decide) (by decide) [o.gC] (λx hx=>by rw[ak] at hx;rw[hx];exact ho.k) (by simp) [] 0 (by first | omega | simp)
 have l1:=w1.len;simp only[ai,al] at l1;obtain⟨r2,e2,w2⟩:=kA N hN 4 (by decide) (by decide) [o.gA7] (λx hx=>by rw[ak] at hx;rw[hx];exact ho.ti) (by simp) r1.1 r1.2 (by first | omega | simp)
 have l2:=w2.len;simp only[ai,al] at l2;rw[show aB N [] 1 [o.gC] 0=_ from e1,aa,hk,show((10:Int)==1)=false from rfl,cond_false,show((10:Int)==2)=false from rfl,cond_false,show((10:Int)==3)=false from rfl,cond_false,show((10:Int)==4)=false from rfl,aa,cond_false,show((10:Int)==5)=false from rfl,cond_false,show((10:Int)==6)=false from rfl,cond_false,show((10:Int)==9)=false from rfl,aa,cond_false,show((10:Int)==7)=false from rfl,cond_false,show((10:Int)==8)=false from rfl,cond_false,show((10:Int)==10)=true from rfl,cond_true,show aB N r1.1 4 [o.gA7] r1.2=_ from e2,aa]
 exact⟨_,rfl,_,(w1.seq w2).cast (by simp[fO]) (by simp),by simp[tO]⟩
theorem opD1(N:Nat)(hN:1000 < N){o:aF}(ho:O64 o)(hk:o.gC=1)(b:List Int)(e:Bool)(hb:b.length<=80000):∃r,aE N b o e=some (Sum.inr r)/\∃q,Wr false b e (fO o 1) 1000 q/\r=(q.1++tO o 1,q.2):=by
 unfold aE;obtain⟨r1,e1,w1⟩:=fS N hN 1 (by decide) (by decide) ho.k b e (by omega)
 have l1:=w1.len;obtain⟨r2,e2,w2⟩:=fS N hN 4 (by decide) (by decide) ho.ha r1.1 r1.2 (by omega)
 have l2:=w2.len;obtain⟨r3,e3,w3⟩:=fS N hN 2 (by decide) (by decide) (lenI ho.bl) r2.1 r2.2 (by omega)
 have l3:=w3.len;have e1k:=e1;rw[hk] at e1k;rw[hk,show(cond (decide ((1:Int) < 1)) true (decide ((1:Int) > 10)))=false from rfl,aK,cond_false,show aA N b 1 1 e=_ from e1k,aa,show((1:Int)==1)=true from rfl,cond_true,show aA N r1.1 4 o.gK r1.2=_ from e2,aa,aK,show aA N r2.1 2 (o.gL.length:Int) r2.2=_ from e3,aa,eM (by have:=ho.bl;omega),aa]
 exact⟨_,rfl,_,((w1.seq w2).seq w3).cast (by simp[fO,zO]) (by simp),by simp[tO]⟩
theorem opD2(N:Nat)(hN:1000 < N){o:aF}(ho:O64 o)(hk:o.gC=2)(b:List Int)(e:Bool)(hb:b.length<=80000):∃r,aE N b o e=some (Sum.inr r)/\∃q,Wr false b e (fO o 2) 1000 q/\r=(q.1++tO o 2,q.2):=by
 unfold aE;obtain⟨r1,e1,w1⟩:=fS N hN 1 (by decide) (by decide) ho.k b e (by omega)
 have l1:=w1.len;obtain⟨r2,e2,w2⟩:=fS N hN 4 (by decide) (by decide) ho.ha r1.1 r1.2 (by omega)
 have l2:=w2.len;have e1k:=e1;rw[hk] at e1k;rw[hk,show(cond (decide ((2:Int) < 1)) true (decide ((2:Int) > 10)))=false from rfl,aK,cond_false,show aA N b 1 2 e=_ from e1k,aa,show((2:Int)==1)=false from rfl,cond_false,show((2:Int)==2)=true from rfl,cond_true,show aA N r1.1 4 o.gK r1.2=_ from e2,aa]
 exact⟨_,rfl,_,(w1.seq w2).cast (by simp[fO,zO]) (by simp),by simp[tO]⟩
theorem opD3(N:Nat)(hN:1000 < N){o:aF}(ho:O64 o)(hk:o.gC=3)(b:List Int)(e:Bool)(hb:b.length<=80000):∃r,aE N b o e=some (Sum.inr r)/\∃q,Wr false b e (fO o 3) 1000 q/\r=(q.1++tO o 3,q.2):=by
 unfold aE;obtain⟨r1,e1,w1⟩:=fS N hN 1 (by decide) (by decide) ho.k b e (by omega)
 have l1:=w1.len;obtain⟨r2,e2,w2⟩:=fS N hN 4 (by decide) (by decide) ho.me r1.1 r1.2 (by omega)
 have l2:=w2.len;obtain⟨r3,e3,w3⟩:=fS N hN 4 (by decide) (by decide) ho.ma r2.1 r2.2 (by omega)
 have l3:=w3.len;obtain⟨r4,e4,w4⟩:=fS N hN 4 (by decide) (by decide) ho.te r3.1 r3.2 (by omega)
 have l4:=w4.len;obtain⟨r5,e5,w5⟩:=fS N hN 4 (by decide) (by decide) ho.n r4.1 r4.2 (by omega)
 have l5:=w5.len;obtain⟨r6,e6,w6⟩:=aCb N hN ho hk N 0 r5.1 r5.2 (by omega) (by omega) (by omega)
 have l6:=w6.len;rw[bt] at w6;obtain⟨r7,e7,w7⟩:=uR N hN 8 (by decide) (by decide) ho.x r6.1 r6.2 (by omega)
 have l7:=w7.len;obtain⟨r8,e8,w8⟩:=uR N hN 8 (by decide) (by decide) ho.y r7.1 r7.2 (by omega)
 have l8:=w8.len;obtain⟨r9,e9,w9⟩:=uR N hN 8 (by decide) (by decide) ho.z r8.1 r8.2 (by omega)
 have l9:=w9.len;have e1k:=e1;rw[hk] at e1k;rw[hk,show(cond (decide ((3:Int) < 1)) true (decide ((3:Int) > 10)))=false from rfl,aK,cond_false,show aA N b 1 3 e=_ from e1k,aa,show((3:Int)==1)=false from rfl,cond_false,show((3:Int)==2)=false from rfl,cond_false,show((3:Int)==3)=true from rfl,cond_true,aa,cond_true,show aA N r1.1 4 o.gA.gG r1.2=_ from e2,aa,show aA N r2.1 4 o.gA.gI r2.2=_ from e3,aa,show aA N r3.1 4 o.gA.gJ r3.2=_ from e4,aa,show aA N r4.1 4 o.gA.gN r4.2=_ from e5,aa,show bC N o N r5.1 r5.2 0=_ from e6,aa,cond_true,show aG N r6.1 8 o.gA.gT.gT.gX r6.2=_ from e7,aa,show aG N r7.1 8 o.gA.gT.gT.gY r7.2=_ from e8,aa,show aG N r8.1 8 o.gA.gT.gT.gZ r8.2=_ from e9,aa]
 exact⟨_,rfl,_,((((((((w1.seq w2).seq w3).seq w4).seq w5).seq w6).seq w7).seq w8).seq w9).cast (by simp[fO,zO]) (by simp),by simp[tO]⟩
theorem opD4(N:Nat)(hN:1000 < N){o:aF}(ho:O64 o)(hk:o.gC=4)(b:List Int)(e:Bool)(hb:b.length<=80000):∃r,aE N b o e=some (Sum.inr r)/\∃q,Wr false b e (fO o 4) 1000 q/\r=(q.1++tO o 4,q.2):=by
 unfold aE;obtain⟨r1,e1,w1⟩:=fS N hN 1 (by decide) (by decide) ho.k b e (by omega)
 have l1:=w1.len;obtain⟨r2,e2,w2⟩:=fS N hN 4 (by decide) (by decide) ho.me r1.1 r1.2 (by omega)
 have l2:=w2.len;obtain⟨r3,e3,w3⟩:=fS N hN 4 (by decide) (by decide) ho.ma r2.1 r2.2 (by omega)
 have l3:=w3.len;obtain⟨r4,e4,w4⟩:=fS N hN 4 (by decide) (by decide) ho.te r3.1 r3.2 (by omega)
 have l4:=w4.len;obtain⟨r5,e5,w5⟩:=fS N hN 4 (by decide) (by decide) ho.n r4.1 r4.2 (by omega)
 have l5:=w5.len;have e0:bC N o N r5.1 r5.2 0=some (r5.1,r5.2):=by
  obtain⟨N,rfl⟩:∃n,N=n+1:=⟨N - 1,by omega⟩
  rw[bC,hk];rfl
 have e1k:=e1;rw[hk] at e1k;rw[hk,show(cond (decide ((4:Int) < 1)) true (decide ((4:Int) > 10)))=false from rfl,aK,cond_false,show aA N b 1 4 e=_ from e1k,aa,show((4:Int)==1)=false from rfl,cond_false,show((4:Int)==2)=false from rfl,cond_false,show((4:Int)==3)=false from rfl,cond_false,show((4:Int)==4)=true from rfl,aa,cond_true,show aA N r1.1 4 o.gA.gG r1.2=_ from e2,aa,show aA N r2.1 4 o.gA.gI r2.2=_ from e3,aa,show aA N r3.1 4 o.gA.gJ r3.2=_ from e4,aa,show aA N r4.1 4 o.gA.gN r4.2=_ from e5,aa,e0,aa,cond_false]
 exact⟨_,rfl,_,((((w1.seq w2).seq w3).seq w4).seq w5).cast (by simp[fO,zO]) (by simp),by simp[tO]⟩
theorem opD5(N:Nat)(hN:1000 < N){o:aF}(ho:O64 o)(hk:o.gC=5)(b:List Int)(e:Bool)(hb:b.length<=80000):∃r,aE N b o e=some (Sum.inr r)/\∃q,Wr false b e (fO o 5) 1000 q/\r=(q.1++tO o 5,q.2):=by
 unfold aE;obtain⟨r1,e1,w1⟩:=fS N hN 1 (by decide) (by decide) ho.k b e (by omega)
 have l1:=w1.len;obtain⟨r2,e2,w2⟩:=fS N hN 1 (by decide) (by decide) ho.la r1.1 r1.2 (by omega)
 have l2:=w2.len;obtain⟨r3,e3,w3⟩:=viewD N hN ho.v r2.1 r2.2 (by omega)
 have l3:=w3.len;obtain⟨r4,e4,w4⟩:=fS N hN 2 (by decide) (by decide) ho.q r3.1 r3.2 (by omega)
 have l4:=w4.len;have e1k:=e1;rw[hk] at e1k;rw[hk,show(cond (decide ((5:Int) < 1)) true (decide ((5:Int) > 10)))=false from rfl,aK,cond_false,show aA N b 1 5 e=_ from e1k,aa,show((5:Int)==1)=false from rfl,cond_false,show((5:Int)==2)=false from rfl,cond_false,show((5:Int)==3)=false from rfl,cond_false,show((5:Int)==4)=false from rfl,aa,cond_false,show((5:Int)==5)=true from rfl,cond_true,show aA N r1.1 1 o.gF r1.2=_ from e2,aa,e3,aa,show aA N r3.1 2 o.gA3 r3.2=_ from e4,aa]
 exact⟨_,rfl,_,(((w1.seq w2).seq w3).seq w4).cast (by simp[fO,zO]) (by simp),by simp[tO]⟩
theorem opD6(N:Nat)(hN:1000 < N){o:aF}(ho:O64 o)(hk:o.gC=6)(b:List Int)(e:Bool)(hb:b.length<=80000):∃r,aE N b o e=some (Sum.inr r)/\∃q,Wr false b e (fO o 6) 1000 q/\r=(q.1++tO o 6,q.2):=by
 unfold aE;obtain⟨r1,e1,w1⟩:=fS N hN 1 (by decide) (by decide) ho.k b e (by omega)
 have l1:=w1.len;obtain⟨r2,e2,w2⟩:=fS N hN 1 (by decide) (by decide) ho.la r1.1 r1.2 (by omega)
 have l2:=w2.len;have e1k:=e1;rw[hk] at e1k;rw[hk,show(cond (decide ((6:Int) < 1)) true (decide ((6:Int) > 10)))=false from rfl,aK,cond_false,show aA N b 1 6 e=_ from e1k,aa,show((6:Int)==1)=false from rfl,cond_false,show((6:Int)==2)=false from rfl,cond_false,show((6:Int)==3)=false from rfl,cond_false,show((6:Int)==4)=false from rfl,aa,cond_false,show((6:Int)==5)=false from rfl,cond_false,show((6:Int)==6)=true from rfl,cond_true,aa,cond_true,show aA N r1.1 1 o.gF r1.2=_ from e2,aa]
 exact⟨_,rfl,_,(w1.seq w2).cast (by simp[fO,zO]) (by simp),by simp[tO]⟩
theorem opD7(N:Nat)(hN:1000 < N){o:aF}(ho:O64 o)(hk:o.gC=7)(b:List Int)(e:Bool)(hb:b.length<=80000):∃r,aE N b o e=some (Sum.inr r)/\∃q,Wr false b e (fO o 7) 1000 q/\r=(q.1++tO o 7,q.2):=by
 unfold aE;obtain⟨r1,e1,w1⟩:=fS N hN 1 (by decide) (by decide) ho.k b e (by omega)
 have l1:=w1.len;obtain⟨r2,e2,w2⟩:=fS N hN 1 (by decide) (by decide) ho.la r1.1 r1.2 (by omega)
 have l2:=w2.len;obtain⟨r3,e3,w3⟩:=fS N hN 1 (by decide) (by decide) ho.wh r2.1 r2.2 (by omega)
 have l3:=w3.len;obtain⟨r4,e4,w4⟩:=fS N hN 4 (by decide) (by decide) ho.lb64 r3.1 r3.2 (by omega)
 have l4:=w4.len;obtain⟨r5,e5,w5⟩:=fS N hN 4 (by decide) (by decide) ho.mn r4.1 r4.2 (by omega)
 have l5:=w5.len;have e1k:=e1;rw[hk] at e1k;rw[hk,show(cond (decide ((7:Int) < 1)) true (decide ((7:Int) > 10)))=false from rfl,aK,cond_false,show aA N b 1 7 e=_ from e1k,aa,show((7:Int)==1)=false from rfl,cond_false,show((7:Int)==2)=false from rfl,cond_false,show((7:Int)==3)=false from rfl,cond_false,show((7:Int)==4)=false from rfl,aa,cond_false,show((7:Int)==5)=false from rfl,cond_false,show((7:Int)==6)=false from rfl,cond_false,show((7:Int)==9)=false from rfl,aa,cond_false,show((7:Int)==7)=true from rfl,cond_true,show aA N r1.1 1 o.gF r1.2=_ from e2,aa,show aA N r2.1 1 o.gP r2.2=_ from e3,aa,show aA N r3.1 4 (I64 o.gA2) r3.2=_ from e4,aa,show aA N r4.1 4 o.gA6 r4.2=_ from e5,aa]
 exact⟨_,rfl,_,((((w1.seq w2).seq w3).seq w4).seq w5).cast (by simp[fO,zO]) (by simp),by simp[tO]⟩
theorem opD8(N:Nat)(hN:1000 < N){o:aF}(ho:O64 o)(hk:o.gC=8)(b:List Int)(e:Bool)(hb:b.length<=80000):∃r,aE N b o e=some (Sum.inr r)/\∃q,Wr false b e (fO o 8) 1000 q/\r=(q.1++tO o 8,q.2):=by
 unfold aE;obtain⟨r1,e1,w1⟩:=fS N hN 1 (by decide) (by decide) ho.k b e (by omega)
 have l1:=w1.len;obtain⟨r2,e2,w2⟩:=fS N hN 1 (by decide) (by decide) ho.la r1.1 r1.2 (by omega)
 have l2:=w2.len;obtain⟨r3,e3,w3⟩:=fS N hN 1 (by decide) (by decide) ho.wh r2.1 r2.2 (by omega)
 have l3:=w3.len;have e1k:=e1;rw[hk] at e1k;rw[hk,show(cond (decide ((8:Int) < 1)) true (decide ((8:Int) > 10)))=false from rfl,aK,cond_false,show aA N b 1 8 e=_ from e1k,aa,show((8:Int)==1)=false from rfl,cond_false,show((8:Int)==2)=false from rfl,cond_false,show((8:Int)==3)=false from rfl,cond_false,show((8:Int)==4)=false from rfl,aa,cond_false,show((8:Int)==5)=false from rfl,cond_false,show((8:Int)==6)=false from rfl,cond_false,show((8:Int)==9)=false from rfl,aa,cond_false,show((8:Int)==7)=false from rfl,cond_false,show((8:Int)==8)=true from rfl,cond_true,show aA N r1.1 1 o.gF r1.2=_ from e2,aa,show aA N r2.1 1 o.gP r2.2=_ from e3,aa]
 exact⟨_,rfl,_,((w1.seq w2).seq w3).cast (by simp[fO,zO]) (by simp),by simp[tO]⟩
theorem opD9(N:Nat)(hN:1000 < N){o:aF}(ho:O64 o)(hk:o.gC=9)(b:List Int)(e:Bool)(hb:b.length<=80000):∃r,aE N b o e=some (Sum.inr r)/\∃q,Wr false b e (fO o 9) 1000 q/\r=(q.1++tO o 9,q.2):=by
 unfold aE;obtain⟨r1,e1,w1⟩:=fS N hN 1 (by decide) (by decide) ho.k b e (by omega)
 have l1:=w1.len;obtain⟨r2,e2,w2⟩:=fS N hN 1 (by decide) (by decide) ho.la r1.1 r1.2 (by omega)
 have l2:=w2.len;have e1k:=e1;rw[hk] at e1k;rw[hk,show(cond (decide ((9:Int) < 1)) true (decide ((9:Int) > 10)))=false from rfl,aK,cond_false,show aA N b 1 9 e=_ from e1k,aa,show((9:Int)==1)=false from rfl,cond_false,show((9:Int)==2)=false from rfl,cond_false,show((9:Int)==3)=false from rfl,cond_false,show((9:Int)==4)=false from rfl,aa,cond_false,show((9:Int)==5)=false from rfl,cond_false,show((9:Int)==6)=false from rfl,cond_false,show((9:Int)==9)=true from rfl,aa,cond_true,show aA N r1.1 1 o.gF r1.2=_ from e2,aa]
 exact⟨_,rfl,_,(w1.seq w2).cast (by simp[fO,zO]) (by simp),by simp[tO]⟩
theorem opD10(N:Nat)(hN:1000 < N){o:aF}(ho:O64 o)(hk:o.gC=10)(b:List Int)(e:Bool)(hb:b.length<=80000):∃r,aE N b o e=some (Sum.inr r)/\∃q,Wr false b e (fO o 10) 1000 q/\r=(q.1++tO o 10,q.2):=by
 unfold aE;obtain⟨r1,e1,w1⟩:=fS N hN 1 (by decide) (by decide) ho.k b e (by omega)
 have l1:=w1.len;obtain⟨r2,e2,w2⟩:=fS N hN 4 (by decide) (by decide) ho.ti r1.1 r1.2 (by omega)
 have l2:=w2.len;have e1k:=e1;rw[hk] at e1k;rw[hk,show(cond (decide ((10:Int) < 1)) true (decide ((10:Int) > 10)))=false from rfl,aK,cond_false,show aA N b 1 10 e=_ from e1k,aa,show((10:Int)==1)=false from rfl,cond_false,show((10:Int)==2)=false from rfl,cond_false,show((10:Int)==3)=false from rfl,cond_false,show((10:Int)==4)=false from rfl,aa,cond_false,show((10:Int)==5)=false from rfl,cond_false,show((10:Int)==6)=false from rfl,cond_false,show((10:Int)==9)=false from rfl,aa,cond_false,show((10:Int)==7)=false from rfl,cond_false,show((10:Int)==8)=false from rfl,cond_false,show((10:Int)==10)=true from rfl,cond_true,show aA N r1.1 4 o.gA7 r1.2=_ from e2,aa]
 exact⟨_,rfl,_,(w1.seq w2).cast (by simp[fO,zO]) (by simp),by simp[tO]⟩
theorem opCn(N:Nat)(hN:1000 < N){o:aF}(ho:O64 o)(hk:o.gC < 1\/10 < o.gC):∃r,aH N [] o 0=some r/\r.2≠0:=by
 unfold aH;obtain⟨r1,e1,w1⟩:=kA N hN 1 (by decide) (by decide) [o.gC] (λx hx=>by rw[ak] at hx;rw[hx];exact ho.k) (by simp) [] 0 (by simp)
 have f:∀j:Int,1<=j->j<=10->(o.gC==j)=false:=λj _ _=>by rw[beq_eq_false_iff_ne];omega
 rw[show aB N [] 1 [o.gC] 0=_ from e1,aa,f 1 (by decide) (by decide),f 2 (by decide) (by decide),f 3 (by decide) (by decide),f 4 (by decide) (by decide),f 5 (by decide) (by decide),f 6 (by decide) (by decide),f 7 (by decide) (by decide),f 8 (by decide) (by decide),f 9 (by decide) (by decide),f 10 (by decide) (by decide),cond_false,cond_false,cond_false,aa,cond_false,cond_false,cond_false,aa,cond_false,cond_false,cond_false,aE6,aa]
 exact⟨_,rfl,oO (.inr (by decide))⟩
theorem opDn(N:Nat){o:aF}(hk:o.gC < 1\/10 < o.gC)(b:List Int)(e:Bool):aE N b o e=some (Sum.inl ()):=by
 unfold aE;rw[aK]
 rcases hk with h | h
 ·rw[dt h,cond_true,cond_true]
 ·rw[dt (show o.gC > 10 from h),show ∀c:Bool,cond c true true=true from λc=>by cases c <;> rfl,cond_true]
theorem kinds{o:aF}(h:¬(o.gC < 1\/10 < o.gC)):∃k:Nat,o.gC=(k:Int)/\1<=k/\k<=10:=⟨o.gC.toNat,by omega,by omega,by omega⟩
theorem tens{k:Nat}(h:1<=k)(h':k<=10):k=1\/k=2\/k=3\/k=4\/k=5\/k=6\/k=7\/k=8\/k=9\/k=10:=by omega
theorem opCk(N:Nat)(hN:1000 < N){o:aF}(ho:O64 o){k:Nat}(hk:o.gC=(k:Int))(h1:1<=k)(h2:k<=10):∃r,aH N [] o 0=some r/\∃q,Wr 0 [] 0 (fO o k) 1000 q/\r=(q.1++tO o k,q.2):=by
 rcases tens h1 h2 with rfl | rfl | rfl | rfl | rfl | rfl | rfl | rfl | rfl | rfl
 ·exact opC1 N hN ho hk
 ·exact opC2 N hN ho hk
 ·exact opC3 N hN ho hk
 ·exact opC4 N hN ho hk
 ·exact opC5 N hN ho hk
 ·exact opC6 N hN ho hk
 ·exact opC7 N hN ho hk
 ·exact opC8 N hN ho hk
 ·exact opC9 N hN ho hk
 ·exact opC10 N hN ho hk
theorem opDk(N:Nat)(hN:1000 < N){o:aF}(ho:O64 o){k:Nat}(hk:o.gC=(k:Int))(h1:1<=k)(h2:k<=10)(b:List Int)(e:Bool)(hb:b.length<=80000):∃r,aE N b o e=some (Sum.inr r)/\∃q,Wr false b e (fO o k) 1000 q/\r=(q.1++tO o k,q.2):=by
 rcases tens h1 h2 with rfl | rfl | rfl | rfl | rfl | rfl | rfl | rfl | rfl | rfl
 ·exact opD1 N hN ho hk b e hb
 ·exact opD2 N hN ho hk b e hb
 ·exact opD3 N hN ho hk b e hb
 ·exact opD4 N hN ho hk b e hb
 ·exact opD5 N hN ho hk b e hb
 ·exact opD6 N hN ho hk b e hb
 ·exact opD7 N hN ho hk b e hb
 ·exact opD8 N hN ho hk b e hb
 ·exact opD9 N hN ho hk b e hb
 ·exact opD10 N hN ho hk b e hb
theorem sumL{α β γ:Type}(a:α)(f:α->γ)(g:β->γ):mG (.inl a) f g=f a:=rfl
theorem aFd{o:aF}(ho:O64 o)(k:Nat):(tO o k).length<=1000000:=by
 unfold tO;split
 ·exact ho.bl
 ·simp
theorem aE0(N k:Nat)(o:aF){r:List Int×Int}(h:aH N [] o 0=some r)(hl:r.2=0->r.1.length<=2000000):dC N [o] (k+2) [] 0=if r.2=0 then some (.inl r.1) else some (.inr ([],r.2)):=by
 rw[dC,aK,show(decide ((0:Int) < (([o]:List aF).length:Int)))=true from rfl,cond_true,show idx [o] 0=some o from rfl,aa,h,aa]
 by_cases c:r.2=0
 ·rw[show(r.2 != 0)=false by simpa using c,cond_false,eM (by have:=hl c;simp;omega),aa,dC,aK,show(decide (I64 (0+1) < (([o]:List aF).length:Int)))=false from rfl,cond_false,if_pos c]
  rfl
 ·rw[show(r.2 != 0)=true by simpa using c,cond_true,if_neg c]
theorem enc1D(N k:Nat)(o:aF){r:List Int×Bool}(h:aE N [] o false=some (.inr r)):bI N [o] (k+2) [] false 0=if r.2=false then some (.inl r) else some (.inr ([],2)):=by
 rw[bI,aK,show(decide ((0:Int) < (([o]:List aF).length:Int)))=true from rfl,cond_true,show idx [o] 0=some o from rfl,aa,h,aa]
 obtain⟨r,e⟩:=r;cases e with
 | false=>
  show bI N [o] (k+1) r false (I64 (0+1))=_;rw[bI];rfl
 | true=>rfl
theorem aFV(N k:Nat)(o:aF)(h:aE N [] o false=some (.inl ())):bI N [o] (k+2) [] false 0=some (.inr ([],2)):=by
 rw[bI,aK,show(decide ((0:Int) < (([o]:List aF).length:Int)))=true from rfl,cond_true,show idx [o] 0=some o from rfl,aa,h,aa]
 rfl
theorem encC(N:Nat)(o:aF)(r:List Int×Int)(x:Option (Sum (List Int) (List Int×Int)))(h:dC N [o] N [] 0=x):bH N [o]=ae x λo=>mG o (λp2=>bQ (decide (((p2.length:Int)) > 65536)) λx9=>cond x9 (some (([],3))) (some ((p2,0)))) (λr=>some r):=by
 unfold bH;rw[aK,show(decide ((([o]:List aF).length:Int) > 256))=false from rfl,cond_false,h]
theorem encD(N:Nat)(o:aF)(x:Option (Sum (List Int×Bool) (List Int×Int)))(h:bI N [o] N [] false 0=x):aS N [o]=ae x λo=>mG o (λp2=>bQ (decide (((p2.1.length:Int)) > 65536)) λx11=>cond x11 (some (([],3))) (some ((p2.1,0)))) (λr=>some r):=by
 unfold aS;rw[aK,show(decide ((([o]:List aF).length:Int) > 256))=false from rfl,cond_false,h]
theorem encS(N:Nat)(hN:1000 < N){o:aF}(ho:O64 o):∃c d,bH N [o]=some c/\aS N [o]=some d/\(c.2=0↔d.2=0)/\(c.2=0->c.1=d.1/\∃k:Nat,o.gC=(k:Int)/\1<=k/\k<=10/\okL (fO o k)=true):=by
 obtain⟨n,rfl⟩:∃n,N=n+2:=⟨N - 2,by omega⟩
 by_cases hk:o.gC < 1\/10 < o.gC
 ·obtain⟨r,e,h⟩:=opCn _ hN ho hk;rw[encC _ _ r _ (aE0 _ n o e λq=>absurd q h),encD _ _ _ (aFV _ n o (opDn _ hk [] false)),if_neg h,aa,aa]
  exact⟨_,_,rfl,rfl,⟨λq=>absurd q h,λq=>absurd q (show ¬(2:Int)=0 by decide)⟩,λq=>absurd q h⟩
 ·obtain⟨k,h1,h2,h3⟩:=kinds hk;obtain⟨r,e,q,w,rfl⟩:=opCk _ hN ho h1 h2 h3;obtain⟨s,f,p,v,rfl⟩:=opDk _ hN ho h1 h2 h3 [] false (by simp)
  have hw:=w.len;have ht:=aFd ho k;obtain⟨g1,g2⟩:=w.same v (by simp)
  rw[encC _ _ q _ (aE0 _ n o e λ_=>by show(q.1++tO o k).length<=_;rw[an];simp at hw;omega),encD _ _ _ (enc1D _ n o f)]
  by_cases c:q.2=0
  ·have c':=g1.1 c;have hok:okL (fO o k)=true:=Classical.byContradiction λg=>w.bad (λz=>g z.2) c;dsimp only;rw[if_pos c,if_pos c',aa,aa,g2 c]
   rw[sumL,sumL,aK]
   cases decide (((p.1++tO o k).length:Int) > 65536) with
   | true=>exact⟨_,_,rfl,rfl,Iff.rfl,λq=>absurd q (show ¬(3:Int)=0 by decide)⟩
   | false=>exact⟨_,_,rfl,rfl,Iff.rfl,λ_=>⟨rfl,k,h1,h2,h3,hok⟩⟩
  ·have c':¬p.2=false:=λz=>c (g1.2 z)
   dsimp only;rw[if_neg c,if_neg c',aa,aa]
   exact⟨_,_,rfl,rfl,⟨λq=>absurd q c,λq=>absurd q (show ¬(2:Int)=0 by decide)⟩,λq=>absurd q c⟩
def kJ : List ByteArray:=[ByteArray.mk #[],ByteArray.mk #[108,111,97,100],yR,ByteArray.mk #[112,117,116],ByteArray.mk #[116,97,107,101],qG,yU,zJ,aAP,aAF,ByteArray.mk #[116,105,99,107]]
theorem lE(N:Nat):iI N=some kJ:=rfl
def nm : Nat->List UInt8
 | 1=>[108,111,97,100]
 | 2=>[117,110,108,111,97,100]
 | 3=>[112,117,116]
 | 4=>[116,97,107,101]
 | 5=>[108,97,121,101,114]
 | 6=>[114,101,110,100,101,114]
 | 7=>[103,114,97,110,116]
 | 8=>[101,120,112,111,114,116]
 | 9=>[113,117,101,114,121]
 | 10=>[116,105,99,107]
 | _=>[]
def pH(x:Int):Bool:=cond (decide (x > 4611686018427387904)) true (decide (x < (-4611686018427387904)))
theorem aC2(N:Nat)(z:List Int)(hz:z.length<=100):∀(k i:Nat) (s:List Int),s.length<=i->i<=z.length->z.length - i < k->eR N z k s (i:Int)=if (z.drop i).any pH=true then some (.inr ([],false)) else some (.inl (s++z.drop i))
 | 0,_,_,_,_,h=>by omega
 | k+1,i,s,hs,hi,hk=>by
  rw[eR]
  by_cases c:i < z.length
  ·rw[dt (by omega),aK,cond_true,iQ c,aa,aK,aK,bf c,cj]
   show cond (pH z[i]) _ _=_;cases pH z[i] with
   | true=>rfl
   | false=>
    rw[cond_false,eM (by simp;omega),aa,jK (by omega),aC2 N z hz k (i+1) _ (by simp;omega) (by omega) (by omega),fw,ar];rfl
  ·rw[df (by omega),aK,cond_false,bn (by omega)]
   simp
theorem aCW(N:Nat)(z:List Int)(hz:z.length<=100):∀(k i:Nat),i<=z.length->z.length - i < k->cW N z k (i:Int)=if (z.drop i).any pH=true then some (.inr (ByteArray.mk #[],2)) else some (.inl ())
 | 0,_,_,h=>by omega
 | k+1,i,hi,hk=>by
  rw[cW]
  by_cases c:i < z.length
  ·rw[dt (by omega),aK,cond_true,iQ c,aa,aK,aa,aK,bf c,cj,show(cond (decide (z[i] > 4611686018427387904)) (some true) (some (decide (z[i] < (-4611686018427387904)))))=some (pH z[i]) by unfold pH;cases decide (z[i] > 4611686018427387904) <;> rfl,aa]
   cases pH z[i] with
   | true=>rfl
   | false=>rw[cond_false,jK (by omega),aCW N z hz k (i+1) (by omega) (by omega),fw]
  ·rw[df (by omega),aK,cond_false,bn (by omega)]
   rfl
theorem aE9(N:Nat)(o:aF):∀(k i:Nat) (s:List Int),s.length<=100+i->i<=9->9 - i < k->cR N o k s (i:Int)=some (s++o.gA.gT.gM.toList.drop i)
 | 0,_,_,_,_,h=>by omega
 | k+1,i,s,hs,hi,hk=>by
  have hl:o.gA.gT.gM.toList.length=9:=Vector.length_toList;rw[cR]
  by_cases c:i < 9
  ·have c':i < o.gA.gT.gM.toList.length:=by omega
   rw[dt (by omega),cond_true,show aBj (i:Int) 9=some () by unfold aBj inR;rw[dt (by omega),dt (by omega)];rfl,aa,Int.toNat_natCast,List.getElem?_eq_getElem c',aa,eM (by simp;omega),aa,jK (by omega),aE9 N o k (i+1) _ (by simp;omega) (by omega) (by omega),bf c',ar];rfl
  ·rw[df (by omega),cond_false,bn (by omega),List.append_nil]
def ptL(p:aC):List Int:=[p.gX,p.gY,p.gZ]
theorem ptsC(N:Nat)(z:List aC)(hz:z.length<=100):∀(k i:Nat) (s:List Int),s.length<=3*i->i<=z.length->z.length - i < k->eF N z k s (i:Int)=some (s++(z.drop i).flatMap ptL)
 | 0,_,_,_,_,h=>by omega
 | k+1,i,s,hs,hi,hk=>by
  rw[eF]
  by_cases c:i < z.length
  ·rw[dt (by omega),aK,cond_true,iQ c,aa,eM (by simp;omega),aa,jK (by omega),ptsC N z hz k (i+1) _ (by simp;omega) (by omega) (by omega),bf c,bq,ar];rfl
  ·rw[df (by omega),aK,cond_false,bn (by omega)]
   simp
def vI(o:aF):List aC:=[o.gD.gE.gR,o.gD.gE.gS,o.gD.gE.gUp,o.gD.gE.gU]
theorem ptsD(N:Nat)(o:aF):∀(k i:Nat) (s:List Int),s.length<=100+3*i->i<=4->4 - i < k->cS N o k s (i:Int)=some (s++((vI o).drop i).flatMap ptL)
 | 0,_,_,_,_,h=>by omega
 | k+1,i,s,hs,hi,hk=>by
  have hl:(vI o).length=4:=rfl;rw[cS,show [o.gD.gE.gR,o.gD.gE.gS,o.gD.gE.gUp,o.gD.gE.gU]=vI o from rfl]
  by_cases c:i < 4
  ·have c':i < (vI o).length:=by omega
   rw[dt (by omega),cond_true,iQ c',aa,aa,aa,eM (by simp;omega),aa,jK (by omega),ptsD N o k (i+1) _ (by simp;omega) (by omega) (by omega),bf c',bq,ar];rfl
  ·rw[df (by omega),cond_false,bn (by omega)]
   simp
theorem lo32{x:Int}(h:0<=x/\x < 18446744073709551616):aCH .u64 x 4294967295=d7 x 4294967296:=by
 obtain⟨a,rfl⟩:=cm h.1;unfold aCH;have:(bm IntKind.u64.bits (a:Int) &&& bm IntKind.u64.bits 4294967295).toNat=a % 4294967296:=by
  rw[BitVec.toNat_and,show(bm IntKind.u64.bits (a:Int)).toNat=a by
   rw[BitVec.ofInt_natCast,BitVec.toNat_ofNat];exact Nat.mod_eq_of_lt (by have:=h.2;show a < 18446744073709551616;omega),show(bm IntKind.u64.bits 4294967295).toNat=2 ^ 32 - 1 from rfl,Nat.and_two_pow_sub_one_eq_mod]
 rw[this,Int.tmod_eq_emod_of_nonneg (by omega)]
 show U64 _=_;rw[wA];omega
theorem hi32{x:Int}(h:0<=x/\x < 18446744073709551616):shr .u64 x 32=U64 (d9 x 4294967296):=by
 rw[aAK .u64 x 32 32 rfl (by decide),show(2:Int) ^ 32=4294967296 from rfl,Int.tdiv_eq_ediv_of_nonneg h.1,wA]
 omega
theorem ok4{x:Int}(h:Fld.ok ⟨false,4,x⟩=true):pH x=false:=by
 unfold Fld.ok at h;rw[cond_false,am] at h;have h1:0<=x:=of_decide_eq_true h.1;have h2:big 4 x=false:=by simpa using h.2
 have h3:x < bT 4:=by unfold big at h2;have:=of_decide_eq_false h2;omega
 rw[show bT 4=4294967296 from rfl] at h3;unfold pH;rw[df (by omega),df (by omega)]
 rfl
theorem pr2(N:Nat)(hN:2000 < N){o:aF}(ho:O64 o){c d:List Int×Int}(hc:bH N [o]=some c)(hd:aS N [o]=some d)(c0:c.2=0)(d0:d.2=0)(hk:o.gC=2):∃s,aP N o=some s/\aI N o=some s:=by
 refine⟨(txt (nm 2++eW [o.gK]),0),?_,?_⟩
 ·unfold aP;rw[hc,aa,show(c.2 != 0)=false by simpa using c0,cond_false,lE,aa,hk,show idx kJ 2=some (txt (nm 2)) from rfl,aa,show((2:Int)==1)=false from rfl,cond_false,show((2:Int)==2)=true from rfl,cond_true]
  rw[lO (by decide) (by decide) (by simp) (λx hx=>by rw[ak] at hx;rw[hx];exact ho.ha),aa]
 ·unfold aI;rw[hd,aa,show(d.2 != 0)=false by simpa using d0,cond_false,hk,show((2:Int)==1)=false from rfl,cond_false,show((2:Int)==2)=true from rfl,cond_true]
  rw[show yR=txt (nm 2) from rfl,oM N (by omega) _ _ (by decide) (by simp) (λx hx=>by rw[ak] at hx;rw[hx];exact ho.ha),aa]
theorem pr4(N:Nat)(hN:2000 < N){o:aF}(ho:O64 o){c d:List Int×Int}(hc:bH N [o]=some c)(hd:aS N [o]=some d)(c0:c.2=0)(d0:d.2=0)(hk:o.gC=4):∃s,aP N o=some s/\aI N o=some s:=by
 refine⟨(txt (nm 4++eW [o.gA.gG,o.gA.gI,o.gA.gJ,o.gA.gN]),0),?_,?_⟩
 ·unfold aP;rw[hc,aa,show(c.2 != 0)=false by simpa using c0,cond_false,lE,aa,hk,show idx kJ 4=some (txt (nm 4)) from rfl,aa,show((4:Int)==1)=false from rfl,cond_false,show((4:Int)==2)=false from rfl,cond_false,show((4:Int)==3)=false from rfl,cond_false,show((4:Int)==4)=true from rfl,cond_true]
  rw[lO (by decide) (by decide) (by simp) (λx hx=>by simp only[ba,av,or_false] at hx;rcases hx with rfl | rfl | rfl | rfl;exact ho.me;exact ho.ma;exact ho.te;exact ho.n),aa]
 ·unfold aI;rw[hd,aa,show(d.2 != 0)=false by simpa using d0,cond_false,hk,show((4:Int)==1)=false from rfl,cond_false,show((4:Int)==2)=false from rfl,cond_false,show((4:Int)==3)=false from rfl,cond_false,show((4:Int)==4)=true from rfl,cond_true]
  rw[show(ByteArray.mk #[116,97,107,101]:ByteArray)=txt (nm 4) from rfl,oM N (by omega) _ _ (by decide) (by simp) (λx hx=>by simp only[ba,av,or_false] at hx;rcases hx with rfl | rfl | rfl | rfl;exact ho.me;exact ho.ma;exact ho.te;exact ho.n),aa]
theorem pr6(N:Nat)(hN:2000 < N){o:aF}(ho:O64 o){c d:List Int×Int}(hc:bH N [o]=some c)(hd:aS N [o]=some d)(c0:c.2=0)(d0:d.2=0)(hk:o.gC=6):∃s,aP N o=some s/\aI N o=some s:=by
 refine⟨(txt (nm 6++eW [o.gF]),0),?_,?_⟩
 ·unfold aP;rw[hc,aa,show(c.2 != 0)=false by simpa using c0,cond_false,lE,aa,hk,show idx kJ 6=some (txt (nm 6)) from rfl,aa,show((6:Int)==1)=false from rfl,cond_false,show((6:Int)==2)=false from rfl,cond_false,show((6:Int)==3)=false from rfl,cond_false,show((6:Int)==4)=false from rfl,cond_false,show((6:Int)==5)=false from rfl,cond_false,show((6:Int)==7)=false from rfl,cond_false,show((6:Int)==8)=false from rfl,cond_false,show((6:Int)==10)=false from rfl,cond_false]
  rw[lO (by decide) (by decide) (by simp) (λx hx=>by rw[ak] at hx;rw[hx];exact ho.la),aa]
 ·unfold aI;rw[hd,aa,show(d.2 != 0)=false by simpa using d0,cond_false,hk,show((6:Int)==1)=false from rfl,cond_false,show((6:Int)==2)=false from rfl,cond_false,show((6:Int)==3)=false from rfl,cond_false,show((6:Int)==4)=false from rfl,cond_false,show((6:Int)==5)=false from rfl,cond_false,show((6:Int)==6)=true from rfl,cond_true]
  rw[show yU=txt (nm 6) from rfl,oM N (by omega) _ _ (by decide) (by simp) (λx hx=>by rw[ak] at hx;rw[hx];exact ho.la),aa]
theorem pr7(N:Nat)(hN:2000 < N){o:aF}(ho:O64 o){c d:List Int×Int}(hc:bH N [o]=some c)(hd:aS N [o]=some d)(c0:c.2=0)(d0:d.2=0)(hk:o.gC=7):∃s,aP N o=some s/\aI N o=some s:=by
 refine⟨(txt (nm 7++eW [o.gF,o.gP,I64 o.gA2,o.gA6]),0),?_,?_⟩
 ·unfold aP;rw[hc,aa,show(c.2 != 0)=false by simpa using c0,cond_false,lE,aa,hk,show idx kJ 7=some (txt (nm 7)) from rfl,aa,show((7:Int)==1)=false from rfl,cond_false,show((7:Int)==2)=false from rfl,cond_false,show((7:Int)==3)=false from rfl,cond_false,show((7:Int)==4)=false from rfl,cond_false,show((7:Int)==5)=false from rfl,cond_false,show((7:Int)==7)=true from rfl,cond_true]
  rw[lO (by decide) (by decide) (by simp) (λx hx=>by simp only[ba,av,or_false] at hx;rcases hx with rfl | rfl | rfl | rfl;exact ho.la;exact ho.wh;exact ho.lb64;exact ho.mn),aa]
 ·unfold aI;rw[hd,aa,show(d.2 != 0)=false by simpa using d0,cond_false,hk,show((7:Int)==1)=false from rfl,cond_false,show((7:Int)==2)=false from rfl,cond_false,show((7:Int)==3)=false from rfl,cond_false,show((7:Int)==4)=false from rfl,cond_false,show((7:Int)==5)=false from rfl,cond_false,show((7:Int)==6)=false from rfl,cond_false,show((7:Int)==7)=true from rfl,cond_true]
  rw[show zJ=txt (nm 7) from rfl,oM N (by omega) _ _ (by decide) (by simp) (λx hx=>by simp only[ba,av,or_false] at hx;rcases hx with rfl | rfl | rfl | rfl;exact ho.la;exact ho.wh;exact ho.lb64;exact ho.mn),aa]
theorem pr8(N:Nat)(hN:2000 < N){o:aF}(ho:O64 o){c d:List Int×Int}(hc:bH N [o]=some c)(hd:aS N [o]=some d)(c0:c.2=0)(d0:d.2=0)(hk:o.gC=8):∃s,aP N o=some s/\aI N o=some s:=by
 refine⟨(txt (nm 8++eW [o.gF,o.gP]),0),?_,?_⟩
 ·unfold aP;rw[hc,aa,show(c.2 != 0)=false by simpa using c0,cond_false,lE,aa,hk,show idx kJ 8=some (txt (nm 8)) from rfl,aa,show((8:Int)==1)=false from rfl,cond_false,show((8:Int)==2)=false from rfl,cond_false,show((8:Int)==3)=false from rfl,cond_false,show((8:Int)==4)=false from rfl,cond_false,show((8:Int)==5)=false from rfl,cond_false,show((8:Int)==7)=false from rfl,cond_false,show((8:Int)==8)=true from rfl,cond_true]
  rw[lO (by decide) (by decide) (by simp) (λx hx=>by simp only[ba,av,or_false] at hx;rcases hx with rfl | rfl;exact ho.la;exact ho.wh),aa]
 ·unfold aI;rw[hd,aa,show(d.2 != 0)=false by simpa using d0,cond_false,hk,show((8:Int)==1)=false from rfl,cond_false,show((8:Int)==2)=false from rfl,cond_false,show((8:Int)==3)=false from rfl,cond_false,show((8:Int)==4)=false from rfl,cond_false,show((8:Int)==5)=false from rfl,cond_false,show((8:Int)==6)=false from rfl,cond_false,show((8:Int)==7)=false from rfl,cond_false,show((8:Int)==8)=true from rfl,cond_true]
  rw[show aAP=txt (nm 8) from rfl,oM N (by omega) _ _ (by decide) (by simp) (λx hx=>by simp only[ba,av,or_false] at hx;rcases hx with rfl | rfl;exact ho.la;exact ho.wh),aa]
theorem pr9(N:Nat)(hN:2000 < N){o:aF}(ho:O64 o){c d:List Int×Int}(hc:bH N [o]=some c)(hd:aS N [o]=some d)(c0:c.2=0)(d0:d.2=0)(hk:o.gC=9):∃s,aP N o=some s/\aI N o=some s:=by
 refine⟨(txt (nm 9++eW [o.gF]),0),?_,?_⟩
 ·unfold aP;rw[hc,aa,show(c.2 != 0)=false by simpa using c0,cond_false,lE,aa,hk,show idx kJ 9=some (txt (nm 9)) from rfl,aa,show((9:Int)==1)=false from rfl,cond_false,show((9:Int)==2)=false from rfl,cond_false,show((9:Int)==3)=false from rfl,cond_false,show((9:Int)==4)=false from rfl,cond_false,show((9:Int)==5)=false from rfl,cond_false,show((9:Int)==7)=false from rfl,cond_false,show((9:Int)==8)=false from rfl,cond_false,show((9:Int)==10)=false from rfl,cond_false]
  rw[lO (by decide) (by decide) (by simp) (λx hx=>by rw[ak] at hx;rw[hx];exact ho.la),aa]
 ·unfold aI;rw[hd,aa,show(d.2 != 0)=false by simpa using d0,cond_false,hk,show((9:Int)==1)=false from rfl,cond_false,show((9:Int)==2)=false from rfl,cond_false,show((9:Int)==3)=false from rfl,cond_false,show((9:Int)==4)=false from rfl,cond_false,show((9:Int)==5)=false from rfl,cond_false,show((9:Int)==6)=false from rfl,cond_false,show((9:Int)==7)=false from rfl,cond_false,show((9:Int)==8)=false from rfl,cond_false,show((9:Int)==9)=true from rfl,cond_true]
  rw[show aAF=txt (nm 9) from rfl,oM N (by omega) _ _ (by decide) (by simp) (λx hx=>by rw[ak] at hx;rw[hx];exact ho.la),aa]
theorem pr10(N:Nat)(hN:2000 < N){o:aF}(ho:O64 o){c d:List Int×Int}(hc:bH N [o]=some c)(hd:aS N [o]=some d)(c0:c.2=0)(d0:d.2=0)(hk:o.gC=10):∃s,aP N o=some s/\aI N o=some s:=by
 refine⟨(txt (nm 10++eW [o.gA7]),0),?_,?_⟩
 ·unfold aP;rw[hc,aa,show(c.2 != 0)=false by simpa using c0,cond_false,lE,aa,hk,show idx kJ 10=some (txt (nm 10)) from rfl,aa,show((10:Int)==1)=false from rfl,cond_false,show((10:Int)==2)=false from rfl,cond_false,show((10:Int)==3)=false from rfl,cond_false,show((10:Int)==4)=false from rfl,cond_false,show((10:Int)==5)=false from rfl,cond_false,show((10:Int)==7)=false from rfl,cond_false,show((10:Int)==8)=false from rfl,cond_false,show((10:Int)==10)=true from rfl,cond_true]
  rw[lO (by decide) (by decide) (by simp) (λx hx=>by rw[ak] at hx;rw[hx];exact ho.ti),aa]
 ·unfold aI;rw[hd,aa,show(d.2 != 0)=false by simpa using d0,cond_false,hk,show((10:Int)==1)=false from rfl,cond_false,show((10:Int)==2)=false from rfl,cond_false,show((10:Int)==3)=false from rfl,cond_false,show((10:Int)==4)=false from rfl,cond_false,show((10:Int)==5)=false from rfl,cond_false,show((10:Int)==6)=false from rfl,cond_false,show((10:Int)==7)=false from rfl,cond_false,show((10:Int)==8)=false from rfl,cond_false,show((10:Int)==9)=false from rfl,cond_false]
  rw[show(ByteArray.mk #[116,105,99,107]:ByteArray)=txt (nm 10) from rfl,oM N (by omega) _ _ (by decide) (by simp) (λx hx=>by rw[ak] at hx;rw[hx];exact ho.ti),aa]
theorem pr1(N:Nat)(hN:2000 < N){o:aF}(ho:O64 o){c d:List Int×Int}(hc:bH N [o]=some c)(hd:aS N [o]=some d)(c0:c.2=0)(d0:d.2=0)(hk:o.gC=1)(hb:o.gL.length<=1000)(hby:kK o.gL):∃s,aP N o=some s/\aI N o=some s:=by
 obtain⟨r,h1,h2,h3⟩:=hexR N hN hby hb;have hj:=oI [o.gK] (λx hx=>by rw[ak] at hx;rw[hx];exact ho.ha)
 have hn:(nm 1).length=4:=rfl;simp only[ai,al] at hj;refine⟨(txt (nm 1++eW [o.gK]++[32]++r),0),?_,?_⟩
 ·unfold aP;rw[hc,aa,show(c.2 != 0)=false by simpa using c0,cond_false,lE,aa,hk,show idx kJ 1=some (txt (nm 1)) from rfl,aa,show((1:Int)==1)=true from rfl,cond_true]
  rw[lO (by decide) (by decide) (by simp) (λx hx=>by rw[ak] at hx;rw[hx];exact ho.ha),aa,show(ByteArray.mk #[32]:ByteArray)=txt [32] from rfl,fX (by simp only[an,ai,al];omega),aa,h2,aa,fX (by simp only[an,ai,al];omega),aa]
 ·unfold aI;rw[hd,aa,show(d.2 != 0)=false by simpa using d0,cond_false,hk,show((1:Int)==1)=true from rfl,cond_true]
  rw[show(ByteArray.mk #[108,111,97,100]:ByteArray)=txt (nm 1) from rfl,oM N (by omega) _ _ (by decide) (by simp) (λx hx=>by rw[ak] at hx;rw[hx];exact ho.ha),aa,show(ByteArray.mk #[32]:ByteArray)=txt [32] from rfl,fX (by simp only[an,ai,al];omega),aa,h3,aa,fX (by simp only[an,ai,al];omega),aa]
theorem pr3(N:Nat)(hN:2000 < N){o:aF}(ho:O64 o){c d:List Int×Int}(hc:bH N [o]=some c)(hd:aS N [o]=some d)(c0:c.2=0)(d0:d.2=0)(hk:o.gC=3)(hok:okL (fO o 3)=true):∃s,aP N o=some s/\aI N o=some s:=by
 have hz:=yK o;have h4:∀x∈([o.gA.gG,o.gA.gI,o.gA.gJ,o.gA.gN]:List Int),dI x:=(λx hx=>by simp only[ba,av,or_false] at hx;rcases hx with rfl | rfl | rfl | rfl;exact ho.me;exact ho.ma;exact ho.te;exact ho.n)
 have hj:=oI [o.gA.gG,o.gA.gI,o.gA.gJ,o.gA.gN] h4;have hn:(nm 3).length=3:=rfl;simp only[ai,al] at hj;have hz64:∀x∈([o.gA.gG,o.gA.gI,o.gA.gJ,o.gA.gN]++zO o:List Int),dI x:=λx hx=>by
  rw[ci] at hx;rcases hx with hx | hx
  ·exact h4 x hx
  ·exact aDQ ho x hx
 have fx:iK N o.gA.gT=if (zO o).any pH=true then some ([],false) else some (zO o,true):=by
  unfold iK;rw[eM (by simp),aa,show eR N (o.gA.gT.gM.toList++[o.gA.gT.gT.gX,o.gA.gT.gT.gY,o.gA.gT.gT.gZ]) N [] 0=_ from aC2 N (zO o) (by omega) N 0 [] (by simp) (by omega) (by omega),bt]
  by_cases g:(zO o).any pH=true
  ·rw[if_pos g,if_pos g];rfl
  ·rw[if_neg g,if_neg g];rfl
 have bd:([o.gA.gG,o.gA.gI,o.gA.gJ,o.gA.gN]++zO o:List Int).any pH=(zO o).any pH:=by
  have hok2:okL ([⟨false,1,o.gC⟩,⟨false,4,o.gA.gG⟩,⟨false,4,o.gA.gI⟩,⟨false,4,o.gA.gJ⟩,⟨false,4,o.gA.gN⟩]++(zO o).map λx=>⟨true,8,x⟩)=true:=hok;rw[xH,am] at hok2;have h5:=hok2.1;simp only[okL,List.all_cons,am,List.all_nil,and_true] at h5;rw[List.any_append,cj,cj,cj,cj,ok4 h5.2.1,ok4 h5.2.2.1,ok4 h5.2.2.2.1,ok4 h5.2.2.2.2]
  rfl
 have dl2:=aCW N ([o.gA.gG,o.gA.gI,o.gA.gJ,o.gA.gN]++zO o) (by simp;omega) N 0 (by omega) (by simp;omega)
 rw[bt,bd] at dl2;have dc:aI N o=ae (if (zO o).any pH=true then some (.inr (ByteArray.mk #[],2)) else some (.inl ())) λo1=>mG o1 (λp14=>ae (aU N (ByteArray.mk #[112,117,116]) ([o.gA.gG,o.gA.gI,o.gA.gJ,o.gA.gN]++zO o)) λr22=>some (r22,0)) (λr=>some r):=by
  unfold aI;rw[hd,aa,show(d.2 != 0)=false by simpa using d0,cond_false,hk,show((3:Int)==1)=false from rfl,cond_false,show((3:Int)==2)=false from rfl,cond_false,show((3:Int)==3)=true from rfl,cond_true]
  rw[show cR N o N ([o.gA.gG,o.gA.gI,o.gA.gJ,o.gA.gN]:List Int) 0=_ from aE9 N o N 0 _ (by simp) (by omega) (by omega),bt,aa,eM (by simp),aa,ar,show cW N ([o.gA.gG,o.gA.gI,o.gA.gJ,o.gA.gN]++(o.gA.gT.gM.toList++[o.gA.gT.gT.gX,o.gA.gT.gT.gY,o.gA.gT.gT.gZ])) N 0=_ from dl2]
  rfl
 by_cases g:(zO o).any pH=true
 ·rw[if_pos g] at fx dc;refine⟨(ByteArray.mk #[],2),?_,dc⟩
  unfold aP;rw[hc,aa,show(c.2 != 0)=false by simpa using c0,cond_false,lE,aa,hk,show idx kJ 3=some (txt (nm 3)) from rfl,aa,show((3:Int)==1)=false from rfl,cond_false,show((3:Int)==2)=false from rfl,cond_false,show((3:Int)==3)=true from rfl,cond_true]
  rw[fx];rfl
 ·rw[if_neg g] at fx dc;refine⟨(txt (nm 3++eW ([o.gA.gG,o.gA.gI,o.gA.gJ,o.gA.gN]++zO o)),0),?_,?_⟩
  ·unfold aP;rw[hc,aa,show(c.2 != 0)=false by simpa using c0,cond_false,lE,aa,hk,show idx kJ 3=some (txt (nm 3)) from rfl,aa,show((3:Int)==1)=false from rfl,cond_false,show((3:Int)==2)=false from rfl,cond_false,show((3:Int)==3)=true from rfl,cond_true]
   rw[fx,aa,show(!true)=false from rfl,cond_false,lO (by decide) (by decide) (by simp) h4,aa,lO (by intro q;have:=congrArg g8 q;simp[hn] at this) (by rw[an];omega) (by omega) (aDQ ho),aa,ar,<- rF]
  ·rw[dc,aa,sumL,show(ByteArray.mk #[112,117,116]:ByteArray)=txt (nm 3) from rfl,oM N (by omega) _ _ (by decide) (by simp;omega) hz64,aa]
theorem pr5(N:Nat)(hN:2000 < N){o:aF}(ho:O64 o){c d:List Int×Int}(hc:bH N [o]=some c)(hd:aS N [o]=some d)(c0:c.2=0)(d0:d.2=0)(hk:o.gC=5):∃s,aP N o=some s/\aI N o=some s:=by
 have h9:∀x∈([o.gF,o.gD.gW,o.gD.gH,o.gD.gV,o.gD.gA0,o.gD.gA1,cond o.gD.gA5 1 0,I64 (U64 (d9 o.gD.gO 4294967296)),I64 (d7 o.gD.gO 4294967296)]:List Int),dI x:=(λx hx=>by simp only[ba,av,or_false] at hx;rcases hx with rfl | rfl | rfl | rfl | rfl | rfl | rfl | rfl | rfl;exact ho.la;exact ho.v.w;exact ho.v.h;exact ho.v.s;exact ho.v.d;exact ho.v.c;exact aAv _;exact aDF _;exact aDF _)
 have h3:∀x∈([o.gD.gE.gA4,o.gD.gE.gA8,o.gA3]:List Int),dI x:=(λx hx=>by simp only[ba,av,or_false] at hx;rcases hx with rfl | rfl | rfl;exact ho.v.ln;exact ho.v.fo;exact ho.q)
 have hP:∀x∈(vI o).flatMap ptL,dI x:=λx hx=>by
  obtain⟨p,hp,hx⟩:=List.mem_flatMap.1 hx;have:p64 p:=by
   unfold vI at hp;simp only[ba,av,or_false] at hp;rcases hp with rfl | rfl | rfl | rfl
   ·exact ho.v.eye
   ·exact ho.v.rt
   ·exact ho.v.up
   ·exact ho.v.ah
  unfold ptL at hx;simp only[ba,av,or_false] at hx;rcases hx with rfl | rfl | rfl
  ·exact this.1
  ·exact this.2.1
  ·exact this.2.2
 have lP:((vI o).flatMap ptL).length=12:=rfl;have j9:=oI [o.gF,o.gD.gW,o.gD.gH,o.gD.gV,o.gD.gA0,o.gD.gA1,cond o.gD.gA5 1 0,I64 (U64 (d9 o.gD.gO 4294967296)),I64 (d7 o.gD.gO 4294967296)] h9;have jP:=oI _ hP;have hn:(nm 5).length=5:=rfl;simp only[ai,al] at j9;have ne:∀l:List UInt8,nm 5++l≠[]:=λl q=>by have:=congrArg g8 q;simp[hn] at this
 refine⟨(txt (nm 5++eW ([o.gF,o.gD.gW,o.gD.gH,o.gD.gV,o.gD.gA0,o.gD.gA1,cond o.gD.gA5 1 0,I64 (U64 (d9 o.gD.gO 4294967296)),I64 (d7 o.gD.gO 4294967296)]++(vI o).flatMap ptL++[o.gD.gE.gA4,o.gD.gE.gA8,o.gA3])),0),?_,?_⟩
 ·unfold aP;rw[hc,aa,show(c.2 != 0)=false by simpa using c0,cond_false,lE,aa,hk,show idx kJ 5=some (txt (nm 5)) from rfl,aa,show((5:Int)==1)=false from rfl,cond_false,show((5:Int)==2)=false from rfl,cond_false,show((5:Int)==3)=false from rfl,cond_false,show((5:Int)==4)=false from rfl,cond_false,show((5:Int)==5)=true from rfl,cond_true]
  rw[aDa,aa,aK,aK,hi32 ho.v.seed,lo32 ho.v.seed,lO (by decide) (by decide) (by simp) h9,aa,show hK N [o.gD.gE.gR,o.gD.gE.gS,o.gD.gE.gUp,o.gD.gE.gU]=some ((vI o).flatMap ptL) by
   unfold hK;rw[show eF N [o.gD.gE.gR,o.gD.gE.gS,o.gD.gE.gUp,o.gD.gE.gU] N [] 0=_ from ptsC N (vI o) (show 4<=100 by decide) N 0 [] (by simp) (by omega) (show 4 - 0 < N by omega)]
   rfl,aa,lO (ne _) (by rw[an];omega) (by omega) hP,aa,aK,ar,lO (ne _) (by rw[an,an];omega) (by simp) h3,aa,rF,rF,ar,ar]
 ·unfold aI;rw[hd,aa,show(d.2 != 0)=false by simpa using d0,cond_false,hk,show((5:Int)==1)=false from rfl,cond_false,show((5:Int)==2)=false from rfl,cond_false,show((5:Int)==3)=false from rfl,cond_false,show((5:Int)==4)=false from rfl,cond_false,show((5:Int)==5)=true from rfl,cond_true]
  rw[aDa,aa,aK,aK,show cS N o N ([o.gF,o.gD.gW,o.gD.gH,o.gD.gV,o.gD.gA0,o.gD.gA1,cond o.gD.gA5 1 0,I64 (U64 (d9 o.gD.gO 4294967296)),I64 (d7 o.gD.gO 4294967296)]:List Int) 0=_ from ptsD N o N 0 _ (by simp) (by omega) (by omega),bt,aa,aK,eM (by simp[lP]),aa,show qG=txt (nm 5) from rfl,oM N (by omega) _ _ (by decide) (by simp[lP]) (λx hx=>by
   rw[ci,ci] at hx;rcases hx with (hx | hx) | hx
   ·exact h9 x hx
   ·exact hP x hx
   ·exact h3 x hx),aa]
theorem aFk(N:Nat)(hN:2000 < N){o:aF}(ho:O64 o)(hb:o.gL.length<=1000)(hby:kK o.gL):∃s,aP N o=some s/\aI N o=some s:=by
 obtain⟨c,d,hc,hd,h1,h2⟩:=encS N (by omega) ho;by_cases c0:c.2=0
 ·have d0:=h1.1 c0;obtain⟨_,k,hk,k1,k2,hok⟩:=h2 c0;rcases tens k1 k2 with rfl | rfl | rfl | rfl | rfl | rfl | rfl | rfl | rfl | rfl
  ·exact pr1 N hN ho hc hd c0 d0 hk hb hby
  ·exact pr2 N hN ho hc hd c0 d0 hk
  ·exact pr3 N hN ho hc hd c0 d0 hk hok
  ·exact pr4 N hN ho hc hd c0 d0 hk
  ·exact pr5 N hN ho hc hd c0 d0 hk
  ·exact pr6 N hN ho hc hd c0 d0 hk
  ·exact pr7 N hN ho hc hd c0 d0 hk
  ·exact pr8 N hN ho hc hd c0 d0 hk
  ·exact pr9 N hN ho hc hd c0 d0 hk
  ·exact pr10 N hN ho hc hd c0 d0 hk
 ·have d0:¬d.2=0:=λq=>c0 (h1.2 q)
  unfold aP aI;rw[hc,hd,aa,aa,show(c.2 != 0)=true by simpa using c0,show(d.2 != 0)=true by simpa using d0,cond_true,cond_true]
  exact⟨_,rfl,rfl⟩
def errD(a0:Int):Option ByteArray:=bQ (cond (decide (a0>=0)) (decide (a0 < 21)) false) λx2=>
 cond x2 (
  ae (idx ([ByteArray.mk #[111,107],ByteArray.mk #[110,105,108],ByteArray.mk #[97,114,103],ByteArray.mk #[108,111,110,103],aBD,ByteArray.mk #[102,111,114,109],ByteArray.mk #[116,97,103],xX,ByteArray.mk #[103,114,105,100],ByteArray.mk #[99,97,112],ByteArray.mk #[100,117,112],ByteArray.mk #[110,111,110,101],ByteArray.mk #[107,105,110,100],qG,xS,ByteArray.mk #[99,108,97,115,115],yC,ByteArray.mk #[99,108,101,97,114],xO,xT,ByteArray.mk #[99,104,97,105,110]]) a0) λe3=>
  some e3) (
  some (ByteArray.mk #[63]))
def eT(s:List UInt8)(N:Nat)(a:Int):Prop:=s≠[]/\s.length<=10/\fF N a=some (txt s)/\errD a=some (txt s)
theorem errS(N:Nat)(a:Int):∃s,eT s N a:=by
 by_cases h:0<=a/\a < 21
 ·obtain⟨n,rfl⟩:=cm h.1;have h1:n < 21:=by omega
  have:n=0\/n=1\/n=2\/n=3\/n=4\/n=5\/n=6\/n=7\/n=8\/n=9\/n=10\/n=11\/n=12\/n=13\/n=14\/n=15\/n=16\/n=17\/n=18\/n=19\/n=20:=by omega
  rcases this with rfl | rfl | rfl | rfl | rfl | rfl | rfl | rfl | rfl | rfl | rfl | rfl | rfl | rfl | rfl | rfl | rfl | rfl | rfl | rfl | rfl
  ·exact⟨[111,107],by decide,by decide,rfl,rfl⟩
  ·exact⟨[110,105,108],by decide,by decide,rfl,rfl⟩
  ·exact⟨[97,114,103],by decide,by decide,rfl,rfl⟩
  ·exact⟨[108,111,110,103],by decide,by decide,rfl,rfl⟩
  ·exact⟨[115,104,111,114,116],by decide,by decide,rfl,rfl⟩
  ·exact⟨[102,111,114,109],by decide,by decide,rfl,rfl⟩
  ·exact⟨[116,97,103],by decide,by decide,rfl,rfl⟩
  ·exact⟨[111,114,100,101,114],by decide,by decide,rfl,rfl⟩
  ·exact⟨[103,114,105,100],by decide,by decide,rfl,rfl⟩
  ·exact⟨[99,97,112],by decide,by decide,rfl,rfl⟩
  ·exact⟨[100,117,112],by decide,by decide,rfl,rfl⟩
  ·exact⟨[110,111,110,101],by decide,by decide,rfl,rfl⟩
  ·exact⟨[107,105,110,100],by decide,by decide,rfl,rfl⟩
  ·exact⟨[108,97,121,101,114],by decide,by decide,rfl,rfl⟩
  ·exact⟨[113,117,111,116,97],by decide,by decide,rfl,rfl⟩
  ·exact⟨[99,108,97,115,115],by decide,by decide,rfl,rfl⟩
  ·exact⟨[115,116,97,108,101],by decide,by decide,rfl,rfl⟩
  ·exact⟨[99,108,101,97,114],by decide,by decide,rfl,rfl⟩
  ·exact⟨[119,105,110,100,111,119],by decide,by decide,rfl,rfl⟩
  ·exact⟨[115,112,101,110,116],by decide,by decide,rfl,rfl⟩
  ·exact⟨[99,104,97,105,110],by decide,by decide,rfl,rfl⟩
 ·refine⟨[63],by decide,by decide,?_,?_⟩
  ·unfold fF;have f:∀j:Int,0<=j->j < 21->(a==j)=false:=λj _ _=>by rw[beq_eq_false_iff_ne];omega
   rw[f 0 (by decide) (by decide),cond_false,f 1 (by decide) (by decide),cond_false,f 2 (by decide) (by decide),cond_false,f 3 (by decide) (by decide),cond_false,f 4 (by decide) (by decide),cond_false,f 5 (by decide) (by decide),cond_false,f 6 (by decide) (by decide),cond_false,f 7 (by decide) (by decide),cond_false,f 8 (by decide) (by decide),cond_false,f 9 (by decide) (by decide),cond_false,f 10 (by decide) (by decide),cond_false,f 11 (by decide) (by decide),cond_false,f 12 (by decide) (by decide),cond_false,f 13 (by decide) (by decide),cond_false,f 14 (by decide) (by decide),cond_false,f 15 (by decide) (by decide),cond_false,f 16 (by decide) (by decide),cond_false,f 17 (by decide) (by decide),cond_false,f 18 (by decide) (by decide),cond_false,f 19 (by decide) (by decide),cond_false,f 20 (by decide) (by decide),cond_false]
   rfl
  ·unfold errD;rw[aK]
   by_cases g:a>=0
   ·rw[dt g,df (show ¬a < 21 from λq=>h ⟨g,q⟩)];rfl
   ·rw[df g];rfl
theorem aFj(N:Nat)(hN:2000 < N)(r:bL)(hl:r.gB0.length<=20)(h64:∀x∈r.gB0,dI x)(hb:r.gQ.length<=1000)(hby:kK r.gQ):∃s,iN N r=some s/\eX N r=some s:=by
 obtain⟨s,s0,s1,e1,e2⟩:=errS N r.gA9;have hj:=oI r.gB0 h64;have hD:eX N r=ae (errD r.gA9) λp1=>ae (aU N p1 r.gB0) λr4=>ae (bQ ((r.gQ.length:Int)) λx6=>cond (decide (x6 > 0)) (ae (nB r4 (ByteArray.mk #[32])) λx7=>ae (dV N r.gQ) λr8=>ae (nB x7 r8) λx9=>some x9) (some r4)) λp5=>some p5:=rfl;have hj2:(eW r.gB0).length<=4000:=by omega
 rw[hD,e2,aa,oM N (by omega) _ _ (by omega) (by omega) h64,aa,aK]
 unfold iN;rw[e1,aa,lO s0 (by omega) (by omega) h64,aa,aK]
 by_cases c:0 < r.gQ.length
 ·obtain⟨t,t0,h1,h2⟩:=hexR N hN hby hb;rw[dt (show(r.gQ.length:Int) > 0 by omega),cond_true,cond_true,h1,aa,show(ByteArray.mk #[32]:ByteArray)=txt [32] from rfl,fX (by simp only[ai,al];omega),aa,fX (by simp only[an,ai,al];omega),aa,aa,fX (by simp only[an,ai,al];omega),aa,h2,aa,fX (by simp only[an,ai,al];omega),aa,aa]
  exact⟨_,rfl,by simp only[ar,List.cons_append,List.nil_append]⟩
 ·rw[df (show ¬(r.gQ.length:Int) > 0 by omega),cond_false,cond_false,aa]
  exact⟨_,rfl,rfl⟩
theorem aCm(N:Nat)(z:List Int)(hz:z.length<=100)(h64:∀x∈z,dI x):∀(k i:Nat) (s:List Int),s.length<=i->(∀x∈s,dI x)->i<=z.length->z.length - i < k->∃r,cQ N z k s (i:Int)=some r/\r.length<=z.length/\∀x∈r,dI x
 | 0,_,_,_,_,_,h=>by omega
 | k+1,i,s,hs,h6,hi,hk=>by
  rw[cQ]
  by_cases c:i < z.length
  ·have hx:=h64 _ (bk c)
   rw[dt (by omega),aK,cond_true,iQ c,aa,aK,eM (by simp;omega),aa,jK (by omega)]
   refine aCm N z hz h64 k (i+1) _ (by simp;omega) (λx hx2=>?_) (by omega) (by omega)
   rw[ci,ak] at hx2;rcases hx2 with hx2 | rfl
   ·exact h6 x hx2
   ·unfold imax;split
    ·exact⟨by decide,by decide⟩
    ·exact hx
  ·rw[df (by omega),aK,cond_false]
   exact⟨s,rfl,by omega,h6⟩
theorem aF2(N:Nat)(hN:1000 < N){a:List Int}(h64:∀x∈a,dI x):∃r,fA N a=some r/\r.length<=20/\∀x∈r,dI x:=by
 unfold fA;have ht:(a.take 20).length<=20:=by rw[d6];omega
 rw[aK,show qP a 0 (xJ (a.length:Int) 20)=some (a.take 20) from uE a 20,aa]
 obtain⟨r,h1,h2,h3⟩:=aCm N (a.take 20) (by omega) (λx hx=>h64 x (cv hx)) N 0 [] (by simp) (λx hx=>absurd hx (by simp)) (by omega) (by omega)
 rw[show cQ N (a.take 20) N [] 0=_ from h1]
 exact⟨r,rfl,by omega,h3⟩
theorem xE(N:Nat)(hN:2000 < N)(hw:eV N=some true)(o:aF)(ho:O64 { o with gL:=o.gL.take 300 })(hby:kK o.gL)(r:bL)(h64:∀x∈r.gB0,dI x)(hrb:kK r.gQ):dY N o r=some true:=by
 unfold dY;have f1:fM N o=some { o with gL:=o.gL.take 300 }:=by
  unfold fM;rw[aK,show qP o.gL 0 (xJ (o.gL.length:Int) 300)=some (o.gL.take 300) from uE _ 300]
  rfl
 obtain⟨l,l1,l2,l3⟩:=aF2 N (by omega) h64;obtain⟨s,p1,p2⟩:=aFk N hN ho (by show(o.gL.take 300).length<=1000;rw[d6];omega) (λx hx=>hby x (cv hx))
 obtain⟨t,q1,q2⟩:=aFj N hN (bL.mk r.gA9 l (r.gQ.take 100)) l2 l3 (by show(r.gQ.take 100).length<=1000;rw[d6];omega) (λx hx=>hrb x (cv hx))
 rw[f1,aa,l1,aa,aK,show qP r.gQ 0 (xJ (r.gQ.length:Int) 100)=some (r.gQ.take 100) from uE _ 100,aa,p1,aa,p2,aa,aK,beq_self_eq_true,cond_true,beq_self_eq_true,cond_true,q1,aa,q2,aa,aK,beq_self_eq_true,cond_true,hw]
 rfl
end Go.UK
