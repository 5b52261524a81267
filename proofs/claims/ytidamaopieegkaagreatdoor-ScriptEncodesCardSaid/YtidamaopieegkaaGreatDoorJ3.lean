/- A part of the proof: what the functions of the program compute. -/
import Derived.Test.YtidamaopieegkaaGreatDoorJ2
open List renaming append_assoc→bd,append_nil→da,drop_eq_getElem_cons→bt,drop_eq_nil_of_le→cp,drop_zero→cm,flatMap_cons→bv,flatMap_nil→dv,getElem_mem→bk,length_append→ax,length_cons→ap,length_nil→ar,length_take→c7,map_cons→cb,mem_cons→bz,mem_of_mem_take→bx,mem_singleton→au,not_mem_nil→bu
open Nat renaming ble_eq_true_of_le→d8
open Option renaming bind_some→ae
namespace Go.UK
open Go Go.Proofs
set_option maxRecDepth 20000
set_option maxHeartbeats 4000000
set_option linter.all false
structure O64(o:aL):Prop where
 k:fX o.gC
 ha:fX o.gK
 me:fX o.gD.gL
 ma:fX o.gD.gQ
 te:fX o.gD.gR
 n:fX o.gD.gN
 m:∀x∈o.gD.gT.gM.toList,fX x
 x:fX o.gD.gT.gT.gX
 y:fX o.gD.gT.gT.gY
 z:fX o.gD.gT.gT.gZ
 la:fX o.gF
 v:V64 o.gB6
 q:fX o.gB0
 wh:fX o.gI
 lb:0<=o.gA0/\o.gA0 < 4294967296
 mn:fX o.gB1
 ti:fX o.gA2
 bl:o.gA1.length<=140737488351232
def zO(o:aL):List Int:=o.gD.gT.gM.toList++[o.gD.gT.gT.gX,o.gD.gT.gT.gY,o.gD.gT.gT.gZ]
def fO(o:aL):Nat->List Fld
 | 1=>[⟨false,1,o.gC⟩,⟨false,4,o.gK⟩,⟨false,2,(o.gA1.length:Int)⟩]
 | 2=>[⟨false,1,o.gC⟩,⟨false,4,o.gK⟩]
 | 3=>[⟨false,1,o.gC⟩,⟨false,4,o.gD.gL⟩,⟨false,4,o.gD.gQ⟩,⟨false,4,o.gD.gR⟩,⟨false,4,o.gD.gN⟩]++(zO o).map λx=>⟨true,8,x⟩
 | 4=>[⟨false,1,o.gC⟩,⟨false,4,o.gD.gL⟩,⟨false,4,o.gD.gQ⟩,⟨false,4,o.gD.gR⟩,⟨false,4,o.gD.gN⟩]
 | 5=>[⟨false,1,o.gC⟩,⟨false,1,o.gF⟩]++(vF o.gB6++[⟨false,2,o.gB0⟩])
 | 6=>[⟨false,1,o.gC⟩,⟨false,1,o.gF⟩]
 | 7=>[⟨false,1,o.gC⟩,⟨false,1,o.gF⟩,⟨false,1,o.gI⟩,⟨false,4,I64 o.gA0⟩,⟨false,4,o.gB1⟩]
 | 8=>[⟨false,1,o.gC⟩,⟨false,1,o.gF⟩,⟨false,1,o.gI⟩]
 | 9=>[⟨false,1,o.gC⟩,⟨false,1,o.gF⟩]
 | 10=>[⟨false,1,o.gC⟩,⟨false,4,o.gA2⟩]
 | _=>[]
def tO(o:aL):Nat->List Int
 | 1=>o.gA1
 | _=>[]
theorem aCg(o:aL):(zO o).length=12:=by unfold zO;simp
theorem zO_64{o:aL}(h:O64 o):∀x∈zO o,fX x:=by
 intro x hx;unfold zO at hx;rw[List.mem_append] at hx;rcases hx with hx | hx
 ·exact h.m x hx
 ·simp only[bz,bu,or_false] at hx;rcases hx with rfl | rfl | rfl
  ·exact h.x
  ·exact h.y
  ·exact h.z
theorem aAr{α:Type}{l r:List α}(h:l.length+r.length<=150000000000000):nR 1 l r=some (l++r):=by
 unfold nR;rw[show okA (l.length+r.length) 1=true by
  unfold okA;rw[Nat.mul_one]
  by_cases c:l.length+r.length<=140737488355328
  ·rw[d8 c];rfl
  ·rw[d8 (show 1024<=l.length+r.length by omega),d8 h];simp]
 rfl
theorem lenI{n:Nat}(h:n<=140737488351232):fX (n:Int):=⟨by omega,by omega⟩
theorem O64.lb64{o:aL}(h:O64 o):fX (I64 o.gA0):=by
 have:=h.lb;rw[oI (by omega) (by omega)]
 exact⟨by omega,by omega⟩
theorem aFZ(N:Nat)(hN:1000 < N)(ns:List Int)(h64:∀p∈ns,fX p)(hl:ns.length<=20):∀(k i:Nat) (b:List Int) (e:Int),b.length<=15000000+8*i->i<=ns.length->ns.length - i < k->∃r,cO N ns k b e (i:Int)=some r/\Wr 0 b e ((ns.drop i).map λx=>⟨true,8,x⟩) (8*(ns.length - i)) r
 | 0,_,_,_,_,_,h=>by omega
 | k+1,i,b,e,hb,hi,hk=>by
  rw[cO]
  by_cases c:i < ns.length
  ·have hx:=h64 _ (bk c)
   obtain⟨r7,h1,h2⟩:=aGt N hN 8 (by decide) (by decide) [ns[i]] (λx hx'=>by rw[au] at hx';rw[hx'];exact hx) (by simp) b e (by omega)
   have l2:=h2.len;simp only[ap,ar] at l2;rw[dt (by omega),bL,cond_true,pG c,ae,show cN N b 8 [ns[i]]=_ from h1,ae,aBW,ae,sX (by omega)]
   obtain⟨r,g1,g2⟩:=aFZ N hN ns h64 hl k (i+1) r7.1 (nJ e r7.2) (by omega) (by omega) (by omega)
   refine⟨r,g1,(h2.seq g2).cast ?_ ?_⟩
   ·rw[bt c,cb];rfl
   ·simp only[ap,ar];omega
  ·rw[df (by omega),bL,cond_false,cp (by omega)]
   exact⟨_,rfl,(Wr.nil 0 b e).cast rfl (by omega)⟩
theorem aEm(N:Nat)(hN:1000 < N){o:aL}(ho:O64 o)(h3:o.gC=3):∀(k i:Nat) (b:List Int) (e:Bool),b.length<=15000000+8*i->i<=9->9 - i < k->∃r,bG N o k b e (i:Int)=some r/\Wr false b e ((o.gD.gT.gM.toList.drop i).map λx=>⟨true,8,x⟩) (8*(9 - i)) r
 | 0,_,_,_,_,_,h=>by omega
 | k+1,i,b,e,hb,hi,hk=>by
  rw[bG,show(o.gC==3)=true by rw[h3];rfl]
  have hl:o.gD.gT.gM.toList.length=9:=Vector.length_toList;by_cases c:i < 9
  ·have c':i < o.gD.gT.gM.toList.length:=by omega
   have hx:=ho.m _ (bk c')
   obtain⟨r7,h1,h2⟩:=xX N hN 8 (by decide) (by decide) hx b e (by omega)
   have l2:=h2.len;rw[dt (by omega),bL,cond_true,cond_true,pG c',ae,show aP N b 8 (o.gD.gT.gM.toList[i]) e=_ from h1,ae,sX (by omega)]
   obtain⟨r,g1,g2⟩:=aEm N hN ho h3 k (i+1) r7.1 r7.2 (by omega) (by omega) (by omega)
   refine⟨r,g1,(h2.seq g2).cast ?_ ?_⟩
   ·rw[bt c',cb];rfl
   ·omega
  ·rw[df (by omega),bL,cond_false,cond_false,cp (by omega)]
   exact⟨_,rfl,(Wr.nil false b e).cast rfl (by omega)⟩
theorem opC1(N:Nat)(hN:1000 < N){o:aL}(ho:O64 o)(hk:o.gC=1):∃r,aN N [] o 0=some r/\∃q,Wr 0 [] 0 (fO o 1) 1000 q/\r=(q.1++tO o 1,q.2):=by
 unfold aN;obtain⟨r1,e1,w1⟩:=mU N hN 1 (by decide) (by decide) [o.gC] (λx hx=>by rw[au] at hx;rw[hx];exact ho.k) (by simp) [] 0 (by first | omega | simp)
 have l1:=w1.len;simp only[ap,ar] at l1;obtain⟨r2,e2,w2⟩:=mU N hN 4 (by decide) (by decide) [o.gK] (λx hx=>by rw[au] at hx;rw[hx];exact ho.ha) (by simp) r1.1 r1.2 (by first | omega | simp)
 have l2:=w2.len;simp only[ap,ar] at l2;obtain⟨r3,e3,w3⟩:=mU N hN 2 (by decide) (by decide) [(o.gA1.length:Int)] (λx hx=>by rw[au] at hx;rw[hx];exact(lenI ho.bl)) (by simp) r2.1 r2.2 (by first | omega | simp)
 have l3:=w3.len;simp only[ap,ar] at l3;rw[show aG N [] 1 [o.gC] 0=_ from e1,ae,hk,show((1:Int)==1)=true from rfl,cond_true,show aG N r1.1 4 [o.gK] r1.2=_ from e2,ae,bL,show aG N r2.1 2 [(o.gA1.length:Int)] r2.2=_ from e3,ae,aAr (by have:=ho.bl;omega),ae]
 exact⟨_,rfl,_,((w1.seq w2).seq w3).cast (by simp[fO]) (by simp),by simp[tO]⟩
theorem opC2(N:Nat)(hN:1000 < N){o:aL}(ho:O64 o)(hk:o.gC=2):∃r,aN N [] o 0=some r/\∃q,Wr 0 [] 0 (fO o 2) 1000 q/\r=(q.1++tO o 2,q.2):=by
 unfold aN;obtain⟨r1,e1,w1⟩:=mU N hN 1 (by decide) (by decide) [o.gC] (λx hx=>by rw[au] at hx;rw[hx];exact ho.k) (by simp) [] 0 (by first | omega | simp)
 have l1:=w1.len;simp only[ap,ar] at l1;obtain⟨r2,e2,w2⟩:=mU N hN 4 (by decide) (by decide) [o.gK] (λx hx=>by rw[au] at hx;rw[hx];exact ho.ha) (by simp) r1.1 r1.2 (by first | omega | simp)
 have l2:=w2.len;simp only[ap,ar] at l2;rw[show aG N [] 1 [o.gC] 0=_ from e1,ae,hk,show((2:Int)==1)=false from rfl,cond_false,show((2:Int)==2)=true from rfl,cond_true,show aG N r1.1 4 [o.gK] r1.2=_ from e2,ae]
 exact⟨_,rfl,_,(w1.seq w2).cast (by simp[fO]) (by simp),by simp[tO]⟩
theorem opC3(N:Nat)(hN:1000 < N){o:aL}(ho:O64 o)(hk:o.gC=3):∃r,aN N [] o 0=some r/\∃q,Wr 0 [] 0 (fO o 3) 1000 q/\r=(q.1++tO o 3,q.2):=by
 unfold aN;obtain⟨r1,e1,w1⟩:=mU N hN 1 (by decide) (by decide) [o.gC] (λx hx=>by rw[au] at hx;rw[hx];exact ho.k) (by simp) [] 0 (by first | omega | simp)
 have l1:=w1.len;simp only[ap,ar] at l1;obtain⟨r2,e2,w2⟩:=mU N hN 4 (by decide) (by decide) [o.gD.gL,o.gD.gQ,o.gD.gR,o.gD.gN] (λx hx=>by simp only[bz,bu,or_false] at hx;rcases hx with rfl | rfl | rfl | rfl;exact ho.me;exact ho.ma;exact ho.te;exact ho.n) (by simp) r1.1 r1.2 (by first | omega | simp)
 have l2:=w2.len;simp only[ap,ar] at l2;obtain⟨r3,e3,w3⟩:=aFZ N hN (zO o) (zO_64 ho) (by rw[aCg];omega) N 0 r2.1 r2.2 (by omega) (by omega) (by rw[aCg];omega)
 rw[cm,aCg] at w3;rw[show aG N [] 1 [o.gC] 0=_ from e1,ae,hk,show((3:Int)==1)=false from rfl,cond_false,show((3:Int)==2)=false from rfl,cond_false,show((3:Int)==3)=true from rfl,cond_true,ae,cond_true,show aG N r1.1 4 [o.gD.gL,o.gD.gQ,o.gD.gR,o.gD.gN] r1.2=_ from e2,ae,show((3:Int)==4)=false from rfl,cond_false,pX (by simp),ae,show cO N (o.gD.gT.gM.toList++[o.gD.gT.gT.gX,o.gD.gT.gT.gY,o.gD.gT.gT.gZ]) N r2.1 r2.2 0=_ from e3,ae]
 exact⟨_,rfl,_,((w1.seq w2).seq w3).cast (by simp[fO]) (by simp),by simp[tO]⟩
theorem opC4(N:Nat)(hN:1000 < N){o:aL}(ho:O64 o)(hk:o.gC=4):∃r,aN N [] o 0=some r/\∃q,Wr 0 [] 0 (fO o 4) 1000 q/\r=(q.1++tO o 4,q.2):=by
 unfold aN;obtain⟨r1,e1,w1⟩:=mU N hN 1 (by decide) (by decide) [o.gC] (λx hx=>by rw[au] at hx;rw[hx];exact ho.k) (by simp) [] 0 (by first | omega | simp)
 have l1:=w1.len;simp only[ap,ar] at l1;obtain⟨r2,e2,w2⟩:=mU N hN 4 (by decide) (by decide) [o.gD.gL,o.gD.gQ,o.gD.gR,o.gD.gN] (λx hx=>by simp only[bz,bu,or_false] at hx;rcases hx with rfl | rfl | rfl | rfl;exact ho.me;exact ho.ma;exact ho.te;exact ho.n) (by simp) r1.1 r1.2 (by first | omega | simp)
 have l2:=w2.len;simp only[ap,ar] at l2;rw[show aG N [] 1 [o.gC] 0=_ from e1,ae,hk,show((4:Int)==1)=false from rfl,cond_false,show((4:Int)==2)=false from rfl,cond_false,show((4:Int)==3)=false from rfl,cond_false,show((4:Int)==4)=true from rfl,ae,cond_true,show aG N r1.1 4 [o.gD.gL,o.gD.gQ,o.gD.gR,o.gD.gN] r1.2=_ from e2,ae]
 rw[cond_true]
 exact⟨_,rfl,_,(w1.seq w2).cast (by simp[fO]) (by simp),by simp[tO]⟩
theorem opC5(N:Nat)(hN:1000 < N){o:aL}(ho:O64 o)(hk:o.gC=5):∃r,aN N [] o 0=some r/\∃q,Wr 0 [] 0 (fO o 5) 1000 q/\r=(q.1++tO o 5,q.2):=by
 unfold aN;obtain⟨r1,e1,w1⟩:=mU N hN 1 (by decide) (by decide) [o.gC] (λx hx=>by rw[au] at hx;rw[hx];exact ho.k) (by simp) [] 0 (by first | omega | simp)
 have l1:=w1.len;simp only[ap,ar] at l1;obtain⟨r2,e2,w2⟩:=mU N hN 1 (by decide) (by decide) [o.gF] (λx hx=>by rw[au] at hx;rw[hx];exact ho.la) (by simp) r1.1 r1.2 (by first | omega | simp)
 have l2:=w2.len;simp only[ap,ar] at l2;obtain⟨r3,e3,w3⟩:=viewC N hN ho.v r2.1 r2.2 (by omega)
 have l3:=w3.len;obtain⟨r4,e4,w4⟩:=mU N hN 2 (by decide) (by decide) [o.gB0] (λx hx=>by rw[au] at hx;rw[hx];exact ho.q) (by simp) r3.1 r3.2 (by first | omega | simp)
 have l4:=w4.len;simp only[ap,ar] at l4;rw[show aG N [] 1 [o.gC] 0=_ from e1,ae,hk,show((5:Int)==1)=false from rfl,cond_false,show((5:Int)==2)=false from rfl,cond_false,show((5:Int)==3)=false from rfl,cond_false,show((5:Int)==4)=false from rfl,ae,cond_false,show((5:Int)==5)=true from rfl,cond_true,show aG N r1.1 1 [o.gF] r1.2=_ from e2,ae,e3,ae,show aG N r3.1 2 [o.gB0] r3.2=_ from e4,ae]
 exact⟨_,rfl,_,(((w1.seq w2).seq w3).seq w4).cast (by simp[fO]) (by simp),by simp[tO]⟩
theorem opC6(N:Nat)(hN:1000 < N){o:aL}(ho:O64 o)(hk:o.gC=6):∃r,aN N [] o 0=some r/\∃q,Wr 0 [] 0 (fO o 6) 1000 q/\r=(q.1++tO o 6,q.2):=by
 unfold aN;obtain⟨r1,e1,w1⟩:=mU N hN 1 (by decide) (by decide) [o.gC] (λx hx=>by rw[au] at hx;rw[hx];exact ho.k) (by simp) [] 0 (by first | omega | simp)
 have l1:=w1.len;simp only[ap,ar] at l1;obtain⟨r2,e2,w2⟩:=mU N hN 1 (by decide) (by decide) [o.gF] (λx hx=>by rw[au] at hx;rw[hx];exact ho.la) (by simp) r1.1 r1.2 (by first | omega | simp)
 have l2:=w2.len;simp only[ap,ar] at l2;rw[show aG N [] 1 [o.gC] 0=_ from e1,ae,hk,show((6:Int)==1)=false from rfl,cond_false,show((6:Int)==2)=false from rfl,cond_false,show((6:Int)==3)=false from rfl,cond_false,show((6:Int)==4)=false from rfl,ae,cond_false,show((6:Int)==5)=false from rfl,cond_false,show((6:Int)==6)=true from rfl,cond_true,ae,cond_true,show aG N r1.1 1 [o.gF] r1.2=_ from e2,ae]
 exact⟨_,rfl,_,(w1.seq w2).cast (by simp[fO]) (by simp),by simp[tO]⟩
theorem opC7(N:Nat)(hN:1000 < N){o:aL}(ho:O64 o)(hk:o.gC=7):∃r,aN N [] o 0=some r/\∃q,Wr 0 [] 0 (fO o 7) 1000 q/\r=(q.1++tO o 7,q.2):=by
 unfold aN;obtain⟨r1,e1,w1⟩:=mU N hN 1 (by decide) (by decide) [o.gC] (λx hx=>by rw[au] at hx;rw[hx];exact ho.k) (by simp) [] 0 (by first | omega | simp)
 have l1:=w1.len;simp only[ap,ar] at l1;obtain⟨r2,e2,w2⟩:=mU N hN 1 (by decide) (by decide) [o.gF,o.gI] (λx hx=>by simp only[bz,bu,or_false] at hx;rcases hx with rfl | rfl;exact ho.la;exact ho.wh) (by simp) r1.1 r1.2 (by first | omega | simp)
 have l2:=w2.len;simp only[ap,ar] at l2;obtain⟨r3,e3,w3⟩:=mU N hN 4 (by decide) (by decide) [I64 o.gA0,o.gB1] (λx hx=>by simp only[bz,bu,or_false] at hx;rcases hx with rfl | rfl;exact ho.lb64;exact ho.mn) (by simp) r2.1 r2.2 (by first | omega | simp)
 have l3:=w3.len;simp only[ap,ar] at l3;rw[show aG N [] 1 [o.gC] 0=_ from e1,ae,hk,show((7:Int)==1)=false from rfl,cond_false,show((7:Int)==2)=false from rfl,cond_false,show((7:Int)==3)=false from rfl,cond_false,show((7:Int)==4)=false from rfl,ae,cond_false,show((7:Int)==5)=false from rfl,cond_false,show((7:Int)==6)=false from rfl,cond_false,show((7:Int)==9)=false from rfl,ae,cond_false,show((7:Int)==7)=true from rfl,cond_true,show aG N r1.1 1 [o.gF,o.gI] r1.2=_ from e2,ae,show aG N r2.1 4 [I64 o.gA0,o.gB1] r2.2=_ from e3,ae]
 exact⟨_,rfl,_,((w1.seq w2).seq w3).cast (by simp[fO]) (by simp),by simp[tO]⟩
theorem opC8(N:Nat)(hN:1000 < N){o:aL}(ho:O64 o)(hk:o.gC=8):∃r,aN N [] o 0=some r/\∃q,Wr 0 [] 0 (fO o 8) 1000 q/\r=(q.1++tO o 8,q.2):=by
 unfold aN;obtain⟨r1,e1,w1⟩:=mU N hN 1 (by decide) (by decide) [o.gC] (λx hx=>by rw[au] at hx;rw[hx];exact ho.k) (by simp) [] 0 (by first | omega | simp)
 have l1:=w1.len;simp only[ap,ar] at l1;obtain⟨r2,e2,w2⟩:=mU N hN 1 (by decide) (by decide) [o.gF,o.gI] (λx hx=>by simp only[bz,bu,or_false] at hx;rcases hx with rfl | rfl;exact ho.la;exact ho.wh) (by simp) r1.1 r1.2 (by first | omega | simp)
 have l2:=w2.len;simp only[ap,ar] at l2;rw[show aG N [] 1 [o.gC] 0=_ from e1,ae,hk,show((8:Int)==1)=false from rfl,cond_false,show((8:Int)==2)=false from rfl,cond_false,show((8:Int)==3)=false from rfl,cond_false,show((8:Int)==4)=false from rfl,ae,cond_false,show((8:Int)==5)=false from rfl,cond_false,show((8:Int)==6)=false from rfl,cond_false,show((8:Int)==9)=false from rfl,ae,cond_false,show((8:Int)==7)=false from rfl,cond_false,show((8:Int)==8)=true from rfl,cond_true,show aG N r1.1 1 [o.gF,o.gI] r1.2=_ from e2,ae]
 exact⟨_,rfl,_,(w1.seq w2).cast (by simp[fO]) (by simp),by simp[tO]⟩
theorem opC9(N:Nat)(hN:1000 < N){o:aL}(ho:O64 o)(hk:o.gC=9):∃r,aN N [] o 0=some r/\∃q,Wr 0 [] 0 (fO o 9) 1000 q/\r=(q.1++tO o 9,q.2):=by
 unfold aN;obtain⟨r1,e1,w1⟩:=mU N hN 1 (by decide) (by decide) [o.gC] (λx hx=>by rw[au] at hx;rw[hx];exact ho.k) (by simp) [] 0 (by first | omega | simp)
 have l1:=w1.len;simp only[ap,ar] at l1;obtain⟨r2,e2,w2⟩:=mU N hN 1 (by decide) (by decide) [o.gF] (λx hx=>by rw[au] at hx;rw[hx];exact ho.la) (by simp) r1.1 r1.2 (by first | omega | simp)
 have l2:=w2.len;simp only[ap,ar] at l2;rw[show aG N [] 1 [o.gC] 0=_ from e1,ae,hk,show((9:Int)==1)=false from rfl,cond_false,show((9:Int)==2)=false from rfl,cond_false,show((9:Int)==3)=false from rfl,cond_false,show((9:Int)==4)=false from rfl,ae,cond_false,show((9:Int)==5)=false from rfl,cond_false,show((9:Int)==6)=false from rfl,cond_false,show((9:Int)==9)=true from rfl,ae,cond_true,show aG N r1.1 1 [o.gF] r1.2=_ from e2,ae]
 exact⟨_,rfl,_,(w1.seq w2).cast (by simp[fO]) (by simp),by simp[tO]⟩
theorem opC10(N:Nat)(hN:1000 < N){o:aL}(ho:O64 o)(hk:o.gC=10):∃r,aN N [] o 0=some r/\∃q,Wr 0 [] 0 (fO o 10) 1000 q/\r=(q.1++tO o 10,q.2):=by
 unfold aN;obtain⟨r1,e1,w1⟩:=mU N hN 1 (by decide) (by decide) [o.gC] (λx hx=>by rw[au] at hx;rw[hx];exact ho.k) (by simp) [] 0 (by first | omega | simp)
 have l1:=w1.len;simp only[ap,ar] at l1;obtain⟨r2,e2,w2⟩:=mU N hN 4 (by decide) (by decide) [o.gA2] (λx hx=>by rw[au] at hx;rw[hx];exact ho.ti) (by simp) r1.1 r1.2 (by first | omega | simp)
 have l2:=w2.len;simp only[ap,ar] at l2;rw[show aG N [] 1 [o.gC] 0=_ from e1,ae,hk,show((10:Int)==1)=false from rfl,cond_false,show((10:Int)==2)=false from rfl,cond_false,show((10:Int)==3)=false from rfl,cond_false,show((10:Int)==4)=false from rfl,ae,cond_false,show((10:Int)==5)=false from rfl,cond_false,show((10:Int)==6)=false from rfl,cond_false,show((10:Int)==9)=false from rfl,ae,cond_false,show((10:Int)==7)=false from rfl,cond_false,show((10:Int)==8)=false from rfl,cond_false,show((10:Int)==10)=true from rfl,cond_true,show aG N r1.1 4 [o.gA2] r1.2=_ from e2,ae]
 exact⟨_,rfl,_,(w1.seq w2).cast (by simp[fO]) (by simp),by simp[tO]⟩
theorem opD1(N:Nat)(hN:1000 < N){o:aL}(ho:O64 o)(hk:o.gC=1)(b:List Int)(e:Bool)(hb:b.length<=8000000):∃r,aJ N b o e=some (Sum.inr r)/\∃q,Wr false b e (fO o 1) 1000 q/\r=(q.1++tO o 1,q.2):=by
 unfold aJ;obtain⟨r1,e1,w1⟩:=jB N hN 1 (by decide) (by decide) ho.k b e (by omega)
 have l1:=w1.len;obtain⟨r2,e2,w2⟩:=jB N hN 4 (by decide) (by decide) ho.ha r1.1 r1.2 (by omega)
 have l2:=w2.len;obtain⟨r3,e3,w3⟩:=jB N hN 2 (by decide) (by decide) (lenI ho.bl) r2.1 r2.2 (by omega)
 have l3:=w3.len;have e1k:=e1;rw[hk] at e1k;rw[hk,show(cond (decide ((1:Int) < 1)) true (decide ((1:Int) > 10)))=false from rfl,bL,cond_false,show aC N b 1 1 e=_ from e1k,ae,show((1:Int)==1)=true from rfl,cond_true,show aC N r1.1 4 o.gK r1.2=_ from e2,ae,bL,show aC N r2.1 2 (o.gA1.length:Int) r2.2=_ from e3,ae,aAr (by have:=ho.bl;omega),ae]
 exact⟨_,rfl,_,((w1.seq w2).seq w3).cast (by simp[fO,zO]) (by simp),by simp[tO]⟩
theorem opD2(N:Nat)(hN:1000 < N){o:aL}(ho:O64 o)(hk:o.gC=2)(b:List Int)(e:Bool)(hb:b.length<=8000000):∃r,aJ N b o e=some (Sum.inr r)/\∃q,Wr false b e (fO o 2) 1000 q/\r=(q.1++tO o 2,q.2):=by
 unfold aJ;obtain⟨r1,e1,w1⟩:=jB N hN 1 (by decide) (by decide) ho.k b e (by omega)
 have l1:=w1.len;obtain⟨r2,e2,w2⟩:=jB N hN 4 (by decide) (by decide) ho.ha r1.1 r1.2 (by omega)
 have l2:=w2.len;have e1k:=e1;rw[hk] at e1k;rw[hk,show(cond (decide ((2:Int) < 1)) true (decide ((2:Int) > 10)))=false from rfl,bL,cond_false,show aC N b 1 2 e=_ from e1k,ae,show((2:Int)==1)=false from rfl,cond_false,show((2:Int)==2)=true from rfl,cond_true,show aC N r1.1 4 o.gK r1.2=_ from e2,ae]
 exact⟨_,rfl,_,(w1.seq w2).cast (by simp[fO,zO]) (by simp),by simp[tO]⟩
theorem opD3(N:Nat)(hN:1000 < N){o:aL}(ho:O64 o)(hk:o.gC=3)(b:List Int)(e:Bool)(hb:b.length<=8000000):∃r,aJ N b o e=some (Sum.inr r)/\∃q,Wr false b e (fO o 3) 1000 q/\r=(q.1++tO o 3,q.2):=by
 unfold aJ;obtain⟨r1,e1,w1⟩:=jB N hN 1 (by decide) (by decide) ho.k b e (by omega)
 have l1:=w1.len;obtain⟨r2,e2,w2⟩:=jB N hN 4 (by decide) (by decide) ho.me r1.1 r1.2 (by omega)
 have l2:=w2.len;obtain⟨r3,e3,w3⟩:=jB N hN 4 (by decide) (by decide) ho.ma r2.1 r2.2 (by omega)
 have l3:=w3.len;obtain⟨r4,e4,w4⟩:=jB N hN 4 (by decide) (by decide) ho.te r3.1 r3.2 (by omega)
 have l4:=w4.len;obtain⟨r5,e5,w5⟩:=jB N hN 4 (by decide) (by decide) ho.n r4.1 r4.2 (by omega)
 have l5:=w5.len;obtain⟨r6,e6,w6⟩:=aEm N hN ho hk N 0 r5.1 r5.2 (by omega) (by omega) (by omega)
 have l6:=w6.len;rw[cm] at w6;obtain⟨r7,e7,w7⟩:=xX N hN 8 (by decide) (by decide) ho.x r6.1 r6.2 (by omega)
 have l7:=w7.len;obtain⟨r8,e8,w8⟩:=xX N hN 8 (by decide) (by decide) ho.y r7.1 r7.2 (by omega)
 have l8:=w8.len;obtain⟨r9,e9,w9⟩:=xX N hN 8 (by decide) (by decide) ho.z r8.1 r8.2 (by omega)
 have l9:=w9.len;have e1k:=e1;rw[hk] at e1k;rw[hk,show(cond (decide ((3:Int) < 1)) true (decide ((3:Int) > 10)))=false from rfl,bL,cond_false,show aC N b 1 3 e=_ from e1k,ae,show((3:Int)==1)=false from rfl,cond_false,show((3:Int)==2)=false from rfl,cond_false,show((3:Int)==3)=true from rfl,cond_true,ae,cond_true,show aC N r1.1 4 o.gD.gL r1.2=_ from e2,ae,show aC N r2.1 4 o.gD.gQ r2.2=_ from e3,ae,show aC N r3.1 4 o.gD.gR r3.2=_ from e4,ae,show aC N r4.1 4 o.gD.gN r4.2=_ from e5,ae,show bG N o N r5.1 r5.2 0=_ from e6,ae,cond_true,show aP N r6.1 8 o.gD.gT.gT.gX r6.2=_ from e7,ae,show aP N r7.1 8 o.gD.gT.gT.gY r7.2=_ from e8,ae,show aP N r8.1 8 o.gD.gT.gT.gZ r8.2=_ from e9,ae]
 exact⟨_,rfl,_,((((((((w1.seq w2).seq w3).seq w4).seq w5).seq w6).seq w7).seq w8).seq w9).cast (by simp[fO,zO]) (by simp),by simp[tO]⟩
theorem opD4(N:Nat)(hN:1000 < N){o:aL}(ho:O64 o)(hk:o.gC=4)(b:List Int)(e:Bool)(hb:b.length<=8000000):∃r,aJ N b o e=some (Sum.inr r)/\∃q,Wr false b e (fO o 4) 1000 q/\r=(q.1++tO o 4,q.2):=by
 unfold aJ;obtain⟨r1,e1,w1⟩:=jB N hN 1 (by decide) (by decide) ho.k b e (by omega)
 have l1:=w1.len;obtain⟨r2,e2,w2⟩:=jB N hN 4 (by decide) (by decide) ho.me r1.1 r1.2 (by omega)
 have l2:=w2.len;obtain⟨r3,e3,w3⟩:=jB N hN 4 (by decide) (by decide) ho.ma r2.1 r2.2 (by omega)
 have l3:=w3.len;obtain⟨r4,e4,w4⟩:=jB N hN 4 (by decide) (by decide) ho.te r3.1 r3.2 (by omega)
 have l4:=w4.len;obtain⟨r5,e5,w5⟩:=jB N hN 4 (by decide) (by decide) ho.n r4.1 r4.2 (by omega)
 have l5:=w5.len;have e0:bG N o N r5.1 r5.2 0=some (r5.1,r5.2):=by
  obtain⟨N,rfl⟩:∃n,N=n+1:=⟨N - 1,by omega⟩
  rw[bG,hk];rfl
 have e1k:=e1;rw[hk] at e1k;rw[hk,show(cond (decide ((4:Int) < 1)) true (decide ((4:Int) > 10)))=false from rfl,bL,cond_false,show aC N b 1 4 e=_ from e1k,ae,show((4:Int)==1)=false from rfl,cond_false,show((4:Int)==2)=false from rfl,cond_false,show((4:Int)==3)=false from rfl,cond_false,show((4:Int)==4)=true from rfl,ae,cond_true,show aC N r1.1 4 o.gD.gL r1.2=_ from e2,ae,show aC N r2.1 4 o.gD.gQ r2.2=_ from e3,ae,show aC N r3.1 4 o.gD.gR r3.2=_ from e4,ae,show aC N r4.1 4 o.gD.gN r4.2=_ from e5,ae,e0,ae,cond_false]
 exact⟨_,rfl,_,((((w1.seq w2).seq w3).seq w4).seq w5).cast (by simp[fO,zO]) (by simp),by simp[tO]⟩
theorem opD5(N:Nat)(hN:1000 < N){o:aL}(ho:O64 o)(hk:o.gC=5)(b:List Int)(e:Bool)(hb:b.length<=8000000):∃r,aJ N b o e=some (Sum.inr r)/\∃q,Wr false b e (fO o 5) 1000 q/\r=(q.1++tO o 5,q.2):=by
 unfold aJ;obtain⟨r1,e1,w1⟩:=jB N hN 1 (by decide) (by decide) ho.k b e (by omega)
 have l1:=w1.len;obtain⟨r2,e2,w2⟩:=jB N hN 1 (by decide) (by decide) ho.la r1.1 r1.2 (by omega)
 have l2:=w2.len;obtain⟨r3,e3,w3⟩:=viewD N hN ho.v r2.1 r2.2 (by omega)
 have l3:=w3.len;obtain⟨r4,e4,w4⟩:=jB N hN 2 (by decide) (by decide) ho.q r3.1 r3.2 (by omega)
 have l4:=w4.len;have e1k:=e1;rw[hk] at e1k;rw[hk,show(cond (decide ((5:Int) < 1)) true (decide ((5:Int) > 10)))=false from rfl,bL,cond_false,show aC N b 1 5 e=_ from e1k,ae,show((5:Int)==1)=false from rfl,cond_false,show((5:Int)==2)=false from rfl,cond_false,show((5:Int)==3)=false from rfl,cond_false,show((5:Int)==4)=false from rfl,ae,cond_false,show((5:Int)==5)=true from rfl,cond_true,show aC N r1.1 1 o.gF r1.2=_ from e2,ae,e3,ae,show aC N r3.1 2 o.gB0 r3.2=_ from e4,ae]
 exact⟨_,rfl,_,(((w1.seq w2).seq w3).seq w4).cast (by simp[fO,zO]) (by simp),by simp[tO]⟩
theorem opD6(N:Nat)(hN:1000 < N){o:aL}(ho:O64 o)(hk:o.gC=6)(b:List Int)(e:Bool)(hb:b.length<=8000000):∃r,aJ N b o e=some (Sum.inr r)/\∃q,Wr false b e (fO o 6) 1000 q/\r=(q.1++tO o 6,q.2):=by
 unfold aJ;obtain⟨r1,e1,w1⟩:=jB N hN 1 (by decide) (by decide) ho.k b e (by omega)
 have l1:=w1.len;obtain⟨r2,e2,w2⟩:=jB N hN 1 (by decide) (by decide) ho.la r1.1 r1.2 (by omega)
 have l2:=w2.len;have e1k:=e1;rw[hk] at e1k;rw[hk,show(cond (decide ((6:Int) < 1)) true (decide ((6:Int) > 10)))=false from rfl,bL,cond_false,show aC N b 1 6 e=_ from e1k,ae,show((6:Int)==1)=false from rfl,cond_false,show((6:Int)==2)=false from rfl,cond_false,show((6:Int)==3)=false from rfl,cond_false,show((6:Int)==4)=false from rfl,ae,cond_false,show((6:Int)==5)=false from rfl,cond_false,show((6:Int)==6)=true from rfl,cond_true,ae,cond_true,show aC N r1.1 1 o.gF r1.2=_ from e2,ae]
 exact⟨_,rfl,_,(w1.seq w2).cast (by simp[fO,zO]) (by simp),by simp[tO]⟩
theorem opD7(N:Nat)(hN:1000 < N){o:aL}(ho:O64 o)(hk:o.gC=7)(b:List Int)(e:Bool)(hb:b.length<=8000000):∃r,aJ N b o e=some (Sum.inr r)/\∃q,Wr false b e (fO o 7) 1000 q/\r=(q.1++tO o 7,q.2):=by
 unfold aJ;obtain⟨r1,e1,w1⟩:=jB N hN 1 (by decide) (by decide) ho.k b e (by omega)
 have l1:=w1.len;obtain⟨r2,e2,w2⟩:=jB N hN 1 (by decide) (by decide) ho.la r1.1 r1.2 (by omega)
 have l2:=w2.len;obtain⟨r3,e3,w3⟩:=jB N hN 1 (by decide) (by decide) ho.wh r2.1 r2.2 (by omega)
 have l3:=w3.len;obtain⟨r4,e4,w4⟩:=jB N hN 4 (by decide) (by decide) ho.lb64 r3.1 r3.2 (by omega)
 have l4:=w4.len;obtain⟨r5,e5,w5⟩:=jB N hN 4 (by decide) (by decide) ho.mn r4.1 r4.2 (by omega)
 have l5:=w5.len;have e1k:=e1;rw[hk] at e1k;rw[hk,show(cond (decide ((7:Int) < 1)) true (decide ((7:Int) > 10)))=false from rfl,bL,cond_false,show aC N b 1 7 e=_ from e1k,ae,show((7:Int)==1)=false from rfl,cond_false,show((7:Int)==2)=false from rfl,cond_false,show((7:Int)==3)=false from rfl,cond_false,show((7:Int)==4)=false from rfl,ae,cond_false,show((7:Int)==5)=false from rfl,cond_false,show((7:Int)==6)=false from rfl,cond_false,show((7:Int)==9)=false from rfl,ae,cond_false,show((7:Int)==7)=true from rfl,cond_true,show aC N r1.1 1 o.gF r1.2=_ from e2,ae,show aC N r2.1 1 o.gI r2.2=_ from e3,ae,show aC N r3.1 4 (I64 o.gA0) r3.2=_ from e4,ae,show aC N r4.1 4 o.gB1 r4.2=_ from e5,ae]
 exact⟨_,rfl,_,((((w1.seq w2).seq w3).seq w4).seq w5).cast (by simp[fO,zO]) (by simp),by simp[tO]⟩
theorem opD8(N:Nat)(hN:1000 < N){o:aL}(ho:O64 o)(hk:o.gC=8)(b:List Int)(e:Bool)(hb:b.length<=8000000):∃r,aJ N b o e=some (Sum.inr r)/\∃q,Wr false b e (fO o 8) 1000 q/\r=(q.1++tO o 8,q.2):=by
 unfold aJ;obtain⟨r1,e1,w1⟩:=jB N hN 1 (by decide) (by decide) ho.k b e (by omega)
 have l1:=w1.len;obtain⟨r2,e2,w2⟩:=jB N hN 1 (by decide) (by decide) ho.la r1.1 r1.2 (by omega)
 have l2:=w2.len;obtain⟨r3,e3,w3⟩:=jB N hN 1 (by decide) (by decide) ho.wh r2.1 r2.2 (by omega)
 have l3:=w3.len;have e1k:=e1;rw[hk] at e1k;rw[hk,show(cond (decide ((8:Int) < 1)) true (decide ((8:Int) > 10)))=false from rfl,bL,cond_false,show aC N b 1 8 e=_ from e1k,ae,show((8:Int)==1)=false from rfl,cond_false,show((8:Int)==2)=false from rfl,cond_false,show((8:Int)==3)=false from rfl,cond_false,show((8:Int)==4)=false from rfl,ae,cond_false,show((8:Int)==5)=false from rfl,cond_false,show((8:Int)==6)=false from rfl,cond_false,show((8:Int)==9)=false from rfl,ae,cond_false,show((8:Int)==7)=false from rfl,cond_false,show((8:Int)==8)=true from rfl,cond_true,show aC N r1.1 1 o.gF r1.2=_ from e2,ae,show aC N r2.1 1 o.gI r2.2=_ from e3,ae]
 exact⟨_,rfl,_,((w1.seq w2).seq w3).cast (by simp[fO,zO]) (by simp),by simp[tO]⟩
theorem opD9(N:Nat)(hN:1000 < N){o:aL}(ho:O64 o)(hk:o.gC=9)(b:List Int)(e:Bool)(hb:b.length<=8000000):∃r,aJ N b o e=some (Sum.inr r)/\∃q,Wr false b e (fO o 9) 1000 q/\r=(q.1++tO o 9,q.2):=by
 unfold aJ;obtain⟨r1,e1,w1⟩:=jB N hN 1 (by decide) (by decide) ho.k b e (by omega)
 have l1:=w1.len;obtain⟨r2,e2,w2⟩:=jB N hN 1 (by decide) (by decide) ho.la r1.1 r1.2 (by omega)
 have l2:=w2.len;have e1k:=e1;rw[hk] at e1k;rw[hk,show(cond (decide ((9:Int) < 1)) true (decide ((9:Int) > 10)))=false from rfl,bL,cond_false,show aC N b 1 9 e=_ from e1k,ae,show((9:Int)==1)=false from rfl,cond_false,show((9:Int)==2)=false from rfl,cond_false,show((9:Int)==3)=false from rfl,cond_false,show((9:Int)==4)=false from rfl,ae,cond_false,show((9:Int)==5)=false from rfl,cond_false,show((9:Int)==6)=false from rfl,cond_false,show((9:Int)==9)=true from rfl,ae,cond_true,show aC N r1.1 1 o.gF r1.2=_ from e2,ae]
 exact⟨_,rfl,_,(w1.seq w2).cast (by simp[fO,zO]) (by simp),by simp[tO]⟩
theorem opD10(N:Nat)(hN:1000 < N){o:aL}(ho:O64 o)(hk:o.gC=10)(b:List Int)(e:Bool)(hb:b.length<=8000000):∃r,aJ N b o e=some (Sum.inr r)/\∃q,Wr false b e (fO o 10) 1000 q/\r=(q.1++tO o 10,q.2):=by
 unfold aJ;obtain⟨r1,e1,w1⟩:=jB N hN 1 (by decide) (by decide) ho.k b e (by omega)
 have l1:=w1.len;obtain⟨r2,e2,w2⟩:=jB N hN 4 (by decide) (by decide) ho.ti r1.1 r1.2 (by omega)
 have l2:=w2.len;have e1k:=e1;rw[hk] at e1k;rw[hk,show(cond (decide ((10:Int) < 1)) true (decide ((10:Int) > 10)))=false from rfl,bL,cond_false,show aC N b 1 10 e=_ from e1k,ae,show((10:Int)==1)=false from rfl,cond_false,show((10:Int)==2)=false from rfl,cond_false,show((10:Int)==3)=false from rfl,cond_false,show((10:Int)==4)=false from rfl,ae,cond_false,show((10:Int)==5)=false from rfl,cond_false,show((10:Int)==6)=false from rfl,cond_false,show((10:Int)==9)=false from rfl,ae,cond_false,show((10:Int)==7)=false from rfl,cond_false,show((10:Int)==8)=false from rfl,cond_false,show((10:Int)==10)=true from rfl,cond_true,show aC N r1.1 4 o.gA2 r1.2=_ from e2,ae]
 exact⟨_,rfl,_,(w1.seq w2).cast (by simp[fO,zO]) (by simp),by simp[tO]⟩
theorem opCn(N:Nat)(hN:1000 < N){o:aL}(ho:O64 o)(hk:o.gC < 1\/10 < o.gC):∃r,aN N [] o 0=some r/\r.2=2:=by
 unfold aN;obtain⟨r1,e1,w1⟩:=mU N hN 1 (by decide) (by decide) [o.gC] (λx hx=>by rw[au] at hx;rw[hx];exact ho.k) (by simp) [] 0 (by simp)
 have f:∀j:Int,1<=j->j<=10->(o.gC==j)=false:=λj _ _=>by rw[beq_eq_false_iff_ne];omega
 rw[show aG N [] 1 [o.gC] 0=_ from e1,ae,f 1 (by decide) (by decide),f 2 (by decide) (by decide),f 3 (by decide) (by decide),f 4 (by decide) (by decide),f 5 (by decide) (by decide),f 6 (by decide) (by decide),f 7 (by decide) (by decide),f 8 (by decide) (by decide),f 9 (by decide) (by decide),f 10 (by decide) (by decide),cond_false,cond_false,cond_false,ae,cond_false,cond_false,cond_false,ae,cond_false,cond_false,cond_false,aGk,ae]
 exact⟨_,rfl,(uU _ _ (w1.dom (.inl rfl))).resolve_left (sO (.inr (by decide)))⟩
theorem opDn(N:Nat){o:aL}(hk:o.gC < 1\/10 < o.gC)(b:List Int)(e:Bool):aJ N b o e=some (Sum.inl ()):=by
 unfold aJ;rw[bL]
 rcases hk with h | h
 ·rw[dt h,cond_true,cond_true]
 ·rw[dt (show o.gC > 10 from h),show ∀c:Bool,cond c true true=true from λc=>by cases c <;> rfl,cond_true]
theorem kinds{o:aL}(h:¬(o.gC < 1\/10 < o.gC)):∃k:Nat,o.gC=(k:Int)/\1<=k/\k<=10:=⟨o.gC.toNat,by omega,by omega,by omega⟩
theorem tens{k:Nat}(h:1<=k)(h':k<=10):k=1\/k=2\/k=3\/k=4\/k=5\/k=6\/k=7\/k=8\/k=9\/k=10:=by omega
theorem opCk(N:Nat)(hN:1000 < N){o:aL}(ho:O64 o){k:Nat}(hk:o.gC=(k:Int))(h1:1<=k)(h2:k<=10):∃r,aN N [] o 0=some r/\∃q,Wr 0 [] 0 (fO o k) 1000 q/\r=(q.1++tO o k,q.2):=by
 rcases tens h1 h2 with rfl | rfl | rfl | rfl | rfl | rfl | rfl | rfl | rfl | rfl
 ·exact opC1 N hN ho hk
 ·exact opC2 N hN ho hk
 ·exact opC3 N hN ho hk
 ·exact opC4 N hN ho hk
 ·exact opC5 N hN ho hk
 ·exact opC6 N hN ho hk
 ·exact opC7 N hN ho hk
 ·exact opC8 N hN ho hk
 ·exact opC9 N hN ho hk
 ·exact opC10 N hN ho hk
theorem opDk(N:Nat)(hN:1000 < N){o:aL}(ho:O64 o){k:Nat}(hk:o.gC=(k:Int))(h1:1<=k)(h2:k<=10)(b:List Int)(e:Bool)(hb:b.length<=8000000):∃r,aJ N b o e=some (Sum.inr r)/\∃q,Wr false b e (fO o k) 1000 q/\r=(q.1++tO o k,q.2):=by
 rcases tens h1 h2 with rfl | rfl | rfl | rfl | rfl | rfl | rfl | rfl | rfl | rfl
 ·exact opD1 N hN ho hk b e hb
 ·exact opD2 N hN ho hk b e hb
 ·exact opD3 N hN ho hk b e hb
 ·exact opD4 N hN ho hk b e hb
 ·exact opD5 N hN ho hk b e hb
 ·exact opD6 N hN ho hk b e hb
 ·exact opD7 N hN ho hk b e hb
 ·exact opD8 N hN ho hk b e hb
 ·exact opD9 N hN ho hk b e hb
 ·exact opD10 N hN ho hk b e hb
theorem sumL{α β γ:Type}(a:α)(f:α->γ)(g:β->γ):rH (.inl a) f g=f a:=rfl
theorem sumR{α β γ:Type}(a:β)(f:α->γ)(g:β->γ):rH (.inr a) f g=g a:=rfl
def opB(o:aL):List Int:=bB (fO o o.gC.toNat)++tO o o.gC.toNat
def gO(o:aL):Prop:=1<=o.gC/\o.gC<=10/\okL (fO o o.gC.toNat)=true
theorem aDk{o:aL}(h:okL (fO o 1)=true):o.gA1.length < 65536:=by
 simp only[fO,okL,List.all_cons,List.all_nil,Bool.and_true,Bool.and_eq_true] at h;have h:=h.2.2;unfold Fld.ok at h;rw[cond_false,Bool.and_eq_true] at h;have h:=h.2;unfold big at h;simp only[Bool.not_eq_true',decide_eq_false_iff_not,show cB 2=65536 from rfl] at h;omega
theorem aG5{o:aL}{k:Nat}(h:okL (fO o k)=true):(tO o k).length<=65535:=by
 unfold tO;split
 ·have:=aDk h;omega
 ·simp
theorem aHl(N:Nat)(hN:1000 < N){o:aL}(ho:O64 o)(b:List Int)(hb:b.length<=8000000) :
  (gO o/\(opB o).length<=66535/\aN N [] o 0=some (opB o,0)/\aJ N b o false=some (.inr (b++opB o,false))) \/
  (¬gO o/\(∃s,aN N [] o 0=some (s,2))/\∃q,aJ N b o false=some q/\(q = .inl ()\/∃s,q = .inr (s,true))):=by
 by_cases hk:o.gC < 1\/10 < o.gC
 ·right;obtain⟨r,e,h⟩:=opCn _ hN ho hk;refine⟨λg=>?_,⟨r.1,by rw[e,<- h]⟩,_,opDn _ hk b false,.inl rfl⟩
  have:=g.1;have:=g.2.1;omega
 ·obtain⟨k,h1,h2,h3⟩:=kinds hk;have hk2:o.gC.toNat=k:=by rw[h1];rfl
  obtain⟨r,e,q,w,rfl⟩:=opCk _ hN ho h1 h2 h3;obtain⟨s,f,p,v,rfl⟩:=opDk _ hN ho h1 h2 h3 b false hb;by_cases ok:okL (fO o k)=true
  ·left;have hw:=w.len;have ht:=aG5 ok;have w1:=w.good rfl ok;have v1:=v.good rfl ok;refine⟨⟨by omega,by omega,by rw[hk2];exact ok⟩,?_,?_,?_⟩
   ·rw[w1] at hw;simp only[List.nil_append,ar] at hw;unfold opB;rw[hk2,ax]
    omega
   ·rw[e,w1];unfold opB;rw[hk2];rfl
   ·rw[f,v1];unfold opB;rw[hk2,<- bd]
  ·right;refine⟨λg=>ok (by have:=g.2.2;rw[hk2] at this;exact this),⟨q.1++tO o k,?_⟩,_,f,.inr ⟨p.1++tO o k,?_⟩⟩
   ·rw[e]
    have:q.2=2:=(w.dom (.inl rfl)).resolve_left (w.bad λc=>ok c.2)
    rw[this]
   ·have:p.2=true:=by simpa using v.bad λc=>ok c.2
    rw[this]
theorem encL(N:Nat)(hN:1000 < N){l:List aL}(hl:l.length<=60)(ho:∀o∈l,O64 o):∀(k i:Nat) (s:List Int),s.length<=66535*i->i<=l.length->l.length - i < k ->
  (∃a,a.length<=66535*60/\cV N l k s (i:Int)=some (.inl a)/\cF N l k s false (i:Int)=some (.inl (a,false))) \/
  (cV N l k s (i:Int)=some (.inr ([],2))/\cF N l k s false (i:Int)=some (.inr ([],2)))
 | 0,_,_,_,_,h=>by omega
 | k+1,i,s,hs,hi,hk=>by
  rw[cV,cF,bL,bL]
  by_cases c:i < l.length
  ·have hx:=ho _ (bk c)
   rw[dt (by omega),cond_true,cond_true,pG c,ae,ae]
   rcases aHl N hN hx s (by omega) with ⟨_,h2,h3,h4⟩ | ⟨_,⟨r,h3⟩,q,h4,h5⟩
   ·rw[h3,ae,show(((opB l[i],(0:Int)):List Int×Int).2 != 0)=false from rfl,cond_false,aAr (by dsimp only;omega),ae,h4,ae,sumR,ae,cond_false,sX (by omega)]
    exact encL N hN hl ho k (i+1) (s++opB l[i]) (by rw[ax];omega) (by omega) (by omega)
   ·right;rw[h3,ae,show(((r,(2:Int)):List Int×Int).2 != 0)=true from rfl,cond_true,h4,ae]
    refine⟨rfl,?_⟩
    rcases h5 with rfl | ⟨t,rfl⟩
    ·rw[sumL,ae,cond_true]
    ·rw[sumR,ae,cond_true]
  ·left;rw[df (by omega),cond_false,cond_false]
   exact⟨s,Nat.le_trans hs (Nat.mul_le_mul_left _ (by omega)),rfl,rfl⟩
theorem encB(N:Nat)(hN:1000 < N){l:List aL}(hl:l.length<=60)(ho:∀o∈l,O64 o):∃r,jK N l=some r/\fH N l=some r:=by
 unfold jK fH;rw[bL,bL,df (by omega),cond_false,cond_false]
 rcases encL N hN hl ho N 0 [] (by simp) (by omega) (by omega) with ⟨a,h1,h2,h3⟩ | ⟨h2,h3⟩
 ·rw[show cV N l N [] 0=_ from h2,show cF N l N [] false 0=_ from h3,ae,ae,sumL,sumL,bL]
  cases decide ((a.length:Int) > 65536) with
  | true=>exact⟨_,rfl,rfl⟩
  | false=>exact⟨_,rfl,rfl⟩
 ·rw[show cV N l N [] 0=_ from h2,show cF N l N [] false 0=_ from h3,ae,ae]
  exact⟨_,rfl,rfl⟩
theorem ok8{x:Int}(h:fX x):Fld.ok ⟨true,8,x⟩=true:=by
 have h1:=h.1;have h2:=h.2;show(!(decide (x < -(cB 8 / 2))||decide (cB 8 / 2<=x)))=true;rw[show cB 8=18446744073709551616 from rfl,df (by omega),df (by omega)]
 rfl
theorem okL8{ns:List Int}(h:∀x∈ns,fX x):okL (ns.map λx=>⟨true,8,x⟩)=true:=by
 unfold okL;rw[List.all_map,List.all_eq_true]
 exact λx hx=>ok8 (h x hx)
theorem ansC(N:Nat)(hN:1000 < N)(ns:List Int)(h64:∀x∈ns,fX x)(hl:ns.length<=300):∀(k i:Nat) (b:List Int),b.length<=10+8*i->i<=ns.length->ns.length - i < k->dO N ns k b (i:Int)=some (b++bB ((ns.drop i).map λx=>⟨true,8,x⟩))
 | 0,_,_,_,_,h=>by omega
 | k+1,i,b,hb,hi,hk=>by
  rw[dO,bL]
  by_cases c:i < ns.length
  ·have hx:∀y∈[ns[i]],fX y:=λy hy=>by rw[au] at hy;rw[hy];exact h64 _ (bk c)
   obtain⟨w1,w2,_⟩:=sgnW 8 b [ns[i]] (by decide)
   have e:=w2 (okL8 hx)
   rw[e] at w1;rw[dt (by omega),cond_true,pG c,ae,show cN N b 8 [ns[i]]=_ from sgnP N b 8 (by decide) (by decide) _ hx (by omega) (by simp) (by omega) (by simp;omega),e,ae,sX (by omega)]
   show dO N ns k (b++bB ([ns[i]].map λx=>⟨true,8,x⟩)) ((i+1:Nat):Int)=_;have w1:(b++bB ([ns[i]].map λx=>⟨true,8,x⟩)).length<=b.length+8*1:=w1;rw[ansC N hN ns h64 hl k (i+1) _ (by omega) (by omega) (by omega),show ns.drop i=ns[i] :: ns.drop (i+1) from bt c]
   unfold bB;simp only[cb,List.map_nil,bv,dv,da,bd]
  ·rw[df (by omega),cond_false,cp (by omega)]
   simp[bB]
theorem ansB(N:Nat)(hN:1000 < N){r:aU}(h64:∀x∈r.gG,fX x)(hb:r.gJ.length<=300):∃a,fF N r=some a/\fI N r=some a:=by
 have hx:∀x∈r.gG.take 255,fX x:=λx hx=>h64 x (bx hx)
 have hl:(r.gG.take 255).length<=255:=by rw[c7];omega
 have hi:rW (r.gG.length:Int) 255=((r.gG.take 255).length:Int):=by rw[c7];unfold rW;split <;> omega
 have hU:aEu [U64 (r.gJ.length:Int)]:=aCI ⟨by omega,by omega⟩
 unfold fF fI;rw[bL,bL,show pM r.gG 0 (rW (r.gG.length:Int) 255)=some (r.gG.take 255) from uH _ 255,ae,ae,hi]
 generalize r.gG.take 255=ns at *;generalize hb0:([U8 r.gA3,U8 (ns.length:Int)]:List Int)=b0;have hbl:b0.length=2:=by rw[<- hb0];rfl
 rw[show dO N ns N b0 0=_ from ansC N hN ns hx (by omega) N 0 b0 (by omega) (by omega) (by omega),ae,bL]
 obtain⟨w1,w2,_⟩:=sgnW 8 b0 ns (by decide)
 have e:=w2 (okL8 hx)
 rw[e] at w1;dsimp only at w1;rw[show dA N b0 8 ns=_ from sgnR N b0 8 (by decide) (by decide) _ hx (by omega) (by omega) (by omega) (by omega),e,ae,bL,cm]
 dsimp only;rw[show eG N _ 4 [U64 (r.gJ.length:Int)]=_ from putP N _ 4 (by decide) (by decide) _ hU (by omega) (by simp) (by omega) (by simp;omega),show cK N _ 4 [U64 (r.gJ.length:Int)]=_ from putR N _ 4 (by decide) (by decide) _ hU (by omega) (by simp) (by omega) (by simp;omega),ae]
 have hp:(tZ (b0++bB (ns.map λx=>⟨true,8,x⟩)) 4 [U64 (r.gJ.length:Int)]).1.length<=10000:=by
  unfold tZ;cases ([U64 (r.gJ.length:Int)]:List Int).any (big 4) with
  | true=>simp
  | false=>rw[cond_false];simp only[bv,dv,da,ax,lH] at *;omega
 rw[aAr (by omega)]
 exact⟨_,rfl,rfl⟩
theorem eqB(N:Nat)(x:List Int):jQ N x x=some true:=by
 unfold jQ;rw[beq_self_eq_true]
 rfl
theorem yS(N:Nat)(hN:1000 < N)(hw:hQ N=some true)(l:List aL)(ho:∀o∈l,O64 o)(r:aU)(h64:∀x∈r.gG,fX x):eC N l r=some true:=by
 unfold eC;rw[bL,show pM l 0 (rW (l.length:Int) 60)=some (l.take 60) from uH _ 60,ae,bL,show pM r.gG 0 (rW (r.gG.length:Int) 300)=some (r.gG.take 300) from uH _ 300,ae,bL,show pM r.gJ 0 (rW (r.gJ.length:Int) 300)=some (r.gJ.take 300) from uH _ 300,ae]
 obtain⟨a,h1,h2⟩:=encB N hN (l:=l.take 60) (by rw[c7];omega) (λo h=>ho o (bx h))
 obtain⟨c,g1,g2⟩:=ansB N hN (r:=aU.mk r.gA3 (r.gG.take 300) (r.gJ.take 300)) (λx hx=>h64 x (bx hx)) (by show(r.gJ.take 300).length<=300;rw[c7];omega)
 rw[h1,ae,h2,ae,eqB,ae,cond_true,beq_self_eq_true,cond_true,g1,ae,g2,ae,eqB,ae,cond_true,hw]
 rfl
end Go.UK
