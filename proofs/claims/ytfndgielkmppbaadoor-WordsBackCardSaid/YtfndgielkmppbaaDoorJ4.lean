/- A part of the proof: what the functions of the program compute. -/
import Derived.Test.YtfndgielkmppbaaDoorJ3
open Bool renaming and_eq_true→ag,and_true→gv,not_eq_true'→eg
open List renaming all_cons→bd,all_nil→bh,any_eq_true→ep,append_assoc→ax,append_nil→bn,cons_append→bu,cons_ne_nil→cp,flatMap_cons→bg,length→hV,length_append→am,length_cons→aj,length_nil→an,map_append→cf,map_cons→bv,mem_append→ck,mem_cons→au,mem_cons_of_mem→cw,mem_cons_self→ea,mem_map→d7,mem_singleton→al,nil_append→cg,not_mem_nil→aq
open Nat renaming zero_le→bw
open Option renaming bind→ae,bind_some→aa
namespace Go.UK
open Go Go.Proofs
set_option maxRecDepth 20000
set_option maxHeartbeats 4000000
set_option linter.all false
theorem encK(N:Nat)(hN:1000 < N){o:aD}(ho:O64 o){k:Nat}(hk:o.gD=(k:Int))(h1:1<=k)(h2:k<=10):∃c,aS N [o]=some c/\(c.2=0->okL (fO o k)=true/\c=(bB (fO o k)++tO o k,0))/\(okL (fO o k)=true->(bB (fO o k)).length+(tO o k).length<=65536->c=(bB (fO o k)++tO o k,0)):=by
 obtain⟨n,rfl⟩:∃n,N=n+2:=⟨N - 2,by omega⟩
 obtain⟨r,e,q,w,rfl⟩:=opCk _ hN ho hk h1 h2;have hw:=w.len;have ht:=aGl ho k;rw[encC _ _ (q.1++tO o k,q.2) _ (aFb _ n o e λ_=>by show(q.1++tO o k).length<=_;rw[am];simp at hw;omega)]
 by_cases hok:okL (fO o k)=true
 ·have g:=w.good rfl hok;rw[cg] at g;rw[g]
  dsimp only;rw[if_pos rfl,aa,sumL,aM]
  by_cases d:(bB (fO o k)).length+(tO o k).length<=65536
  ·rw[df (show ¬((bB (fO o k)++tO o k).length:Int) > 65536 by rw[am];omega),cond_false]
   exact⟨_,rfl,λ_=>⟨hok,rfl⟩,λ_ _=>rfl⟩
  ·rw[dt (show((bB (fO o k)++tO o k).length:Int) > 65536 by rw[am];omega),cond_true]
   exact⟨_,rfl,λz=>absurd z (show ¬(3:Int)=0 by decide),λ_ z=>absurd z d⟩
 ·have c:=w.bad λz=>hok z.2;dsimp only;rw[if_neg c,aa]
  exact⟨_,rfl,λz=>absurd z c,λz=>absurd z hok⟩
theorem encN(N:Nat)(hN:1000 < N){o:aD}(ho:O64 o)(hk:o.gD < 1\/10 < o.gD):∃c,aS N [o]=some c/\c.2≠0:=by
 obtain⟨n,rfl⟩:∃n,N=n+2:=⟨N - 2,by omega⟩
 obtain⟨r,e,h⟩:=opCn _ hN ho hk;rw[encC _ _ r _ (aFb _ n o e λq=>absurd q h),if_neg h,aa]
 exact⟨_,rfl,h⟩
def hT8(o:aD):Nat->List UInt8
 | 1=>32 :: (iO o.gL).data.toList
 | _=>[]
def lnT(o:aD)(k:Nat):List UInt8:=nm k++(dZ (gO o k)++hT8 o k)
theorem aFO{o:aD}{k:Nat}(h1:1<=k)(h2:k<=10):jnL 32 (nm k :: (cK o k).map (·.data.toList))=lnT o k:=by
 have f:∀(ws:List (List UInt8)) (w:List UInt8),jnL 32 (w :: ws)=w++ws.flatMap λv=>32 :: v:=by
  intro ws
  induction ws with
  | nil=>intro w;exact(bn w).symm
  | cons v ws ih=>intro w;rw[aBJ 32 w (cp _ _),ih v,bg];rfl
 have g:∀l:List Int,((l.map wd).map (·.data.toList)).flatMap (λv=>(32:UInt8) :: v)=dZ l:=by
  intro l
  induction l with
  | nil=>rfl
  | cons x l ih=>rw[bv,bv,bg,ih];rfl
 rw[f]
 unfold lnT cK;rw[cf,List.flatMap_append,g]
 congr 1;congr 1;rcases oB h1 h2 with rfl | rfl | rfl | rfl | rfl | rfl | rfl | rfl | rfl | rfl <;> first | rfl | exact bn _
theorem qr2(N:Nat)(hN:2000 < N){o:aD}(ho:O64 o){c:List Int×Int}(hc:aS N [o]=some c)(c0:c.2=0)(hk:o.gD=2):aU N o=some (txt (lnT o 2),0):=by
 unfold aU;rw[hc,aa,show(c.2 != 0)=false by simpa using c0,cond_false,cS,aa,hk,show idx bZ 2=some (txt (nm 2)) from rfl,aa,show((2:Int)==1)=false from rfl,cond_false,show((2:Int)==2)=true from rfl,cond_true]
 rw[lU (by decide) (by decide) (by simp) (λx hx=>by rw[al] at hx;rw[hx];exact ho.ha),aa]
 rw[show lnT o 2=nm 2++dZ (gO o 2) from congrArg (nm 2++·) (bn _)]
 rfl
theorem qr4(N:Nat)(hN:2000 < N){o:aD}(ho:O64 o){c:List Int×Int}(hc:aS N [o]=some c)(c0:c.2=0)(hk:o.gD=4):aU N o=some (txt (lnT o 4),0):=by
 unfold aU;rw[hc,aa,show(c.2 != 0)=false by simpa using c0,cond_false,cS,aa,hk,show idx bZ 4=some (txt (nm 4)) from rfl,aa,show((4:Int)==1)=false from rfl,cond_false,show((4:Int)==2)=false from rfl,cond_false,show((4:Int)==3)=false from rfl,cond_false,show((4:Int)==4)=true from rfl,cond_true]
 rw[lU (by decide) (by decide) (by simp) (λx hx=>by simp only[au,aq,or_false] at hx;rcases hx with rfl | rfl | rfl | rfl;exact ho.me;exact ho.ma;exact ho.te;exact ho.n),aa]
 rw[show lnT o 4=nm 4++dZ (gO o 4) from congrArg (nm 4++·) (bn _)]
 rfl
theorem qr6(N:Nat)(hN:2000 < N){o:aD}(ho:O64 o){c:List Int×Int}(hc:aS N [o]=some c)(c0:c.2=0)(hk:o.gD=6):aU N o=some (txt (lnT o 6),0):=by
 unfold aU;rw[hc,aa,show(c.2 != 0)=false by simpa using c0,cond_false,cS,aa,hk,show idx bZ 6=some (txt (nm 6)) from rfl,aa,show((6:Int)==1)=false from rfl,cond_false,show((6:Int)==2)=false from rfl,cond_false,show((6:Int)==3)=false from rfl,cond_false,show((6:Int)==4)=false from rfl,cond_false,show((6:Int)==5)=false from rfl,cond_false,show((6:Int)==7)=false from rfl,cond_false,show((6:Int)==8)=false from rfl,cond_false,show((6:Int)==10)=false from rfl,cond_false]
 rw[lU (by decide) (by decide) (by simp) (λx hx=>by rw[al] at hx;rw[hx];exact ho.la),aa]
 rw[show lnT o 6=nm 6++dZ (gO o 6) from congrArg (nm 6++·) (bn _)]
 rfl
theorem qr7(N:Nat)(hN:2000 < N){o:aD}(ho:O64 o){c:List Int×Int}(hc:aS N [o]=some c)(c0:c.2=0)(hk:o.gD=7):aU N o=some (txt (lnT o 7),0):=by
 unfold aU;rw[hc,aa,show(c.2 != 0)=false by simpa using c0,cond_false,cS,aa,hk,show idx bZ 7=some (txt (nm 7)) from rfl,aa,show((7:Int)==1)=false from rfl,cond_false,show((7:Int)==2)=false from rfl,cond_false,show((7:Int)==3)=false from rfl,cond_false,show((7:Int)==4)=false from rfl,cond_false,show((7:Int)==5)=false from rfl,cond_false,show((7:Int)==7)=true from rfl,cond_true]
 rw[lU (by decide) (by decide) (by simp) (λx hx=>by simp only[au,aq,or_false] at hx;rcases hx with rfl | rfl | rfl | rfl;exact ho.la;exact ho.wh;exact ho.lb64;exact ho.mn),aa]
 have e7:I64 o.gA1=o.gA1:=by have:=ho.lb;exact iG (by omega) (by omega)
 rw[e7]
 rw[show lnT o 7=nm 7++dZ (gO o 7) from congrArg (nm 7++·) (bn _)]
 rfl
theorem qr8(N:Nat)(hN:2000 < N){o:aD}(ho:O64 o){c:List Int×Int}(hc:aS N [o]=some c)(c0:c.2=0)(hk:o.gD=8):aU N o=some (txt (lnT o 8),0):=by
 unfold aU;rw[hc,aa,show(c.2 != 0)=false by simpa using c0,cond_false,cS,aa,hk,show idx bZ 8=some (txt (nm 8)) from rfl,aa,show((8:Int)==1)=false from rfl,cond_false,show((8:Int)==2)=false from rfl,cond_false,show((8:Int)==3)=false from rfl,cond_false,show((8:Int)==4)=false from rfl,cond_false,show((8:Int)==5)=false from rfl,cond_false,show((8:Int)==7)=false from rfl,cond_false,show((8:Int)==8)=true from rfl,cond_true]
 rw[lU (by decide) (by decide) (by simp) (λx hx=>by simp only[au,aq,or_false] at hx;rcases hx with rfl | rfl;exact ho.la;exact ho.wh),aa]
 rw[show lnT o 8=nm 8++dZ (gO o 8) from congrArg (nm 8++·) (bn _)]
 rfl
theorem qr9(N:Nat)(hN:2000 < N){o:aD}(ho:O64 o){c:List Int×Int}(hc:aS N [o]=some c)(c0:c.2=0)(hk:o.gD=9):aU N o=some (txt (lnT o 9),0):=by
 unfold aU;rw[hc,aa,show(c.2 != 0)=false by simpa using c0,cond_false,cS,aa,hk,show idx bZ 9=some (txt (nm 9)) from rfl,aa,show((9:Int)==1)=false from rfl,cond_false,show((9:Int)==2)=false from rfl,cond_false,show((9:Int)==3)=false from rfl,cond_false,show((9:Int)==4)=false from rfl,cond_false,show((9:Int)==5)=false from rfl,cond_false,show((9:Int)==7)=false from rfl,cond_false,show((9:Int)==8)=false from rfl,cond_false,show((9:Int)==10)=false from rfl,cond_false]
 rw[lU (by decide) (by decide) (by simp) (λx hx=>by rw[al] at hx;rw[hx];exact ho.la),aa]
 rw[show lnT o 9=nm 9++dZ (gO o 9) from congrArg (nm 9++·) (bn _)]
 rfl
theorem qr10(N:Nat)(hN:2000 < N){o:aD}(ho:O64 o){c:List Int×Int}(hc:aS N [o]=some c)(c0:c.2=0)(hk:o.gD=10):aU N o=some (txt (lnT o 10),0):=by
 unfold aU;rw[hc,aa,show(c.2 != 0)=false by simpa using c0,cond_false,cS,aa,hk,show idx bZ 10=some (txt (nm 10)) from rfl,aa,show((10:Int)==1)=false from rfl,cond_false,show((10:Int)==2)=false from rfl,cond_false,show((10:Int)==3)=false from rfl,cond_false,show((10:Int)==4)=false from rfl,cond_false,show((10:Int)==5)=false from rfl,cond_false,show((10:Int)==7)=false from rfl,cond_false,show((10:Int)==8)=false from rfl,cond_false,show((10:Int)==10)=true from rfl,cond_true]
 rw[lU (by decide) (by decide) (by simp) (λx hx=>by rw[al] at hx;rw[hx];exact ho.ti),aa]
 rw[show lnT o 10=nm 10++dZ (gO o 10) from congrArg (nm 10++·) (bn _)]
 rfl
theorem qr1(N:Nat)(hN:2000 < N){o:aD}(ho:O64 o){c:List Int×Int}(hc:aS N [o]=some c)(c0:c.2=0)(hk:o.gD=1)(hb:o.gL.length<=750)(hby:fF o.gL):aU N o=some (txt (lnT o 1),0):=by
 have hx:iO o.gL=txt (iO o.gL).data.toList:=sN rfl;have hs:=aA2 hb;rw[<- fZ] at hs;have hj:=pB [o.gS] (λx hx=>by rw[al] at hx;rw[hx];exact ho.ha)
 have hn:(nm 1).length=4:=rfl;simp only[aj,an] at hj;unfold aU;rw[hc,aa,show(c.2 != 0)=false by simpa using c0,cond_false,cS,aa,hk,show idx bZ 1=some (txt (nm 1)) from rfl,aa,show((1:Int)==1)=true from rfl,cond_true]
 rw[lU (by decide) (by decide) (by simp) (λx hx=>by rw[al] at hx;rw[hx];exact ho.ha),aa,show(ByteArray.mk #[32]:ByteArray)=txt [32] from rfl,yE (by simp only[am,aj,an];omega),aa,hexP N hN _ hby (by omega),aa]
 rw[show xC (txt (nm 1++dZ [o.gS]++[32])) (iO o.gL)=some (txt (nm 1++dZ [o.gS]++[32]++(iO o.gL).data.toList)) from(congrArg (xC _) hx).trans (yE (by simp only[am,aj,an];omega)),aa]
 rw[show lnT o 1=nm 1++dZ [o.gS]++[32]++(iO o.gL).data.toList by unfold lnT hT8 gO;simp only[ax,bu,cg]]
theorem qr3(N:Nat)(hN:2000 < N){o:aD}(ho:O64 o){c:List Int×Int}(hc:aS N [o]=some c)(c0:c.2=0)(hk:o.gD=3):aU N o=if (zO o).any pE=true then some (ByteArray.mk #[],2) else some (txt (lnT o 3),0):=by
 have hz:=xB o;have h4:∀x∈([o.gC.gA0,o.gC.gV,o.gC.gR,o.gC.gN]:List Int),dJ x:=(λx hx=>by simp only[au,aq,or_false] at hx;rcases hx with rfl | rfl | rfl | rfl;exact ho.me;exact ho.ma;exact ho.te;exact ho.n)
 have hj:=pB [o.gC.gA0,o.gC.gV,o.gC.gR,o.gC.gN] h4;have hn:(nm 3).length=3:=rfl;simp only[aj,an] at hj;have fx:hU N o.gC.gT=if (zO o).any pE=true then some ([],false) else some (zO o,true):=by
  unfold hU;rw[iU (by simp),aa,show eF N (o.gC.gT.gM.toList++[o.gC.gT.gT.gX,o.gC.gT.gT.gY,o.gC.gT.gT.gZ]) N [] 0=_ from aDo N (zO o) (by omega) N 0 [] (by simp) (by omega) (by omega),List.drop_zero]
  by_cases g:(zO o).any pE=true
  ·rw[if_pos g,if_pos g];rfl
  ·rw[if_neg g,if_neg g];rfl
 unfold aU;rw[hc,aa,show(c.2 != 0)=false by simpa using c0,cond_false,cS,aa,hk,show idx bZ 3=some (txt (nm 3)) from rfl,aa,show((3:Int)==1)=false from rfl,cond_false,show((3:Int)==2)=false from rfl,cond_false,show((3:Int)==3)=true from rfl,cond_true]
 by_cases g:(zO o).any pE=true
 ·rw[if_pos g] at fx ⊢;rw[fx];rfl
 ·rw[if_neg g] at fx ⊢;rw[fx,aa,show(!true)=false from rfl,cond_false,lU (by decide) (by decide) (by simp) h4,aa,lU (by intro q;have:=congrArg hV q;simp[hn] at this) (by rw[am];omega) (by omega) (aFQ ho),aa,ax,<- qL]
  rw[show lnT o 3=nm 3++dZ (gO o 3) from congrArg (nm 3++·) (bn _)]
  rfl
theorem qr5(N:Nat)(hN:2000 < N){o:aD}(ho:O64 o){c:List Int×Int}(hc:aS N [o]=some c)(c0:c.2=0)(hk:o.gD=5):aU N o=some (txt (lnT o 5),0):=by
 have h9:∀x∈([o.gF,o.gI.gW,o.gI.gH,o.gI.gA7,o.gI.gA6,o.gI.gA5,cond o.gI.gA2 1 0,I64 (U64 (Int.tdiv o.gI.gK 4294967296)),I64 (Int.tmod o.gI.gK 4294967296)]:List Int),dJ x:=(λx hx=>by simp only[au,aq,or_false] at hx;rcases hx with rfl | rfl | rfl | rfl | rfl | rfl | rfl | rfl | rfl;exact ho.la;exact ho.v.w;exact ho.v.h;exact ho.v.s;exact ho.v.d;exact ho.v.c;exact aAO _;exact aDD _;exact aDD _)
 have h3:∀x∈([o.gI.gA.gQ,o.gI.gA.gP,o.gA4]:List Int),dJ x:=(λx hx=>by simp only[au,aq,or_false] at hx;rcases hx with rfl | rfl | rfl;exact ho.v.ln;exact ho.v.fo;exact ho.q)
 have hP:∀x∈(aDO o).flatMap ptL,dJ x:=λx hx=>by
  obtain⟨p,hp,hx⟩:=List.mem_flatMap.1 hx;have:p64 p:=by
   unfold aDO at hp;simp only[au,aq,or_false] at hp;rcases hp with rfl | rfl | rfl | rfl
   ·exact ho.v.eye
   ·exact ho.v.rt
   ·exact ho.v.up
   ·exact ho.v.ah
  unfold ptL at hx;simp only[au,aq,or_false] at hx;rcases hx with rfl | rfl | rfl
  ·exact this.1
  ·exact this.2.1
  ·exact this.2.2
 have lP:((aDO o).flatMap ptL).length=12:=rfl;have j9:=pB [o.gF,o.gI.gW,o.gI.gH,o.gI.gA7,o.gI.gA6,o.gI.gA5,cond o.gI.gA2 1 0,I64 (U64 (Int.tdiv o.gI.gK 4294967296)),I64 (Int.tmod o.gI.gK 4294967296)] h9;have jP:=pB _ hP;have hn:(nm 5).length=5:=rfl;simp only[aj,an] at j9;have ne:∀l:List UInt8,nm 5++l≠[]:=λl q=>by have:=congrArg hV q;simp[hn] at this
 unfold aU;rw[hc,aa,show(c.2 != 0)=false by simpa using c0,cond_false,cS,aa,hk,show idx bZ 5=some (txt (nm 5)) from rfl,aa,show((5:Int)==1)=false from rfl,cond_false,show((5:Int)==2)=false from rfl,cond_false,show((5:Int)==3)=false from rfl,cond_false,show((5:Int)==4)=false from rfl,cond_false,show((5:Int)==5)=true from rfl,cond_true]
 rw[aFL,aa,aM,aM,hi32 ho.v.seed,lo32 ho.v.seed,lU (by decide) (by decide) (by simp) h9,aa,show fQ N [o.gI.gA.gJ,o.gI.gA.gG,o.gI.gA.gUp,o.gI.gA.gE]=some ((aDO o).flatMap ptL) by
  unfold fQ;rw[show dQ N [o.gI.gA.gJ,o.gI.gA.gG,o.gI.gA.gUp,o.gI.gA.gE] N [] 0=_ from ptsC N (aDO o) (show 4<=100 by decide) N 0 [] (by simp) (by omega) (show 4 - 0 < N by omega)]
  rfl,aa,lU (ne _) (by rw[am];omega) (by omega) hP,aa,aM,ax,lU (ne _) (by rw[am,am];omega) (by simp) h3,aa]
 have hsd:=ho.v.seed;rw[show I64 (U64 (Int.tdiv o.gI.gK 4294967296))=o.gI.gK / 4294967296 by rw[Int.tdiv_eq_ediv_of_nonneg hsd.1,qB (by omega) (by omega),iG (by omega) (by omega)],show I64 (Int.tmod o.gI.gK 4294967296)=o.gI.gK % 4294967296 by rw[Int.tmod_eq_emod_of_nonneg hsd.1,iG (by omega) (by omega)]]
 rw[show lnT o 5=nm 5++dZ (gO o 5) from congrArg (nm 5++·) (bn _)]
 rw[ax,ax,<- qL,<- qL]
 rfl
theorem okU{w:Nat}{x:Int}:Fld.ok ⟨false,w,x⟩=true↔0<=x/\x < dO w:=by
 unfold Fld.ok big;rw[cond_false,ag,decide_eq_true_iff,eg,decide_eq_false_iff_not]
 dsimp only;omega
theorem okG{w:Nat}{x:Int}:Fld.ok ⟨true,w,x⟩=true ↔ -(dO w / 2)<=x/\x < dO w / 2:=by
 unfold Fld.ok uS;rw[cond_true,eg,Bool.or_eq_false_iff,decide_eq_false_iff_not,decide_eq_false_iff_not]
 dsimp only;omega
theorem u1{x:Int}:Fld.ok ⟨false,1,x⟩=true↔rg 0 255 x:=by rw[okU,show dO 1=256 from rfl];unfold rg;omega
theorem u2{x:Int}:Fld.ok ⟨false,2,x⟩=true↔rg 0 65535 x:=by rw[okU,show dO 2=65536 from rfl];unfold rg;omega
theorem u4{x:Int}:Fld.ok ⟨false,4,x⟩=true↔rg 0 4294967295 x:=by rw[okU,show dO 4=4294967296 from rfl];unfold rg;omega
theorem u8{x:Int}:Fld.ok ⟨false,8,x⟩=true↔0<=x/\x < 18446744073709551616:=by rw[okU,show dO 8=18446744073709551616 from rfl]
theorem g4{x:Int}:Fld.ok ⟨true,4,x⟩=true↔rg (-2147483648) 2147483647 x:=by rw[okG,show dO 4 / 2=2147483648 from rfl];unfold rg;omega
theorem g8{x:Int}:Fld.ok ⟨true,8,x⟩=true↔dJ x:=by rw[okG,show dO 8 / 2=9223372036854775808 from rfl];unfold dJ;omega
theorem ucn(c:Bool):Fld.ok ⟨false,1,cond c 1 0⟩=true:=by cases c <;> rfl
theorem vwOk(v:aP):okL (vF v)=true↔VwV v:=by
 unfold vF okL;simp only[bg,List.flatMap_nil,pF,List.all_append,bd,bh,ag,gv,u1,u4,u8,ucn,g4,and_true,true_and,bn]
 constructor
 ·intro h;constructor <;> simp_all [ptV]
 ·rintro⟨h1,h2,h3,h4,h5,h6,h7,h8,h9,h10,h11,h12⟩
  simp_all [ptV]
theorem badN{x:Int}:pE x=false↔bN x:=by
 unfold pE bN;by_cases c:x > 4611686018427387904
 ·rw[dt c,cond_true]
  constructor
  ·intro h;cases h
  ·intro h;omega
 ·rw[df c,cond_false,decide_eq_false_iff_not]
  omega
theorem wO{x:Int}(h:bN x):dJ x:=⟨by have:=h.1;omega,by have:=h.2;omega⟩
theorem cI{lo hi x:Int}(h:rg lo hi x)(h1:-9223372036854775808<=lo:=by decide)(h2:hi < 9223372036854775808:=by decide):dJ x:=⟨by have:=h.1;omega,by have:=h.2;omega⟩
theorem VO_ok{o:aD}{k:Nat}(hk:o.gD=(k:Int))(k1:1<=k)(k2:k<=10)(h:VO o k):okL (fO o k)=true:=by
 have hkk:rg 0 255 o.gD:=by rw[hk];exact⟨by omega,by omega⟩
 rcases oB k1 k2 with rfl | rfl | rfl | rfl | rfl | rfl | rfl | rfl | rfl | rfl
 ·have hb:rg 0 65535 (o.gL.length:Int):=⟨by omega,by have:=h.2.2;omega⟩
  simp only[fO,okL,bd,bh,u1,u2,u4,ag]
  exact⟨hkk,h.1,hb,trivial⟩
 ·simp only[fO,okL,bd,bh,u1,u4,ag]
  exact⟨hkk,h,trivial⟩
 ·show okL (_++_)=true;rw[kV]
  have hz:okL ((zO o).map λx=>⟨true,8,x⟩)=true:=by
   unfold okL;rw[List.all_map,List.all_eq_true]
   intro x hx;refine g8.2 (wO ?_)
   unfold zO at hx;rw[ck] at hx;rcases hx with hx | hx
   ·exact h.2.1 x hx
   ·simp only[au,aq,or_false] at hx;rcases hx with rfl | rfl | rfl
    ·exact h.2.2.1
    ·exact h.2.2.2.1
    ·exact h.2.2.2.2
  rw[hz,gv]
  simp only[okL,bd,bh,u1,u4,ag]
  exact⟨hkk,h.1.1,h.1.2.1,h.1.2.2.1,h.1.2.2.2,trivial⟩
 ·simp only[fO,okL,bd,bh,u1,u4,ag]
  exact⟨hkk,h.1,h.2.1,h.2.2.1,h.2.2.2,trivial⟩
 ·show okL (_++(_++_))=true;rw[kV,kV,(vwOk _).2 h.2.1]
  simp only[okL,bd,bh,u1,u2,ag]
  exact⟨⟨hkk,h.1,trivial⟩,trivial,h.2.2,trivial⟩
 ·simp only[fO,okL,bd,bh,u1,ag]
  exact⟨hkk,h,trivial⟩
 ·have e7:I64 o.gA1=o.gA1:=by have:=h.2.2.1.1;have:=h.2.2.1.2;exact iG (by omega) (by omega)
  simp only[fO,okL,bd,bh,u1,u4,ag,e7]
  exact⟨hkk,h.1,h.2.1,h.2.2.1,h.2.2.2,trivial⟩
 ·simp only[fO,okL,bd,bh,u1,ag]
  exact⟨hkk,h.1,h.2,trivial⟩
 ·simp only[fO,okL,bd,bh,u1,ag]
  exact⟨hkk,h,trivial⟩
 ·simp only[fO,okL,bd,bh,u1,u4,ag]
  exact⟨hkk,h,trivial⟩
theorem ok_VO{o:aD}(ho:O64 o)(hby:fF o.gL)(hbl:o.gL.length<=65535){k:Nat}(k1:1<=k)(k2:k<=10)(h3:k=3->¬(zO o).any pE=true)(h:okL (fO o k)=true):VO o k:=by
 rcases oB k1 k2 with rfl | rfl | rfl | rfl | rfl | rfl | rfl | rfl | rfl | rfl
 ·simp only[fO,okL,bd,bh,u1,u2,u4,ag] at h;exact⟨h.2.1,hby,hbl⟩
 ·simp only[fO,okL,bd,bh,u1,u4,ag] at h;exact h.2.1
 ·have h:okL ([⟨false,1,o.gD⟩,⟨false,4,o.gC.gA0⟩,⟨false,4,o.gC.gV⟩,⟨false,4,o.gC.gR⟩,⟨false,4,o.gC.gN⟩]++(zO o).map λx=>⟨true,8,x⟩)=true:=h;rw[kV,ag] at h;have h5:=h.1;simp only[okL,bd,bh,u1,u4,ag] at h5;have hz:∀x∈zO o,bN x:=λx hx=>badN.1 (by
   cases hb:pE x with
   | false=>rfl
   | true=>exact absurd (ep.2 ⟨x,hx,hb⟩) (h3 rfl))
  refine⟨⟨h5.2.1,h5.2.2.1,h5.2.2.2.1,h5.2.2.2.2.1⟩,λx hx=>hz x (List.mem_append_left _ hx),?_,?_,?_⟩ <;> exact hz _ (List.mem_append_right _ (by simp))
 ·simp only[fO,okL,bd,bh,u1,u4,ag] at h;exact⟨h.2.1,h.2.2.1,h.2.2.2.1,h.2.2.2.2.1⟩
 ·have h:okL ([⟨false,1,o.gD⟩,⟨false,1,o.gF⟩]++(vF o.gI++[⟨false,2,o.gA4⟩]))=true:=h;rw[kV,kV,ag,ag] at h;obtain⟨ha,hb,hc⟩:=h;simp only[okL,bd,bh,u1,u2,ag] at ha hc;exact⟨ha.2.1,(vwOk _).1 hb,hc.1⟩
 ·simp only[fO,okL,bd,bh,u1,ag] at h;exact h.2.1
 ·have e7:I64 o.gA1=o.gA1:=by have:=ho.lb;exact iG (by omega) (by omega)
  simp only[fO,okL,bd,bh,u1,u4,ag,e7] at h;exact⟨h.2.1,h.2.2.1,h.2.2.2.1,h.2.2.2.2.1⟩
 ·simp only[fO,okL,bd,bh,u1,ag] at h;exact⟨h.2.1,h.2.2.1⟩
 ·simp only[fO,okL,bd,bh,u1,ag] at h;exact h.2.1
 ·simp only[fO,okL,bd,bh,u1,u4,ag] at h;exact h.2.1
theorem in0 : dJ 0:=⟨by decide,by decide⟩
theorem zM : ∀x∈(Vector.replicate 9 (0:Int)).toList,dJ x:=λx hx=>by
 have:x=0:=by simpa using hx
 rw[this];exact in0
theorem wS : V64 (aP.mk 0 0 0 0 0 0 (aR.mk (aA.mk 0 0 0) (aA.mk 0 0 0) (aA.mk 0 0 0) (aA.mk 0 0 0) 0 0) false):=
 ⟨in0,in0,in0,in0,in0,⟨by decide,by decide⟩,⟨in0,in0,in0⟩,⟨in0,in0,in0⟩,⟨in0,in0,in0⟩,⟨in0,in0,in0⟩,in0,in0⟩
theorem lb0 : (0:Int)<=0/\(0:Int) < 4294967296:=⟨by decide,by decide⟩
theorem pV64{p:aA}(h:ptV p):p64 p:=⟨cI h.1,cI h.2.1,cI h.2.2⟩
theorem vV64{v:aP}(h:VwV v):V64 v:=⟨cI h.w,cI h.h,cI h.s,cI h.d,cI h.c,h.seed,pV64 h.e,pV64 h.r,pV64 h.u,pV64 h.a,cI h.l,cI h.f⟩
theorem kI{n:Int}(h0:0<=n)(h:n<=10):dJ n:=⟨by omega,by omega⟩
theorem nO64{o:aD}{k:Nat}(k1:1<=k)(k2:k<=10)(h:VO o k):O64 (jQ o k):=by
 rcases oB k1 k2 with rfl | rfl | rfl | rfl | rfl | rfl | rfl | rfl | rfl | rfl
 ·exact⟨kI (n:=1) (by decide) (by decide),cI h.1,in0,in0,in0,in0,zM,in0,in0,in0,in0,wS,in0,in0,lb0,in0,in0,by show o.gL.length<=1000000;have:=h.2.2;omega⟩
 ·exact⟨kI (n:=2) (by decide) (by decide),cI h,in0,in0,in0,in0,zM,in0,in0,in0,in0,wS,in0,in0,lb0,in0,in0,bw _⟩
 ·exact⟨kI (n:=3) (by decide) (by decide),in0,cI h.1.1,cI h.1.2.1,cI h.1.2.2.1,cI h.1.2.2.2,λx hx=>wO (h.2.1 x hx),wO h.2.2.1,wO h.2.2.2.1,wO h.2.2.2.2,in0,wS,in0,in0,lb0,in0,in0,bw _⟩
 ·exact⟨kI (n:=4) (by decide) (by decide),in0,cI h.1,cI h.2.1,cI h.2.2.1,cI h.2.2.2,zM,in0,in0,in0,in0,wS,in0,in0,lb0,in0,in0,bw _⟩
 ·exact⟨kI (n:=5) (by decide) (by decide),in0,in0,in0,in0,in0,zM,in0,in0,in0,cI h.1,vV64 h.2.1,cI h.2.2,in0,lb0,in0,in0,bw _⟩
 ·exact⟨kI (n:=6) (by decide) (by decide),in0,in0,in0,in0,in0,zM,in0,in0,in0,cI h,wS,in0,in0,lb0,in0,in0,bw _⟩
 ·exact⟨kI (n:=7) (by decide) (by decide),in0,in0,in0,in0,in0,zM,in0,in0,in0,cI h.1,wS,in0,cI h.2.1,⟨h.2.2.1.1,by have:=h.2.2.1.2;show o.gA1 < 4294967296;omega⟩,cI h.2.2.2,in0,bw _⟩
 ·exact⟨kI (n:=8) (by decide) (by decide),in0,in0,in0,in0,in0,zM,in0,in0,in0,cI h.1,wS,in0,cI h.2,lb0,in0,in0,bw _⟩
 ·exact⟨kI (n:=9) (by decide) (by decide),in0,in0,in0,in0,in0,zM,in0,in0,in0,cI h,wS,in0,in0,lb0,in0,in0,bw _⟩
 ·exact⟨kI (n:=10) (by decide) (by decide),in0,in0,in0,in0,in0,zM,in0,in0,in0,in0,wS,in0,in0,lb0,in0,cI h,bw _⟩
theorem nF{o:aD}{k:Nat}(hk:o.gD=(k:Int))(k1:1<=k)(k2:k<=10):(jQ o k).gD=(k:Int)/\fO (jQ o k) k=fO o k/\tO (jQ o k) k=tO o k:=by
 rcases oB k1 k2 with rfl | rfl | rfl | rfl | rfl | rfl | rfl | rfl | rfl | rfl <;> (refine⟨rfl,?_,rfl⟩;unfold fO;rw[hk];rfl)
theorem aFg(N:Nat)(hN:1000 < N){o:aD}(ho:O64 o){k:Nat}(hk:o.gD=(k:Int))(h1:1<=k)(h2:k<=10)(hok:okL (fO o k)=true):(bB (fO o k)).length<=1000:=by
 obtain⟨r,e,q,w,rfl⟩:=opCk N hN ho hk h1 h2;have hw:=w.len;rw[w.good rfl hok] at hw;simpa using hw
theorem aAb(u:Nat)(h:u < 18446744073709551616):(Lib.decDigits u).length<=20:=by
 rw[Lib.decDigits_length];exact Lib.nDigits_le20 u h
theorem aFl{x:Int}(h:dJ x):(Lib.itoa x).length<=21:=by
 have h1:=h.1;have h2:=h.2;unfold Lib.itoa;split
 ·rw[aj]
  have:=aAb (x.natAbs) (by omega)
  first | omega | (have:=aAb ((-x).toNat) (by omega);omega)
 ·have:=aAb x.toNat (by omega)
  omega
theorem aD6 : ∀l:List Int,(∀x∈l,dJ x)->(dZ l).length<=22*l.length
 | [],_=>bw _
 | x :: l,h=>by
  rw[show dZ (x :: l)=(32 :: Lib.itoa x)++dZ l by unfold dZ;rw[bg],am,aj,aj]
  have:=aFl (h x ea)
  have:=aD6 l λy hy=>h y (cw _ hy)
  omega
theorem gO64{o:aD}{k:Nat}(k1:1<=k)(k2:k<=10)(h:VO o k):(∀x∈gO o k,dJ x)/\(gO o k).length<=24:=by
 rcases oB k1 k2 with rfl | rfl | rfl | rfl | rfl | rfl | rfl | rfl | rfl | rfl
 ·exact⟨λx hx=>by rw[show x=o.gS from al.1 hx];exact cI h.1,show 1<=24 by decide⟩
 ·exact⟨λx hx=>by rw[show x=o.gS from al.1 hx];exact cI h,show 1<=24 by decide⟩
 ·refine⟨λx hx=>?_,by simp[gO,inL,afL]⟩
  rcases ck.1 (show x∈inL o.gC++afL o.gC.gT from hx) with hx | hx
  ·simp only[inL,au,aq,or_false] at hx;rcases hx with rfl | rfl | rfl | rfl
   ·exact cI h.1.1
   ·exact cI h.1.2.1
   ·exact cI h.1.2.2.1
   ·exact cI h.1.2.2.2
  ·unfold afL at hx;rcases ck.1 hx with hx | hx
   ·exact wO (h.2.1 x hx)
   ·simp only[au,aq,or_false] at hx;rcases hx with rfl | rfl | rfl
    ·exact wO h.2.2.1
    ·exact wO h.2.2.2.1
    ·exact wO h.2.2.2.2
 ·refine⟨λx hx=>?_,show 4<=24 by decide⟩
  simp only[gO,inL,au,aq,or_false] at hx;rcases hx with rfl | rfl | rfl | rfl
  ·exact cI h.1
  ·exact cI h.2.1
  ·exact cI h.2.2.1
  ·exact cI h.2.2.2
 ·refine⟨λx hx=>?_,show 24<=24 by decide⟩
  have v:=h.2.1;have hs:=v.seed;simp only[gO,vwL,yP,bu,cg,au,aq,or_false] at hx;rcases hx with rfl | rfl | rfl | rfl | rfl | rfl | rfl | rfl | rfl | rfl | rfl | rfl | rfl | rfl | rfl | rfl | rfl | rfl | rfl | rfl | rfl | rfl | rfl | rfl
  ·exact cI h.1
  ·exact cI v.w
  ·exact cI v.h
  ·exact cI v.s
  ·exact cI v.d
  ·exact cI v.c
  ·exact aAO _
  ·exact⟨by omega,by omega⟩
  ·exact⟨by omega,by omega⟩
  ·exact cI v.e.1
  ·exact cI v.e.2.1
  ·exact cI v.e.2.2
  ·exact cI v.r.1
  ·exact cI v.r.2.1
  ·exact cI v.r.2.2
  ·exact cI v.u.1
  ·exact cI v.u.2.1
  ·exact cI v.u.2.2
  ·exact cI v.a.1
  ·exact cI v.a.2.1
  ·exact cI v.a.2.2
  ·exact cI v.l
  ·exact cI v.f
  ·exact cI h.2.2
 ·exact⟨λx hx=>by rw[show x=o.gF from al.1 hx];exact cI h,show 1<=24 by decide⟩
 ·refine⟨λx hx=>?_,show 4<=24 by decide⟩
  simp only[gO,au,aq,or_false] at hx;rcases hx with rfl | rfl | rfl | rfl
  ·exact cI h.1
  ·exact cI h.2.1
  ·exact cI h.2.2.1
  ·exact cI h.2.2.2
 ·refine⟨λx hx=>?_,show 2<=24 by decide⟩
  simp only[gO,au,aq,or_false] at hx;rcases hx with rfl | rfl
  ·exact cI h.1
  ·exact cI h.2
 ·exact⟨λx hx=>by rw[show x=o.gF from al.1 hx];exact cI h,show 1<=24 by decide⟩
 ·exact⟨λx hx=>by rw[show x=o.gA8 from al.1 hx];exact cI h,show 1<=24 by decide⟩
theorem aBZ : ∀b:List Int,fF b->∀x∈kD b,48<=x/\x < 256
 | [],_,x,h=>by simp[kD] at h
 | y :: b,hb,x,h=>by
  have hy:=hb y ea;unfold isB at hy;have ih:=aBZ b (λz hz=>hb z (cw _ hz))
  simp only[kD,bg,ck,au,aq,or_false] at h ih;rcases h with (rfl | rfl) | h
  ·unfold dg;split <;> omega
  ·unfold dg;split <;> omega
  ·exact ih x h
theorem hex32{b:List Int}(hb:fF b):(32:UInt8)∉(iO b).data.toList:=by
 unfold iO;split
 ·decide
 ·next b'=>
  intro h;have h:(32:UInt8)∈(kD b).map (λx=>UInt8.ofNat x.toNat):=h;obtain⟨x,hx,e⟩:=d7.1 h;obtain⟨h1,h2⟩:=aBZ b hb x hx;have:=congrArg UInt8.toNat e;rw[UInt8.toNat_ofNat',show(32:UInt8).toNat=32 from rfl,Nat.mod_eq_of_lt (show x.toNat < 2 ^ 8 by omega)] at this;omega
theorem ln32{o:aD}{k:Nat}(k1:1<=k)(k2:k<=10)(h:VO o k):∀w∈nm k :: (cK o k).map (·.data.toList),(32:UInt8)∉w:=by
 intro w hw;rw[au] at hw;rcases hw with rfl | hw
 ·rcases oB k1 k2 with rfl | rfl | rfl | rfl | rfl | rfl | rfl | rfl | rfl | rfl <;> decide
 ·unfold cK at hw;rw[cf,ck] at hw;rcases hw with hw | hw
  ·obtain⟨v,hv,rfl⟩:=d7.1 hw;obtain⟨n,_,rfl⟩:=d7.1 hv;intro q;exact aEI n 32 q rfl
  ·rcases oB k1 k2 with rfl | rfl | rfl | rfl | rfl | rfl | rfl | rfl | rfl | rfl
   ·rw[show w=(iO o.gL).data.toList from al.1 hw]
    exact hex32 h.2.1
   all_goals exact absurd hw aq
theorem aCk{b:List Int}:(iO b).data.toList.length=if b.length=0 then 1 else 2*b.length:=by
 cases b with
 | nil=>rfl
 | cons x b=>
  rw[if_neg (by rw[aj];omega),fZ]
  show(mA (kD (x :: b))).size=_;rw[qQ,nG]
theorem nm_le(k:Nat):(nm k).length<=6:=by unfold nm;split <;> decide
theorem aGY{o:aD}{k:Nat}(k1:1<=k)(k2:k<=10)(h:VO o k)(hb:o.gL.length<=300):(lnT o k).length<=1600:=by
 obtain⟨g1,g2⟩:=gO64 k1 k2 h;have:=aD6 _ g1;have:=nm_le k;have h8:(hT8 o k).length<=602:=by
  rcases oB k1 k2 with rfl | rfl | rfl | rfl | rfl | rfl | rfl | rfl | rfl | rfl
  ·show((32:UInt8) :: (iO o.gL).data.toList).length<=602;rw[aj,aCk]
   split <;> omega
  all_goals exact bw _
 unfold lnT;rw[am,am]
 omega
theorem aC3(N:Nat)(o:aD){c:List Int×Int}(hc:aS N [o]=some c)(c0:c.2≠0):aU N o=some (ByteArray.mk #[],2):=by
 unfold aU;rw[hc,aa,show(c.2 != 0)=true by simpa using c0,cond_true]
theorem aDt(N:Nat)(hN:2000 < N){o:aD}(ho:O64 o){k:Nat}(hk:o.gD=(k:Int))(k1:1<=k)(k2:k<=10)(h:VO o k)(hb:o.gL.length<=750){c:List Int×Int}(hc:aS N [o]=some c)(c0:c.2=0):aU N o=some (txt (lnT o k),0):=by
 rcases oB k1 k2 with rfl | rfl | rfl | rfl | rfl | rfl | rfl | rfl | rfl | rfl
 ·exact qr1 N hN ho hc c0 hk hb h.2.1
 ·exact qr2 N hN ho hc c0 hk
 ·rw[qr3 N hN ho hc c0 hk,if_neg]
  intro q;obtain⟨x,hx,e⟩:=ep.1 q;have:bN x:=by
   unfold zO at hx;rcases ck.1 hx with hx | hx
   ·exact h.2.1 x hx
   ·simp only[au,aq,or_false] at hx;rcases hx with rfl | rfl | rfl
    ·exact h.2.2.1
    ·exact h.2.2.2.1
    ·exact h.2.2.2.2
  rw[badN.2 this] at e;cases e
 ·exact qr4 N hN ho hc c0 hk
 ·exact qr5 N hN ho hc c0 hk
 ·exact qr6 N hN ho hc c0 hk
 ·exact qr7 N hN ho hc c0 hk
 ·exact qr8 N hN ho hc c0 hk
 ·exact qr9 N hN ho hc c0 hk
 ·exact qr10 N hN ho hc c0 hk
theorem partA(N:Nat)(hN:2000 < N){o:aD}(ho:O64 o)(hby:fF o.gL)(hb:o.gL.length<=300):∃r,aU N o=some r/\(r.2=0->∃x b,aG N r.1=some (x,0)/\aS N [o]=some (b,0)/\aS N [x]=some (b,0)):=by
 by_cases hk:o.gD < 1\/10 < o.gD
 ·obtain⟨c,hc,c0⟩:=encN N (by omega) ho hk;exact⟨_,aC3 N o hc c0,λq=>absurd q (show ¬(2:Int)=0 by decide)⟩
 ·obtain⟨k,hk,k1,k2⟩:=kinds hk;obtain⟨c,hc,g1,g2⟩:=encK N (by omega) ho hk k1 k2;by_cases c0:c.2=0
  ·obtain⟨hok,rfl⟩:=g1 c0;by_cases h3:k=3/\(zO o).any pE=true
   ·obtain⟨rfl,h3⟩:=h3;refine⟨(ByteArray.mk #[],2),?_,λq=>absurd q (show ¬(2:Int)=0 by decide)⟩
    rw[qr3 N hN ho hc c0 hk,if_pos h3]
   ·have hv:VO o k:=ok_VO ho hby (by omega) k1 k2 (λe q=>h3 ⟨e,q⟩) hok;have hl:=aGY k1 k2 hv hb;refine⟨_,aDt N hN ho hk k1 k2 hv (by omega) hc c0,λ_=>⟨jQ o k,bB (fO o k)++tO o k,?_,hc,?_⟩⟩
    ·have hs:(txt (lnT o k)).size<=1600:=by rw[iA];exact hl
     have hcut:aN N (txt (lnT o k)) (ByteArray.mk #[32])=some (txt (nm k) :: cK o k):=by
      rw[<- aFO k1 k2] at hl ⊢;rw[cutH N (cp _ _) (ln32 k1 k2 hv) hl,bv,wZ]
     rcases oB k1 k2 with rfl | rfl | rfl | rfl | rfl | rfl | rfl | rfl | rfl | rfl
     ·exact psH1 N hN hs hv (by omega) hcut
     ·exact psH2 N hN hs hv hcut
     ·exact psH3 N hN hs hv hcut
     ·exact psH4 N hN hs hv hcut
     ·exact psH5 N hN hs hv hcut
     ·exact psH6 N hN hs hv hcut
     ·exact psH7 N hN hs hv hcut
     ·exact psH8 N hN hs hv hcut
     ·exact psH9 N hN hs hv hcut
     ·exact psH10 N hN hs hv hcut
    ·obtain⟨n1,n2,n3⟩:=nF hk k1 k2;obtain⟨c',hc',_,g2'⟩:=encK N (by omega) (nO64 k1 k2 hv) n1 k1 k2;rw[n2,n3] at g2';have hbl:=aFg N (by omega) ho hk k1 k2 hok;have htl:(tO o k).length<=300:=by unfold tO;split;exact hb;exact bw _
     rw[hc',g2' hok (by omega)]
  ·exact⟨_,aC3 N o hc c0,λq=>absurd q (show ¬(2:Int)=0 by decide)⟩
theorem partB(N:Nat)(hN:2000 < N){s:ByteArray}(hs:s.size<=1500):∃r,aG N s=some r/\(r=(zOp,5)\/(r.2=0/\aU N r.1=some (s,0))):=by
 obtain⟨r,e,h | ⟨k,k1,k2,g1,g2,hv,g4⟩⟩:=psT N hN (show s.size<=1600 by omega)
 ·exact⟨r,e,.inl h⟩
 ·refine⟨r,e,.inr ⟨g1,?_⟩⟩
  rw[aFO k1 k2] at g4;have ho:O64 r.1:=by rw[g2];exact nO64 k1 k2 hv
  have hk:r.1.gD=(k:Int):=by
   rw[g2]
   rcases oB k1 k2 with rfl | rfl | rfl | rfl | rfl | rfl | rfl | rfl | rfl | rfl <;> rfl
  have hb:r.1.gL.length<=750:=by
   rcases oB k1 k2 with rfl | rfl | rfl | rfl | rfl | rfl | rfl | rfl | rfl | rfl
   ·have hz:(lnT r.1 1).length<=1500:=by rw[<- iA,<- g4];exact hs
    unfold lnT at hz;rw[am,am,show hT8 r.1 1=32 :: (iO r.1.gL).data.toList from rfl,aj,aCk] at hz;split at hz <;> omega
   all_goals (rw[g2];exact bw _)
  have hok:=VO_ok hk k1 k2 hv;obtain⟨c,hc,_,f2⟩:=encK N (by omega) ho hk k1 k2;have hbl:=aFg N (by omega) ho hk k1 k2 hok;have htl:(tO r.1 k).length<=750:=by unfold tO;split;exact hb;exact bw _
  have ce:=f2 hok (by omega)
  rw[aDt N hN ho hk k1 k2 hv hb hc (by rw[ce]),<- g4]
theorem zY(N:Nat)(hN:2000 < N)(hw:cU N=some true)(o:aD)(ho:O64 { o with gL:=o.gL.take 300 })(hby:fF o.gL)(s:ByteArray):dW N o s=some true:=by
 unfold dW;have f1:eX N o=some { o with gL:=o.gL.take 300 }:=by
  unfold eX;rw[aM,show qH o.gL 0 (wD (o.gL.length:Int) 300)=some (o.gL.take 300) from aDh _ 300]
  rfl
 have f2:aAF s 0 (wD (s.size:Int) 1500)=some (s.extract 0 (min s.size 1500)):=by
  rw[show wD (s.size:Int) 1500=((min s.size 1500:Nat):Int) by unfold wD;split <;> omega]
  exact aEj (f:=0) (bw _) (Nat.min_le_left _ _)
 have hs:(s.extract 0 (min s.size 1500)).size<=1500:=by
  rw[ByteArray.size_extract]
  omega
 obtain⟨r,a1,a2⟩:=partA N hN ho (λx hx=>hby x (List.mem_of_mem_take hx)) (by show(o.gL.take 300).length<=300;rw[List.length_take];omega)
 obtain⟨q,b1,b2⟩:=partB N hN hs;rw[f1,aa,aM,f2,aa,a1,aa]
 have first:(cond (r.2==0) (
  ae (aG N r.1) λr6=>
  ae (aS N ([({ o with gL:=o.gL.take 300 }:aD)])) λr7=>
  ae (aS N ([r6.1])) λr8=>
  ae (cG (cond (r6.2 != 0) true (r7.2 != 0)) λx10=>
  cG (cond x10 true (r8.2 != 0)) λx11=>
  cond x11 (
   some true) (
   ae (fK N r7.1 r8.1) λr12=>
   some (!r12))) λp9=>
  cond p9 (some (Sum.inr false)) (some (Sum.inl (())))) (
  some (Sum.inl (()))):Option (Sum Unit Bool))=some (.inl ()):=by
  by_cases c:r.2=0
  ·obtain⟨x,b,c1,c2,c3⟩:=a2 c;rw[show(r.2==0)=true by simpa using c,cond_true,c1,aa,c2,aa,c3,aa,aM,aM]
   dsimp only;rw[aGn]
   rfl
  ·rw[show(r.2==0)=false by simpa using c,cond_false]
 rw[first,aa,sumL,b1,aa]
 rcases b2 with rfl | ⟨c1,c2⟩
 ·show ae (ae (cU N) λr17=>some r17) _=_;rw[hw];rfl
 ·rw[show(q.2 != 0)=false by rw[c1];rfl,cond_false,c2,aa,aM,aM,beq_self_eq_true,cond_true]
  dsimp only;rw[beq_self_eq_true,cond_true,hw];rfl
end Go.UK
