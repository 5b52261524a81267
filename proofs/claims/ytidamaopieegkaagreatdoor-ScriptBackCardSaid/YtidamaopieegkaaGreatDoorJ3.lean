/- A part of the proof: what the functions of the program compute. -/
import Derived.Test.YtidamaopieegkaaGreatDoorJ2
open Bool renaming and_eq_true→aj,and_true→i9
open Int renaming emod_eq_of_lt→da,emod_lt_of_pos→dy,emod_nonneg→gx,eq_ofNat_of_zero_le→cf,le_of_lt→ef,mul_comm→ij,mul_ediv_add_emod→fh,mul_le_mul_of_nonneg_right→dn,mul_nonneg→hW
open List renaming all_cons→dp,all_nil→ic,append_assoc→af,append_nil→bd,drop_eq_getElem_cons→bp,drop_eq_nil_of_le→cr,drop_zero→d8,getElem?_eq_getElem→ag,getElem?_eq_none→cb,getElem_mem→bx,length_append→ax,length_cons→aq,length_take→c9,mem_cons→bq,mem_flatMap→gp,mem_of_mem_take→c8,nil_append→ew,take_append_drop→cv,take_left→gy,take_zero→dz
open Nat renaming le_refl→ba,zero_le→br
open Option renaming bind→ae,bind_some→aa
open Vector renaming replicate→am
namespace Go.UK
open Go Go.Proofs
set_option maxRecDepth 20000
set_option maxHeartbeats 16000000
set_option linter.all false
theorem aJ.take{m:List Int}(h:aJ m)(n:Nat):aJ (m.take n):=λx hx=>h x (c8 hx)
theorem aFW{α:Type}{l:List α}{n:Nat}(h:n<=l.length):aAA l 0 (n:Int) (n:Int)=some (l.take n):=by
 unfold aAA;rw[dt (show(0:Int)<=0 by omega),dt (show(0:Int)<=(n:Int) by omega),dt (show(n:Int)<=(n:Int) by omega),dt (show(n:Int)<=(l.length:Int) by omega)]
 simp
def kL(b:List Int):Int:=b.foldr (λx a=>x+256*a) 0
theorem xR(x:Int):∀(l:List Int),kL (l++[x])=kL l+x*cJ l.length
 | []=>by simp[kL,cJ]
 | a :: l=>by
  have h:=xR x l;have e:kL (a :: l++[x])=a+256*kL (l++[x]):=rfl;have e2:kL (a :: l)=a+256*kL l:=rfl;rw[e,e2,h,aq,yD]
  grind
theorem wS : ∀(l:List Int),aJ l->0<=kL l/\kL l < cJ l.length
 | [],_=>⟨by simp[kL],by simp[kL,cJ]⟩
 | a :: l,h=>by
  obtain⟨h1,h2⟩:=wS l (λx hx=>h x (by simp[hx]))
  obtain⟨h3,h4⟩:=h a (by simp)
  have e2:kL (a :: l)=a+256*kL l:=rfl;rw[e2,aq,yD]
  omega
theorem aGL{x p:Int}(hx:isB x)(hp:0 < p):0<=x*p/\x*p<=255*p:=by
 have h1:=hW hx.1 (ef hp)
 have h2:x*p<=255*p:=dn (by have:=hx.2;omega) (ef hp)
 exact⟨h1,h2⟩
theorem aDo(N:Nat)(b:List Int)(t:aA×List Int)(ht:t.2=b)(hb:aJ b)(hl:b.length<=8):∀(k i:Nat),i<=b.length->b.length - i < k->bP N t k (kL (b.take i)) (i:Int)=some (kL b)
 | 0,_,_,h=>by omega
 | k+1,i,hi,hk=>by
  rw[bP,bW,ht]
  by_cases h:i < b.length
  ·have hx:=hb _ (bx h)
   have f:I64 (8*(i:Int))=((8*i:Nat):Int):=by rw[kN (by omega) (by omega)];omega
   have ht':(b.take i).length=i:=by simp;omega
   have e1:kL (b.take (i+1))=kL (b.take i)+b[i]*cJ i:=by
    rw[List.take_succ,ag h]
    have:=xR b[i] (b.take i)
    rw[ht'] at this;exact this
   obtain⟨l1,l2⟩:=wS (b.take i) (hb.take i)
   rw[ht'] at l2;have hp:=oM i;have hp8:cJ (i+1)<=18446744073709551616:=aGY (by omega)
   rw[yD] at hp8;obtain⟨m1,m2⟩:=aGL hx hp;have e2:shl .u64 (U64 b[i]) ((8*i:Nat):Int)=b[i]*cJ i:=by
    rw[aFZ hx.1 (by have:=hx.2;omega),aHT _ _ (8*i) rfl (by omega),aAP]
    omega
   have e3:bor .u64 (kL (b.take i)) (b[i]*cJ i)=kL (b.take i)+b[i]*cJ i:=by
    rw[aEy,aGk (8*i) m1 (by omega) l1 (by have:=aAP i;rw[<- this] at l2;push_cast;exact l2) (by omega) ?_]
    ·omega
    ·have h2:(cJ i).toNat=2 ^ (8*i):=by rw[<- aAP];rw[<- Int.toNat_natCast (2 ^ (8*i))];congr 1
     rw[Int.toNat_mul hx.1 (ef hp),h2]
     exact Nat.dvd_mul_left _ _
   rw[dt (by omega),cond_true,oJ h,aa,f,tE .u64 (by omega),aa,e2,e3,<- e1,tG (by omega)]
   exact aDo N b t ht hb hl k (i+1) (by omega) (by omega)
  ·rw[df (by omega),cond_false,List.take_of_length_le (by omega)]
theorem aGW(x p:Int)(hp:0 < p):x % p+(x / p % 256)*p=x % (p*256):=by
 have e1:x=p*(x / p)+x % p:=(fh x p).symm;have e2:x / p=256*(x / p / 256)+x / p % 256:=(fh (x / p) 256).symm;have b1:0<=x % p:=gx _ (by omega)
 have b2:x % p < p:=dy _ hp;have b3:0<=x / p % 256:=gx _ (by decide)
 have b4:x / p % 256 < 256:=dy _ (by decide)
 generalize x / p % 256=c at *;generalize x / p / 256=q at *;have e3:x=(x % p+c*p)+(p*256)*q:=by
  have h1:p*(x / p)=p*(256*q+c):=by rw[<- e2]
  rw[h1] at e1;have:p*(256*q+c)=(p*256)*q+c*p:=by rw[Int.mul_add,<- Int.mul_assoc,ij p c]
  rw[this] at e1;omega
 have h1:0<=c*p:=hW b3 (by omega)
 have h2:c*p<=255*p:=dn (by omega) (by omega)
 have h3:x % (p*256)=(x % p+c*p) % (p*256):=by
  conv=>lhs;rw[e3]
  rw[Int.add_mul_emod_self_left]
 rw[h3]
 exact(da (by omega) (by omega)).symm
theorem aHR(x:Int):∀w:Nat,w<=8->kL (leB w x)=x % cJ w
 | 0,_=>by
  show(0:Int)=x % cJ 0;rw[show cJ 0=1 from rfl]
  omega
 | w+1,h=>by
  have e:leB (w+1) x=leB w x++[U8 (shr .u64 x ((8*w:Nat):Int))]:=by unfold leB;rw[List.range_succ,List.map_append];rfl
  rw[e,xR,aHR x w (by omega),lJ,shr8 x w (by omega),U8_e,yD,aGW x _ (oM w)]
theorem vE : aJ []:=by intro x hx;cases hx
theorem aF4 : ∀(x:List Int),aJ x->x.length<=8->leB x.length (kL x)=x:=by
 intro x hx hl;have hlen:∀i,i < x.length->(leB x.length (kL x))[i]? = x[i]? := by
  intro i hi;unfold leB;rw[List.getElem?_map,List.getElem?_range hi,Option.map_some,ag hi,shr8 _ _ (by omega),U8_e]
  congr 1
  -- the i-th byte
  have key:∀(l:List Int),aJ l->∀i (h:i < l.length),kL l / cJ i % 256=l[i]:=by
   intro l
   induction l with
   | nil=>intro _ i h;simp at h
   | cons a l ih=>
    intro hl i h;have ha:=hl a (by simp)
    have e:kL (a :: l)=a+256*kL l:=rfl;cases i with
    | zero=>
     rw[e,show cJ 0=1 from rfl]
     have:=ha.1;have:=ha.2;simp only[List.getElem_cons_zero]
     omega
    | succ i=>
     rw[show cJ (i+1)=256*cJ i by rw[yD,ij],<- Int.ediv_ediv_of_nonneg (by decide),e]
     have h1:(a+256*kL l) / 256=kL l:=by have:=ha.1;have:=ha.2;omega
     rw[h1]
     simpa using ih (λx hx=>hl x (by simp[hx])) i (by simpa using h)
  exact key x hx i hi
 apply List.ext_getElem?;intro i;by_cases hi:i < x.length
 ·exact hlen i hi
 ·rw[cb (by rw[lJ];omega),cb (by omega)]
set_option maxHeartbeats 4000000
theorem aAn(N:Nat)(b:List Int)(e:Int):dJ N (aA.mk b e true)=some false:=rfl
theorem xD(N:Nat)(b:List Int)(n:Nat)(h:n<=b.length):aZ N (n:Int) (aA.mk b 0 true)=some (aA.mk (b.drop n) 0 true,b.take n):=by
 unfold aZ;rw[aAn,aa,cond_false,bW]
 dsimp only;rw[show((0:Int) != 0)=false from rfl,cond_false,df (by omega),cond_false,bW,df (by omega),cond_false,aFW h,aa,aEL h,aa]
theorem aAS(N:Nat)(b:List Int)(n:Nat)(h:¬n<=b.length):aZ N (n:Int) (aA.mk b 0 true)=some (aA.mk b 4 true,[]):=by
 unfold aZ;rw[aAn,aa,cond_false,bW]
 dsimp only;rw[show((0:Int) != 0)=false from rfl,cond_false,df (by omega),cond_false,bW,dt (by omega),cond_true]
theorem aDF(N:Nat)(b:List Int)(n:Int){e:Int}(h:e≠0):aZ N n (aA.mk b e true)=some (aA.mk b e true,[]):=by
 unfold aZ;rw[aAn,aa,cond_false,bW]
 dsimp only;rw[show(e != 0)=true by simpa using h,cond_true]
theorem aEk(f:Fld):bB [f]=f.b:=by unfold bB;simp
theorem Fld.b_bytes(f:Fld):aJ f.b:=zP _ _
theorem aK(l:List Fld):aJ (bB l):=by
 intro x hx;unfold bB at hx;obtain⟨f,_,h⟩:=gp.1 hx;exact f.b_bytes x h
structure Rk{α:Type}(fs:α->List Fld)(Z:α->Prop)(F:aA->Option (aA×α)):Prop where
 tot:∀b e,aJ b->∃b' e' a,F (aA.mk b e true)=some (aA.mk b' e' true,a)/\aJ b'/\b'.length<=b.length/\(e'=0->e=0/\b=bB (fs a)++b'/\okL (fs a)=true/\Z a)
 hit:∀a r,aJ r->okL (fs a)=true->Z a->F (aA.mk (bB (fs a)++r) 0 true)=some (aA.mk r 0 true,a)
def uF(w:Nat)(v:Int):List Fld:=[⟨false,w,v⟩]
def sF(w:Nat)(v:Int):List Fld:=[⟨true,w,v⟩]
theorem pW{w:Nat}{v:Int}:okL (uF w v)=true↔0<=v/\v < cJ w:=by
 unfold uF okL Fld.ok big;simp
theorem aDq{w:Nat}{v:Int}(h:0<=v/\v < cJ w):bB (uF w v)=leB w v:=by
 unfold uF;rw[aEk]
 show leB w (v % cJ w)=_;rw[da h.1 h.2]
theorem rZ(N:Nat)(hN:20 < N)(w:Nat)(hw0:1<=w)(hw:w<=8):Rk (uF w) (λ_=>True) (aW N (w:Int)) where
 tot b e hb:=by
  unfold aW;rw[df (show ¬(w:Int) < 1 by omega),df (show ¬(w:Int) > 8 by omega),cond_false,bW,cond_false,aa]
  have nil:∀r,bP N (r,[]) N 0 0=some 0:=λr=>aDo N [] (r,[]) rfl vE (by simp) N 0 (by simp) (by simp;omega)
  by_cases he:e=0
  ·subst he;by_cases h:w<=b.length
   ·have hx:=hb.take w;have hl:(b.take w).length=w:=by simp;omega
    have n1:=aDo N (b.take w) (aA.mk (b.drop w) 0 true,b.take w) rfl hx (by omega) N 0 (by omega) (by omega)
    rw[dz] at n1;rw[xD N b w h,aa,show bP N (aA.mk (b.drop w) 0 true,b.take w) N 0 0=some (kL (b.take w)) from n1,aa]
    have hlt:=wS _ hx;rw[hl] at hlt;refine⟨_,_,_,rfl,hb.drop _,by simp,λ_=>⟨rfl,?_,pW.2 hlt,trivial⟩⟩
    have:=aF4 _ hx (by omega)
    rw[hl] at this;rw[aDq hlt,this,cv]
   ·rw[aAS N b w h,aa,nil,aa]
    exact⟨_,_,_,rfl,hb,ba _,λh=>absurd h (by decide)⟩
  ·rw[aDF N b w he,aa,nil,aa]
   exact⟨_,_,_,rfl,hb,ba _,λh=>absurd h he⟩
 hit v r hr hv _:=by
  have hv:=pW.1 hv;have hl:=lJ w v;unfold aW;rw[df (show ¬(w:Int) < 1 by omega),df (show ¬(w:Int) > 8 by omega),cond_false,bW,cond_false,aa,aDq hv,xD N _ w (by rw[ax,hl];omega),aa]
  have n1:=aDo N (leB w v) (aA.mk r 0 true,leB w v) rfl (zP w v) (by omega) N 0 (by omega) (by omega)
  rw[dz] at n1;rw[show(leB w v++r).take w=leB w v from List.take_left' hl,show(leB w v++r).drop w=r from List.drop_left' hl,show bP N (aA.mk r 0 true,leB w v) N 0 0=some (kL (leB w v)) from n1,aa,aHR v w hw,da hv.1 hv.2]
theorem numB(N:Nat)(hN:20 < N)(w:Nat)(hw0:1<=w)(hw:w<=8)(b:List Int)(e:Int)(hb:aJ b):∃b' e' a,aW N (w:Int) (aA.mk b e true)=some (aA.mk b' e' true,a)/\0<=a/\a < cJ w:=by
 unfold aW;rw[df (show ¬(w:Int) < 1 by omega),df (show ¬(w:Int) > 8 by omega),cond_false,bW,cond_false,aa]
 have nil:∀r,bP N (r,[]) N 0 0=some 0:=λr=>aDo N [] (r,[]) rfl vE (by simp) N 0 (by simp) (by simp;omega)
 have hp:=oM w;by_cases he:e=0
 ·subst he;by_cases h:w<=b.length
  ·have hx:=hb.take w;have hl:(b.take w).length=w:=by simp;omega
   have n1:=aDo N (b.take w) (aA.mk (b.drop w) 0 true,b.take w) rfl hx (by omega) N 0 (by omega) (by omega)
   rw[dz] at n1;rw[xD N b w h,aa,show bP N (aA.mk (b.drop w) 0 true,b.take w) N 0 0=some (kL (b.take w)) from n1,aa]
   have hlt:=wS _ hx;rw[hl] at hlt;exact⟨_,_,_,rfl,hlt⟩
  ·rw[aAS N b w h,aa,nil,aa]
   exact⟨_,_,_,rfl,by omega,hp⟩
 ·rw[aDF N b w he,aa,nil,aa]
  exact⟨_,_,_,rfl,by omega,hp⟩
theorem aCW{w:Nat}(h:w<=4):cJ w<=4294967296:=by
 rcases(show w=0\/w=1\/w=2\/w=3\/w=4 by omega) with rfl | rfl | rfl | rfl | rfl <;> decide
theorem bM(N:Nat)(hN:20 < N)(w:Nat)(hw0:1<=w)(hw:w<=4):Rk (uF w) (λ_=>True) (aB N (w:Int)) where
 tot b e hb:=by
  obtain⟨b',e',a,h1,h2,h3,h4⟩:=(rZ N hN w hw0 (by omega)).tot b e hb;unfold aB;rw[h1,aa]
  refine⟨_,_,_,rfl,h2,h3,λh=>?_⟩
  obtain⟨g1,g2,g3,g4⟩:=h4 h;have g:=pW.1 g3;have:=aCW hw;dsimp only;rw[kN (by omega) (by omega)]
  exact⟨g1,g2,g3,g4⟩
 hit v r hr hv hz:=by
  have g:=pW.1 hv;have:=aCW hw;unfold aB;rw[(rZ N hN w hw0 (by omega)).hit v r hr hv hz,aa]
  dsimp only;rw[kN (by omega) (by omega)]
theorem sF_b{w:Nat}{v:Int}:bB (sF w v)=leB w (v % cJ w):=by unfold sF;rw[aEk];rfl
theorem aFP{v:Int}:okL (sF 4 v)=true ↔ -2147483648<=v/\v < 2147483648:=by
 unfold sF okL;simp only[dp,ic,i9]
 show(!(decide (v < -(cJ 4 / 2))||decide (cJ 4 / 2<=v)))=true↔_;rw[show cJ 4 / 2=2147483648 from rfl]
 simp
theorem sF_8{v:Int}:okL (sF 8 v)=true↔dG v:=by
 unfold sF okL;simp only[dp,ic,i9]
 show(!(decide (v < -(cJ 8 / 2))||decide (cJ 8 / 2<=v)))=true↔_;rw[show cJ 8 / 2=9223372036854775808 from rfl]
 simp[dG]
 omega
def sg4(v:Int):Int:=if v < 2147483648 then v else v - 4294967296
theorem aHO(N:Nat)(t:aA){r:aA×Int}(h:aW N 4 t=some r)(hv:0<=r.2/\r.2 < 4294967296):aU N 4 t=some (r.1,sg4 r.2):=by
 unfold aU;rw[h,aa,show decide ((4:Int) < 1)=false from rfl,show decide ((4:Int) > 8)=false from rfl,cond_false,bW,cond_false,show I64 (64 - I64 (8*4))=((32:Nat):Int) by decide,bW,tE .i64 (by omega),aa,bW,rN .i64 (by omega),aa]
 have hv2:shr .i64 (shl .i64 (I64 r.2) ((32:Nat):Int)) ((32:Nat):Int)=sg4 r.2:=by
  rw[kN (by omega) (by omega),aB3 .i64 _ _ 32 rfl (by decide),shlI _ _ (by decide),tZ,show(2:Int) ^ 32=4294967296 from rfl]
  unfold sg4;split <;> omega
 rw[hv2]
theorem aHI(N:Nat)(t:aA){r:aA×Int}(h:aW N 8 t=some r):aU N 8 t=some (r.1,I64 r.2):=by
 unfold aU;rw[h,aa,show decide ((8:Int) < 1)=false from rfl,show decide ((8:Int) > 8)=false from rfl,cond_false,bW,cond_false,show I64 (64 - I64 (8*8))=((0:Nat):Int) by decide,bW,tE .i64 (by omega),aa,bW,rN .i64 (by omega),aa]
 have hv2:shr .i64 (shl .i64 (I64 r.2) ((0:Nat):Int)) ((0:Nat):Int)=I64 r.2:=by
  rw[aB3 .i64 _ _ 0 rfl (by decide),shlI _ _ (by decide),show(2:Int) ^ 0=1 from rfl,Int.mul_one,Int.ediv_one]
  rw[tZ,tZ]
  omega
 rw[hv2]
theorem uN(N:Nat)(hN:20 < N):Rk (sF 4) (λ_=>True) (aU N 4) where
 tot b e hb:=by
  obtain⟨b',e',a,h1,h2,h3,h4⟩:=(rZ N hN 4 (by decide) (by decide)).tot b e hb;by_cases c:0<=a/\a < 4294967296
  ·rw[aHO N _ h1 c]
   refine⟨_,_,_,rfl,h2,h3,λh=>?_⟩
   obtain⟨g1,g2,g3,g4⟩:=h4 h;have k1:sg4 a % 4294967296=a:=by unfold sg4;split <;> omega
   have k2 : -2147483648<=sg4 a/\sg4 a < 2147483648:=by unfold sg4;split <;> omega
   refine⟨g1,?_,aFP.2 k2,trivial⟩
   dsimp only;rw[sF_b,show cJ 4=4294967296 from rfl,k1,<- aDq (show 0<=a/\a < cJ 4 from c)]
   exact g2
  ·-- an error's number is 0
   exfalso;obtain⟨b2,e2,a2,k1,k2⟩:=numB N hN 4 (by decide) (by decide) b e hb;have k3:=Option.some.inj (h1.symm.trans k1)
   simp only[Prod.mk.injEq] at k3;rw[k3.2] at c;exact c k2
 hit v r hr hv _:=by
  have hv:=aFP.1 hv;have h:=(rZ N hN 4 (by decide) (by decide)).hit (v % 4294967296) r hr (pW.2 ⟨by omega,by rw[show cJ 4=4294967296 from rfl];omega⟩) trivial;rw[aDq ⟨by omega,by rw[show cJ 4=4294967296 from rfl];omega⟩] at h;rw[sF_b,show cJ 4=4294967296 from rfl,aHO N _ h ⟨by dsimp only;omega,by dsimp only;omega⟩]
  dsimp only;have:sg4 (v % 4294967296)=v:=by unfold sg4;split <;> omega
  rw[this]
theorem aEw(N:Nat)(hN:20 < N):Rk (sF 8) (λ_=>True) (aU N 8) where
 tot b e hb:=by
  obtain⟨b',e',a,h1,h2,h3,h4⟩:=(rZ N hN 8 (by decide) (by decide)).tot b e hb;rw[aHI N _ h1]
  refine⟨_,_,_,rfl,h2,h3,λh=>?_⟩
  obtain⟨g1,g2,g3,g4⟩:=h4 h;have c:=pW.1 g3;rw[show cJ 8=18446744073709551616 from rfl] at c;have k1:I64 a % 18446744073709551616=a:=by rw[tZ];omega
  refine⟨g1,?_,sF_8.2 ⟨by dsimp only;rw[tZ];omega,by dsimp only;rw[tZ];omega⟩,trivial⟩
  dsimp only;rw[sF_b,show cJ 8=18446744073709551616 from rfl,k1,<- aDq (show 0<=a/\a < cJ 8 from c)]
  exact g2
 hit v r hr hv _:=by
  have hv:=sF_8.1 hv;have h:=(rZ N hN 8 (by decide) (by decide)).hit (v % 18446744073709551616) r hr (pW.2 ⟨by omega,by rw[show cJ 8=18446744073709551616 from rfl];omega⟩) trivial;rw[aDq ⟨by omega,by rw[show cJ 8=18446744073709551616 from rfl];omega⟩] at h;rw[sF_b,show cJ 8=18446744073709551616 from rfl,aHI N _ h]
  dsimp only;have:I64 (v % 18446744073709551616)=v:=by rw[tZ];have:=hv.1;have:=hv.2;omega
  rw[this]
theorem aIO(N n:Nat):∀b e,aJ b->∃b' e' a,aZ N (n:Int) (aA.mk b e true)=some (aA.mk b' e' true,a)/\aJ b'/\b'.length<=b.length/\(e'=0->e=0/\b=a++b'/\a.length=n/\aJ a):=by
 intro b e hb;by_cases he:e=0
 ·subst he;by_cases h:n<=b.length
  ·exact⟨_,_,_,xD N b n h,hb.drop _,by simp,λ_=>⟨rfl,(cv _ _).symm,by simp;omega,hb.take _⟩⟩
  ·exact⟨_,_,_,aAS N b n h,hb,ba _,λh=>absurd h (by decide)⟩
 ·exact⟨_,_,_,aDF N b _ he,hb,ba _,λh=>absurd h he⟩
set_option maxHeartbeats 8000000
def zAf : aX:=aX.mk (am 9 0) (bR.mk 0 0 0)
theorem nR(N:Nat)(hN:20 < N):Rk pF (λ_=>True) (aP N) where
 tot b e hb:=by
  obtain⟨b0,e0,a0,q0,s0,l0,f0⟩:=((uN N hN)).tot b e hb;obtain⟨b1,e1,a1,q1,s1,l1,f1⟩:=((uN N hN)).tot b0 e0 s0;obtain⟨b2,e2,a2,q2,s2,l2,f2⟩:=((uN N hN)).tot b1 e1 s1;unfold aP;rw[show aU N 4 (aA.mk b e true)=_ from q0,aa,show aU N 4 (aA.mk b0 e0 true)=_ from q1,aa,show aU N 4 (aA.mk b1 e1 true)=_ from q2,aa]
  refine⟨_,_,_,rfl,s2,by omega,λz2=>?_⟩
  obtain⟨z1,g2,o2,v2⟩:=f2 z2;obtain⟨z0,g1,o1,v1⟩:=f1 z1;obtain⟨zz,g0,o0,v0⟩:=f0 z0;refine⟨zz,?_,?_,trivial⟩
  ·show b=bB (sF 4 a0++(sF 4 a1++sF 4 a2))++b2;rw[g0,g1,g2,bE,bE,af,af]
  ·show okL (sF 4 a0++(sF 4 a1++sF 4 a2))=true;rw[aV,aV,o0,o1,o2];rfl
 hit a r hr ho hz:=by
  have ho:okL (sF 4 a.gX++(sF 4 a.gY++sF 4 a.gZ))=true:=ho;rw[aV,aV] at ho;simp only[aj] at ho;obtain⟨h0,h1,h2⟩:=ho;show aP N (aA.mk (bB (sF 4 a.gX++(sF 4 a.gY++sF 4 a.gZ))++r) 0 true)=_;rw[bE,bE,af,af]
  unfold aP;rw[show aU N 4 (aA.mk (bB (sF 4 a.gX)++(bB (sF 4 a.gY)++(bB (sF 4 a.gZ)++r))) 0 true)=some (aA.mk (bB (sF 4 a.gY)++(bB (sF 4 a.gZ)++r)) 0 true,a.gX) from((uN N hN)).hit a.gX _ (aJ.app (aK _) (aJ.app (aK _) hr)) h0 trivial,aa,show aU N 4 (aA.mk (bB (sF 4 a.gY)++(bB (sF 4 a.gZ)++r)) 0 true)=some (aA.mk (bB (sF 4 a.gZ)++r) 0 true,a.gY) from((uN N hN)).hit a.gY _ (aJ.app (aK _) hr) h1 trivial,aa,show aU N 4 (aA.mk (bB (sF 4 a.gZ)++r) 0 true)=some (aA.mk r 0 true,a.gZ) from((uN N hN)).hit a.gZ _ hr h2 trivial,aa]
def inF(i:aN):List Fld:=uF 4 i.gK++(uF 4 i.gI++(uF 4 i.gG++uF 4 i.gN))
theorem aAU(N:Nat)(hN:20 < N):Rk inF (λi=>i.gT=zAf) (bC N) where
 tot b e hb:=by
  obtain⟨b0,e0,a0,q0,s0,l0,f0⟩:=((bM N hN 4 (by decide) (by decide))).tot b e hb;obtain⟨b1,e1,a1,q1,s1,l1,f1⟩:=((bM N hN 4 (by decide) (by decide))).tot b0 e0 s0;obtain⟨b2,e2,a2,q2,s2,l2,f2⟩:=((bM N hN 4 (by decide) (by decide))).tot b1 e1 s1;obtain⟨b3,e3,a3,q3,s3,l3,f3⟩:=((bM N hN 4 (by decide) (by decide))).tot b2 e2 s2;unfold bC;rw[show aB N 4 (aA.mk b e true)=_ from q0,aa,show aB N 4 (aA.mk b0 e0 true)=_ from q1,aa,show aB N 4 (aA.mk b1 e1 true)=_ from q2,aa,show aB N 4 (aA.mk b2 e2 true)=_ from q3,aa]
  refine⟨_,_,_,rfl,s3,by omega,λz3=>?_⟩
  obtain⟨z2,g3,o3,v3⟩:=f3 z3;obtain⟨z1,g2,o2,v2⟩:=f2 z2;obtain⟨z0,g1,o1,v1⟩:=f1 z1;obtain⟨zz,g0,o0,v0⟩:=f0 z0;refine⟨zz,?_,?_,rfl⟩
  ·show b=bB (uF 4 a0++(uF 4 a1++(uF 4 a2++uF 4 a3)))++b3;rw[g0,g1,g2,g3,bE,bE,bE,af,af,af]
  ·show okL (uF 4 a0++(uF 4 a1++(uF 4 a2++uF 4 a3)))=true;rw[aV,aV,aV,o0,o1,o2,o3];rfl
 hit a r hr ho hz:=by
  have ho:okL (uF 4 a.gK++(uF 4 a.gI++(uF 4 a.gG++uF 4 a.gN)))=true:=ho;rw[aV,aV,aV] at ho;simp only[aj] at ho;obtain⟨h0,h1,h2,h3⟩:=ho;show bC N (aA.mk (bB (uF 4 a.gK++(uF 4 a.gI++(uF 4 a.gG++uF 4 a.gN)))++r) 0 true)=_;rw[bE,bE,bE,af,af,af]
  unfold bC;rw[show aB N 4 (aA.mk (bB (uF 4 a.gK)++(bB (uF 4 a.gI)++(bB (uF 4 a.gG)++(bB (uF 4 a.gN)++r)))) 0 true)=some (aA.mk (bB (uF 4 a.gI)++(bB (uF 4 a.gG)++(bB (uF 4 a.gN)++r))) 0 true,a.gK) from((bM N hN 4 (by decide) (by decide))).hit a.gK _ (aJ.app (aK _) (aJ.app (aK _) (aJ.app (aK _) hr))) h0 trivial,aa,show aB N 4 (aA.mk (bB (uF 4 a.gI)++(bB (uF 4 a.gG)++(bB (uF 4 a.gN)++r))) 0 true)=some (aA.mk (bB (uF 4 a.gG)++(bB (uF 4 a.gN)++r)) 0 true,a.gI) from((bM N hN 4 (by decide) (by decide))).hit a.gI _ (aJ.app (aK _) (aJ.app (aK _) hr)) h1 trivial,aa,show aB N 4 (aA.mk (bB (uF 4 a.gG)++(bB (uF 4 a.gN)++r)) 0 true)=some (aA.mk (bB (uF 4 a.gN)++r) 0 true,a.gG) from((bM N hN 4 (by decide) (by decide))).hit a.gG _ (aJ.app (aK _) hr) h2 trivial,aa,show aB N 4 (aA.mk (bB (uF 4 a.gN)++r) 0 true)=some (aA.mk r 0 true,a.gN) from((bM N hN 4 (by decide) (by decide))).hit a.gN _ hr h3 trivial,aa]
  obtain⟨a1,a2,a3,a4,a5⟩:=a;obtain rfl:a5=zAf:=hz;rfl
def xF(l:List Int):List Fld:=l.map λx=>⟨true,8,x⟩
theorem fixL(N:Nat)(hN:20 < N):∀(k i:Nat) (s b:List Int) (e:Int),aJ b->s.length=i->i<=12->12 - i < k->∃b' e' l,aT N 12 k s (aA.mk b e true) (i:Int)=some (s++l,aA.mk b' e' true)/\aJ b'/\b'.length<=b.length/\l.length=12 - i/\(e'=0->e=0/\b=bB (xF l)++b'/\okL (xF l)=true)
 | 0,_,_,_,_,_,_,_,h=>by omega
 | k+1,i,s,b,e,hb,hs,hi,hk=>by
  rw[aT]
  by_cases c:i < 12
  ·obtain⟨b1,e1,a,q1,s1,l1,f1⟩:=(aEw N hN).tot b e hb;rw[dt (by omega),cond_true,q1,aa,nU (by simp;omega),aa,tG (by omega)]
   obtain⟨b2,e2,l,q2,s2,l2,n2,f2⟩:=fixL N hN k (i+1) (s++[a]) b1 e1 s1 (by simp;omega) (by omega) (by omega)
   refine⟨b2,e2,a :: l,by rw[q2];simp,s2,by omega,by simp;omega,λz=>?_⟩
   obtain⟨z1,g2,o2⟩:=f2 z;obtain⟨z0,g1,o1,_⟩:=f1 z1;refine⟨z0,?_,?_⟩
   ·show b=bB (sF 8 a++xF l)++b2;rw[g1,g2,bE,af]
   ·show okL (sF 8 a++xF l)=true;rw[aV,o1,o2];rfl
  ·rw[df (by omega),cond_false]
   exact⟨b,e,[],by simp,hb,ba _,by simp;omega,λz=>⟨z,rfl,rfl⟩⟩
theorem fixH(N:Nat)(hN:20 < N):∀(l:List Int) (k i:Nat) (s r:List Int),aJ r->s.length=i->l.length+i=12->l.length < k->okL (xF l)=true->aT N 12 k s (aA.mk (bB (xF l)++r) 0 true) (i:Int)=some (s++l,aA.mk r 0 true)
 | _,0,_,_,_,_,_,_,h,_=>by omega
 | [],k+1,i,s,r,hr,hs,hi,hk,ho=>by
  rw[aT,df (by simp at hi;omega),cond_false,bd]
  rfl
 | a :: l,k+1,i,s,r,hr,hs,hi,hk,ho=>by
  have ho:okL (sF 8 a++xF l)=true:=ho;rw[aV,aj] at ho;show aT N 12 (k+1) s (aA.mk (bB (sF 8 a++xF l)++r) 0 true) (i:Int)=_;simp only[aq] at hi hk;rw[bE,af,aT,dt (by omega),cond_true,(aEw N hN).hit a _ (aJ.app (aK _) hr) ho.1 trivial,aa,nU (by simp;omega),aa,tG (by omega),fixH N hN l k (i+1) (s++[a]) r hr (by simp;omega) (by omega) (by omega) ho.2,af]
  rfl
theorem fixRk(N:Nat)(hN:20 < N):Rk xF (λl=>l.length=12) (bH N 12) where
 tot b e hb:=by
  obtain⟨b',e',l,h1,h2,h3,h4,h5⟩:=fixL N hN N 0 [] b e hb rfl (by omega) (by omega)
  unfold bH;rw[show aT N 12 N [] (aA.mk b e true) 0=_ from h1,aa]
  exact⟨_,_,_,rfl,h2,h3,λz=>⟨(h5 z).1,(h5 z).2.1,(h5 z).2.2,by simpa using h4⟩⟩
 hit l r hr ho hz:=by
  have h:=fixH N hN l N 0 [] r hr rfl (by omega) (by omega) ho;unfold bH;rw[show aT N 12 N [] (aA.mk (bB (xF l)++r) 0 true) 0=_ from h,aa]
  rfl
theorem aG1(N:Nat)(hN:20 < N)(b:List Int)(e:Int)(hb:aJ b):∃b' e' v ok,bL N (aA.mk b e true)=some (aA.mk b' e' true,v,ok)/\aJ b'/\b'.length<=b.length/\(e'=0->ok=true->e=0/\b=bB (vF v)++b'/\okL (vF v)=true):=by
 obtain⟨b0,e0,a0,q0,s0,l0,f0⟩:=((bM N hN 1 (by decide) (by decide))).tot b e hb;obtain⟨b1,e1,a1,q1,s1,l1,f1⟩:=((bM N hN 1 (by decide) (by decide))).tot b0 e0 s0;obtain⟨b2,e2,a2,q2,s2,l2,f2⟩:=((bM N hN 1 (by decide) (by decide))).tot b1 e1 s1;obtain⟨b3,e3,a3,q3,s3,l3,f3⟩:=((bM N hN 1 (by decide) (by decide))).tot b2 e2 s2;obtain⟨b4,e4,a4,q4,s4,l4,f4⟩:=((bM N hN 1 (by decide) (by decide))).tot b3 e3 s3;obtain⟨b5,e5,a5,q5,s5,l5,f5⟩:=((bM N hN 1 (by decide) (by decide))).tot b4 e4 s4;obtain⟨b6,e6,a6,q6,s6,l6,f6⟩:=((rZ N hN 8 (by decide) (by decide))).tot b5 e5 s5;obtain⟨b7,e7,a7,q7,s7,l7,f7⟩:=((nR N hN)).tot b6 e6 s6;obtain⟨b8,e8,a8,q8,s8,l8,f8⟩:=((nR N hN)).tot b7 e7 s7;obtain⟨b9,e9,a9,q9,s9,l9,f9⟩:=((nR N hN)).tot b8 e8 s8;obtain⟨b10,e10,a10,q10,s10,l10,f10⟩:=((nR N hN)).tot b9 e9 s9;obtain⟨b11,e11,a11,q11,s11,l11,f11⟩:=((bM N hN 4 (by decide) (by decide))).tot b10 e10 s10;obtain⟨b12,e12,a12,q12,s12,l12,f12⟩:=((bM N hN 4 (by decide) (by decide))).tot b11 e11 s11;unfold bL;rw[show aB N 1 (aA.mk b e true)=_ from q0,aa,show aB N 1 (aA.mk b0 e0 true)=_ from q1,aa,show aB N 1 (aA.mk b1 e1 true)=_ from q2,aa,show aB N 1 (aA.mk b2 e2 true)=_ from q3,aa,show aB N 1 (aA.mk b3 e3 true)=_ from q4,aa,show aB N 1 (aA.mk b4 e4 true)=_ from q5,aa,show aW N 8 (aA.mk b5 e5 true)=_ from q6,aa,show aP N (aA.mk b6 e6 true)=_ from q7,aa,show aP N (aA.mk b7 e7 true)=_ from q8,aa,show aP N (aA.mk b8 e8 true)=_ from q9,aa,show aP N (aA.mk b9 e9 true)=_ from q10,aa,show aB N 4 (aA.mk b10 e10 true)=_ from q11,aa,show aB N 4 (aA.mk b11 e11 true)=_ from q12,aa]
 refine⟨_,_,_,_,rfl,s12,by omega,λz12 hc=>?_⟩
 obtain⟨z11,g12,o12,v12⟩:=f12 z12;obtain⟨z10,g11,o11,v11⟩:=f11 z11;obtain⟨z9,g10,o10,v10⟩:=f10 z10;obtain⟨z8,g9,o9,v9⟩:=f9 z9;obtain⟨z7,g8,o8,v8⟩:=f8 z8;obtain⟨z6,g7,o7,v7⟩:=f7 z7;obtain⟨z5,g6,o6,v6⟩:=f6 z6;obtain⟨z4,g5,o5,v5⟩:=f5 z5;obtain⟨z3,g4,o4,v4⟩:=f4 z4;obtain⟨z2,g3,o3,v3⟩:=f3 z3;obtain⟨z1,g2,o2,v2⟩:=f2 z2;obtain⟨z0,g1,o1,v1⟩:=f1 z1;obtain⟨zz,g0,o0,v0⟩:=f0 z0;have hc5:0<=a5/\a5<=1:=⟨(pW.1 o5).1,of_decide_eq_true hc⟩
 have hcc:(cond (a5==1) 1 0:Int)=a5:=by
  rcases(show a5=0\/a5=1 by omega) with rfl | rfl <;> rfl
 refine⟨zz,?_,?_⟩
 ·show b=bB (uF 1 a0++(uF 1 a1++(uF 1 a2++(uF 1 a3++(uF 1 a4++(uF 1 (cond (a5==1) 1 0)++(uF 8 a6++(pF a7++(pF a8++(pF a9++(pF a10++(uF 4 a11++uF 4 a12))))))))))))++b12;rw[hcc]
  rw[g0,g1,g2,g3,g4,g5,g6,g7,g8,g9,g10,g11,g12,bE,bE,bE,bE,bE,bE,bE,bE,bE,bE,bE,bE,af,af,af,af,af,af,af,af,af,af,af,af]
 ·show okL (uF 1 a0++(uF 1 a1++(uF 1 a2++(uF 1 a3++(uF 1 a4++(uF 1 (cond (a5==1) 1 0)++(uF 8 a6++(pF a7++(pF a8++(pF a9++(pF a10++(uF 4 a11++uF 4 a12))))))))))))=true;rw[hcc]
  rw[aV,aV,aV,aV,aV,aV,aV,aV,aV,aV,aV,aV,o0,o1,o2,o3,o4,o5,o6,o7,o8,o9,o10,o11,o12];rfl
theorem aGo(N:Nat)(hN:20 < N)(a:aD)(r:List Int)(hr:aJ r)(ho:okL (vF a)=true):bL N (aA.mk (bB (vF a)++r) 0 true)=some (aA.mk r 0 true,a,true):=by
 have ho:okL (uF 1 a.gW++(uF 1 a.gH++(uF 1 a.gB2++(uF 1 a.gB1++(uF 1 a.gA9++(uF 1 (cond a.gA6 1 0)++(uF 8 a.gA3++(pF a.gD.gA5++(pF a.gD.gA2++(pF a.gD.gUp++(pF a.gD.gA1++(uF 4 a.gD.gS++uF 4 a.gD.gR))))))))))))=true:=ho;rw[aV,aV,aV,aV,aV,aV,aV,aV,aV,aV,aV,aV] at ho;simp only[aj] at ho;obtain⟨h0,h1,h2,h3,h4,h5,h6,h7,h8,h9,h10,h11,h12⟩:=ho;show bL N (aA.mk (bB (uF 1 a.gW++(uF 1 a.gH++(uF 1 a.gB2++(uF 1 a.gB1++(uF 1 a.gA9++(uF 1 (cond a.gA6 1 0)++(uF 8 a.gA3++(pF a.gD.gA5++(pF a.gD.gA2++(pF a.gD.gUp++(pF a.gD.gA1++(uF 4 a.gD.gS++uF 4 a.gD.gR))))))))))))++r) 0 true)=_;rw[bE,bE,bE,bE,bE,bE,bE,bE,bE,bE,bE,bE,af,af,af,af,af,af,af,af,af,af,af,af]
 unfold bL;rw[show aB N 1 (aA.mk (bB (uF 1 a.gW)++(bB (uF 1 a.gH)++(bB (uF 1 a.gB2)++(bB (uF 1 a.gB1)++(bB (uF 1 a.gA9)++(bB (uF 1 (cond a.gA6 1 0))++(bB (uF 8 a.gA3)++(bB (pF a.gD.gA5)++(bB (pF a.gD.gA2)++(bB (pF a.gD.gUp)++(bB (pF a.gD.gA1)++(bB (uF 4 a.gD.gS)++(bB (uF 4 a.gD.gR)++r))))))))))))) 0 true)=some (aA.mk (bB (uF 1 a.gH)++(bB (uF 1 a.gB2)++(bB (uF 1 a.gB1)++(bB (uF 1 a.gA9)++(bB (uF 1 (cond a.gA6 1 0))++(bB (uF 8 a.gA3)++(bB (pF a.gD.gA5)++(bB (pF a.gD.gA2)++(bB (pF a.gD.gUp)++(bB (pF a.gD.gA1)++(bB (uF 4 a.gD.gS)++(bB (uF 4 a.gD.gR)++r)))))))))))) 0 true,a.gW) from((bM N hN 1 (by decide) (by decide))).hit a.gW _ (aJ.app (aK _) (aJ.app (aK _) (aJ.app (aK _) (aJ.app (aK _) (aJ.app (aK _) (aJ.app (aK _) (aJ.app (aK _) (aJ.app (aK _) (aJ.app (aK _) (aJ.app (aK _) (aJ.app (aK _) (aJ.app (aK _) hr)))))))))))) h0 trivial,aa,show aB N 1 (aA.mk (bB (uF 1 a.gH)++(bB (uF 1 a.gB2)++(bB (uF 1 a.gB1)++(bB (uF 1 a.gA9)++(bB (uF 1 (cond a.gA6 1 0))++(bB (uF 8 a.gA3)++(bB (pF a.gD.gA5)++(bB (pF a.gD.gA2)++(bB (pF a.gD.gUp)++(bB (pF a.gD.gA1)++(bB (uF 4 a.gD.gS)++(bB (uF 4 a.gD.gR)++r)))))))))))) 0 true)=some (aA.mk (bB (uF 1 a.gB2)++(bB (uF 1 a.gB1)++(bB (uF 1 a.gA9)++(bB (uF 1 (cond a.gA6 1 0))++(bB (uF 8 a.gA3)++(bB (pF a.gD.gA5)++(bB (pF a.gD.gA2)++(bB (pF a.gD.gUp)++(bB (pF a.gD.gA1)++(bB (uF 4 a.gD.gS)++(bB (uF 4 a.gD.gR)++r))))))))))) 0 true,a.gH) from((bM N hN 1 (by decide) (by decide))).hit a.gH _ (aJ.app (aK _) (aJ.app (aK _) (aJ.app (aK _) (aJ.app (aK _) (aJ.app (aK _) (aJ.app (aK _) (aJ.app (aK _) (aJ.app (aK _) (aJ.app (aK _) (aJ.app (aK _) (aJ.app (aK _) hr))))))))))) h1 trivial,aa,show aB N 1 (aA.mk (bB (uF 1 a.gB2)++(bB (uF 1 a.gB1)++(bB (uF 1 a.gA9)++(bB (uF 1 (cond a.gA6 1 0))++(bB (uF 8 a.gA3)++(bB (pF a.gD.gA5)++(bB (pF a.gD.gA2)++(bB (pF a.gD.gUp)++(bB (pF a.gD.gA1)++(bB (uF 4 a.gD.gS)++(bB (uF 4 a.gD.gR)++r))))))))))) 0 true)=some (aA.mk (bB (uF 1 a.gB1)++(bB (uF 1 a.gA9)++(bB (uF 1 (cond a.gA6 1 0))++(bB (uF 8 a.gA3)++(bB (pF a.gD.gA5)++(bB (pF a.gD.gA2)++(bB (pF a.gD.gUp)++(bB (pF a.gD.gA1)++(bB (uF 4 a.gD.gS)++(bB (uF 4 a.gD.gR)++r)))))))))) 0 true,a.gB2) from((bM N hN 1 (by decide) (by decide))).hit a.gB2 _ (aJ.app (aK _) (aJ.app (aK _) (aJ.app (aK _) (aJ.app (aK _) (aJ.app (aK _) (aJ.app (aK _) (aJ.app (aK _) (aJ.app (aK _) (aJ.app (aK _) (aJ.app (aK _) hr)))))))))) h2 trivial,aa,show aB N 1 (aA.mk (bB (uF 1 a.gB1)++(bB (uF 1 a.gA9)++(bB (uF 1 (cond a.gA6 1 0))++(bB (uF 8 a.gA3)++(bB (pF a.gD.gA5)++(bB (pF a.gD.gA2)++(bB (pF a.gD.gUp)++(bB (pF a.gD.gA1)++(bB (uF 4 a.gD.gS)++(bB (uF 4 a.gD.gR)++r)))))))))) 0 true)=some (aA.mk (bB (uF 1 a.gA9)++(bB (uF 1 (cond a.gA6 1 0))++(bB (uF 8 a.gA3)++(bB (pF a.gD.gA5)++(bB (pF a.gD.gA2)++(bB (pF a.gD.gUp)++(bB (pF a.gD.gA1)++(bB (uF 4 a.gD.gS)++(bB (uF 4 a.gD.gR)++r))))))))) 0 true,a.gB1) from((bM N hN 1 (by decide) (by decide))).hit a.gB1 _ (aJ.app (aK _) (aJ.app (aK _) (aJ.app (aK _) (aJ.app (aK _) (aJ.app (aK _) (aJ.app (aK _) (aJ.app (aK _) (aJ.app (aK _) (aJ.app (aK _) hr))))))))) h3 trivial,aa,show aB N 1 (aA.mk (bB (uF 1 a.gA9)++(bB (uF 1 (cond a.gA6 1 0))++(bB (uF 8 a.gA3)++(bB (pF a.gD.gA5)++(bB (pF a.gD.gA2)++(bB (pF a.gD.gUp)++(bB (pF a.gD.gA1)++(bB (uF 4 a.gD.gS)++(bB (uF 4 a.gD.gR)++r))))))))) 0 true)=some (aA.mk (bB (uF 1 (cond a.gA6 1 0))++(bB (uF 8 a.gA3)++(bB (pF a.gD.gA5)++(bB (pF a.gD.gA2)++(bB (pF a.gD.gUp)++(bB (pF a.gD.gA1)++(bB (uF 4 a.gD.gS)++(bB (uF 4 a.gD.gR)++r)))))))) 0 true,a.gA9) from((bM N hN 1 (by decide) (by decide))).hit a.gA9 _ (aJ.app (aK _) (aJ.app (aK _) (aJ.app (aK _) (aJ.app (aK _) (aJ.app (aK _) (aJ.app (aK _) (aJ.app (aK _) (aJ.app (aK _) hr)))))))) h4 trivial,aa,show aB N 1 (aA.mk (bB (uF 1 (cond a.gA6 1 0))++(bB (uF 8 a.gA3)++(bB (pF a.gD.gA5)++(bB (pF a.gD.gA2)++(bB (pF a.gD.gUp)++(bB (pF a.gD.gA1)++(bB (uF 4 a.gD.gS)++(bB (uF 4 a.gD.gR)++r)))))))) 0 true)=some (aA.mk (bB (uF 8 a.gA3)++(bB (pF a.gD.gA5)++(bB (pF a.gD.gA2)++(bB (pF a.gD.gUp)++(bB (pF a.gD.gA1)++(bB (uF 4 a.gD.gS)++(bB (uF 4 a.gD.gR)++r))))))) 0 true,(cond a.gA6 1 0)) from((bM N hN 1 (by decide) (by decide))).hit (cond a.gA6 1 0) _ (aJ.app (aK _) (aJ.app (aK _) (aJ.app (aK _) (aJ.app (aK _) (aJ.app (aK _) (aJ.app (aK _) (aJ.app (aK _) hr))))))) h5 trivial,aa,show aW N 8 (aA.mk (bB (uF 8 a.gA3)++(bB (pF a.gD.gA5)++(bB (pF a.gD.gA2)++(bB (pF a.gD.gUp)++(bB (pF a.gD.gA1)++(bB (uF 4 a.gD.gS)++(bB (uF 4 a.gD.gR)++r))))))) 0 true)=some (aA.mk (bB (pF a.gD.gA5)++(bB (pF a.gD.gA2)++(bB (pF a.gD.gUp)++(bB (pF a.gD.gA1)++(bB (uF 4 a.gD.gS)++(bB (uF 4 a.gD.gR)++r)))))) 0 true,a.gA3) from((rZ N hN 8 (by decide) (by decide))).hit a.gA3 _ (aJ.app (aK _) (aJ.app (aK _) (aJ.app (aK _) (aJ.app (aK _) (aJ.app (aK _) (aJ.app (aK _) hr)))))) h6 trivial,aa,show aP N (aA.mk (bB (pF a.gD.gA5)++(bB (pF a.gD.gA2)++(bB (pF a.gD.gUp)++(bB (pF a.gD.gA1)++(bB (uF 4 a.gD.gS)++(bB (uF 4 a.gD.gR)++r)))))) 0 true)=some (aA.mk (bB (pF a.gD.gA2)++(bB (pF a.gD.gUp)++(bB (pF a.gD.gA1)++(bB (uF 4 a.gD.gS)++(bB (uF 4 a.gD.gR)++r))))) 0 true,a.gD.gA5) from((nR N hN)).hit a.gD.gA5 _ (aJ.app (aK _) (aJ.app (aK _) (aJ.app (aK _) (aJ.app (aK _) (aJ.app (aK _) hr))))) h7 trivial,aa,show aP N (aA.mk (bB (pF a.gD.gA2)++(bB (pF a.gD.gUp)++(bB (pF a.gD.gA1)++(bB (uF 4 a.gD.gS)++(bB (uF 4 a.gD.gR)++r))))) 0 true)=some (aA.mk (bB (pF a.gD.gUp)++(bB (pF a.gD.gA1)++(bB (uF 4 a.gD.gS)++(bB (uF 4 a.gD.gR)++r)))) 0 true,a.gD.gA2) from((nR N hN)).hit a.gD.gA2 _ (aJ.app (aK _) (aJ.app (aK _) (aJ.app (aK _) (aJ.app (aK _) hr)))) h8 trivial,aa,show aP N (aA.mk (bB (pF a.gD.gUp)++(bB (pF a.gD.gA1)++(bB (uF 4 a.gD.gS)++(bB (uF 4 a.gD.gR)++r)))) 0 true)=some (aA.mk (bB (pF a.gD.gA1)++(bB (uF 4 a.gD.gS)++(bB (uF 4 a.gD.gR)++r))) 0 true,a.gD.gUp) from((nR N hN)).hit a.gD.gUp _ (aJ.app (aK _) (aJ.app (aK _) (aJ.app (aK _) hr))) h9 trivial,aa,show aP N (aA.mk (bB (pF a.gD.gA1)++(bB (uF 4 a.gD.gS)++(bB (uF 4 a.gD.gR)++r))) 0 true)=some (aA.mk (bB (uF 4 a.gD.gS)++(bB (uF 4 a.gD.gR)++r)) 0 true,a.gD.gA1) from((nR N hN)).hit a.gD.gA1 _ (aJ.app (aK _) (aJ.app (aK _) hr)) h10 trivial,aa,show aB N 4 (aA.mk (bB (uF 4 a.gD.gS)++(bB (uF 4 a.gD.gR)++r)) 0 true)=some (aA.mk (bB (uF 4 a.gD.gR)++r) 0 true,a.gD.gS) from((bM N hN 4 (by decide) (by decide))).hit a.gD.gS _ (aJ.app (aK _) hr) h11 trivial,aa,show aB N 4 (aA.mk (bB (uF 4 a.gD.gR)++r) 0 true)=some (aA.mk r 0 true,a.gD.gR) from((bM N hN 4 (by decide) (by decide))).hit a.gD.gR _ hr h12 trivial,aa]
 have hc:((cond a.gA6 1 0:Int)==1)=a.gA6:=by cases a.gA6 <;> rfl
 have hd:decide ((cond a.gA6 1 0:Int)<=1)=true:=by cases a.gA6 <;> rfl
 dsimp only;rw[hc,hd]
def zIn : aN:=aN.mk 0 0 0 0 (aX.mk (am 9 0) (bR.mk 0 0 0))
def zVw : aD:=aD.mk 0 0 0 0 0 0 (bA.mk (aG.mk 0 0 0) (aG.mk 0 0 0) (aG.mk 0 0 0) (aG.mk 0 0 0) 0 0) false
theorem i0 : dG 0:=⟨by decide,by decide⟩
theorem aFN(x:Int):U32 x=x % 4294967296:=IntKind.wrap_u32 x
theorem aEe(x:Int):0<=U32 x:=by rw[aFN];omega
theorem aE7(x:Int):U32 x < 4294967296:=by rw[aFN];omega
theorem aFp{x:Int}(h:0<=x)(h':x < 4294967296):U32 x=x:=by rw[aFN];omega
theorem ib0 : (0:Int)<=0/\(0:Int) < 4294967296:=⟨by decide,by decide⟩
theorem qG : V64 zVw:=⟨i0,i0,i0,i0,i0,⟨by decide,by decide⟩,⟨i0,i0,i0⟩,⟨i0,i0,i0⟩,⟨i0,i0,i0⟩,⟨i0,i0,i0⟩,i0,i0⟩
theorem qJ : ∀x∈(am 9 (0:Int)).toList,dG x:=by
 intro x hx;rw[Vector.toList_replicate] at hx;rw[(List.mem_replicate.1 hx).2]
 exact i0
theorem oI(N:Nat)(b:List Int)(e:Int):fW N (aA.mk b e true)=some e:=rfl
theorem u64{w:Nat}{v:Int}(hw:w<=4)(h:okL (uF w v)=true):dG v:=by
 have:=pW.1 h;have:=aCW hw;exact⟨by omega,by omega⟩
theorem pt64{p:aG}(h:okL (pF p)=true):p64 p:=by
 have h:okL (sF 4 p.gX++(sF 4 p.gY++sF 4 p.gZ))=true:=h;rw[aV,aV,aj,aj] at h;have h1:=aFP.1 h.1;have h2:=aFP.1 h.2.1;have h3:=aFP.1 h.2.2;exact⟨⟨by omega,by omega⟩,⟨by omega,by omega⟩,⟨by omega,by omega⟩⟩
theorem vw64{v:aD}(h:okL (vF v)=true):V64 v:=by
 have h:okL (uF 1 v.gW++(uF 1 v.gH++(uF 1 v.gB2++(uF 1 v.gB1++(uF 1 v.gA9++(uF 1 (cond v.gA6 1 0)++(uF 8 v.gA3++(pF v.gD.gA5++(pF v.gD.gA2++(pF v.gD.gUp++(pF v.gD.gA1++(uF 4 v.gD.gS++uF 4 v.gD.gR))))))))))))=true:=h;simp only[aV,aj] at h;obtain⟨h1,h2,h3,h4,h5,_,h7,h8,h9,h10,h11,h12,h13⟩:=h;exact⟨u64 (by decide) h1,u64 (by decide) h2,u64 (by decide) h3,u64 (by decide) h4,u64 (by decide) h5,pW.1 h7,pt64 h8,pt64 h9,pt64 h10,pt64 h11,u64 (by decide) h12,u64 (by decide) h13⟩
theorem x64{l:List Int}(h:okL (xF l)=true):∀x∈l,dG x:=by
 intro x hx;unfold okL xF at h;rw[List.all_map,List.all_eq_true] at h;exact sF_8.1 (by unfold okL sF;simpa using h x hx)
theorem k1 : uF 1=λv=>[⟨false,1,v⟩]:=rfl
theorem vec9{l:List Int}(h:l.length=12):∃v:Vector Int 9,∃x y z:Int,nD l 0 9=some (l.take 9)/\aDk 9 (l.take 9)=some v/\idx l 9=some x/\idx l 10=some y/\idx l 11=some z/\l=v.toList++[x,y,z]:=by
 have e9:(l.take 9).length=9:=by rw[c9];omega
 refine⟨⟨((l.take 9).take 9).toArray,by simp;omega⟩,l[9],l[10],l[11],?_,?_,?_,?_,?_,?_⟩
 ·exact vD (n:=9) (by omega)
 ·unfold aDk;rw[dif_pos (by omega)]
 ·exact oJ (i:=9) (by omega)
 ·exact oJ (i:=10) (by omega)
 ·exact oJ (i:=11) (by omega)
 ·show l=(l.take 9).take 9++[l[9],l[10],l[11]]
  rw[List.take_take,Nat.min_self]
  have h1:l.drop 9=l[9] :: l.drop 10:=bp (by omega)
  have h2:l.drop 10=l[10] :: l.drop 11:=bp (by omega)
  have h3:l.drop 11=l[11] :: l.drop 12:=bp (by omega)
  have h4:l.drop 12=[]:=cr (by omega)
  rw[h4] at h3;rw[h3] at h2;rw[h2] at h1;rw[<- h1,cv]
theorem takeI(N:Nat)(n:Int)(b:List Int)(e:Int)(hb:aJ b):∃b' e' a,aZ N n (aA.mk b e true)=some (aA.mk b' e' true,a)/\aJ b'/\b'.length<=b.length/\(e'=0->e=0/\b=a++b'/\(a.length:Int)=n/\aJ a):=by
 by_cases h:0<=n
 ·obtain⟨m,rfl⟩:=cf h;obtain⟨b',e',a,h1,h2,h3,h4⟩:=aIO N m b e hb;exact⟨b',e',a,h1,h2,h3,λz=>⟨(h4 z).1,(h4 z).2.1,by rw[(h4 z).2.2.1],(h4 z).2.2.2⟩⟩
 ·by_cases he:e=0
  ·subst he;refine⟨b,2,[],?_,hb,ba _,λz=>absurd z (by decide)⟩
   unfold aZ;rw[aAn,aa,cond_false,bW]
   dsimp only;rw[show((0:Int) != 0)=false from rfl,cond_false,dt (by omega),cond_true]
  ·exact⟨b,e,[],aDF N b n he,hb,ba _,λz=>absurd z he⟩
theorem aH3(N:Nat)(hN:20 < N)(b:List Int)(e:Int)(hb:aJ b):∃b' e' l,bH N 12 (aA.mk b e true)=some (aA.mk b' e' true,l)/\aJ b'/\b'.length<=b.length/\l.length=12/\(e'=0->e=0/\b=bB (xF l)++b'/\okL (xF l)=true):=by
 obtain⟨b',e',l,h1,h2,h3,h4,h5⟩:=fixL N hN N 0 [] b e hb rfl (by omega) (by omega)
 unfold bH;rw[show aT N 12 N [] (aA.mk b e true) 0=_ from h1,aa]
 exact⟨_,_,_,rfl,h2,h3,by simpa using h4,h5⟩
theorem xW(b:List Int)(e:Int)(o:aF)(good:Bool):∃err:Int,cond (e != 0) (some (aA.mk b e true,o,(4:Int))) (cond (!good) (some (aA.mk b e true,o,(5:Int))) (some (aA.mk b e true,o,(0:Int))))=some (aA.mk b e true,o,err)/\(err=0->e=0/\good=true):=by
 by_cases h:e=0
 ·rw[show(e != 0)=false by simpa using h,cond_false]
  cases good with
  | true=>exact⟨0,rfl,λ_=>⟨h,rfl⟩⟩
  | false=>exact⟨5,rfl,λz=>absurd z (by decide)⟩
 ·rw[show(e != 0)=true by simpa using h,cond_true]
  exact⟨4,rfl,λz=>absurd z (by decide)⟩
def nJ(N:Nat)(b:List Int)(e:Int):Prop:=∃b' e' o err,aH N (aA.mk b e true)=some (aA.mk b' e' true,o,err)/\aJ b'/\b'.length<=b.length/\(err=0->e'=0/\e=0/\b=opB o++b'/\gO o/\O64 o)
theorem opT2(N:Nat)(hN:20 < N)(b:List Int)(e:Int){b0:List Int}{e0:Int}(q0:aB N 1 (aA.mk b e true)=some (aA.mk b0 e0 true,(2:Int)))(s0:aJ b0)(l0:b0.length<=b.length)(f0:e0=0->e=0/\b=bB (uF 1 2)++b0/\okL (uF 1 2)=true/\True):nJ N b e:=by
 obtain⟨b1,e1,a1,q1,s1,l1,f1⟩:=((bM N hN 4 (by decide) (by decide))).tot b0 e0 s0;unfold nJ aH;rw[show aB N 1 (aA.mk b e true)=_ from q0,aa,show((2:Int)==1)=false from rfl,cond_false,show((2:Int)==2)=true from rfl,cond_true,show aB N 4 (aA.mk b0 e0 true)=_ from q1,aa,aa,oI,aa]
 obtain⟨err,g1,g2⟩:=xW b1 e1 (aF.mk 2 a1 [] zIn 0 zVw 0 0 0 0 0) true;refine⟨_,_,_,err,g1,s1,by omega,λz=>?_⟩
 obtain⟨z1,_⟩:=g2 z;obtain⟨z0,j1,o1,v1⟩:=f1 z1;obtain⟨zz,j0,o0,_⟩:=f0 z0;refine⟨z1,zz,?_,⟨show(1:Int)<=2 by decide,show(2:Int)<=10 by decide,?_⟩,⟨(show dG 2 from⟨by decide,by decide⟩),(u64 (by decide) o1),i0,i0,i0,i0,qJ,i0,i0,i0,i0,qG,i0,i0,ib0,i0,i0,(br _)⟩⟩
 ·show b=(bB (uF 1 2++uF 4 a1)++[])++b1;rw[j0,j1,bd,bE,af]
 ·show okL (uF 1 2++uF 4 a1)=true;rw[aV,o0,o1];rfl
theorem opH2(N:Nat)(hN:20 < N){o:aF}(hk:o.gE=2)(ok:okL (fO o 2)=true)(r:List Int)(hr:aJ r):aH N (aA.mk ((bB (fO o 2)++tO o 2)++r) 0 true)=some (aA.mk r 0 true,aF.mk 2 o.gQ [] zIn 0 zVw 0 0 0 0 0,0):=by
 have ho:okL (uF 1 o.gE++uF 4 o.gQ)=true:=ok;simp only[aV,aj,hk] at ho;obtain⟨h0,h1⟩:=ho;show aH N (aA.mk ((bB (uF 1 o.gE++uF 4 o.gQ)++[])++r) 0 true)=_;rw[bd,bE,af,hk]
 unfold aH;rw[show aB N 1 (aA.mk (bB (uF 1 2)++(bB (uF 4 o.gQ)++r)) 0 true)=some ((aA.mk (bB (uF 4 o.gQ)++r) 0 true),(2:Int)) from((bM N hN 1 (by decide) (by decide))).hit 2 _ (aJ.app (aK _) hr) h0 trivial,aa,show((2:Int)==1)=false from rfl,cond_false,show((2:Int)==2)=true from rfl,cond_true,show aB N 4 (aA.mk (bB (uF 4 o.gQ)++r) 0 true)=some ((aA.mk r 0 true),o.gQ) from((bM N hN 4 (by decide) (by decide))).hit o.gQ _ hr h1 trivial,aa,aa,oI,aa]
 rfl
theorem opT4(N:Nat)(hN:20 < N)(b:List Int)(e:Int){b0:List Int}{e0:Int}(q0:aB N 1 (aA.mk b e true)=some (aA.mk b0 e0 true,(4:Int)))(s0:aJ b0)(l0:b0.length<=b.length)(f0:e0=0->e=0/\b=bB (uF 1 4)++b0/\okL (uF 1 4)=true/\True):nJ N b e:=by
 obtain⟨b1,e1,a1,q1,s1,l1,f1⟩:=((aAU N hN)).tot b0 e0 s0;unfold nJ aH;rw[show aB N 1 (aA.mk b e true)=_ from q0,aa,show((4:Int)==1)=false from rfl,cond_false,show((4:Int)==2)=false from rfl,cond_false,show((4:Int)==3)=false from rfl,cond_false,show((4:Int)==4)=true from rfl,cond_true,show bC N (aA.mk b0 e0 true)=_ from q1,aa,aa,oI,aa]
 obtain⟨err,g1,g2⟩:=xW b1 e1 (aF.mk 4 0 [] a1 0 zVw 0 0 0 0 0) true;refine⟨_,_,_,err,g1,s1,by omega,λz=>?_⟩
 obtain⟨z1,_⟩:=g2 z;obtain⟨z0,j1,o1,v1⟩:=f1 z1;obtain⟨zz,j0,o0,_⟩:=f0 z0;have w:=o1;unfold inF at w;simp only[aV,aj] at w;obtain⟨w1,w2,w3,w4⟩:=w;obtain⟨x1,x2,x3,x4,x5⟩:=a1;obtain rfl:x5=zAf:=v1;refine⟨z1,zz,?_,⟨show(1:Int)<=4 by decide,show(4:Int)<=10 by decide,?_⟩,⟨(show dG 4 from⟨by decide,by decide⟩),i0,(u64 (by decide) w1),(u64 (by decide) w2),(u64 (by decide) w3),(u64 (by decide) w4),qJ,i0,i0,i0,i0,qG,i0,i0,ib0,i0,i0,(br _)⟩⟩
 ·show b=(bB (uF 1 4++inF (aN.mk x1 x2 x3 x4 zAf))++[])++b1;rw[j0,j1,bd,bE,af]
 ·show okL (uF 1 4++inF (aN.mk x1 x2 x3 x4 zAf))=true;rw[aV,o0,o1];rfl
theorem opH4(N:Nat)(hN:20 < N){o:aF}(hk:o.gE=4)(ok:okL (fO o 4)=true)(r:List Int)(hr:aJ r):aH N (aA.mk ((bB (fO o 4)++tO o 4)++r) 0 true)=some (aA.mk r 0 true,aF.mk 4 0 [] (aN.mk o.gC.gK o.gC.gI o.gC.gG o.gC.gN zAf) 0 zVw 0 0 0 0 0,0):=by
 have ho:okL (uF 1 o.gE++inF (aN.mk o.gC.gK o.gC.gI o.gC.gG o.gC.gN zAf))=true:=ok;simp only[aV,aj,hk] at ho;obtain⟨h0,h1⟩:=ho;show aH N (aA.mk ((bB (uF 1 o.gE++inF (aN.mk o.gC.gK o.gC.gI o.gC.gG o.gC.gN zAf))++[])++r) 0 true)=_;rw[bd,bE,af,hk]
 unfold aH;rw[show aB N 1 (aA.mk (bB (uF 1 4)++(bB (inF (aN.mk o.gC.gK o.gC.gI o.gC.gG o.gC.gN zAf))++r)) 0 true)=some ((aA.mk (bB (inF (aN.mk o.gC.gK o.gC.gI o.gC.gG o.gC.gN zAf))++r) 0 true),(4:Int)) from((bM N hN 1 (by decide) (by decide))).hit 4 _ (aJ.app (aK _) hr) h0 trivial,aa,show((4:Int)==1)=false from rfl,cond_false,show((4:Int)==2)=false from rfl,cond_false,show((4:Int)==3)=false from rfl,cond_false,show((4:Int)==4)=true from rfl,cond_true,show bC N (aA.mk (bB (inF (aN.mk o.gC.gK o.gC.gI o.gC.gG o.gC.gN zAf))++r) 0 true)=some ((aA.mk r 0 true),(aN.mk o.gC.gK o.gC.gI o.gC.gG o.gC.gN zAf)) from((aAU N hN)).hit (aN.mk o.gC.gK o.gC.gI o.gC.gG o.gC.gN zAf) _ hr h1 rfl,aa,aa,oI,aa]
 rfl
theorem opT6(N:Nat)(hN:20 < N)(b:List Int)(e:Int){b0:List Int}{e0:Int}(q0:aB N 1 (aA.mk b e true)=some (aA.mk b0 e0 true,(6:Int)))(s0:aJ b0)(l0:b0.length<=b.length)(f0:e0=0->e=0/\b=bB (uF 1 6)++b0/\okL (uF 1 6)=true/\True):nJ N b e:=by
 obtain⟨b1,e1,a1,q1,s1,l1,f1⟩:=((bM N hN 1 (by decide) (by decide))).tot b0 e0 s0;unfold nJ aH;rw[show aB N 1 (aA.mk b e true)=_ from q0,aa,show((6:Int)==1)=false from rfl,cond_false,show((6:Int)==2)=false from rfl,cond_false,show((6:Int)==3)=false from rfl,cond_false,show((6:Int)==4)=false from rfl,cond_false,show((6:Int)==5)=false from rfl,cond_false,show((6:Int)==6)=true from rfl,cond_true,aa,cond_true,show aB N 1 (aA.mk b0 e0 true)=_ from q1,aa,aa,oI,aa]
 obtain⟨err,g1,g2⟩:=xW b1 e1 (aF.mk 6 0 [] zIn a1 zVw 0 0 0 0 0) true;refine⟨_,_,_,err,g1,s1,by omega,λz=>?_⟩
 obtain⟨z1,_⟩:=g2 z;obtain⟨z0,j1,o1,v1⟩:=f1 z1;obtain⟨zz,j0,o0,_⟩:=f0 z0;refine⟨z1,zz,?_,⟨show(1:Int)<=6 by decide,show(6:Int)<=10 by decide,?_⟩,⟨(show dG 6 from⟨by decide,by decide⟩),i0,i0,i0,i0,i0,qJ,i0,i0,i0,(u64 (by decide) o1),qG,i0,i0,ib0,i0,i0,(br _)⟩⟩
 ·show b=(bB (uF 1 6++uF 1 a1)++[])++b1;rw[j0,j1,bd,bE,af]
 ·show okL (uF 1 6++uF 1 a1)=true;rw[aV,o0,o1];rfl
theorem opH6(N:Nat)(hN:20 < N){o:aF}(hk:o.gE=6)(ok:okL (fO o 6)=true)(r:List Int)(hr:aJ r):aH N (aA.mk ((bB (fO o 6)++tO o 6)++r) 0 true)=some (aA.mk r 0 true,aF.mk 6 0 [] zIn o.gF zVw 0 0 0 0 0,0):=by
 have ho:okL (uF 1 o.gE++uF 1 o.gF)=true:=ok;simp only[aV,aj,hk] at ho;obtain⟨h0,h1⟩:=ho;show aH N (aA.mk ((bB (uF 1 o.gE++uF 1 o.gF)++[])++r) 0 true)=_;rw[bd,bE,af,hk]
 unfold aH;rw[show aB N 1 (aA.mk (bB (uF 1 6)++(bB (uF 1 o.gF)++r)) 0 true)=some ((aA.mk (bB (uF 1 o.gF)++r) 0 true),(6:Int)) from((bM N hN 1 (by decide) (by decide))).hit 6 _ (aJ.app (aK _) hr) h0 trivial,aa,show((6:Int)==1)=false from rfl,cond_false,show((6:Int)==2)=false from rfl,cond_false,show((6:Int)==3)=false from rfl,cond_false,show((6:Int)==4)=false from rfl,cond_false,show((6:Int)==5)=false from rfl,cond_false,show((6:Int)==6)=true from rfl,cond_true,aa,cond_true,show aB N 1 (aA.mk (bB (uF 1 o.gF)++r) 0 true)=some ((aA.mk r 0 true),o.gF) from((bM N hN 1 (by decide) (by decide))).hit o.gF _ hr h1 trivial,aa,aa,oI,aa]
 rfl
theorem opT7(N:Nat)(hN:20 < N)(b:List Int)(e:Int){b0:List Int}{e0:Int}(q0:aB N 1 (aA.mk b e true)=some (aA.mk b0 e0 true,(7:Int)))(s0:aJ b0)(l0:b0.length<=b.length)(f0:e0=0->e=0/\b=bB (uF 1 7)++b0/\okL (uF 1 7)=true/\True):nJ N b e:=by
 obtain⟨b1,e1,a1,q1,s1,l1,f1⟩:=((bM N hN 1 (by decide) (by decide))).tot b0 e0 s0;obtain⟨b2,e2,a2,q2,s2,l2,f2⟩:=((bM N hN 1 (by decide) (by decide))).tot b1 e1 s1;obtain⟨b3,e3,a3,q3,s3,l3,f3⟩:=((rZ N hN 4 (by decide) (by decide))).tot b2 e2 s2;obtain⟨b4,e4,a4,q4,s4,l4,f4⟩:=((bM N hN 4 (by decide) (by decide))).tot b3 e3 s3;unfold nJ aH;rw[show aB N 1 (aA.mk b e true)=_ from q0,aa,show((7:Int)==1)=false from rfl,cond_false,show((7:Int)==2)=false from rfl,cond_false,show((7:Int)==3)=false from rfl,cond_false,show((7:Int)==4)=false from rfl,cond_false,show((7:Int)==5)=false from rfl,cond_false,show((7:Int)==6)=false from rfl,cond_false,show((7:Int)==9)=false from rfl,aa,cond_false,show((7:Int)==7)=true from rfl,cond_true,show aB N 1 (aA.mk b0 e0 true)=_ from q1,aa,show aB N 1 (aA.mk b1 e1 true)=_ from q2,aa,show aW N 4 (aA.mk b2 e2 true)=_ from q3,aa,show aB N 4 (aA.mk b3 e3 true)=_ from q4,aa,aa,oI,aa]
 obtain⟨err,g1,g2⟩:=xW b4 e4 (aF.mk 7 0 [] zIn a1 zVw 0 a2 (U32 a3) a4 0) true;refine⟨_,_,_,err,g1,s4,by omega,λz=>?_⟩
 obtain⟨z4,_⟩:=g2 z;obtain⟨z3,j4,o4,v4⟩:=f4 z4;obtain⟨z2,j3,o3,v3⟩:=f3 z3;obtain⟨z1,j2,o2,v2⟩:=f2 z2;obtain⟨z0,j1,o1,v1⟩:=f1 z1;obtain⟨zz,j0,o0,_⟩:=f0 z0;have c3:=pW.1 o3;rw[show cJ 4=4294967296 from rfl] at c3;have hl:I64 (U32 a3)=a3:=by rw[aFp (by omega) (by omega),kN (by omega) (by omega)]
 refine⟨z4,zz,?_,⟨show(1:Int)<=7 by decide,show(7:Int)<=10 by decide,?_⟩,⟨(show dG 7 from⟨by decide,by decide⟩),i0,i0,i0,i0,i0,qJ,i0,i0,i0,(u64 (by decide) o1),qG,i0,(u64 (by decide) o2),⟨aEe _,aE7 _⟩,(u64 (by decide) o4),i0,(br _)⟩⟩
 ·show b=(bB (uF 1 7++(uF 1 a1++(uF 1 a2++(uF 4 (I64 (U32 a3))++uF 4 a4))))++[])++b4;rw[hl]
  rw[j0,j1,j2,j3,j4,bd,bE,bE,bE,bE,af,af,af,af]
 ·show okL (uF 1 7++(uF 1 a1++(uF 1 a2++(uF 4 (I64 (U32 a3))++uF 4 a4))))=true;rw[hl]
  rw[aV,aV,aV,aV,o0,o1,o2,o3,o4];rfl
theorem opH7(N:Nat)(hN:20 < N){o:aF}(hk:o.gE=7)(ok:okL (fO o 7)=true)(r:List Int)(hr:aJ r):aH N (aA.mk ((bB (fO o 7)++tO o 7)++r) 0 true)=some (aA.mk r 0 true,aF.mk 7 0 [] zIn o.gF zVw 0 o.gJ (U32 (I64 o.gA0)) o.gA4 0,0):=by
 have ho:okL (uF 1 o.gE++(uF 1 o.gF++(uF 1 o.gJ++(uF 4 (I64 o.gA0)++uF 4 o.gA4))))=true:=ok;simp only[aV,aj,hk] at ho;obtain⟨h0,h1,h2,h3,h4⟩:=ho;show aH N (aA.mk ((bB (uF 1 o.gE++(uF 1 o.gF++(uF 1 o.gJ++(uF 4 (I64 o.gA0)++uF 4 o.gA4))))++[])++r) 0 true)=_;rw[bd,bE,bE,bE,bE,af,af,af,af,hk]
 unfold aH;rw[show aB N 1 (aA.mk (bB (uF 1 7)++(bB (uF 1 o.gF)++(bB (uF 1 o.gJ)++(bB (uF 4 (I64 o.gA0))++(bB (uF 4 o.gA4)++r))))) 0 true)=some ((aA.mk (bB (uF 1 o.gF)++(bB (uF 1 o.gJ)++(bB (uF 4 (I64 o.gA0))++(bB (uF 4 o.gA4)++r)))) 0 true),(7:Int)) from((bM N hN 1 (by decide) (by decide))).hit 7 _ (aJ.app (aK _) (aJ.app (aK _) (aJ.app (aK _) (aJ.app (aK _) hr)))) h0 trivial,aa,show((7:Int)==1)=false from rfl,cond_false,show((7:Int)==2)=false from rfl,cond_false,show((7:Int)==3)=false from rfl,cond_false,show((7:Int)==4)=false from rfl,cond_false,show((7:Int)==5)=false from rfl,cond_false,show((7:Int)==6)=false from rfl,cond_false,show((7:Int)==9)=false from rfl,aa,cond_false,show((7:Int)==7)=true from rfl,cond_true,show aB N 1 (aA.mk (bB (uF 1 o.gF)++(bB (uF 1 o.gJ)++(bB (uF 4 (I64 o.gA0))++(bB (uF 4 o.gA4)++r)))) 0 true)=some ((aA.mk (bB (uF 1 o.gJ)++(bB (uF 4 (I64 o.gA0))++(bB (uF 4 o.gA4)++r))) 0 true),o.gF) from((bM N hN 1 (by decide) (by decide))).hit o.gF _ (aJ.app (aK _) (aJ.app (aK _) (aJ.app (aK _) hr))) h1 trivial,aa,show aB N 1 (aA.mk (bB (uF 1 o.gJ)++(bB (uF 4 (I64 o.gA0))++(bB (uF 4 o.gA4)++r))) 0 true)=some ((aA.mk (bB (uF 4 (I64 o.gA0))++(bB (uF 4 o.gA4)++r)) 0 true),o.gJ) from((bM N hN 1 (by decide) (by decide))).hit o.gJ _ (aJ.app (aK _) (aJ.app (aK _) hr)) h2 trivial,aa,show aW N 4 (aA.mk (bB (uF 4 (I64 o.gA0))++(bB (uF 4 o.gA4)++r)) 0 true)=some ((aA.mk (bB (uF 4 o.gA4)++r) 0 true),(I64 o.gA0)) from((rZ N hN 4 (by decide) (by decide))).hit (I64 o.gA0) _ (aJ.app (aK _) hr) h3 trivial,aa,show aB N 4 (aA.mk (bB (uF 4 o.gA4)++r) 0 true)=some ((aA.mk r 0 true),o.gA4) from((bM N hN 4 (by decide) (by decide))).hit o.gA4 _ hr h4 trivial,aa,aa,oI,aa]
 rfl
theorem opT8(N:Nat)(hN:20 < N)(b:List Int)(e:Int){b0:List Int}{e0:Int}(q0:aB N 1 (aA.mk b e true)=some (aA.mk b0 e0 true,(8:Int)))(s0:aJ b0)(l0:b0.length<=b.length)(f0:e0=0->e=0/\b=bB (uF 1 8)++b0/\okL (uF 1 8)=true/\True):nJ N b e:=by
 obtain⟨b1,e1,a1,q1,s1,l1,f1⟩:=((bM N hN 1 (by decide) (by decide))).tot b0 e0 s0;obtain⟨b2,e2,a2,q2,s2,l2,f2⟩:=((bM N hN 1 (by decide) (by decide))).tot b1 e1 s1;unfold nJ aH;rw[show aB N 1 (aA.mk b e true)=_ from q0,aa,show((8:Int)==1)=false from rfl,cond_false,show((8:Int)==2)=false from rfl,cond_false,show((8:Int)==3)=false from rfl,cond_false,show((8:Int)==4)=false from rfl,cond_false,show((8:Int)==5)=false from rfl,cond_false,show((8:Int)==6)=false from rfl,cond_false,show((8:Int)==9)=false from rfl,aa,cond_false,show((8:Int)==7)=false from rfl,cond_false,show((8:Int)==8)=true from rfl,cond_true,show aB N 1 (aA.mk b0 e0 true)=_ from q1,aa,show aB N 1 (aA.mk b1 e1 true)=_ from q2,aa,aa,oI,aa]
 obtain⟨err,g1,g2⟩:=xW b2 e2 (aF.mk 8 0 [] zIn a1 zVw 0 a2 0 0 0) true;refine⟨_,_,_,err,g1,s2,by omega,λz=>?_⟩
 obtain⟨z2,_⟩:=g2 z;obtain⟨z1,j2,o2,v2⟩:=f2 z2;obtain⟨z0,j1,o1,v1⟩:=f1 z1;obtain⟨zz,j0,o0,_⟩:=f0 z0;refine⟨z2,zz,?_,⟨show(1:Int)<=8 by decide,show(8:Int)<=10 by decide,?_⟩,⟨(show dG 8 from⟨by decide,by decide⟩),i0,i0,i0,i0,i0,qJ,i0,i0,i0,(u64 (by decide) o1),qG,i0,(u64 (by decide) o2),ib0,i0,i0,(br _)⟩⟩
 ·show b=(bB (uF 1 8++(uF 1 a1++uF 1 a2))++[])++b2;rw[j0,j1,j2,bd,bE,bE,af,af]
 ·show okL (uF 1 8++(uF 1 a1++uF 1 a2))=true;rw[aV,aV,o0,o1,o2];rfl
theorem opH8(N:Nat)(hN:20 < N){o:aF}(hk:o.gE=8)(ok:okL (fO o 8)=true)(r:List Int)(hr:aJ r):aH N (aA.mk ((bB (fO o 8)++tO o 8)++r) 0 true)=some (aA.mk r 0 true,aF.mk 8 0 [] zIn o.gF zVw 0 o.gJ 0 0 0,0):=by
 have ho:okL (uF 1 o.gE++(uF 1 o.gF++uF 1 o.gJ))=true:=ok;simp only[aV,aj,hk] at ho;obtain⟨h0,h1,h2⟩:=ho;show aH N (aA.mk ((bB (uF 1 o.gE++(uF 1 o.gF++uF 1 o.gJ))++[])++r) 0 true)=_;rw[bd,bE,bE,af,af,hk]
 unfold aH;rw[show aB N 1 (aA.mk (bB (uF 1 8)++(bB (uF 1 o.gF)++(bB (uF 1 o.gJ)++r))) 0 true)=some ((aA.mk (bB (uF 1 o.gF)++(bB (uF 1 o.gJ)++r)) 0 true),(8:Int)) from((bM N hN 1 (by decide) (by decide))).hit 8 _ (aJ.app (aK _) (aJ.app (aK _) hr)) h0 trivial,aa,show((8:Int)==1)=false from rfl,cond_false,show((8:Int)==2)=false from rfl,cond_false,show((8:Int)==3)=false from rfl,cond_false,show((8:Int)==4)=false from rfl,cond_false,show((8:Int)==5)=false from rfl,cond_false,show((8:Int)==6)=false from rfl,cond_false,show((8:Int)==9)=false from rfl,aa,cond_false,show((8:Int)==7)=false from rfl,cond_false,show((8:Int)==8)=true from rfl,cond_true,show aB N 1 (aA.mk (bB (uF 1 o.gF)++(bB (uF 1 o.gJ)++r)) 0 true)=some ((aA.mk (bB (uF 1 o.gJ)++r) 0 true),o.gF) from((bM N hN 1 (by decide) (by decide))).hit o.gF _ (aJ.app (aK _) hr) h1 trivial,aa,show aB N 1 (aA.mk (bB (uF 1 o.gJ)++r) 0 true)=some ((aA.mk r 0 true),o.gJ) from((bM N hN 1 (by decide) (by decide))).hit o.gJ _ hr h2 trivial,aa,aa,oI,aa]
 rfl
theorem opT9(N:Nat)(hN:20 < N)(b:List Int)(e:Int){b0:List Int}{e0:Int}(q0:aB N 1 (aA.mk b e true)=some (aA.mk b0 e0 true,(9:Int)))(s0:aJ b0)(l0:b0.length<=b.length)(f0:e0=0->e=0/\b=bB (uF 1 9)++b0/\okL (uF 1 9)=true/\True):nJ N b e:=by
 obtain⟨b1,e1,a1,q1,s1,l1,f1⟩:=((bM N hN 1 (by decide) (by decide))).tot b0 e0 s0;unfold nJ aH;rw[show aB N 1 (aA.mk b e true)=_ from q0,aa,show((9:Int)==1)=false from rfl,cond_false,show((9:Int)==2)=false from rfl,cond_false,show((9:Int)==3)=false from rfl,cond_false,show((9:Int)==4)=false from rfl,cond_false,show((9:Int)==5)=false from rfl,cond_false,show((9:Int)==6)=false from rfl,cond_false,show((9:Int)==9)=true from rfl,aa,cond_true,show aB N 1 (aA.mk b0 e0 true)=_ from q1,aa,aa,oI,aa]
 obtain⟨err,g1,g2⟩:=xW b1 e1 (aF.mk 9 0 [] zIn a1 zVw 0 0 0 0 0) true;refine⟨_,_,_,err,g1,s1,by omega,λz=>?_⟩
 obtain⟨z1,_⟩:=g2 z;obtain⟨z0,j1,o1,v1⟩:=f1 z1;obtain⟨zz,j0,o0,_⟩:=f0 z0;refine⟨z1,zz,?_,⟨show(1:Int)<=9 by decide,show(9:Int)<=10 by decide,?_⟩,⟨(show dG 9 from⟨by decide,by decide⟩),i0,i0,i0,i0,i0,qJ,i0,i0,i0,(u64 (by decide) o1),qG,i0,i0,ib0,i0,i0,(br _)⟩⟩
 ·show b=(bB (uF 1 9++uF 1 a1)++[])++b1;rw[j0,j1,bd,bE,af]
 ·show okL (uF 1 9++uF 1 a1)=true;rw[aV,o0,o1];rfl
theorem opH9(N:Nat)(hN:20 < N){o:aF}(hk:o.gE=9)(ok:okL (fO o 9)=true)(r:List Int)(hr:aJ r):aH N (aA.mk ((bB (fO o 9)++tO o 9)++r) 0 true)=some (aA.mk r 0 true,aF.mk 9 0 [] zIn o.gF zVw 0 0 0 0 0,0):=by
 have ho:okL (uF 1 o.gE++uF 1 o.gF)=true:=ok;simp only[aV,aj,hk] at ho;obtain⟨h0,h1⟩:=ho;show aH N (aA.mk ((bB (uF 1 o.gE++uF 1 o.gF)++[])++r) 0 true)=_;rw[bd,bE,af,hk]
 unfold aH;rw[show aB N 1 (aA.mk (bB (uF 1 9)++(bB (uF 1 o.gF)++r)) 0 true)=some ((aA.mk (bB (uF 1 o.gF)++r) 0 true),(9:Int)) from((bM N hN 1 (by decide) (by decide))).hit 9 _ (aJ.app (aK _) hr) h0 trivial,aa,show((9:Int)==1)=false from rfl,cond_false,show((9:Int)==2)=false from rfl,cond_false,show((9:Int)==3)=false from rfl,cond_false,show((9:Int)==4)=false from rfl,cond_false,show((9:Int)==5)=false from rfl,cond_false,show((9:Int)==6)=false from rfl,cond_false,show((9:Int)==9)=true from rfl,aa,cond_true,show aB N 1 (aA.mk (bB (uF 1 o.gF)++r) 0 true)=some ((aA.mk r 0 true),o.gF) from((bM N hN 1 (by decide) (by decide))).hit o.gF _ hr h1 trivial,aa,aa,oI,aa]
 rfl
theorem opT10(N:Nat)(hN:20 < N)(b:List Int)(e:Int){b0:List Int}{e0:Int}(q0:aB N 1 (aA.mk b e true)=some (aA.mk b0 e0 true,(10:Int)))(s0:aJ b0)(l0:b0.length<=b.length)(f0:e0=0->e=0/\b=bB (uF 1 10)++b0/\okL (uF 1 10)=true/\True):nJ N b e:=by
 obtain⟨b1,e1,a1,q1,s1,l1,f1⟩:=((bM N hN 4 (by decide) (by decide))).tot b0 e0 s0;unfold nJ aH;rw[show aB N 1 (aA.mk b e true)=_ from q0,aa,show((10:Int)==1)=false from rfl,cond_false,show((10:Int)==2)=false from rfl,cond_false,show((10:Int)==3)=false from rfl,cond_false,show((10:Int)==4)=false from rfl,cond_false,show((10:Int)==5)=false from rfl,cond_false,show((10:Int)==6)=false from rfl,cond_false,show((10:Int)==9)=false from rfl,aa,cond_false,show((10:Int)==7)=false from rfl,cond_false,show((10:Int)==8)=false from rfl,cond_false,show((10:Int)==10)=true from rfl,cond_true,show aB N 4 (aA.mk b0 e0 true)=_ from q1,aa,aa,oI,aa]
 obtain⟨err,g1,g2⟩:=xW b1 e1 (aF.mk 10 0 [] zIn 0 zVw 0 0 0 0 a1) true;refine⟨_,_,_,err,g1,s1,by omega,λz=>?_⟩
 obtain⟨z1,_⟩:=g2 z;obtain⟨z0,j1,o1,v1⟩:=f1 z1;obtain⟨zz,j0,o0,_⟩:=f0 z0;refine⟨z1,zz,?_,⟨show(1:Int)<=10 by decide,show(10:Int)<=10 by decide,?_⟩,⟨(show dG 10 from⟨by decide,by decide⟩),i0,i0,i0,i0,i0,qJ,i0,i0,i0,i0,qG,i0,i0,ib0,i0,(u64 (by decide) o1),(br _)⟩⟩
 ·show b=(bB (uF 1 10++uF 4 a1)++[])++b1;rw[j0,j1,bd,bE,af]
 ·show okL (uF 1 10++uF 4 a1)=true;rw[aV,o0,o1];rfl
theorem opH10(N:Nat)(hN:20 < N){o:aF}(hk:o.gE=10)(ok:okL (fO o 10)=true)(r:List Int)(hr:aJ r):aH N (aA.mk ((bB (fO o 10)++tO o 10)++r) 0 true)=some (aA.mk r 0 true,aF.mk 10 0 [] zIn 0 zVw 0 0 0 0 o.gA8,0):=by
 have ho:okL (uF 1 o.gE++uF 4 o.gA8)=true:=ok;simp only[aV,aj,hk] at ho;obtain⟨h0,h1⟩:=ho;show aH N (aA.mk ((bB (uF 1 o.gE++uF 4 o.gA8)++[])++r) 0 true)=_;rw[bd,bE,af,hk]
 unfold aH;rw[show aB N 1 (aA.mk (bB (uF 1 10)++(bB (uF 4 o.gA8)++r)) 0 true)=some ((aA.mk (bB (uF 4 o.gA8)++r) 0 true),(10:Int)) from((bM N hN 1 (by decide) (by decide))).hit 10 _ (aJ.app (aK _) hr) h0 trivial,aa,show((10:Int)==1)=false from rfl,cond_false,show((10:Int)==2)=false from rfl,cond_false,show((10:Int)==3)=false from rfl,cond_false,show((10:Int)==4)=false from rfl,cond_false,show((10:Int)==5)=false from rfl,cond_false,show((10:Int)==6)=false from rfl,cond_false,show((10:Int)==9)=false from rfl,aa,cond_false,show((10:Int)==7)=false from rfl,cond_false,show((10:Int)==8)=false from rfl,cond_false,show((10:Int)==10)=true from rfl,cond_true,show aB N 4 (aA.mk (bB (uF 4 o.gA8)++r) 0 true)=some ((aA.mk r 0 true),o.gA8) from((bM N hN 4 (by decide) (by decide))).hit o.gA8 _ hr h1 trivial,aa,aa,oI,aa]
 rfl
theorem opT1(N:Nat)(hN:20 < N)(b:List Int)(e:Int){b0:List Int}{e0:Int}(q0:aB N 1 (aA.mk b e true)=some (aA.mk b0 e0 true,(1:Int)))(s0:aJ b0)(l0:b0.length<=b.length)(f0:e0=0->e=0/\b=bB (uF 1 1)++b0/\okL (uF 1 1)=true/\True):nJ N b e:=by
 obtain⟨b1,e1,a1,q1,s1,l1,f1⟩:=((bM N hN 4 (by decide) (by decide))).tot b0 e0 s0;obtain⟨b2,e2,a2,q2,s2,l2,f2⟩:=((bM N hN 2 (by decide) (by decide))).tot b1 e1 s1;obtain⟨b3,e3,a3,q3,s3,l3,f3⟩:=takeI N a2 b2 e2 s2;unfold nJ aH;rw[show aB N 1 (aA.mk b e true)=_ from q0,aa,show((1:Int)==1)=true from rfl,cond_true,show aB N 4 (aA.mk b0 e0 true)=_ from q1,aa,show aB N 2 (aA.mk b1 e1 true)=_ from q2,aa,show aZ N a2 (aA.mk b2 e2 true)=_ from q3,aa,aa,oI,aa]
 obtain⟨err,g1,g2⟩:=xW b3 e3 (aF.mk 1 a1 a3 zIn 0 zVw 0 0 0 0 0) true;refine⟨_,_,_,err,g1,s3,by omega,λz=>?_⟩
 obtain⟨z3,_⟩:=g2 z;obtain⟨z2,j3,o3,v3⟩:=f3 z3;obtain⟨z1,j2,o2,v2⟩:=f2 z2;obtain⟨z0,j1,o1,v1⟩:=f1 z1;obtain⟨zz,j0,o0,_⟩:=f0 z0;have c:=pW.1 o2;rw[show cJ 2=65536 from rfl] at c;refine⟨z3,zz,?_,⟨show(1:Int)<=1 by decide,show(1:Int)<=10 by decide,?_⟩,⟨(show dG 1 from⟨by decide,by decide⟩),(u64 (by decide) o1),i0,i0,i0,i0,qJ,i0,i0,i0,i0,qG,i0,i0,ib0,i0,i0,(by show a3.length<=140737488351232;omega)⟩⟩
 ·show b=(bB (uF 1 1++(uF 4 a1++uF 2 (a3.length:Int)))++a3)++b3;rw[j0,j1,j2,j3,o3,bE,bE,af,af,af]
 ·show okL (uF 1 1++(uF 4 a1++uF 2 (a3.length:Int)))=true;rw[o3,aV,aV,o0,o1,o2];rfl
theorem opH1(N:Nat)(hN:20 < N){o:aF}(hk:o.gE=1)(ok:okL (fO o 1)=true)(r:List Int)(hr:aJ r)(hbb:aJ o.gL):aH N (aA.mk ((bB (fO o 1)++tO o 1)++r) 0 true)=some (aA.mk r 0 true,aF.mk 1 o.gQ o.gL zIn 0 zVw 0 0 0 0 0,0):=by
 have ho:okL (uF 1 o.gE++(uF 4 o.gQ++uF 2 (o.gL.length:Int)))=true:=ok;simp only[aV,aj,hk] at ho;obtain⟨h0,h1,h2⟩:=ho;show aH N (aA.mk ((bB (uF 1 o.gE++(uF 4 o.gQ++uF 2 (o.gL.length:Int)))++o.gL)++r) 0 true)=_;rw[bE,bE,af,af,af,hk]
 have hx:aJ (o.gL++r):=aJ.app hbb hr;have ht:=xD N (o.gL++r) o.gL.length (by simp)
 rw[List.drop_left,gy] at ht;unfold aH;rw[show aB N 1 (aA.mk (bB (uF 1 1)++(bB (uF 4 o.gQ)++(bB (uF 2 (o.gL.length:Int))++(o.gL++r)))) 0 true)=some (aA.mk (bB (uF 4 o.gQ)++(bB (uF 2 (o.gL.length:Int))++(o.gL++r))) 0 true,(1:Int)) from((bM N hN 1 (by decide) (by decide))).hit 1 _ (aJ.app (aK _) (aJ.app (aK _) hx)) h0 trivial,aa,show((1:Int)==1)=true from rfl,cond_true,show aB N 4 (aA.mk (bB (uF 4 o.gQ)++(bB (uF 2 (o.gL.length:Int))++(o.gL++r))) 0 true)=some (aA.mk (bB (uF 2 (o.gL.length:Int))++(o.gL++r)) 0 true,o.gQ) from((bM N hN 4 (by decide) (by decide))).hit o.gQ _ (aJ.app (aK _) hx) h1 trivial,aa,show aB N 2 (aA.mk (bB (uF 2 (o.gL.length:Int))++(o.gL++r)) 0 true)=some (aA.mk (o.gL++r) 0 true,(o.gL.length:Int)) from((bM N hN 2 (by decide) (by decide))).hit (o.gL.length:Int) _ hx h2 trivial,aa,show aZ N (o.gL.length:Int) (aA.mk (o.gL++r) 0 true)=_ from ht,aa,aa,oI,aa]
 rfl
theorem opT3(N:Nat)(hN:20 < N)(b:List Int)(e:Int){b0:List Int}{e0:Int}(q0:aB N 1 (aA.mk b e true)=some (aA.mk b0 e0 true,(3:Int)))(s0:aJ b0)(l0:b0.length<=b.length)(f0:e0=0->e=0/\b=bB (uF 1 3)++b0/\okL (uF 1 3)=true/\True):nJ N b e:=by
 obtain⟨b1,e1,a1,q1,s1,l1,f1⟩:=(aAU N hN).tot b0 e0 s0;obtain⟨b2,e2,l,q2,s2,l2,n2,f2⟩:=aH3 N hN b1 e1 s1;obtain⟨v,x,y,w,t1,t2,t3,t4,t5,t6⟩:=vec9 n2;obtain⟨x1,x2,x3,x4,x5⟩:=a1;unfold nJ aH;rw[show aB N 1 (aA.mk b e true)=_ from q0,aa,show((3:Int)==1)=false from rfl,cond_false,show((3:Int)==2)=false from rfl,cond_false,show((3:Int)==3)=true from rfl,cond_true,show bC N (aA.mk b0 e0 true)=_ from q1,aa,show bH N 12 (aA.mk b1 e1 true)=_ from q2,aa,show nD l 0 9=_ from t1,aa,t2,aa,show idx l 9=_ from t3,aa,show idx l 10=_ from t4,aa,show idx l 11=_ from t5,aa,aa,oI,aa]
 obtain⟨err,g1,g2⟩:=xW b2 e2 (aF.mk 3 0 [] (aN.mk x1 x2 x3 x4 (aX.mk v (bR.mk x y w))) 0 zVw 0 0 0 0 0) true;refine⟨_,_,_,err,g1,s2,by omega,λz=>?_⟩
 obtain⟨z2,_⟩:=g2 z;obtain⟨z1,j2,o2⟩:=f2 z2;obtain⟨z0,j1,o1,v1⟩:=f1 z1;obtain⟨zz,j0,o0,_⟩:=f0 z0;have hw:=o1;unfold inF at hw;simp only[aV,aj] at hw;obtain⟨w1,w2,w3,w4⟩:=hw;have hx:=x64 o2;rw[t6] at hx;have i3:∀u∈v.toList,dG u:=λu h=>hx u (by simp[h])
 refine⟨z2,zz,?_,⟨show(1:Int)<=3 by decide,show(3:Int)<=10 by decide,?_⟩,⟨(show dG 3 from⟨by decide,by decide⟩),i0,(u64 (by decide) w1),(u64 (by decide) w2),(u64 (by decide) w3),(u64 (by decide) w4),i3,(hx x (by simp)),(hx y (by simp)),(hx w (by simp)),i0,qG,i0,i0,ib0,i0,i0,(br _)⟩⟩
 ·show b=(bB (uF 1 3++((uF 4 x1++(uF 4 x2++(uF 4 x3++uF 4 x4)))++xF (v.toList++[x,y,w])))++[])++b2;rw[<- t6,j0,j1,j2,bd,bE,bE,af,af]
  rfl
 ·show okL (uF 1 3++((uF 4 x1++(uF 4 x2++(uF 4 x3++uF 4 x4)))++xF (v.toList++[x,y,w])))=true;rw[<- t6,aV,aV,o0,o2,show okL (uF 4 x1++(uF 4 x2++(uF 4 x3++uF 4 x4)))=true from o1];rfl
theorem opH3(N:Nat)(hN:20 < N){o:aF}(hk:o.gE=3)(ok:okL (fO o 3)=true)(r:List Int)(hr:aJ r):aH N (aA.mk ((bB (fO o 3)++tO o 3)++r) 0 true)=some (aA.mk r 0 true,aF.mk 3 0 [] (aN.mk o.gC.gK o.gC.gI o.gC.gG o.gC.gN (aX.mk o.gC.gT.gM (bR.mk o.gC.gT.gT.gX o.gC.gT.gT.gY o.gC.gT.gT.gZ))) 0 zVw 0 0 0 0 0,0):=by
 have ho:okL (uF 1 o.gE++(inF (aN.mk o.gC.gK o.gC.gI o.gC.gG o.gC.gN zAf)++xF (zO o)))=true:=ok;simp only[aV,aj,hk] at ho;obtain⟨h0,h1,h2⟩:=ho;show aH N (aA.mk ((bB (uF 1 o.gE++(inF (aN.mk o.gC.gK o.gC.gI o.gC.gG o.gC.gN zAf)++xF (zO o)))++[])++r) 0 true)=_;rw[bd,bE,bE,af,af,hk]
 obtain⟨v,x,y,w,t1,t2,t3,t4,t5,t6⟩:=vec9 (yJ o)
 have hv:v=o.gC.gT.gM/\x=o.gC.gT.gT.gX/\y=o.gC.gT.gT.gY/\w=o.gC.gT.gT.gZ:=by
  unfold zO at t6;obtain⟨u1,u2⟩:=List.append_inj t6 (by simp)
  simp only[List.cons.injEq,and_true] at u2;exact⟨(Vector.toList_inj.1 u1).symm,u2.1.symm,u2.2.1.symm,u2.2.2.symm⟩
 obtain⟨rfl,rfl,rfl,rfl⟩:=hv;unfold aH;rw[show aB N 1 (aA.mk (bB (uF 1 3)++(bB (inF (aN.mk o.gC.gK o.gC.gI o.gC.gG o.gC.gN zAf))++(bB (xF (zO o))++r))) 0 true)=some (aA.mk (bB (inF (aN.mk o.gC.gK o.gC.gI o.gC.gG o.gC.gN zAf))++(bB (xF (zO o))++r)) 0 true,(3:Int)) from((bM N hN 1 (by decide) (by decide))).hit 3 _ (aJ.app (aK _) (aJ.app (aK _) hr)) h0 trivial,aa,show((3:Int)==1)=false from rfl,cond_false,show((3:Int)==2)=false from rfl,cond_false,show((3:Int)==3)=true from rfl,cond_true,show bC N (aA.mk (bB (inF (aN.mk o.gC.gK o.gC.gI o.gC.gG o.gC.gN zAf))++(bB (xF (zO o))++r)) 0 true)=some (aA.mk (bB (xF (zO o))++r) 0 true,aN.mk o.gC.gK o.gC.gI o.gC.gG o.gC.gN zAf) from(aAU N hN).hit _ _ (aJ.app (aK _) hr) h1 rfl,aa,show bH N 12 (aA.mk (bB (xF (zO o))++r) 0 true)=some (aA.mk r 0 true,zO o) from(fixRk N hN).hit (zO o) r hr h2 (yJ o),aa,show nD (zO o) 0 9=_ from t1,aa,t2,aa,show idx (zO o) 9=_ from t3,aa,show idx (zO o) 10=_ from t4,aa,show idx (zO o) 11=_ from t5,aa,aa,oI,aa]
 rfl
theorem opT5(N:Nat)(hN:20 < N)(b:List Int)(e:Int){b0:List Int}{e0:Int}(q0:aB N 1 (aA.mk b e true)=some (aA.mk b0 e0 true,(5:Int)))(s0:aJ b0)(l0:b0.length<=b.length)(f0:e0=0->e=0/\b=bB (uF 1 5)++b0/\okL (uF 1 5)=true/\True):nJ N b e:=by
 obtain⟨b1,e1,a1,q1,s1,l1,f1⟩:=((bM N hN 1 (by decide) (by decide))).tot b0 e0 s0;obtain⟨b2,e2,v,good,q2,s2,l2,f2⟩:=aG1 N hN b1 e1 s1;obtain⟨b3,e3,a3,q3,s3,l3,f3⟩:=((bM N hN 2 (by decide) (by decide))).tot b2 e2 s2;unfold nJ aH;rw[show aB N 1 (aA.mk b e true)=_ from q0,aa,show((5:Int)==1)=false from rfl,cond_false,show((5:Int)==2)=false from rfl,cond_false,show((5:Int)==3)=false from rfl,cond_false,show((5:Int)==4)=false from rfl,cond_false,show((5:Int)==5)=true from rfl,cond_true,show aB N 1 (aA.mk b0 e0 true)=_ from q1,aa,show bL N (aA.mk b1 e1 true)=_ from q2,aa,show aB N 2 (aA.mk b2 e2 true)=_ from q3,aa,aa,oI,aa]
 obtain⟨err,g1,g2⟩:=xW b3 e3 (aF.mk 5 0 [] zIn a1 v a3 0 0 0 0) good;refine⟨_,_,_,err,g1,s3,by omega,λz=>?_⟩
 obtain⟨z3,hg⟩:=g2 z;obtain⟨z2,j3,o3,v3⟩:=f3 z3;obtain⟨z1,j2,o2⟩:=f2 z2 hg;obtain⟨z0,j1,o1,v1⟩:=f1 z1;obtain⟨zz,j0,o0,_⟩:=f0 z0;refine⟨z3,zz,?_,⟨show(1:Int)<=5 by decide,show(5:Int)<=10 by decide,?_⟩,⟨(show dG 5 from⟨by decide,by decide⟩),i0,i0,i0,i0,i0,qJ,i0,i0,i0,(u64 (by decide) o1),(vw64 o2),(u64 (by decide) o3),i0,ib0,i0,i0,(br _)⟩⟩
 ·show b=(bB (uF 1 5++(uF 1 a1++(vF v++uF 2 a3)))++[])++b3;rw[j0,j1,j2,j3,bd,bE,bE,bE,af,af,af]
 ·show okL (uF 1 5++(uF 1 a1++(vF v++uF 2 a3)))=true;rw[aV,aV,aV,o0,o1,o2,o3];rfl
theorem opH5(N:Nat)(hN:20 < N){o:aF}(hk:o.gE=5)(ok:okL (fO o 5)=true)(r:List Int)(hr:aJ r):aH N (aA.mk ((bB (fO o 5)++tO o 5)++r) 0 true)=some (aA.mk r 0 true,aF.mk 5 0 [] zIn o.gF o.gB0 o.gA7 0 0 0 0,0):=by
 have ho:okL (uF 1 o.gE++(uF 1 o.gF++(vF o.gB0++uF 2 o.gA7)))=true:=ok;simp only[aV,aj,hk] at ho;obtain⟨h0,h1,h2,h3⟩:=ho;show aH N (aA.mk ((bB (uF 1 o.gE++(uF 1 o.gF++(vF o.gB0++uF 2 o.gA7)))++[])++r) 0 true)=_;rw[bd,bE,bE,bE,af,af,af,hk]
 unfold aH;rw[show aB N 1 (aA.mk (bB (uF 1 5)++(bB (uF 1 o.gF)++(bB (vF o.gB0)++(bB (uF 2 o.gA7)++r)))) 0 true)=some (aA.mk (bB (uF 1 o.gF)++(bB (vF o.gB0)++(bB (uF 2 o.gA7)++r))) 0 true,(5:Int)) from((bM N hN 1 (by decide) (by decide))).hit 5 _ (aJ.app (aK _) (aJ.app (aK _) (aJ.app (aK _) hr))) h0 trivial,aa,show((5:Int)==1)=false from rfl,cond_false,show((5:Int)==2)=false from rfl,cond_false,show((5:Int)==3)=false from rfl,cond_false,show((5:Int)==4)=false from rfl,cond_false,show((5:Int)==5)=true from rfl,cond_true,show aB N 1 (aA.mk (bB (uF 1 o.gF)++(bB (vF o.gB0)++(bB (uF 2 o.gA7)++r))) 0 true)=some (aA.mk (bB (vF o.gB0)++(bB (uF 2 o.gA7)++r)) 0 true,o.gF) from((bM N hN 1 (by decide) (by decide))).hit o.gF _ (aJ.app (aK _) (aJ.app (aK _) hr)) h1 trivial,aa,show bL N (aA.mk (bB (vF o.gB0)++(bB (uF 2 o.gA7)++r)) 0 true)=_ from aGo N hN o.gB0 _ (aJ.app (aK _) hr) h2,aa,show aB N 2 (aA.mk (bB (uF 2 o.gA7)++r) 0 true)=some (aA.mk r 0 true,o.gA7) from((bM N hN 2 (by decide) (by decide))).hit o.gA7 r hr h3 trivial,aa,aa,oI,aa]
 rfl
theorem opN1{o:aF}(ho:O64 o)(hk:o.gE=1)(ok:okL (fO o 1)=true):gO (aF.mk 1 o.gQ o.gL zIn 0 zVw 0 0 0 0 0)/\O64 (aF.mk 1 o.gQ o.gL zIn 0 zVw 0 0 0 0 0)/\opB (aF.mk 1 o.gQ o.gL zIn 0 zVw 0 0 0 0 0)=bB (fO o 1)++tO o 1:=by
 have e:fO (aF.mk 1 o.gQ o.gL zIn 0 zVw 0 0 0 0 0) 1=fO o 1:=by simp only[fO,hk]
 refine⟨⟨show(1:Int)<=1 by decide,show(1:Int)<=10 by decide,?_⟩,⟨(show dG 1 from⟨by decide,by decide⟩),ho.ha,i0,i0,i0,i0,qJ,i0,i0,i0,i0,qG,i0,i0,ib0,i0,i0,ho.bl⟩,?_⟩
 ·show okL (fO (aF.mk 1 o.gQ o.gL zIn 0 zVw 0 0 0 0 0) 1)=true;rw[e];exact ok
 ·show bB (fO (aF.mk 1 o.gQ o.gL zIn 0 zVw 0 0 0 0 0) 1)++tO (aF.mk 1 o.gQ o.gL zIn 0 zVw 0 0 0 0 0) 1=_;rw[e];rfl
theorem opN2{o:aF}(ho:O64 o)(hk:o.gE=2)(ok:okL (fO o 2)=true):gO (aF.mk 2 o.gQ [] zIn 0 zVw 0 0 0 0 0)/\O64 (aF.mk 2 o.gQ [] zIn 0 zVw 0 0 0 0 0)/\opB (aF.mk 2 o.gQ [] zIn 0 zVw 0 0 0 0 0)=bB (fO o 2)++tO o 2:=by
 have e:fO (aF.mk 2 o.gQ [] zIn 0 zVw 0 0 0 0 0) 2=fO o 2:=by simp only[fO,hk]
 refine⟨⟨show(1:Int)<=2 by decide,show(2:Int)<=10 by decide,?_⟩,⟨(show dG 2 from⟨by decide,by decide⟩),ho.ha,i0,i0,i0,i0,qJ,i0,i0,i0,i0,qG,i0,i0,ib0,i0,i0,(br _)⟩,?_⟩
 ·show okL (fO (aF.mk 2 o.gQ [] zIn 0 zVw 0 0 0 0 0) 2)=true;rw[e];exact ok
 ·show bB (fO (aF.mk 2 o.gQ [] zIn 0 zVw 0 0 0 0 0) 2)++tO (aF.mk 2 o.gQ [] zIn 0 zVw 0 0 0 0 0) 2=_;rw[e];rfl
theorem opN3{o:aF}(ho:O64 o)(hk:o.gE=3)(ok:okL (fO o 3)=true):gO (aF.mk 3 0 [] (aN.mk o.gC.gK o.gC.gI o.gC.gG o.gC.gN (aX.mk o.gC.gT.gM (bR.mk o.gC.gT.gT.gX o.gC.gT.gT.gY o.gC.gT.gT.gZ))) 0 zVw 0 0 0 0 0)/\O64 (aF.mk 3 0 [] (aN.mk o.gC.gK o.gC.gI o.gC.gG o.gC.gN (aX.mk o.gC.gT.gM (bR.mk o.gC.gT.gT.gX o.gC.gT.gT.gY o.gC.gT.gT.gZ))) 0 zVw 0 0 0 0 0)/\opB (aF.mk 3 0 [] (aN.mk o.gC.gK o.gC.gI o.gC.gG o.gC.gN (aX.mk o.gC.gT.gM (bR.mk o.gC.gT.gT.gX o.gC.gT.gT.gY o.gC.gT.gT.gZ))) 0 zVw 0 0 0 0 0)=bB (fO o 3)++tO o 3:=by
 have e:fO (aF.mk 3 0 [] (aN.mk o.gC.gK o.gC.gI o.gC.gG o.gC.gN (aX.mk o.gC.gT.gM (bR.mk o.gC.gT.gT.gX o.gC.gT.gT.gY o.gC.gT.gT.gZ))) 0 zVw 0 0 0 0 0) 3=fO o 3:=by simp only[fO,hk,zO]
 refine⟨⟨show(1:Int)<=3 by decide,show(3:Int)<=10 by decide,?_⟩,⟨(show dG 3 from⟨by decide,by decide⟩),i0,ho.me,ho.ma,ho.te,ho.n,ho.m,ho.x,ho.y,ho.z,i0,qG,i0,i0,ib0,i0,i0,(br _)⟩,?_⟩
 ·show okL (fO (aF.mk 3 0 [] (aN.mk o.gC.gK o.gC.gI o.gC.gG o.gC.gN (aX.mk o.gC.gT.gM (bR.mk o.gC.gT.gT.gX o.gC.gT.gT.gY o.gC.gT.gT.gZ))) 0 zVw 0 0 0 0 0) 3)=true;rw[e];exact ok
 ·show bB (fO (aF.mk 3 0 [] (aN.mk o.gC.gK o.gC.gI o.gC.gG o.gC.gN (aX.mk o.gC.gT.gM (bR.mk o.gC.gT.gT.gX o.gC.gT.gT.gY o.gC.gT.gT.gZ))) 0 zVw 0 0 0 0 0) 3)++tO (aF.mk 3 0 [] (aN.mk o.gC.gK o.gC.gI o.gC.gG o.gC.gN (aX.mk o.gC.gT.gM (bR.mk o.gC.gT.gT.gX o.gC.gT.gT.gY o.gC.gT.gT.gZ))) 0 zVw 0 0 0 0 0) 3=_;rw[e];rfl
theorem opN4{o:aF}(ho:O64 o)(hk:o.gE=4)(ok:okL (fO o 4)=true):gO (aF.mk 4 0 [] (aN.mk o.gC.gK o.gC.gI o.gC.gG o.gC.gN zAf) 0 zVw 0 0 0 0 0)/\O64 (aF.mk 4 0 [] (aN.mk o.gC.gK o.gC.gI o.gC.gG o.gC.gN zAf) 0 zVw 0 0 0 0 0)/\opB (aF.mk 4 0 [] (aN.mk o.gC.gK o.gC.gI o.gC.gG o.gC.gN zAf) 0 zVw 0 0 0 0 0)=bB (fO o 4)++tO o 4:=by
 have e:fO (aF.mk 4 0 [] (aN.mk o.gC.gK o.gC.gI o.gC.gG o.gC.gN zAf) 0 zVw 0 0 0 0 0) 4=fO o 4:=by simp only[fO,hk]
 refine⟨⟨show(1:Int)<=4 by decide,show(4:Int)<=10 by decide,?_⟩,⟨(show dG 4 from⟨by decide,by decide⟩),i0,ho.me,ho.ma,ho.te,ho.n,qJ,i0,i0,i0,i0,qG,i0,i0,ib0,i0,i0,(br _)⟩,?_⟩
 ·show okL (fO (aF.mk 4 0 [] (aN.mk o.gC.gK o.gC.gI o.gC.gG o.gC.gN zAf) 0 zVw 0 0 0 0 0) 4)=true;rw[e];exact ok
 ·show bB (fO (aF.mk 4 0 [] (aN.mk o.gC.gK o.gC.gI o.gC.gG o.gC.gN zAf) 0 zVw 0 0 0 0 0) 4)++tO (aF.mk 4 0 [] (aN.mk o.gC.gK o.gC.gI o.gC.gG o.gC.gN zAf) 0 zVw 0 0 0 0 0) 4=_;rw[e];rfl
theorem opN5{o:aF}(ho:O64 o)(hk:o.gE=5)(ok:okL (fO o 5)=true):gO (aF.mk 5 0 [] zIn o.gF o.gB0 o.gA7 0 0 0 0)/\O64 (aF.mk 5 0 [] zIn o.gF o.gB0 o.gA7 0 0 0 0)/\opB (aF.mk 5 0 [] zIn o.gF o.gB0 o.gA7 0 0 0 0)=bB (fO o 5)++tO o 5:=by
 have e:fO (aF.mk 5 0 [] zIn o.gF o.gB0 o.gA7 0 0 0 0) 5=fO o 5:=by simp only[fO,hk]
 refine⟨⟨show(1:Int)<=5 by decide,show(5:Int)<=10 by decide,?_⟩,⟨(show dG 5 from⟨by decide,by decide⟩),i0,i0,i0,i0,i0,qJ,i0,i0,i0,ho.la,ho.v,ho.q,i0,ib0,i0,i0,(br _)⟩,?_⟩
 ·show okL (fO (aF.mk 5 0 [] zIn o.gF o.gB0 o.gA7 0 0 0 0) 5)=true;rw[e];exact ok
 ·show bB (fO (aF.mk 5 0 [] zIn o.gF o.gB0 o.gA7 0 0 0 0) 5)++tO (aF.mk 5 0 [] zIn o.gF o.gB0 o.gA7 0 0 0 0) 5=_;rw[e];rfl
theorem opN6{o:aF}(ho:O64 o)(hk:o.gE=6)(ok:okL (fO o 6)=true):gO (aF.mk 6 0 [] zIn o.gF zVw 0 0 0 0 0)/\O64 (aF.mk 6 0 [] zIn o.gF zVw 0 0 0 0 0)/\opB (aF.mk 6 0 [] zIn o.gF zVw 0 0 0 0 0)=bB (fO o 6)++tO o 6:=by
 have e:fO (aF.mk 6 0 [] zIn o.gF zVw 0 0 0 0 0) 6=fO o 6:=by simp only[fO,hk]
 refine⟨⟨show(1:Int)<=6 by decide,show(6:Int)<=10 by decide,?_⟩,⟨(show dG 6 from⟨by decide,by decide⟩),i0,i0,i0,i0,i0,qJ,i0,i0,i0,ho.la,qG,i0,i0,ib0,i0,i0,(br _)⟩,?_⟩
 ·show okL (fO (aF.mk 6 0 [] zIn o.gF zVw 0 0 0 0 0) 6)=true;rw[e];exact ok
 ·show bB (fO (aF.mk 6 0 [] zIn o.gF zVw 0 0 0 0 0) 6)++tO (aF.mk 6 0 [] zIn o.gF zVw 0 0 0 0 0) 6=_;rw[e];rfl
theorem opN7{o:aF}(ho:O64 o)(hk:o.gE=7)(ok:okL (fO o 7)=true):gO (aF.mk 7 0 [] zIn o.gF zVw 0 o.gJ (U32 (I64 o.gA0)) o.gA4 0)/\O64 (aF.mk 7 0 [] zIn o.gF zVw 0 o.gJ (U32 (I64 o.gA0)) o.gA4 0)/\opB (aF.mk 7 0 [] zIn o.gF zVw 0 o.gJ (U32 (I64 o.gA0)) o.gA4 0)=bB (fO o 7)++tO o 7:=by
 have c:=ho.lb;have hl:I64 (U32 (I64 o.gA0))=I64 o.gA0:=by rw[kN (x:=o.gA0) (by omega) (by omega),aFp (by omega) (by omega),kN (by omega) (by omega)]
 have e:fO (aF.mk 7 0 [] zIn o.gF zVw 0 o.gJ (U32 (I64 o.gA0)) o.gA4 0) 7=fO o 7:=by simp only[fO,hk,hl]
 refine⟨⟨show(1:Int)<=7 by decide,show(7:Int)<=10 by decide,?_⟩,⟨(show dG 7 from⟨by decide,by decide⟩),i0,i0,i0,i0,i0,qJ,i0,i0,i0,ho.la,qG,i0,ho.wh,⟨aEe _,aE7 _⟩,ho.mn,i0,(br _)⟩,?_⟩
 ·show okL (fO (aF.mk 7 0 [] zIn o.gF zVw 0 o.gJ (U32 (I64 o.gA0)) o.gA4 0) 7)=true;rw[e];exact ok
 ·show bB (fO (aF.mk 7 0 [] zIn o.gF zVw 0 o.gJ (U32 (I64 o.gA0)) o.gA4 0) 7)++tO (aF.mk 7 0 [] zIn o.gF zVw 0 o.gJ (U32 (I64 o.gA0)) o.gA4 0) 7=_;rw[e];rfl
theorem opN8{o:aF}(ho:O64 o)(hk:o.gE=8)(ok:okL (fO o 8)=true):gO (aF.mk 8 0 [] zIn o.gF zVw 0 o.gJ 0 0 0)/\O64 (aF.mk 8 0 [] zIn o.gF zVw 0 o.gJ 0 0 0)/\opB (aF.mk 8 0 [] zIn o.gF zVw 0 o.gJ 0 0 0)=bB (fO o 8)++tO o 8:=by
 have e:fO (aF.mk 8 0 [] zIn o.gF zVw 0 o.gJ 0 0 0) 8=fO o 8:=by simp only[fO,hk]
 refine⟨⟨show(1:Int)<=8 by decide,show(8:Int)<=10 by decide,?_⟩,⟨(show dG 8 from⟨by decide,by decide⟩),i0,i0,i0,i0,i0,qJ,i0,i0,i0,ho.la,qG,i0,ho.wh,ib0,i0,i0,(br _)⟩,?_⟩
 ·show okL (fO (aF.mk 8 0 [] zIn o.gF zVw 0 o.gJ 0 0 0) 8)=true;rw[e];exact ok
 ·show bB (fO (aF.mk 8 0 [] zIn o.gF zVw 0 o.gJ 0 0 0) 8)++tO (aF.mk 8 0 [] zIn o.gF zVw 0 o.gJ 0 0 0) 8=_;rw[e];rfl
theorem opN9{o:aF}(ho:O64 o)(hk:o.gE=9)(ok:okL (fO o 9)=true):gO (aF.mk 9 0 [] zIn o.gF zVw 0 0 0 0 0)/\O64 (aF.mk 9 0 [] zIn o.gF zVw 0 0 0 0 0)/\opB (aF.mk 9 0 [] zIn o.gF zVw 0 0 0 0 0)=bB (fO o 9)++tO o 9:=by
 have e:fO (aF.mk 9 0 [] zIn o.gF zVw 0 0 0 0 0) 9=fO o 9:=by simp only[fO,hk]
 refine⟨⟨show(1:Int)<=9 by decide,show(9:Int)<=10 by decide,?_⟩,⟨(show dG 9 from⟨by decide,by decide⟩),i0,i0,i0,i0,i0,qJ,i0,i0,i0,ho.la,qG,i0,i0,ib0,i0,i0,(br _)⟩,?_⟩
 ·show okL (fO (aF.mk 9 0 [] zIn o.gF zVw 0 0 0 0 0) 9)=true;rw[e];exact ok
 ·show bB (fO (aF.mk 9 0 [] zIn o.gF zVw 0 0 0 0 0) 9)++tO (aF.mk 9 0 [] zIn o.gF zVw 0 0 0 0 0) 9=_;rw[e];rfl
theorem opN10{o:aF}(ho:O64 o)(hk:o.gE=10)(ok:okL (fO o 10)=true):gO (aF.mk 10 0 [] zIn 0 zVw 0 0 0 0 o.gA8)/\O64 (aF.mk 10 0 [] zIn 0 zVw 0 0 0 0 o.gA8)/\opB (aF.mk 10 0 [] zIn 0 zVw 0 0 0 0 o.gA8)=bB (fO o 10)++tO o 10:=by
 have e:fO (aF.mk 10 0 [] zIn 0 zVw 0 0 0 0 o.gA8) 10=fO o 10:=by simp only[fO,hk]
 refine⟨⟨show(1:Int)<=10 by decide,show(10:Int)<=10 by decide,?_⟩,⟨(show dG 10 from⟨by decide,by decide⟩),i0,i0,i0,i0,i0,qJ,i0,i0,i0,i0,qG,i0,i0,ib0,i0,ho.ti,(br _)⟩,?_⟩
 ·show okL (fO (aF.mk 10 0 [] zIn 0 zVw 0 0 0 0 o.gA8) 10)=true;rw[e];exact ok
 ·show bB (fO (aF.mk 10 0 [] zIn 0 zVw 0 0 0 0 o.gA8) 10)++tO (aF.mk 10 0 [] zIn 0 zVw 0 0 0 0 o.gA8) 10=_;rw[e];rfl
theorem opHit(N:Nat)(hN:20 < N){o:aF}(ho:O64 o)(g:gO o)(hbb:aJ o.gL)(r:List Int)(hr:aJ r):∃o',aH N (aA.mk (opB o++r) 0 true)=some (aA.mk r 0 true,o',0)/\gO o'/\O64 o'/\opB o'=opB o:=by
 obtain⟨h1,h2,ok⟩:=g;obtain⟨k,hk,k1,k2⟩:=aFC (o:=o) (by omega)
 unfold opB;have hk2:o.gE.toNat=k:=by rw[hk];rfl
 rw[hk2] at ok ⊢;rcases tens k1 k2 with rfl | rfl | rfl | rfl | rfl | rfl | rfl | rfl | rfl | rfl
 ·obtain⟨n1,n2,n3⟩:=opN1 ho hk ok;exact⟨_,opH1 N hN hk ok r hr hbb,n1,n2,n3⟩
 ·obtain⟨n1,n2,n3⟩:=opN2 ho hk ok;exact⟨_,opH2 N hN hk ok r hr,n1,n2,n3⟩
 ·obtain⟨n1,n2,n3⟩:=opN3 ho hk ok;exact⟨_,opH3 N hN hk ok r hr,n1,n2,n3⟩
 ·obtain⟨n1,n2,n3⟩:=opN4 ho hk ok;exact⟨_,opH4 N hN hk ok r hr,n1,n2,n3⟩
 ·obtain⟨n1,n2,n3⟩:=opN5 ho hk ok;exact⟨_,opH5 N hN hk ok r hr,n1,n2,n3⟩
 ·obtain⟨n1,n2,n3⟩:=opN6 ho hk ok;exact⟨_,opH6 N hN hk ok r hr,n1,n2,n3⟩
 ·obtain⟨n1,n2,n3⟩:=opN7 ho hk ok;exact⟨_,opH7 N hN hk ok r hr,n1,n2,n3⟩
 ·obtain⟨n1,n2,n3⟩:=opN8 ho hk ok;exact⟨_,opH8 N hN hk ok r hr,n1,n2,n3⟩
 ·obtain⟨n1,n2,n3⟩:=opN9 ho hk ok;exact⟨_,opH9 N hN hk ok r hr,n1,n2,n3⟩
 ·obtain⟨n1,n2,n3⟩:=opN10 ho hk ok;exact⟨_,opH10 N hN hk ok r hr,n1,n2,n3⟩
theorem opTot(N:Nat)(hN:20 < N)(b:List Int)(e:Int)(hb:aJ b):nJ N b e:=by
 obtain⟨b0,e0,a0,q0,s0,l0,f0⟩:=(bM N hN 1 (by decide) (by decide)).tot b e hb;by_cases h:1<=a0/\a0<=10
 ·obtain⟨k,rfl⟩:=cf (show 0<=a0 by omega)
  rcases tens (k:=k) (by omega) (by omega) with rfl | rfl | rfl | rfl | rfl | rfl | rfl | rfl | rfl | rfl
  ·exact opT1 N hN b e q0 s0 l0 f0
  ·exact opT2 N hN b e q0 s0 l0 f0
  ·exact opT3 N hN b e q0 s0 l0 f0
  ·exact opT4 N hN b e q0 s0 l0 f0
  ·exact opT5 N hN b e q0 s0 l0 f0
  ·exact opT6 N hN b e q0 s0 l0 f0
  ·exact opT7 N hN b e q0 s0 l0 f0
  ·exact opT8 N hN b e q0 s0 l0 f0
  ·exact opT9 N hN b e q0 s0 l0 f0
  ·exact opT10 N hN b e q0 s0 l0 f0
 ·unfold nJ aH;have f:∀j:Int,1<=j->j<=10->(a0==j)=false:=λj _ _=>by rw[beq_eq_false_iff_ne];omega
  rw[show aB N 1 (aA.mk b e true)=_ from q0,aa,f 1 (by decide) (by decide),f 2 (by decide) (by decide),f 3 (by decide) (by decide),f 4 (by decide) (by decide),f 5 (by decide) (by decide),f 6 (by decide) (by decide),f 7 (by decide) (by decide),f 8 (by decide) (by decide),f 9 (by decide) (by decide),f 10 (by decide) (by decide)]
  simp only[cond_false,aa]
  rw[oI,aa]
  obtain⟨err,g1,g2⟩:=xW b0 e0 (aF.mk a0 0 [] zIn 0 zVw 0 0 0 0 0) false;exact⟨_,_,_,err,g1,s0,l0,λz=>absurd (g2 z).2 (by decide)⟩
def sX(l:List aF):Prop:=∀o∈l,gO o/\O64 o
def lB(l:List aF):List Int:=l.flatMap opB
theorem aIA(a b:List aF):lB (a++b)=lB a++lB b:=by unfold lB;rw[List.flatMap_append]
theorem aHz(o:aF):lB [o]=opB o:=by unfold lB;simp
theorem sX.snoc{l:List aF}{o:aF}(h:sX l)(g:gO o)(ho:O64 o):sX (l++[o]):=λx hx=>by
 rcases List.mem_append.1 hx with h1 | h1
 ·exact h x h1
 ·rw[List.mem_singleton] at h1;rw[h1];exact⟨g,ho⟩
theorem aCp{o:aF}(g:gO o):0 < (opB o).length:=by
 obtain⟨h1,h2,_⟩:=g;obtain⟨k,hk,k1,k2⟩:=aFC (o:=o) (by omega)
 have hk2:o.gE.toNat=k:=by rw[hk];rfl
 have:∀f l,fO o k=f :: l->f.w=1->0 < (opB o).length:=λf l e hw=>by
  unfold opB bB Fld.b;rw[hk2,e,List.flatMap_cons,ax,ax,lJ,hw]
  omega
 rcases tens k1 k2 with rfl | rfl | rfl | rfl | rfl | rfl | rfl | rfl | rfl | rfl <;> exact this _ _ rfl rfl
theorem aFa(N:Nat)(b:List Int):eK N (aA.mk b 0 true)=some (b.length:Int):=rfl
def DecR(a:List Int):Sum (List aF×aA) (List aF×Int×Int)->Prop
 | .inl r=>sX r.1/\r.1.length<=256/\a=lB r.1
 | .inr r=>sX r.1/\r.1.length<=256/\(∃n:Nat,r.2.1=(n:Int)/\n<=a.length/\a.take n=lB r.1)/\r.2.2≠0
theorem decL(N:Nat)(hN:20 < N){a:List Int}(ha:a.length<=65536):∀(k:Nat) (s:List aF) (b:List Int),aJ b->b.length < k->s.length<=256->sX s->a=lB s++b->∃R,cR N a k s b 0 true=some R/\DecR a R
 | 0,_,_,_,h,_,_,_=>by omega
 | k+1,s,b,hb,hk,hs,hg,e=>by
  have hl:a.length=(lB s).length+b.length:=by rw[e,ax]
  rw[cR,aFa,aa]
  by_cases c:0 < b.length
  ·rw[dt (show(b.length:Int) > 0 by omega),cond_true,aa,bW,bW]
   have hat:I64 ((a.length:Int) - (b.length:Int))=(((lB s).length:Nat):Int):=by rw[kN (by omega) (by omega)];omega
   have told:∀err:Int,err≠0->DecR a (.inr (s,I64 ((a.length:Int) - (b.length:Int)),err)):=λerr h=>by
    refine⟨hg,hs,⟨(lB s).length,hat,by omega,?_⟩,h⟩
    rw[e,gy]
   by_cases c2:s.length=256
   ·rw[show((s.length:Int)==256)=true by rw[beq_iff_eq];omega,cond_true]
    exact⟨_,rfl,told 3 (by decide)⟩
   ·rw[show((s.length:Int)==256)=false by rw[beq_eq_false_iff_ne];omega,cond_false]
    obtain⟨b',e',o,err,h1,h2,h3,h4⟩:=opTot N hN b 0 hb;rw[h1,aa]
    by_cases c3:err=0
    ·obtain⟨g1,g2,g3,g4,g5⟩:=h4 c3;have hp:=aCp g4;have hl2:b.length=(opB o).length+b'.length:=by rw[g3,ax]
     rw[show(((aA.mk b' e' true,o,err):aA×aF×Int).2.2 != 0)=false by simpa using c3,cond_false,nU (by simp;omega),aa]
     subst g1;exact decL N hN ha k (s++[o]) b' h2 (by omega) (by simp;omega) (hg.snoc g4 g5) (by rw[aIA,aHz,af,<- g3];exact e)
    ·rw[show(((aA.mk b' e' true,o,err):aA×aF×Int).2.2 != 0)=true by simpa using c3,cond_true]
     exact⟨_,rfl,told err c3⟩
  ·rw[df (show ¬(b.length:Int) > 0 by omega),cond_false]
   have:b=[]:=List.eq_nil_of_length_eq_zero (by omega)
   subst this;exact⟨_,rfl,hg,hs,by rw[e,bd]⟩
theorem decT(N:Nat)(hN:70000 < N){b:List Int}(hb:aJ b)(hl:b.length<=65536):∃m n e,dD N b=some (m,((n:Nat):Int),e)/\sX m/\m.length<=256/\n<=b.length/\b.take n=lB m/\(e=0->n=b.length):=by
 obtain⟨R,h1,h2⟩:=decL N (by omega) hl N [] b hb (by omega) (by simp) (λo h=>by cases h) rfl;unfold dD lU;rw[bW,df (by omega),cond_false,aB8 N b (by omega),aa,aa,h1,aa]
 cases R with
 | inl r=>exact⟨r.1,b.length,0,rfl,h2.1,h2.2.1,ba _,by rw[List.take_length];exact h2.2.2,λ_=>rfl⟩
 | inr r=>
  obtain⟨g1,g2,⟨n,e1,e2,e3⟩,g4⟩:=h2;exact⟨r.1,n,r.2.2,by rw[<- e1];rfl,g1,g2,e2,e3,λz=>absurd z g4⟩
theorem aEN{o:aF}(h:aJ o.gL):aJ (opB o):=by
 unfold opB;refine aJ.app (aK _) ?_;unfold tO;split
 ·exact h
 ·exact vE
theorem aF1{l:List aF}(h:∀o∈l,aJ o.gL):aJ (lB l):=by
 intro x hx;unfold lB at hx;obtain⟨o,h1,h2⟩:=gp.1 hx;exact aEN (h o h1) x h2
theorem decH(N:Nat)(hN:20 < N)(a:List Int):∀(l:List aF) (k:Nat) (s:List aF),sX l->(∀o∈l,aJ o.gL)->l.length < k->s.length+l.length<=256->∃m,cR N a k s (lB l) 0 true=some (.inl (s++m,aA.mk [] 0 true))/\m.length=l.length/\sX m/\lB m=lB l
 | _,0,_,_,_,h,_=>by omega
 | [],k+1,s,_,_,_,_=>by
  refine⟨[],?_,rfl,λo h=>(by cases h),rfl⟩
  rw[cR,show lB []=[] from rfl,aFa,aa,show(decide ((([]:List Int).length:Int) > 0))=false from rfl,cond_false,bd]
 | o :: l,k+1,s,hg,hbb,hk,hs=>by
  have e0:lB (o :: l)=opB o++lB l:=rfl;have hp:=aCp (hg o (by simp)).1;have hl:(lB (o :: l)).length=(opB o).length+(lB l).length:=by rw[e0,ax]
  simp only[aq] at hk hs;rw[cR,aFa,aa,dt (show((lB (o :: l)).length:Int) > 0 by omega),cond_true,aa,bW,bW,show((s.length:Int)==256)=false by rw[beq_eq_false_iff_ne];omega,cond_false]
  obtain⟨o',h1,h2,h3,h4⟩:=opHit N hN (hg o (by simp)).2 (hg o (by simp)).1 (hbb o (by simp)) (lB l) (aF1 λx hx=>hbb x (by simp[hx]))
  rw[e0,h1,aa,show(((aA.mk (lB l) 0 true,o',(0:Int)):aA×aF×Int).2.2 != 0)=false from rfl,cond_false,nU (by simp;omega),aa]
  obtain⟨m,g1,g2,g3,g4⟩:=decH N hN a l k (s++[o']) (λx hx=>hg x (by simp[hx])) (λx hx=>hbb x (by simp[hx])) (by omega) (by simp;omega)
  refine⟨o' :: m,?_,by simp[g2],λx hx=>?_,?_⟩
  ·show cR N a k (s++[o']) (lB l) 0 true=_;rw[g1,af];rfl
  ·rcases bq.1 hx with rfl | hx
   ·exact⟨h2,h3⟩
   ·exact g3 x hx
  ·show opB o'++lB m=opB o++lB l;rw[h4,g4]
theorem decB(N:Nat)(hN:1000 < N){l:List aF}(hg:sX l)(hbb:∀o∈l,aJ o.gL)(hl:l.length<=256)(hb:(lB l).length<=65536):∃m,dD N (lB l)=some (m,((lB l).length:Int),0)/\m.length=l.length/\sX m/\lB m=lB l:=by
 obtain⟨m,h1,h2,h3,h4⟩:=decH N (by omega) (lB l) l N [] hg hbb (by omega) (by simp;omega)
 unfold dD lU;rw[bW,df (by omega),cond_false,aB8 N _ (by omega),aa,aa,h1,aa]
 exact⟨m,rfl,h2,h3,h4⟩
theorem opOne(N:Nat)(hN:1000 < N){o:aF}(ho:O64 o):(gO o/\(opB o).length<=66535/\aM N [] o 0=some (opB o,0))\/(¬gO o/\∃s,aM N [] o 0=some (s,2)):=by
 by_cases hk:o.gE < 1\/10 < o.gE
 ·obtain⟨r,e,h⟩:=opCn _ hN ho hk;refine .inr ⟨λg=>?_,r.1,by rw[e,<- h]⟩
  have:=g.1;have:=g.2.1;omega
 ·obtain⟨k,h1,h2,h3⟩:=aFC hk;have hk2:o.gE.toNat=k:=by rw[h1];rfl
  obtain⟨r,e,q,w,rfl⟩:=opCk _ hN ho h1 h2 h3;by_cases ok:okL (fO o k)=true
  ·have hw:=w.len;have ht:=aID ok;have w1:=w.good rfl ok;refine .inl ⟨⟨by omega,by omega,by rw[hk2];exact ok⟩,?_,?_⟩
   ·rw[w1] at hw;simp only[ew,List.length_nil] at hw;unfold opB;rw[hk2,ax]
    omega
   ·rw[e,w1];unfold opB;rw[hk2];rfl
  ·refine .inr ⟨λg=>ok (by have:=g.2.2;rw[hk2] at this;exact this),q.1++tO o k,?_⟩
   rw[e]
   have:q.2=2:=(w.dom (.inl rfl)).resolve_left (w.bad λc=>ok c.2)
   rw[this]
theorem enL(N:Nat)(hN:1000 < N){l:List aF}(hl:l.length<=256)(ho:∀o∈l,O64 o):∀(k i:Nat) (s:List Int),s.length<=66535*i->i<=l.length->l.length - i < k->(cO N l k s (i:Int)=some (.inl (s++lB (l.drop i)))/\sX (l.drop i))\/(cO N l k s (i:Int)=some (.inr ([],2))/\¬sX (l.drop i))
 | 0,_,_,_,_,h=>by omega
 | k+1,i,s,hs,hi,hk=>by
  rw[cO,bW]
  by_cases c:i < l.length
  ·have hx:=ho _ (bx c)
   have hd:l.drop i=l[i] :: l.drop (i+1):=bp c;rw[dt (by omega),cond_true,oJ c,aa,hd]
   rcases opOne N hN hx with ⟨g,h2,h3⟩ | ⟨g,r,h3⟩
   ·rw[h3,aa,show(((opB l[i],(0:Int)):List Int×Int).2 != 0)=false from rfl,cond_false,aEa (by dsimp only;omega),aa,tG (by omega)]
    rcases enL N hN hl ho k (i+1) (s++opB l[i]) (by rw[ax];omega) (by omega) (by omega) with ⟨h4,h5⟩ | ⟨h4,h5⟩
    ·left;refine⟨?_,λx hx'=>?_⟩
     ·show cO N l k (s++opB l[i]) ((i+1:Nat):Int)=_;rw[h4,af];rfl
     ·rcases bq.1 hx' with rfl | hx'
      ·exact⟨g,hx⟩
      ·exact h5 x hx'
    ·exact .inr ⟨h4,λq=>h5 λx hx'=>q x (List.mem_cons_of_mem _ hx')⟩
   ·right;rw[h3,aa,show(((r,(2:Int)):List Int×Int).2 != 0)=true from rfl,cond_true]
    exact⟨rfl,λq=>g (q _ List.mem_cons_self).1⟩
  ·left;rw[df (by omega),cond_false,cr (by omega),show lB []=[] from rfl,bd]
   exact⟨rfl,λo h=>by cases h⟩
theorem enc(N:Nat)(hN:1000 < N){l:List aF}(hl:l.length<=256)(ho:∀o∈l,O64 o):(sX l/\(lB l).length<=65536/\cT N l=some (lB l,0))\/((sX l->65536 < (lB l).length)/\∃e,e≠0/\cT N l=some ([],e)):=by
 unfold cT;rw[bW,df (by omega),cond_false]
 rcases enL N hN hl ho N 0 [] (by simp) (by omega) (by omega) with ⟨h1,h2⟩ | ⟨h1,h2⟩
 ·rw[d8] at h1 h2;rw[show cO N l N [] 0=_ from h1,aa,ew,sumL,bW]
  by_cases c:65536 < (lB l).length
  ·rw[dt (by omega),cond_true]
   exact .inr ⟨λ_=>c,3,by decide,rfl⟩
  ·rw[df (by omega),cond_false]
   exact .inl ⟨h2,by omega,rfl⟩
 ·rw[d8] at h2;rw[show cO N l N [] 0=_ from h1,aa]
  exact .inr ⟨λq=>absurd q h2,2,by decide,rfl⟩
set_option maxHeartbeats 4000000
theorem eqBB(N:Nat)(x:List Int):fZ N x x=some true:=by
 unfold fZ;rw[beq_self_eq_true]
 rfl
theorem fewB(N:Nat)(b:List Int):iE N b=some (b.take 9000):=by
 unfold iE;rw[bW,show nD b 0 (aAX (b.length:Int) 9000)=some (b.take 9000) from aBC _ 9000]
 rfl
theorem aBA(N:Nat)(hN:70000 < N)(hw:eN N=some true)(l:List aF)(ho:∀o∈l,O64 o)(hbb:∀o∈l,aJ o.gL)(b:List Int)(hb:aJ b):eW N l b=some true:=by
 unfold eW;rw[bW,show nD l 0 (aAX (l.length:Int) 60)=some (l.take 60) from aBC _ 60,aa,fewB,aa]
 have hl:(l.take 60).length<=60:=by rw[c9];omega
 have ho:∀o∈l.take 60,O64 o:=λo h=>ho o (c8 h)
 have hbb:∀o∈l.take 60,aJ o.gL:=λo h=>hbb o (c8 h)
 generalize l.take 60=s at *;have part1:(ae (cT N s) λr5=>
   cond (r5.2==0) (
    ae (dD N r5.1) λr6=>
    ae (cT N r6.1) λr7=>
    ae (cB (r6.2.1 != ((r5.1.length:Int))) λx9=>
    cB (cond (r6.2.2 != 0) true x9) λx10=>
    cB (((r6.1.length:Int)) != ((s.length:Int))) λx11=>
    cB (cond (cond x10 true x11) true (r7.2 != 0)) λx12=>
    cond x12 (
     some true) (
     ae (fZ N r5.1 r7.1) λr13=>
     some (!r13))) λp8=>
    cond p8 (some (Sum.inr false)) (some (Sum.inl (())))) (
    some (Sum.inl (()))))=some (Sum.inl ():Sum Unit Bool):=by
  rcases enc N (by omega) (by omega) ho with ⟨g1,g2,g3⟩ | ⟨_,e,g2,g3⟩
  ·obtain⟨m,h1,h2,h3,h4⟩:=decB N (by omega) g1 hbb (by omega) g2;rcases enc N (by omega) (l:=m) (by omega) (λo h=>(h3 o h).2) with ⟨_,_,k3⟩ | ⟨k1,_⟩
   ·rw[g3,aa,show(((lB s,(0:Int)):List Int×Int).2==0)=true from rfl,cond_true,h1,aa,show cT N m=_ from k3,aa]
    dsimp only;rw[h4,eqBB,h2]
    simp[bW]
   ·have:=k1 h3;rw[h4] at this;omega
  ·rw[g3,aa,show((([],e):List Int×Int).2==0)=false by simpa using g2,cond_false]
 rw[part1,aa,sumL]
 have hb':=hb.take 9000;have hl':(b.take 9000).length<=9000:=by rw[c9];omega
 generalize b.take 9000=b' at *;obtain⟨m,n,e,h1,h2,h3,h4,h5,h6⟩:=decT N hN hb' (by omega)
 rw[h1,aa,hw]
 have hle:(lB m).length<=65536:=by rw[<- h5,c9];omega
 rcases enc N (by omega) h3 (λo h=>(h2 o h).2) with ⟨_,_,k3⟩ | ⟨k1,_⟩
 ·rw[bW,bW]
  cases hc:(cond (((m,((n:Nat):Int),e):List aF×Int×Int).2.2==3) (((m.length:Int))==0) false) with
  | true=>rw[cond_true];rfl
  | false=>
   rw[cond_false]
   dsimp only;rw[df (show ¬(n:Int) > (b'.length:Int) by omega),bW,df (show ¬(n:Int) < 0 by omega),cond_false,bW,cond_false,bW]
   have h7:cond (e==0) ((n:Int) != (b'.length:Int)) false=false:=by
    by_cases c:e=0
    ·rw[h6 c];simp
    ·rw[show(e==0)=false by simpa using c];rfl
   rw[h7,bW,aa,cond_false,k3,aa,show(((lB m,(0:Int)):List Int×Int).2==0)=true from rfl,cond_true,vD (n:=n) h4,aa,h5]
   dsimp only;rw[eqBB]
   rfl
 ·have:=k1 h2;omega
end Go.UK
