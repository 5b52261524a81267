/- A part of the proof: what the functions of the program compute. -/
import Derived.Test.YtghnafefpogjjaaGreatAJ2
import Derived.Test.YtghnafefpogjjaaGreatJ1
open Int renaming add_mul_ediv_left→gj,add_mul_emod_self_left→iy,ediv_eq_zero_of_lt→ji,ediv_le_self→je,ediv_lt_iff_lt_mul→fe,ediv_nonneg→cu,emod_eq_of_lt→i5,emod_lt_of_pos→cw,emod_nonneg→cz,eq_ofNat_of_zero_le→bh,le_of_lt→cj,mul_comm→dk,mul_ediv_add_emod→cq,mul_le_mul→gs,mul_le_mul_of_nonneg_right→co,mul_lt_mul_of_pos_right→fq,mul_nonneg→ef,ne_of_gt→d6,neg_neg→lm,one_mul→lr,pow_add→ke,pow_pos→f6,tdiv→bo,tdiv_eq_ediv_of_nonneg→em,zero_add→gw
open Nat renaming div_div_eq_div_mul→jh,mul_le_mul_left→kc,pow_add→ir,pow_lt_pow_right→jz
open Option renaming bind→aa,bind_some→ae
namespace Go.UK
open Go Go.Proofs
set_option maxRecDepth 20000
set_option linter.all false
theorem aSu(N:Nat){a b:Int}(ha:0<=a)(ha':a < 18446744073709551616)(hb:0<=b)(hb':b < 18446744073709551616) :
  kV N a b=some (a*b / 18446744073709551616,a*b % 18446744073709551616):=by
 unfold kV;simp only[aR,aHQ ha ha',aHQ hb hb',aGu,aHQ (aBD _) (aCj _)]
 simp only[aDX]
 generalize hA1:a / 4294967296=A1;generalize hA0:a % 4294967296=A0;generalize hB1:b / 4294967296=B1;generalize hB0:b % 4294967296=B0;have ea:a=A1*4294967296+A0:=by omega
 have eb:b=B1*4294967296+B0:=by omega
 have hp:a*b=(A1*B1)*18446744073709551616+(A1*B0+A0*B1)*4294967296+A0*B0:=by
  rw[ea,eb];grind
 rw[hp]
 obtain⟨x1,y1⟩:=aE8 (a:=A1) (b:=B1) (by omega) (by omega) (by omega) (by omega)
 obtain⟨x2,y2⟩:=aE8 (a:=A1) (b:=B0) (by omega) (by omega) (by omega) (by omega)
 obtain⟨x3,y3⟩:=aE8 (a:=A0) (b:=B1) (by omega) (by omega) (by omega) (by omega)
 obtain⟨x4,y4⟩:=aE8 (a:=A0) (b:=B0) (by omega) (by omega) (by omega) (by omega)
 clear hp ea eb;generalize A1*B1=p at *;generalize A1*B0=q at *;generalize A0*B1=r at *;generalize A0*B0=s at *;congr 2;omega
theorem aOx(i:Nat)(h:i < 256):∃b:UInt8,aNB.data.toList[i]? = some b/\b.toNat<=8/\i < 2 ^ b.toNat/\(0 < i->1<=b.toNat/\2 ^ (b.toNat - 1)<=i):=by
 have key:∀i:Fin 256,(match aNB.data.toList[i.val]? with | some b=>decide (b.toNat<=8)&&decide (i.val < 2 ^ b.toNat)&&(decide (i.val=0)||(decide (1<=b.toNat)&&decide (2 ^ (b.toNat - 1)<=i.val))) | none=>false)=true:=by decide
 have:=key ⟨i,h⟩
 simp only at this;split at this
 ·rename_i b hb;simp only[Bool.and_eq_true,Bool.or_eq_true,decide_eq_true_eq] at this;exact⟨b,hb,this.1.1,this.1.2,λhi=>by rcases this.2 with h | h;omega;exact h⟩
 ·cases this
theorem len64(N:Nat){a:Int}(ha:0 < a)(ha':a < 18446744073709551616) :
  ∃n:Nat,pO N a=some (n:Int)/\1<=n/\n<=64/\(2:Int) ^ (n - 1)<=a/\a < (2:Int) ^ n:=by
 obtain⟨A,rfl⟩:=bh (cj ha)
 unfold pO;simp only[aR,aGu,aS9,shr8u]
 -- the three steps
 obtain⟨y1,n1,e1,h1,h1'⟩:∃(y n:Nat),(cond (decide ((A:Int)>=4294967296)) (some ((A:Int) / 4294967296,(32:Int))) (some ((A:Int),0)))=some ((y:Int),(n:Int))/\y < 4294967296/\(A / 2 ^ n=y/\0 < y/\(n=0\/n=32)):=by
  by_cases hc:(A:Int)>=4294967296
  ·exact⟨A / 4294967296,32,by simp[hc],by omega,rfl,by omega,.inr rfl⟩
  ·exact⟨A,0,by simp[hc],by omega,by simp,by omega,.inl rfl⟩
 rw[e1]
 simp only[ae]
 obtain⟨y2,n2,e2,h2,h2'⟩:∃(y n:Nat),(cond (decide ((y1:Int)>=65536)) (some ((y1:Int) / 65536,I64 ((n1:Int)+16))) (some ((y1:Int),(n1:Int))))=some ((y:Int),(n:Int))/\y < 65536/\(A / 2 ^ n=y/\0 < y/\n<=48):=by
  by_cases hc:(y1:Int)>=65536
  ·refine⟨y1 / 65536,n1+16,?_,by omega,?_,by omega,by omega⟩
   ·simp only[hc,decide_true,cond_true]
    rw[bC (by omega) (by omega)]
    rfl
   ·rw[ir,<- jh,h1'.1]
  ·exact⟨y1,n1,by simp[hc],by omega,h1'.1,h1'.2.1,by omega⟩
 rw[e2]
 simp only[ae]
 obtain⟨y3,n3,e3,h3,h3'⟩:∃(y n:Nat),(cond (decide ((y2:Int)>=256)) (some ((y2:Int) / 256,I64 ((n2:Int)+8))) (some ((y2:Int),(n2:Int))))=some ((y:Int),(n:Int))/\y < 256/\(A / 2 ^ n=y/\0 < y/\n<=56):=by
  by_cases hc:(y2:Int)>=256
  ·refine⟨y2 / 256,n2+8,?_,by omega,?_,by omega,by omega⟩
   ·simp only[hc,decide_true,cond_true]
    rw[bC (by omega) (by omega)]
    rfl
   ·rw[ir,<- jh,h2'.1]
  ·exact⟨y2,n2,by simp[hc],by omega,h2'.1,h2'.2.1,by omega⟩
 rw[e3]
 simp only[ae]
 obtain⟨b,g1,g2,g3,g4⟩:=aOx y3 h3;obtain⟨g5,g6⟩:=g4 h3'.2.1;have hidx:idx aNB.data.toList (U8 (y3:Int))=some b:=by
  have:U8 (y3:Int)=(y3:Int):=by
   rw[show U8 (y3:Int)=(y3:Int) % 256 from IntKind.wrap_u8 _]
   omega
  rw[this]
  unfold idx;simp[g1]
 rw[hidx]
 simp only[ae]
 refine⟨n3+b.toNat,?_,by omega,by omega,?_,?_⟩
 ·rw[bC (x:=(b.toNat:Int)) (by omega) (by omega),bC (by omega) (by omega)]
  rfl
 ·have e:n3+b.toNat - 1=n3+(b.toNat - 1):=by omega
  have:2 ^ (n3+b.toNat - 1)<=A:=by
   rw[e,ir]
   calc 2 ^ n3*2 ^ (b.toNat - 1)<=2 ^ n3*y3:=kc _ g6
    _=2 ^ n3*(A / 2 ^ n3):=by rw[h3'.1]
    _<=A:=Nat.mul_div_le A _
  exact_mod_cast this
 ·have:A < 2 ^ (n3+b.toNat):=by
   rw[ir]
   have:=Nat.lt_mul_div_succ A (Nat.two_pow_pos n3)
   rw[h3'.1] at this
   calc A < 2 ^ n3*(y3+1):=this
    _<=2 ^ n3*2 ^ b.toNat:=kc _ (by omega)
  exact_mod_cast this
theorem aJS(N:Nat){l y:Int}(hy:0 < y)(hl:0<=l)(hl':l < 18446744073709551616):jJ N 0 l y=some (l / y,l % y):=by
 unfold jJ;have e1:(y==0)=false:=by simp;omega
 have e2:decide (y<=0)=false:=by simp;omega
 rw[e1,e2]
 simp only[cond_false,beq_self_eq_true,cond_true,aR]
 rw[aDF _ (by omega),aNI _ (by omega)]
 simp only[ae]
 rw[show IntKind.u64.wrap (l.tdiv y)=U64 (l.tdiv y) from rfl,em hl,Int.tmod_eq_emod_of_nonneg hl]
 rw[mY (cu hl (cj hy)) (by have:=je y hl;omega)]
theorem aTI(N:Nat){H D Y y1 y0:Int}(R:aCJ H D Y y1 y0)(x5 s14 s15 s16:Int)(h6:s14=y1)(h8:x5=y0)(h13:s16=D)(k:Nat)(q r:Int)(hq:q*y1+r=H)(hr:0<=r)(hr':r < 4294967296)(hge:(H*4294967296+D) / Y<=q)(hle:q<=4294967297)(hk:q - (H*4294967296+D) / Y < k) :
  mF N x5 k s14 s15 s16 q r=some (s14,s15,s16,(H*4294967296+D) / Y):=by
 subst s14 x5 s16
 induction k generalizing q r with
 | zero=>simp at hk;omega
 | succ k ih=>
  obtain⟨b1,b2⟩:=R.q_lt;have ht:=R.test hq;unfold mF;simp only[aR]
  have hy1:=R.y1l;have hy1':=R.y1h;have hy0:=R.y0l;have hy0':=R.y0h;have hD:=R.Dl;have hD':=R.Dh;have e1:U64 (U64 (4294967296*r)+D)=4294967296*r+D:=by rw[mY (x:=4294967296*r) (by omega) (by omega),mY (by omega) (by omega)]
  rw[e1]
  have htest:cond (decide (q>=4294967296)) true (decide (U64 (q*y0) > 4294967296*r+D))=decide ((H*4294967296+D) / Y < q):=by
   by_cases hc:q>=4294967296
   ·rw[show decide (q>=4294967296)=true by simpa using hc,cond_true]
    symm;simp;omega
   ·rw[show decide (q>=4294967296)=false by simpa using hc,cond_false]
    obtain⟨m1,m2⟩:=aE8 (a:=q) (b:=y0) (by omega) (by omega) hy0 hy0';rw[mY m1 (by omega)]
    simp only[decide_eq_decide]
    exact ht
  rw[htest]
  by_cases hc:(H*4294967296+D) / Y < q
  ·rw[show decide ((H*4294967296+D) / Y < q)=true by simpa using hc,cond_true]
   have e2:U64 (r+y1)=r+y1:=mY (by omega) (by omega)
   have e3:U64 (q - 1)=q - 1:=mY (by omega) (by omega)
   rw[e2,e3]
   have hq':(q - 1)*y1+(r+y1)=H:=by rw[<- hq];grind
   by_cases hx:r+y1>=4294967296
   ·rw[show decide (r+y1>=4294967296)=true by simpa using hx,cond_true]
    have ht':=R.test hq';have hnot:¬((q - 1)*y0 > 4294967296*(r+y1)+D):=by
     have:(q - 1)*y0<=4294967296*4294967295:=gs (by omega) (by omega) hy0 (by omega)
     omega
    have:¬(H*4294967296+D) / Y < q - 1:=λh'=>hnot (ht'.2 h')
    rw[show(H*4294967296+D) / Y=q - 1 by omega]
   ·rw[show decide (r+y1>=4294967296)=false by simpa using hx,cond_false]
    have hh:=ih (q - 1) (r+y1) hq' (by omega) (by omega) (by omega) (by omega) (by omega)
    exact hh
  ·rw[show decide ((H*4294967296+D) / Y < q)=false by simpa using hc,cond_false]
   rw[show(H*4294967296+D) / Y=q by omega]
theorem aTh(N:Nat){H D Y y1 y0:Int}(R:aCJ H D Y y1 y0)(x5 x9:Int)(p13:Int×Int×Int×Int)(h6:p13.1=y1)(h8:x5=y0)(h15:x9=D)(k:Nat)(q r:Int)(hq:q*y1+r=H)(hr:0<=r)(hr':r < 4294967296)(hge:(H*4294967296+D) / Y<=q)(hle:q<=4294967297)(hk:q - (H*4294967296+D) / Y < k) :
  mJ N x9 x5 p13 k r q=some ((H*4294967296+D) / Y):=by
 subst x5 x9
 induction k generalizing q r with
 | zero=>simp at hk;omega
 | succ k ih=>
  obtain⟨b1,b2⟩:=R.q_lt;have ht:=R.test hq;unfold mJ;simp only[aR]
  rw[h6]
  have hy1:=R.y1l;have hy1':=R.y1h;have hy0:=R.y0l;have hy0':=R.y0h;have hD:=R.Dl;have hD':=R.Dh;have e1:U64 (U64 (4294967296*r)+D)=4294967296*r+D:=by rw[mY (x:=4294967296*r) (by omega) (by omega),mY (by omega) (by omega)]
  rw[e1]
  have htest:cond (decide (q>=4294967296)) true (decide (U64 (q*y0) > 4294967296*r+D))=decide ((H*4294967296+D) / Y < q):=by
   by_cases hc:q>=4294967296
   ·rw[show decide (q>=4294967296)=true by simpa using hc,cond_true]
    symm;simp;omega
   ·rw[show decide (q>=4294967296)=false by simpa using hc,cond_false]
    obtain⟨m1,m2⟩:=aE8 (a:=q) (b:=y0) (by omega) (by omega) hy0 hy0';rw[mY m1 (by omega)]
    simp only[decide_eq_decide]
    exact ht
  rw[htest]
  by_cases hc:(H*4294967296+D) / Y < q
  ·rw[show decide ((H*4294967296+D) / Y < q)=true by simpa using hc,cond_true]
   have e2:U64 (r+y1)=r+y1:=mY (by omega) (by omega)
   have e3:U64 (q - 1)=q - 1:=mY (by omega) (by omega)
   rw[e2,e3]
   have hq':(q - 1)*y1+(r+y1)=H:=by rw[<- hq];grind
   by_cases hx:r+y1>=4294967296
   ·rw[show decide (r+y1>=4294967296)=true by simpa using hx,cond_true]
    have ht':=R.test hq';have hnot:¬((q - 1)*y0 > 4294967296*(r+y1)+D):=by
     have:(q - 1)*y0<=4294967296*4294967295:=gs (by omega) (by omega) hy0 (by omega)
     omega
    have:¬(H*4294967296+D) / Y < q - 1:=λh'=>hnot (ht'.2 h')
    congr 1;omega
   ·rw[show decide (r+y1>=4294967296)=false by simpa using hx,cond_false]
    have hh:=ih (q - 1) (r+y1) hq' (by omega) (by omega) (by omega) (by omega) (by omega)
    exact hh
  ·rw[show decide ((H*4294967296+D) / Y < q)=false by simpa using hc,cond_false]
   congr 1;omega
def S64(z:Int):Int:=if z < -9223372036854775808 then -9223372036854775808 else if 9223372036854775807 < z then 9223372036854775807 else z
theorem eH(z:Int):cJ (S64 z):=by unfold S64 cJ;(repeat' split) <;> omega
theorem rA{z:Int}(h:cJ z):S64 z=z:=by unfold S64;obtain⟨h1,h2⟩:=h;rw[if_neg (by omega),if_neg (by omega)]
theorem ix0(a b:Int):idx [a,b] 0=some a:=rfl
theorem ix1(a b:Int):idx [a,b] 1=some b:=rfl
theorem aHs{s e:Int}(hs:cJ s)(he:cJ e) :
  (aU (cond (decide (s > 0)) (decide (e > 0)) false) λx7=>aU (decide ((I64 (s+e)) < 0)) λx8=>cond (cond x7 x8 false) (some (9223372036854775807:Int)) (
    aU (cond (decide (s < 0)) (decide (e < 0)) false) λx9=>aU (decide ((I64 (s+e))>=0)) λx10=>cond (cond x9 x10 false) (some (-9223372036854775808)) (some (I64 (s+e)))))=some (S64 (s+e)):=by
 simp only[aR]
 obtain⟨h1,h2⟩:=hs;obtain⟨h3,h4⟩:=he;by_cases a1:s > 0
 ·rw[dt a1,df (show ¬s < 0 by omega)]
  simp only[cond_true,cond_false]
  by_cases a2:e > 0
  ·rw[dt a2]
   simp only[cond_true]
   by_cases a3:9223372036854775807 < s+e
   ·rw[dt (show I64 (s+e) < 0 by rw[xE];omega),cond_true]
    unfold S64;rw[if_neg (by omega),if_pos a3]
   ·rw[bC (by omega) (by omega),df (show ¬s+e < 0 by omega),cond_false]
    rw[rA ⟨by omega,by omega⟩]
  ·rw[df a2,cond_false,bC (by omega) (by omega),rA ⟨by omega,by omega⟩];rfl
 ·rw[df a1]
  simp only[cond_false]
  by_cases a2:s < 0
  ·rw[dt a2]
   simp only[cond_true]
   by_cases a3:e < 0
   ·rw[dt a3]
    simp only[cond_true]
    by_cases a4:s+e < -9223372036854775808
    ·rw[dt (show I64 (s+e)>=0 by rw[xE];omega),cond_true]
     unfold S64;rw[if_pos a4]
    ·rw[bC (by omega) (by omega),df (show ¬s+e>=0 by omega),cond_false]
     rw[rA ⟨by omega,by omega⟩]
   ·rw[df a3,cond_false,bC (by omega) (by omega),rA ⟨by omega,by omega⟩];rfl
  ·rw[df a2,cond_false,bC (by omega) (by omega),rA ⟨by omega,by omega⟩];rfl
theorem aAw(k:Nat){a b:Int}(ha:cJ a)(hb:cJ b):kF (k+3) [a,b]=some (S64 (a+b)):=by
 unfold kF;have l2:(([a,b]:List Int).length:Int)=2:=rfl;rw[nQ,aR,l2,dt (show(0:Int) < 2 by decide),cond_true,ix0]
 simp only[ae]
 rw[aHs (s:=0) ⟨by decide,by decide⟩ ha]
 simp only[ae]
 rw[show I64 (0+1)=1 by decide,nQ,aR,l2,dt (show(1:Int) < 2 by decide),cond_true,ix1]
 simp only[ae]
 rw[gw,rA ha,aHs ha hb]
 simp only[ae]
 rw[show I64 (1+1)=2 by decide,nQ,aR,l2,df (show ¬(2:Int) < 2 by decide),cond_false]
 rfl
theorem wsz(N:Nat){a:Int}(ha:cJ a):tN N a=some (if a < 0 then -a else a,decide (a < 0)):=by
 obtain⟨h1,h2⟩:=ha;unfold tN;by_cases h:a < 0
 ·rw[dt h,cond_true,if_pos h]
  congr 2;rw[aDX,aDX];omega
 ·rw[df h,cond_false,if_neg h,mY (by omega) (by omega)]
theorem aSx{x y c:Int}(hx:0<=x)(hy:0<=y)(hy':y<=18446744073709551615)(hc:0<=c)(hc':c<=1):aDJ x y c=some ((x - y - c) % 18446744073709551616,if x < y+c then 1 else 0):=by
 unfold aDJ;rw[dt hx,dt hy,dt hc,dt hc',dt hy']
 simp only[Bool.and_self,cond_true]
 by_cases h:x < y+c
 ·rw[dt h,if_pos h];rfl
 ·rw[df h,if_neg h];rfl
theorem aGc(N:Nat){h l:Int}(hh:0<=h)(hh':h < 18446744073709551616)(hl:0<=l)(hl':l < 18446744073709551616) :
  ∃h' l',pT N h l=some (h',l')/\0<=h'/\h' < 18446744073709551616/\0<=l'/\l' < 18446744073709551616/\(h'*18446744073709551616+l'=0/\h*18446744073709551616+l=0\/h'*18446744073709551616+l'=340282366920938463463374607431768211456 - (h*18446744073709551616+l)):=by
 unfold pT;rw[aSx (by decide) hl (by omega) (by decide) (by decide)]
 simp only[ae]
 have hc:0<=(if (0:Int) < l+0 then(1:Int) else 0)/\(if (0:Int) < l+0 then(1:Int) else 0)<=1:=by split <;> omega
 rw[aSx (by decide) hh (by omega) hc.1 hc.2]
 simp only[ae]
 refine⟨_,_,rfl,?_⟩
 split <;> omega
abbrev oM(w:aS):Int:=w.gHi*18446744073709551616+w.gLo
def wok(w:aS):Prop:=cJ w.gHi/\0<=w.gLo/\w.gLo < 18446744073709551616
theorem aNR(N:Nat){h l:Int}(m:Bool)(hh:0<=h)(hl:0<=l)(hl':l < 18446744073709551616)(hb:h*18446744073709551616+l<=170141183460469231731687303715884105727) :
  ∃w,kH N h l m=some (w,true)/\wok w/\oM w=cond m (-(h*18446744073709551616+l)) (h*18446744073709551616+l):=by
 unfold kH;cases m with
 | false=>
  simp only[cond_false,ae,aR]
  have hi:I64 h=h:=bC (by omega) (by omega)
  rw[hi,df (show ¬h < 0 by omega)]
  refine⟨⟨h,l⟩,rfl,⟨⟨by show _<=h;omega,by show h<=_;omega⟩,hl,hl'⟩,rfl⟩
 | true=>
  obtain⟨h',l',e,a1,a2,a3,a4,a5⟩:=aGc N (h:=h) (l:=l) hh (by omega) hl hl';rw[e]
  simp only[cond_true,ae,aR]
  have hw:I64 h'*18446744073709551616+l' = -(h*18446744073709551616+l):=by rw[xE];omega
  refine⟨⟨I64 h',l'⟩,?_,⟨⟨aJR _,by have:=aJT h';show I64 h'<=_;omega⟩,a3,a4⟩,hw⟩
  congr 2;by_cases hz:I64 h' < 0
  ·rw[dt hz];rfl
  ·rw[df hz]
   have h0:h'=0/\l'=0:=by rw[xE] at hz hw;omega
   rw[h0.1,h0.2]
   rfl
theorem aRl{x y:Int}(hx:0<=x)(hx':x<=9223372036854775808)(hy:0<=y)(hy':y<=9223372036854775808):0<=x*y/\x*y<=85070591730234615865843651857942052864:=by
 have h1:=ef hx hy;have h2:x*y<=9223372036854775808*9223372036854775808:=gs hx' hy' hy (by omega)
 omega
theorem aHk(N:Nat){a b:Int}(ha:cJ a)(hb:cJ b):∃w,fS N a b=some w/\wok w/\oM w=a*b:=by
 unfold fS;rw[wsz N ha,wsz N hb]
 simp only[ae]
 obtain⟨a1,a2⟩:=ha;obtain⟨b1,b2⟩:=hb;have key:∀(x y:Int) (m:Bool),0<=x->x<=9223372036854775808->0<=y->y<=9223372036854775808->(cond m (-(x*y)) (x*y)=a*b) ->
   ∃w,(aa (kV N x y) λr3=>aa (kH N r3.1 r3.2 m) λr4=>some r4.1)=some w/\wok w/\oM w=a*b:=by
  intro x y m hx hx' hy hy' he;obtain⟨m1,m2⟩:=aRl hx hx' hy hy';rw[aSu N hx (by omega) hy (by omega)]
  simp only[ae]
  obtain⟨w,e1,e2,e3⟩:=aNR N (h:=x*y / 18446744073709551616) (l:=x*y % 18446744073709551616) m (by omega) (by omega) (by omega) (by omega)
  rw[e1]
  refine⟨w,rfl,e2,?_⟩
  rw[e3,<- he]
  have:x*y / 18446744073709551616*18446744073709551616+x*y % 18446744073709551616=x*y:=by omega
  rw[this]
 by_cases s1:a < 0 <;> by_cases s2:b < 0
 ·rw[if_pos s1,if_pos s2,dt s1,dt s2]
  exact key (-a) (-b) _ (by omega) (by omega) (by omega) (by omega) (by show -a * -b=_;rw[Int.neg_mul_neg])
 ·rw[if_pos s1,if_neg s2,dt s1,df s2]
  exact key (-a) b _ (by omega) (by omega) (by omega) (by omega) (by show -(-a*b)=_;rw[Int.neg_mul,lm])
 ·rw[if_neg s1,if_pos s2,df s1,dt s2]
  exact key a (-b) _ (by omega) (by omega) (by omega) (by omega) (by show -(a * -b)=_;rw[Int.mul_neg,lm])
 ·rw[if_neg s1,if_neg s2,df s1,df s2]
  exact key a b _ (by omega) (by omega) (by omega) (by omega) rfl
theorem aUY{h l:Int}(hl:0<=l)(hl':l < 18446744073709551616):(h*18446744073709551616+l) / 4294967296=h*4294967296+l / 4294967296:=by omega
theorem wshrA(N:Nat){w:aS}(hw:wok w):∃v,aAi N w 32=some v/\wok v/\oM v=oM w / 4294967296:=by
 obtain⟨⟨h1,h2⟩,h3,h4⟩:=hw;unfold aAi;have e1:jR 32 0=32:=by decide
 simp only[e1,aR]
 rw[df (show ¬(32:Int)>=64 by decide),cond_false,show((32:Int)==0)=false by decide,cond_false]
 simp only[aBq _ (show(0:Int)<=32 by decide),aGi _ (show(0:Int)<=I64 (64 - 32) by decide),ae]
 rw[show I64 (64 - 32)=32 by decide,aPz,aGu,shl32,aQP]
 have hb:bor .u64 (U64 w.gHi*4294967296 % 18446744073709551616) (w.gLo / 4294967296)=U64 w.gHi*4294967296 % 18446744073709551616+w.gLo / 4294967296:=by
  refine aJQ 32 (by omega) (by omega) (by omega) (by omega) (by decide) ?_;have h5:=aBD w.gHi;obtain⟨X,hX⟩:=bh h5;rw[hX]
  exact⟨X % 4294967296,by omega⟩
 rw[hb]
 refine⟨_,rfl,⟨⟨by show _<=w.gHi / 4294967296;omega,by show w.gHi / 4294967296<=_;omega⟩,by show 0<=_+_;omega,by show _+_ < _;omega⟩,?_⟩
 show w.gHi / 4294967296*18446744073709551616+(U64 w.gHi*4294967296 % 18446744073709551616+w.gLo / 4294967296)=(w.gHi*18446744073709551616+w.gLo) / 4294967296;rw[aUY h3 h4,aDX]
 omega
theorem aM4(N:Nat){w:aS}(hw:wok w):tD N w=some (S64 (oM w)):=by
 obtain⟨⟨h1,h2⟩,h3,h4⟩:=hw;unfold tD qB;simp only[aR,aMG]
 by_cases hc:w.gHi=I64 w.gLo / 9223372036854775808
 ·rw[show(w.gHi != I64 w.gLo / 9223372036854775808)=false by simp[bne,hc]]
  simp only[cond_false,ae,cond_true]
  rw[rA]
  ·congr 1;show I64 w.gLo=w.gHi*18446744073709551616+w.gLo;rw[hc];simp only[xE];omega
  ·show cJ (w.gHi*18446744073709551616+w.gLo)
   rw[hc];unfold cJ;simp only[xE];omega
 ·rw[show(w.gHi != I64 w.gLo / 9223372036854775808)=true by simp[bne,hc]]
  simp only[cond_true,ae,cond_false]
  rw[xE] at hc;by_cases hs:w.gHi < 0
  ·rw[dt hs,cond_true]
   unfold S64;rw[if_pos (show w.gHi*18446744073709551616+w.gLo < _ by omega)]
  ·rw[df hs,cond_false]
   unfold S64;rw[if_neg (show ¬w.gHi*18446744073709551616+w.gLo < _ by omega),if_pos (show _ < w.gHi*18446744073709551616+w.gLo by omega)]
theorem aEx(k:Nat){a b:Int}(ha:cJ a)(hb:cJ b):xJ (k+3) [a,b]=some (S64 (a*b / 4294967296)):=by
 unfold xJ;have l2:(([a,b]:List Int).length:Int)=2:=rfl;rw[uC,aR,l2,dt (show(0:Int) < 2 by decide),cond_true,ix0]
 simp only[ae,beq_self_eq_true,cond_true]
 rw[show I64 (0+1)=1 by decide,uC,aR,l2,dt (show(1:Int) < 2 by decide),cond_true,ix1]
 simp only[ae]
 rw[show((1:Int)==0)=false by decide,cond_false]
 obtain⟨w,e1,e2,e3⟩:=aHk (k+3) ha hb;obtain⟨v,f1,f2,f3⟩:=wshrA (k+3) e2;rw[e1]
 simp only[ae]
 rw[f1]
 simp only[ae]
 rw[aM4 _ f2]
 simp only[ae]
 rw[show I64 (1+1)=2 by decide,uC,aR,l2,df (show ¬(2:Int) < 2 by decide),cond_false,f3,e3]
 rfl
theorem rP(N:Nat){a:Int}(ha:cJ a):iR N a=some (S64 (a*4294967296)):=by
 unfold iR;obtain⟨w,e1,e2,e3⟩:=aHk N ha (b:=4294967296) ⟨by decide,by decide⟩
 rw[e1]
 simp only[ae]
 rw[aM4 _ e2,e3]
 rfl
set_option maxHeartbeats 2000000
theorem aRU{H L1 L0 Y:Int}(hY:0 < Y):(((H*4294967296+L1) % Y)*4294967296+L0) % Y=(H*18446744073709551616+(L1*4294967296+L0)) % Y:=by
 have h:=cq (H*4294967296+L1) Y;generalize hq:(H*4294967296+L1) / Y=q at *;generalize hr:(H*4294967296+L1) % Y=r at *;have e:H*18446744073709551616+(L1*4294967296+L0)=(r*4294967296+L0)+Y*(q*4294967296):=by
  have:(H*4294967296+L1)*4294967296=(Y*q+r)*4294967296:=by rw[h]
  grind
 rw[e,iy]
theorem aMT{a b c:Int}(hc:0 < c):(a*c) % (b*c)=(a % b)*c:=by
 rw[dk a c,dk b c,Int.mul_emod_mul_of_pos _ _ hc,dk]
theorem aQX(k:Nat){h l y:Int}(hy:0 < y)(hy':y < 18446744073709551616)(hh:0<=h)(hh':h < y)(hl:0<=l)(hl':l < 18446744073709551616) :
  jJ (k+3) h l y=some ((h*18446744073709551616+l) / y,(h*18446744073709551616+l) % y):=by
 by_cases h0:h=0
 ·subst h0;rw[aJS _ hy hl hl',Int.zero_mul,gw]
 obtain⟨n,hn,h1,h64,hlo,hhi⟩:=len64 (k+3) hy hy';unfold jJ;have e1:(y==0)=false:=by simp;omega
 have e2:decide (y<=h)=false:=by simp;omega
 have e3:(h==0)=false:=by simp;omega
 rw[e1,e2,e3]
 simp only[cond_false]
 unfold kN;rw[hn]
 simp only[ae]
 have e4:I64 (64 - (n:Int))=64 - n:=bC (by omega) (by omega)
 rw[e4]
 have e5:U64 (64 - (n:Int))=64 - n:=mY (by omega) (by omega)
 have e5':U64 (64 - (64 - (n:Int)))=n:=by rw[mY (by omega) (by omega)];omega
 have e6:(0:Int)<=64 - (n:Int):=by omega
 have e7:(0:Int)<=(n:Int):=by omega
 simp only[aR,e5,e5']
 simp only[aGi _ e6,aBq _ e7,ae]
 have pw:(2:Int) ^ n*2 ^ (64 - n)=18446744073709551616:=by rw[<- ke,show n+(64 - n)=64 by omega];rfl
 have hpos:(0:Int) < 2 ^ (64 - n):=f6 (by decide)
 -- the divisor
 have hz2:y*(2:Int) ^ (64 - n) < 18446744073709551616:=by
  rw[<- pw];exact fq hhi hpos
 have hz0:0<=y*(2:Int) ^ (64 - n):=ef (by omega) (cj hpos)
 have hz:shl .u64 y (64 - (n:Int))=y*(2:Int) ^ (64 - n):=by
  rw[aLg y (64 - (n:Int)) (64 - n) (by omega) (by omega)]
  exact i5 hz0 hz2
 have hz1:9223372036854775808<=y*(2:Int) ^ (64 - n):=by
  calc (9223372036854775808:Int)=2 ^ (n - 1)*2 ^ (64 - n):=by rw[<- ke,show n - 1+(64 - n)=63 by omega];rfl
   _<=_:=co hlo (cj hpos)
 -- what is divided
 have hhY:h*(2:Int) ^ (64 - n) < y*2 ^ (64 - n):=fq hh' hpos;have hh0:0<=h*(2:Int) ^ (64 - n):=ef hh (cj hpos)
 have hsh:shl .u64 h (64 - (n:Int))=h*(2:Int) ^ (64 - n):=by
  rw[aLg h (64 - (n:Int)) (64 - n) (by omega) (by omega)]
  exact i5 hh0 (by omega)
 have hsr:shr .u64 l (n:Int)=l / (2:Int) ^ n:=aHZ .u64 l n n rfl h64;have hsl:shl .u64 l (64 - (n:Int))=(l*(2:Int) ^ (64 - n)) % 18446744073709551616:=aLg l (64 - (n:Int)) (64 - n) (by omega) (by omega)
 have hd0:0<=l / (2:Int) ^ n:=cu hl (cj (f6 (by decide)))
 have hd1:l / (2:Int) ^ n < 2 ^ (64 - n):=by
  rw[fe (f6 (by decide)),dk,pw];exact hl'
 have hor:bor .u64 (h*(2:Int) ^ (64 - n)) (l / (2:Int) ^ n)=h*(2:Int) ^ (64 - n)+l / (2:Int) ^ n:=by
  refine aJQ (64 - n) hh0 (by omega) hd0 (by exact_mod_cast hd1) (by omega) ?_;obtain⟨A,rfl⟩:=bh hh;refine⟨A,?_⟩
  have:((A:Int)*(2:Int) ^ (64 - n))=((2 ^ (64 - n)*A:Nat):Int):=by rw[Nat.mul_comm];simp
  rw[this];rfl
 have hfin:=aK3 (h:=h) (l:=l) (64 - n) (by omega) hl hl';rw[show 64 - (64 - n)=n by omega] at hfin;rw[hz,hsh,hsr,hsl,hor]
 have hHY:h*(2:Int) ^ (64 - n)+l / (2:Int) ^ n < y*2 ^ (64 - n):=by
  have:(h+1)*(2:Int) ^ (64 - n)<=y*2 ^ (64 - n):=co (by omega) (cj hpos)
  rw[Int.add_mul,lr] at this;omega
 have hq:(h*18446744073709551616+l) / y=((h*(2:Int) ^ (64 - n)+l / (2:Int) ^ n)*18446744073709551616+(l*(2:Int) ^ (64 - n)) % 18446744073709551616) / (y*2 ^ (64 - n)):=by
  rw[hfin,scale _ hy]
 have hr:((h*(2:Int) ^ (64 - n)+l / (2:Int) ^ n)*18446744073709551616+(l*(2:Int) ^ (64 - n)) % 18446744073709551616) % (y*2 ^ (64 - n))=((h*18446744073709551616+l) % y)*2 ^ (64 - n):=by
  rw[hfin,aMT hpos]
 rw[hq]
 have hH0:0<=h*(2:Int) ^ (64 - n)+l / (2:Int) ^ n:=by omega
 generalize h*(2:Int) ^ (64 - n)+l / (2:Int) ^ n=H at hHY hH0 hr ⊢;have hL0:0<=(l*(2:Int) ^ (64 - n)) % 18446744073709551616:=cz _ (by decide)
 have hL1:(l*(2:Int) ^ (64 - n)) % 18446744073709551616 < 18446744073709551616:=cw _ (by decide)
 generalize (l*(2:Int) ^ (64 - n)) % 18446744073709551616=L at hL0 hL1 hr ⊢;generalize y*(2:Int) ^ (64 - n)=Y at hz1 hz2 hHY hr ⊢;clear hq hfin hor hsl hsr hsh hz hd1 hd0 hh0 hhY pw;have s1:shr .u64 Y 32=Y / 4294967296:=aGu Y;have s2:fI .u64 Y 4294967295=Y % 4294967296:=aHQ (by omega) hz2;have s3:fI .u64 L 4294967295=L % 4294967296:=aHQ hL0 hL1;have s4:shr .u64 L 32=L / 4294967296:=aGu L;have R1:aCJ H (L / 4294967296) Y (Y / 4294967296) (Y % 4294967296):=⟨by omega,by omega,by omega,by omega,by omega,hH0,hHY,by omega,by omega⟩
 have e8:shr .u64 Y 32≠0:=by rw[s1];omega
 rw[aP3 e8]
 simp only[ae]
 have hY1:0 < Y / 4294967296:=by omega
 obtain⟨g1,g2,g3⟩:=R1.start;have t1:bo H (Y / 4294967296)=H / (Y / 4294967296):=em hH0;have sm:U64 (H - U64 (U64 (H.tdiv (shr .u64 Y 32))*shr .u64 Y 32))=H % (Y / 4294967296):=by
  rw[s1];exact aQb hH0 (by omega) hY1 (by omega)
 have st:U64 (H.tdiv (shr .u64 Y 32))=H / (Y / 4294967296):=by
  rw[s1,t1];exact mY (cu hH0 (by omega)) (by omega)
 have rem1:=cz H (d6 hY1)
 have rem2:=cw H hY1;obtain⟨b1,b2⟩:=R1.q_lt;rw[sm,st]
 rw[aTI (k+3) R1 (fI .u64 Y 4294967295) (shr .u64 Y 32) H (shr .u64 L 32) s1 s2 s4 (k+3) _ _ g3 rem1 (by omega) g1 g2 (by have:=R1.near;omega)]
 simp only[ae]
 rw[aP3 e8,s4]
 simp only[ae]
 generalize hQ1:(H*4294967296+L / 4294967296) / Y=Q1 at *;have hdm:=cq (H*4294967296+L / 4294967296) Y;rw[hQ1] at hdm;have hYp:0 < Y:=by omega
 have hm0:=cz (H*4294967296+L / 4294967296) (d6 hYp)
 have hm1:=cw (H*4294967296+L / 4294967296) hYp;have hZ:U64 (U64 (U64 (H*4294967296)+L / 4294967296) - U64 (Q1*Y))=(H*4294967296+L / 4294967296) % Y:=by
  rw[dk Y Q1] at hdm;simp only[aDX]
  generalize Q1*Y=A at *;omega
 rw[hZ]
 generalize hZ':(H*4294967296+L / 4294967296) % Y=Z at *;have R2:aCJ Z (L % 4294967296) Y (Y / 4294967296) (Y % 4294967296):=⟨by omega,by omega,by omega,by omega,by omega,hm0,hm1,by omega,by omega⟩
 obtain⟨f1,f2,f3⟩:=R2.start;have t2:bo Z (Y / 4294967296)=Z / (Y / 4294967296):=em hm0;have sm2:U64 (Z - U64 (U64 (Z.tdiv (shr .u64 Y 32))*shr .u64 Y 32))=Z % (Y / 4294967296):=by
  rw[s1];exact aQb hm0 (by omega) hY1 (by omega)
 have st2:U64 (Z.tdiv (shr .u64 Y 32))=Z / (Y / 4294967296):=by
  rw[s1,t2];exact mY (cu hm0 (by omega)) (by omega)
 have rem3:=cz Z (d6 hY1)
 have rem4:=cw Z hY1;obtain⟨c1,c2⟩:=R2.q_lt;rw[sm2,st2,aTh (k+3) R2 (fI .u64 Y 4294967295) (fI .u64 L 4294967295) _ s1 s2 s3 (k+3) _ _ f3 rem3 (by omega) f1 f2 (by have:=R2.near;omega)]
 simp only[ae]
 rw[aBq _ e6]
 simp only[ae]
 have hts:=aO3 (H:=H) (L1:=L / 4294967296) (L0:=L % 4294967296) hYp;rw[hQ1,hZ',show L / 4294967296*4294967296+L % 4294967296=L by omega] at hts;rw[mY (x:=Q1*4294967296) (by omega) (by omega),mY (x:=Q1*4294967296+_) (by omega) (by omega),hts]
 congr 2;have hm:=aRU (H:=H) (L1:=L / 4294967296) (L0:=L % 4294967296) hYp;rw[hZ',show L / 4294967296*4294967296+L % 4294967296=L by omega,hr] at hm;have hdm2:=cq (Z*4294967296+L % 4294967296) Y;rw[hm] at hdm2;have hrr0:0<=(h*18446744073709551616+l) % y:=cz _ (d6 hy)
 have hlt2:(h*18446744073709551616+l) % y*2 ^ (64 - n) < Y:=by rw[<- hm];exact cw _ hYp
 have hx:U64 (U64 (U64 (Z*4294967296)+L % 4294967296) - U64 ((Z*4294967296+L % 4294967296) / Y*Y))=(h*18446744073709551616+l) % y*2 ^ (64 - n):=by
  have h0:0<=(h*18446744073709551616+l) % y*2 ^ (64 - n):=ef hrr0 (cj hpos)
  rw[dk Y] at hdm2;simp only[aDX]
  generalize (Z*4294967296+L % 4294967296) / Y*Y=A at *;generalize (h*18446744073709551616+l) % y*2 ^ (64 - n)=B at *;omega
 rw[s3,hx,aHZ .u64 _ (64 - (n:Int)) (64 - n) (by omega) (by show 64 - n<=64;omega)]
 exact Int.mul_ediv_cancel _ (d6 hpos)
def aKN(V Y:Int)(m:Bool):Int:=cond m (-((V+Y - 1) / Y)) (V / Y)
abbrev ab(a:Int):Int:=if a < 0 then -a else a
theorem aTk{V Y:Int}(hY:0 < Y):(V+Y - 1) / Y=if V % Y > 0 then V / Y+1 else V / Y:=by
 have h:=cq V Y;have h1:=cz V (d6 hY)
 have h2:=cw V hY;generalize V / Y=q at *;generalize V % Y=r at *;split
 ·have e:V+Y - 1=(r - 1)+Y*(q+1):=by rw[<- h];grind
  rw[e,gj _ _ (d6 hY),ji (by omega) (by omega)]
  omega
 ·have e:V+Y - 1=(Y - 1)+Y*q:=by rw[<- h,show r=0 by omega];grind
  rw[e,gj _ _ (d6 hY),ji (by omega) (by omega)]
  omega
theorem aSc(k:Nat){w:aS}{y:Int}(hw:wok w)(hv:-39614081257132168796771975168<=oM w)(hv':oM w<=39614081257132168796771975168)(hy:cJ y)(hy0:y≠0) :
  ∃r,pW (k+3) w y=some r/\wok r.1/\oM r.1=aKN (ab (oM w)) (ab y) (!(decide (oM w < 0)==decide (y < 0))):=by
 obtain⟨⟨w1,w2⟩,w3,w4⟩:=hw;have hneg:w.gHi < 0↔oM w < 0:=by show _↔w.gHi*18446744073709551616+w.gLo < 0;omega
 have hp:∃p:Int×Int,(cond (decide (w.gHi < 0)) (aa (pT (k+3) (U64 w.gHi) w.gLo) λr2=>some ((r2.1,r2.2))) (some ((U64 w.gHi,w.gLo))))=some p/\0<=p.1/\0<=p.2/\p.2 < 18446744073709551616/\p.1*18446744073709551616+p.2=ab (oM w):=by
  by_cases hs:w.gHi < 0
  ·rw[dt hs,cond_true]
   obtain⟨h',l',e,a1,a2,a3,a4,a5⟩:=aGc (k+3) (h:=U64 w.gHi) (l:=w.gLo) (aBD _) (aCj _) w3 w4;rw[e]
   refine⟨(h',l'),rfl,a1,a3,a4,?_⟩
   rw[show ab (oM w) = -(oM w) from if_pos (hneg.1 hs)]
   show h'*18446744073709551616+l' = -(w.gHi*18446744073709551616+w.gLo)
   rw[aDX] at a5;omega
  ·rw[df hs,cond_false]
   refine⟨(U64 w.gHi,w.gLo),rfl,aBD _,w3,w4,?_⟩
   rw[show ab (oM w)=oM w from if_neg (λh=>hs (hneg.2 h))]
   show U64 w.gHi*18446744073709551616+w.gLo=w.gHi*18446744073709551616+w.gLo;rw[mY (by omega) (by omega)]
 obtain⟨⟨h,l⟩,e1,p1,p2,p3,p4⟩:=hp;dsimp only at p1 p2 p3 p4;have hY:0 < ab y/\ab y<=9223372036854775808:=by obtain⟨y1,y2⟩:=hy;unfold ab;split <;> omega
 have hVb:ab (oM w)<=39614081257132168796771975168:=by unfold ab;split <;> omega
 unfold pW;rw[show(y==0)=false by simpa using hy0,cond_false,e1,wsz (k+3) hy]
 simp only[ae]
 simp only[show(if y < 0 then -y else y)=ab y from rfl]
 rw[show decide (w.gHi < 0)=decide (oM w < 0) by rw[decide_eq_decide];exact hneg]
 generalize hm:(!(decide (oM w < 0)==decide (y < 0)))=m;rw[<- p4] at hVb ⊢;generalize ab y=Y at *;obtain⟨Y1,Y2⟩:=hY;rw[aJS _ Y1 p1 (by omega)]
 simp only[ae]
 have hr:=cz h (d6 Y1)
 have hr':=cw h Y1;rw[aQX k Y1 (by omega) hr hr' p2 p3]
 simp only[ae]
 have hV:=cq h Y;have hq0:0<=h / Y:=cu p1 (cj Y1)
 have hqle:h / Y<=h:=je _ p1;have eV:h*18446744073709551616+l=(h % Y*18446744073709551616+l)+Y*(h / Y*18446744073709551616):=by
  have:h*18446744073709551616=(Y*(h / Y)+h % Y)*18446744073709551616:=by rw[hV]
  grind
 have dV:(h*18446744073709551616+l) / Y=(h % Y*18446744073709551616+l) / Y+h / Y*18446744073709551616:=by
  rw[eV,gj _ _ (d6 Y1)]
 have mV:(h*18446744073709551616+l) % Y=(h % Y*18446744073709551616+l) % Y:=by
  rw[eV,iy]
 have q20:0<=(h % Y*18446744073709551616+l) / Y:=cu (by omega) (cj Y1)
 have q21:(h % Y*18446744073709551616+l) / Y < 18446744073709551616:=Int.ediv_lt_of_lt_mul Y1 (by omega)
 have r0:0<=(h % Y*18446744073709551616+l) % Y:=cz _ (d6 Y1)
 have r1:(h % Y*18446744073709551616+l) % Y < Y:=cw _ Y1;rw[show aKN (h*18446744073709551616+l) Y m=cond m (-(if (h % Y*18446744073709551616+l) % Y > 0 then(h % Y*18446744073709551616+l) / Y+h / Y*18446744073709551616+1 else(h % Y*18446744073709551616+l) / Y+h / Y*18446744073709551616)) ((h % Y*18446744073709551616+l) / Y+h / Y*18446744073709551616) by
  unfold aKN;rw[aTk Y1,mV,dV]]
 clear eV dV mV hV;generalize (h % Y*18446744073709551616+l) / Y=q2 at *;generalize (h % Y*18446744073709551616+l) % Y=r at *;generalize h / Y=q1 at *;have hq1b:q1<=2147483648:=by omega
 simp only[aR]
 have fin:∀(c1 c2 c3:Int) (m':Bool),m'=m->0<=c1->c1<=4294967296->0<=c2->c2 < 18446744073709551616->(cond m (-(c1*18446744073709551616+c2)) (c1*18446744073709551616+c2))=(cond m (-(if r > 0 then q2+q1*18446744073709551616+1 else q2+q1*18446744073709551616)) (q2+q1*18446744073709551616)) ->
   ∃x,(aa (kH (k+3) c1 c2 m') λr12=>cond (!r12.2) (some ((aS.mk 0 0,0,false))) (aa (cond (decide (y < 0)) (some (U64 (0 - c3))) (some c3)) λp13=>some ((r12.1,I64 p13,true))))=some x/\wok x.1/\oM x.1=(cond m (-(if r > 0 then q2+q1*18446744073709551616+1 else q2+q1*18446744073709551616)) (q2+q1*18446744073709551616)):=by
  intro c1 c2 c3 m' hm' d1 d2 d3 d4 d5;subst hm';obtain⟨w',f1,f2,f3⟩:=aNR (k+3) (h:=c1) (l:=c2) m' d1 d3 d4 (by omega)
  rw[f1]
  simp only[ae,Bool.not_true,cond_false]
  cases decide (y < 0) with
  | true=>exact⟨_,rfl,f2,f3.trans d5⟩
  | false=>exact⟨_,rfl,f2,f3.trans d5⟩
 cases hmm:m with
 | false=>
  subst hmm;simp only[cond_false,ae]
  exact fin q1 q2 r false rfl hq0 (by omega) q20 q21 (by simp only[cond_false];omega)
 | true=>
  subst hmm;simp only[cond_true]
  by_cases hr9:r > 0
  ·rw[dt hr9]
   simp only[cond_true]
   have hadd:zY q2 1 0=some ((q2+1+0) % 18446744073709551616,(q2+1+0) / 18446744073709551616):=by
    unfold zY;rw[dt q20,dt (show(0:Int)<=1 by decide),dt (show(0:Int)<=0 by decide)]
    rfl
   rw[hadd]
   simp only[ae]
   rw[mY (x:=q1+_) (by omega) (by omega)]
   exact fin _ _ _ true rfl (by omega) (by omega) (by omega) (by omega) (by simp only[cond_true];rw[if_pos hr9];omega)
  ·rw[df hr9]
   simp only[cond_false,ae]
   exact fin q1 q2 r true rfl hq0 (by omega) q20 q21 (by simp only[cond_true];rw[if_neg hr9];omega)
theorem abv{a:Int}(ha:cJ a):ab (a*4294967296)=ab a*4294967296/\decide (a*4294967296 < 0)=decide (a < 0)/\0<=ab a/\ab a<=9223372036854775808:=by
 obtain⟨h1,h2⟩:=ha;refine⟨?_,?_,?_,?_⟩
 ·unfold ab;split <;> split <;> omega
 ·rw[decide_eq_decide];omega
 ·unfold ab;split <;> omega
 ·unfold ab;split <;> omega
theorem wQ(k:Nat){a y:Int}(ha:cJ a)(hy:cJ y)(hy0:y≠0):iZ (k+3) a y=some (S64 (aKN (ab a*4294967296) (ab y) (!(decide (a < 0)==decide (y < 0))))):=by
 unfold iZ;rw[show(y==0)=false by simpa using hy0,cond_false]
 obtain⟨w,e1,e2,e3⟩:=aHk (k+3) ha (b:=4294967296) ⟨by decide,by decide⟩
 obtain⟨b1,b2,b3,b4⟩:=abv ha;have hh:=ha;obtain⟨a1,a2⟩:=hh;obtain⟨r,f1,f2,f3⟩:=aSc k e2 (by rw[e3];omega) (by rw[e3];omega) hy hy0;rw[e1]
 simp only[ae]
 rw[f1]
 simp only[ae]
 rw[aM4 _ f2,f3,e3,b1,b2]
 rfl
def vin(v:aA):Prop:=cJ v.gX/\cJ v.gY/\cJ v.gZ
def aGR(u v:aA):aA:=⟨S64 (u.gX+v.gX),S64 (u.gY+v.gY),S64 (u.gZ+v.gZ)⟩
def aJO(v:aA)(s:Int):aA:=⟨S64 (v.gX*s / 4294967296),S64 (v.gY*s / 4294967296),S64 (v.gZ*s / 4294967296)⟩
theorem sL(u v:aA):vin (aGR u v):=⟨eH _,eH _,eH _⟩
theorem oS(u:aA)(s:Int):vin (aJO u s):=⟨eH _,eH _,eH _⟩
theorem aQB(k:Nat){u v:aA}(hu:vin u)(hv:vin v):qP (k+3) u v=some (aGR u v):=by
 unfold qP wA;rw[aAw k hu.1 hv.1,aAw k hu.2.1 hv.2.1,aAw k hu.2.2 hv.2.2]
 rfl
theorem aPK(k:Nat){u v:aA}(hu:vin u)(hv:vin v):oC (k+3) u v=some ⟨S64 (u.gX*v.gX / 4294967296),S64 (u.gY*v.gY / 4294967296),S64 (u.gZ*v.gZ / 4294967296)⟩:=by
 unfold oC rY;rw[aEx k hu.1 hv.1,aEx k hu.2.1 hv.2.1,aEx k hu.2.2 hv.2.2]
 rfl
theorem vix0(a b:aA):idx [a,b] 0=some a:=rfl
theorem vix1(a b:aA):idx [a,b] 1=some b:=rfl
theorem aHM(k:Nat){u v:aA}(hu:vin u)(hv:vin v):kC (k+3) [u,v]=some (aGR u v):=by
 unfold kC;have l2:(([u,v]:List aA).length:Int)=2:=rfl;rw[pF,aR,l2,dt (show(0:Int) < 2 by decide),cond_true,vix0]
 simp only[ae]
 rw[aQB k (u:=⟨0,0,0⟩) ⟨⟨by decide,by decide⟩,⟨by decide,by decide⟩,⟨by decide,by decide⟩⟩ hu]
 simp only[ae]
 have e:aGR ⟨0,0,0⟩ u=u:=by
  unfold aGR;simp only[gw,rA hu.1,rA hu.2.1,rA hu.2.2]
 rw[e,show I64 (0+1)=1 by decide,pF,aR,l2,dt (show(1:Int) < 2 by decide),cond_true,vix1]
 simp only[ae]
 rw[aQB k (u:=⟨u.gX,u.gY,u.gZ⟩) hu hv]
 simp only[ae]
 rw[show I64 (1+1)=2 by decide,pF,aR,l2,df (show ¬(2:Int) < 2 by decide),cond_false]
 rfl
theorem qK(k:Nat){v:aA}{s:Int}(hv:vin v)(hs:cJ s):fP (k+3) v s=some (aJO v s):=by
 unfold fP iA;have l2:(([v,⟨s,s,s⟩]:List aA).length:Int)=2:=rfl;rw[kO,aR,l2,dt (show(0:Int) < 2 by decide),cond_true,vix0]
 simp only[ae]
 rw[aPK k (u:=⟨4294967296,4294967296,4294967296⟩) ⟨⟨by decide,by decide⟩,⟨by decide,by decide⟩,⟨by decide,by decide⟩⟩ hv]
 simp only[ae]
 have e:∀x:Int,cJ x->S64 (4294967296*x / 4294967296)=x:=by
  intro x hx;rw[Int.mul_ediv_cancel_left _ (by decide),rA hx]
 rw[e _ hv.1,e _ hv.2.1,e _ hv.2.2,show I64 (0+1)=1 by decide,kO,aR,l2,dt (show(1:Int) < 2 by decide),cond_true,vix1]
 simp only[ae]
 rw[aPK k (u:=⟨v.gX,v.gY,v.gZ⟩) (v:=⟨s,s,s⟩) hv ⟨hs,hs,hs⟩]
 simp only[ae]
 rw[show I64 (1+1)=2 by decide,kO,aR,l2,df (show ¬(2:Int) < 2 by decide),cond_false]
 rfl
theorem aGn(k:Nat)(l:List aA)(hl:∀v∈l,vin v)(hk:l.length < k+3)(hb:l.length < 1000):kC (k+3) l=some (l.foldl aGR ⟨0,0,0⟩):=by
 unfold kC;have main:∀(m i:Nat) (a:aA),vin a->i<=l.length->l.length - i < m->pF (k+3) l m a (i:Int)=some ((l.drop i).foldl aGR a):=by
  intro m
  induction m with
  | zero=>intro i a _ _ h;omega
  | succ m ih=>
   intro i a ha hi hm;rw[pF,aR]
   by_cases h:i < l.length
   ·rw[dt (by omega),cond_true,eK,List.getElem?_eq_getElem h]
    simp only[ae]
    rw[aQB k ha (hl _ (List.getElem_mem h))]
    simp only[ae]
    rw[dI (by omega),ih (i+1) _ (sL _ _) (by omega) (by omega),List.drop_eq_getElem_cons h]
    rfl
   ·rw[df (by omega),cond_false,List.drop_eq_nil_of_le (by omega)]
    rfl
 have:=main (k+3) 0 ⟨0,0,0⟩ ⟨⟨by decide,by decide⟩,⟨by decide,by decide⟩,⟨by decide,by decide⟩⟩ (by omega) (by omega)
 rw[show((0:Nat):Int)=0 from rfl] at this;rw[this]
 rfl
theorem shl1(j:Nat)(hj:j < 64):shl .u64 1 (j:Int)=(2:Int) ^ j:=by
 rw[aLg 1 j j rfl (by omega),lr]
 refine i5 (cj (f6 (by decide))) ?_;have h8:(2:Nat) ^ j < 18446744073709551616:=Nat.lt_of_lt_of_eq (jz (by decide) hj) (by rfl:2 ^ 64=18446744073709551616)
 have h9:((2 ^ j:Nat):Int) < 18446744073709551616:=by omega
 rw[Int.natCast_pow] at h9;exact h9
theorem aPe(N:Nat)(w:aS)(hh:0<=w.gHi)(hh':w.gHi<=9223372036854775807)(hl:0<=w.gLo)(hl':w.gLo < 18446744073709551616)(k:Nat):∀(j:Nat) (s:Int),j<=64->0<=s->s < 18446744073709551616->(∃X:Nat,s=(2:Int) ^ j*X) ->
  s*s<=oM w->oM w < (s+2 ^ j)*(s+2 ^ j) ->
  ∃r,qQ N w (k+j+1) s (64 - (j:Int))=some r/\0<=r/\r < 18446744073709551616/\r*r<=oM w/\oM w < (r+1)*(r+1)
 | 0,s,_,h0,h1,_,a,b=>by
  rw[qQ,df (show ¬(64 - ((0:Nat):Int) < 64) by decide)]
  exact⟨s,rfl,h0,h1,a,by simpa using b⟩
 | j+1,s,hj,h0,h1,⟨X,hX⟩,a,b=>by
  rw[qQ,dt (show 64 - ((j+1:Nat):Int) < 64 by omega)]
  simp only[cond_true]
  have e1:I64 (63 - (64 - ((j+1:Nat):Int)))=(j:Int):=by rw[bC (by omega) (by omega)];omega
  rw[e1,aGi _ (show(0:Int)<=(j:Int) by omega),shl1 j (by omega)]
  simp only[ae]
  have hp:(0:Int) < 2 ^ j:=f6 (by decide)
  have hp2:(2:Int) ^ (j+1)=2 ^ j*2:=Int.pow_succ ..;have hlt:s+2 ^ j < 18446744073709551616:=by
   have e64:(18446744073709551616:Int)=2 ^ (j+1)*2 ^ (63 - j):=by rw[<- ke,show j+1+(63 - j)=64 by omega];rfl
   have hx1:(X:Int) < 2 ^ (63 - j):=by
    rw[hX,e64] at h1;exact Int.lt_of_mul_lt_mul_left h1 (cj (f6 (by decide)))
   have hx2:(2:Int) ^ (j+1)*X+2 ^ (j+1)<=2 ^ (j+1)*2 ^ (63 - j):=by
    have:(2:Int) ^ (j+1)*(X+1)<=2 ^ (j+1)*2 ^ (63 - j):=Int.mul_le_mul_of_nonneg_left (by omega) (cj (f6 (by decide)))
    rwa[Int.mul_add,Int.mul_one] at this
   rw[<- hX,<- e64] at hx2;omega
  have hbor:bor .u64 s (2 ^ j)=s+2 ^ j:=by
   refine aJQ (j+1) h0 h1 (cj hp) ?_ (by omega) ?_
   ·have:(2:Nat) ^ j < 2 ^ (j+1):=jz (by decide) (by omega)
    exact_mod_cast this
   ·refine⟨X,?_⟩
    rw[hX]
    have:((2:Int) ^ (j+1)*(X:Int))=((2 ^ (j+1)*X:Nat):Int):=by simp
    rw[this];rfl
  rw[hbor]
  have hs0:0<=s+2 ^ j:=by omega
  rw[aSu N hs0 hlt hs0 hlt]
  simp only[ae,aR]
  have hU:U64 w.gHi=w.gHi:=mY hh (by omega)
  rw[hU]
  have hi1:I64 (64 - ((j+1:Nat):Int)+1)=64 - (j:Int):=by rw[bC (by omega) (by omega)];omega
  rw[hi1]
  have ek:k+(j+1)=k+j+1:=by omega
  rw[ek]
  have r1:=aPe N w hh hh' hl hl' k j (s+2 ^ j) (by omega) hs0 hlt ⟨2*X+1,by rw[hX,hp2];push_cast;grind⟩
  have r2:=aPe N w hh hh' hl hl' k j s (by omega) h0 h1 ⟨2*X,by rw[hX,hp2];push_cast;grind⟩
  have b':oM w < (s+2 ^ j+2 ^ j)*(s+2 ^ j+2 ^ j):=by
   have:s+2 ^ j+2 ^ j=s+2 ^ (j+1):=by rw[hp2];omega
   rw[this];exact b
  have hv:oM w=w.gHi*18446744073709551616+w.gLo:=rfl;generalize hM:(s+2 ^ j)*(s+2 ^ j)=M at r1 r2 ⊢;have hm0:0<=M:=by rw[<- hM];exact ef hs0 hs0
  cases h7:decide (M / 18446744073709551616 < w.gHi) with
  | true=>
   simp only[cond_true,ae]
   have:=of_decide_eq_true h7;exact r1 (by omega) b'
  | false=>
   have n7:=of_decide_eq_false h7;simp only[cond_false,ae]
   cases h8:(cond (M / 18446744073709551616==w.gHi) (decide (M % 18446744073709551616<=w.gLo)) false) with
   | true=>
    simp only[cond_true,ae]
    cases h9:(M / 18446744073709551616==w.gHi) with
    | false=>rw[h9] at h8;simp at h8
    | true=>
     rw[h9,cond_true] at h8;have:=of_decide_eq_true h8;have:=eq_of_beq h9;exact r1 (by omega) b'
   | false=>
    simp only[cond_false,ae]
    refine r2 a ?_;cases h9:(M / 18446744073709551616==w.gHi) with
    | false=>
     have:M / 18446744073709551616≠w.gHi:=by intro e;rw[e] at h9;simp at h9
     omega
    | true=>
     rw[h9,cond_true] at h8;have:=of_decide_eq_false h8;have:=eq_of_beq h9;omega
theorem aSo(k:Nat){w:aS}(hw:wok w)(h0:0<=oM w):∃r,sS (k+65) w=some r/\0<=r/\r < 18446744073709551616/\r*r<=oM w/\oM w < (r+1)*(r+1):=by
 obtain⟨⟨a1,a2⟩,b1,b2⟩:=hw;have hv:oM w=w.gHi*18446744073709551616+w.gLo:=rfl;unfold sS;rw[df (by omega),cond_false]
 obtain⟨r,e,h1,h2,h3,h4⟩:=aPe (k+65) w (by omega) a2 b1 b2 k 64 0 (by omega) (by decide) (by decide) ⟨0,by decide⟩ (by omega) (by rw[show((0:Int)+2 ^ 64)*(0+2 ^ 64)=340282366920938463463374607431768211456 by decide];omega)
 rw[show(64:Int) - ((64:Nat):Int)=0 by decide,show k+64+1=k+65 from rfl] at e;rw[e]
 exact⟨r,rfl,h1,h2,h3,h4⟩
theorem aEi(N:Nat){s e:Int}(hs:cJ s)(he:cJ e):uF N s e=some (S64 (s - e)):=by
 unfold uF;simp only[aR]
 obtain⟨h1,h2⟩:=hs;obtain⟨h3,h4⟩:=he;by_cases a1:s>=0
 ·rw[dt a1,df (show ¬s < 0 by omega)]
  simp only[cond_true,cond_false]
  by_cases a2:e < 0
  ·rw[dt a2]
   simp only[cond_true]
   by_cases a3:9223372036854775807 < s - e
   ·rw[dt (show I64 (s - e) < 0 by rw[xE];omega),cond_true]
    unfold S64;rw[if_neg (by omega),if_pos a3]
   ·rw[bC (by omega) (by omega),df (show ¬s - e < 0 by omega),cond_false]
    rw[rA ⟨by omega,by omega⟩]
  ·rw[df a2,cond_false,bC (by omega) (by omega),rA ⟨by omega,by omega⟩];rfl
 ·rw[df a1,dt (show s < 0 by omega)]
  simp only[cond_false,cond_true]
  by_cases a3:e > 0
  ·rw[dt a3]
   simp only[cond_true]
   by_cases a4:s - e < -9223372036854775808
   ·rw[dt (show I64 (s - e)>=0 by rw[xE];omega),cond_true]
    unfold S64;rw[if_pos a4]
   ·rw[bC (by omega) (by omega),df (show ¬s - e>=0 by omega),cond_false]
    rw[rA ⟨by omega,by omega⟩]
  ·rw[df a3,cond_false,bC (by omega) (by omega),rA ⟨by omega,by omega⟩];rfl
theorem z64 : cJ 0:=⟨by decide,by decide⟩
theorem aNx(N:Nat){a:Int}(ha:cJ a):uL N a=some (S64 (-a)):=by
 unfold uL;rw[aEi N z64 ha,Int.zero_sub];rfl
def aLd(a:Int):Int:=max a (S64 (-a))
theorem tB(a b:Int):jR a b=max a b:=by unfold jR;split <;> omega
theorem vQ(a b:Int):fN a b=min a b:=by unfold fN;split <;> omega
theorem aJh(N:Nat){a:Int}(ha:cJ a):xM N a=some (aLd a):=by
 unfold xM;rw[aNx N ha]
 simp only[ae,tB]
 rfl
theorem aJk{a:Int}(ha:cJ a):0<=aLd a/\aLd a<=9223372036854775807:=by
 obtain⟨h1,h2⟩:=ha;unfold aLd S64
 repeat' split
 all_goals omega
def vSub(u v:aA):aA:=⟨S64 (u.gX - v.gX),S64 (u.gY - v.gY),S64 (u.gZ - v.gZ)⟩
theorem aD9(u v:aA):vin (vSub u v):=⟨eH _,eH _,eH _⟩
theorem aEU(N:Nat){u v:aA}(hu:vin u)(hv:vin v):tZ N u v=some (vSub u v):=by
 unfold tZ wN;rw[aEi N hu.1 hv.1,aEi N hu.2.1 hv.2.1,aEi N hu.2.2 hv.2.2];rfl
def pin(p:aC):Prop:=cJ p.gX/\cJ p.gY/\cJ p.gZ
def ptV(p:aC):aA:=⟨S64 (p.gX*4294967296),S64 (p.gY*4294967296),S64 (p.gZ*4294967296)⟩
theorem zD(p:aC):vin (ptV p):=⟨eH _,eH _,eH _⟩
theorem zK(N:Nat){p:aC}(hp:pin p):nH N p=some (ptV p):=by
 unfold nH;rw[rP N hp.1,rP N hp.2.1,rP N hp.2.2];rfl
def xF(v:aA):Int:=max (max (aLd v.gX) (aLd v.gY)) (aLd v.gZ)
theorem aK1(N:Nat){v:aA}(hv:vin v):xS N v=some (xF v):=by
 unfold xS;rw[aJh N hv.1,aJh N hv.2.1,aJh N hv.2.2]
 simp only[ae,tB];rfl
theorem aLL{v:aA}(hv:vin v):0<=xF v/\xF v<=9223372036854775807:=by
 have:=aJk hv.1;have:=aJk hv.2.1;have:=aJk hv.2.2;unfold xF;omega
theorem aSJ(N:Nat){h l:Int}(m:Bool)(hh:0<=h)(hh':h < 18446744073709551616)(hl:0<=l)(hl':l < 18446744073709551616):T (kH N h l m) (λr=>wok r.1):=by
 unfold kH;refine T.bind (P:=λp=>0<=p.2/\p.2 < 18446744073709551616) ?_ λp hp=>?_
 ·cases m with
  | true=>
   rw[cond_true]
   obtain⟨h',l',e,a1,a2,a3,a4,a5⟩:=aGc N hh hh' hl hl';rw[e]
   exact⟨_,rfl,a3,a4⟩
  | false=>rw[cond_false];exact⟨_,rfl,hl,hl'⟩
 ·simp only[aR]
  exact⟨_,rfl,dM _,hp.1,hp.2⟩
theorem aGh(N:Nat){w:aS}(hw:wok w):T (qB N w) (λr=>cJ r.1/\(r.2=true->r.1=oM w)):=by
 obtain⟨⟨w1,w2⟩,w3,w4⟩:=hw;unfold qB;simp only[aR]
 rw[aMG]
 by_cases h:(w.gHi != I64 w.gLo / 9223372036854775808)=true
 ·rw[h,cond_true]
  exact⟨_,rfl,z64,λh=>by cases h⟩
 ·rw[Bool.not_eq_true] at h;rw[h,cond_false]
  refine⟨_,rfl,dM _,λ_=>?_⟩
  have:w.gHi=I64 w.gLo / 9223372036854775808:=by simpa using h
  show I64 w.gLo=w.gHi*18446744073709551616+w.gLo;rw[this,xE]
  omega
def mdV(a b y:Int):Int:=S64 (aKN (ab (a*b)) (ab y) (!(decide (a*b < 0)==decide (y < 0))))
theorem aSO(k:Nat){a b y:Int}(ha:cJ a)(hb:cJ b)(hy:cJ y)(hy0:y≠0)(h1:-39614081257132168796771975168<=a*b)(h2:a*b<=39614081257132168796771975168):jO (k+3) a b y=some (mdV a b y):=by
 obtain⟨w,e,hw,hv⟩:=aHk (k+3) ha hb;obtain⟨r,e2,hr,hv2⟩:=aSc k hw (by rw[hv];exact h1) (by rw[hv];exact h2) hy hy0;have hn:=aM4 (k+3) hr;unfold tD at hn;unfold jO;rw[show(y==0)=false by simpa using hy0,cond_false,e]
 simp only[ae]
 rw[e2]
 simp only[ae]
 rw[hn,hv2,hv]
 rfl
def qV(x m:Int):Int:=max (mdV x 16384 m) (-16384)
theorem aPV{x m:Int}(hm:0 < m)(hx:x<=m) : -16384<=qV x m/\qV x m<=16384:=by
 unfold qV;refine⟨by omega,?_⟩
 have:mdV x 16384 m<=16384:=by
  unfold mdV;have hb:ab m=m:=if_neg (by omega)
  rw[hb,df (show ¬m < 0 by omega)]
  have hd:aKN (ab (x*16384)) m (!(decide (x*16384 < 0)==false))<=16384:=by
   by_cases h:x*16384 < 0
   ·rw[dt h]
    have hn:0<=ab (x*16384):=by unfold ab;split <;> omega
    have:0<=(ab (x*16384)+m - 1) / m:=cu (by omega) (by omega)
    show -((ab (x*16384)+m - 1) / m)<=16384;omega
   ·rw[df h]
    have e:ab (x*16384)=x*16384:=if_neg h;rw[e]
    show x*16384 / m<=16384;have:x*16384 / m < 16385:=by
     rw[fe hm]
     omega
    omega
  generalize aKN (ab (x*16384)) m (!(decide (x*16384 < 0)==false))=d at hd;unfold S64;(repeat' split) <;> omega
 omega
theorem aQg(v:aA):v.gX<=xF v/\v.gY<=xF v/\v.gZ<=xF v:=by
 unfold xF aLd;omega
theorem aM1(k:Nat){x m:Int}(hx:cJ x)(hm:cJ m)(h0:m≠0):kL (k+3) x m=some (qV x m):=by
 unfold kL;obtain⟨h1,h2⟩:=hx;rw[aSO k ⟨h1,h2⟩ ⟨by decide,by decide⟩ hm h0 (by omega) (by omega)]
 simp only[ae,tB]
 rfl
def aJW(v:aA):aC×Int:=if xF v=0 then(⟨0,0,0⟩,2) else(⟨qV v.gX (xF v),qV v.gY (xF v),qV v.gZ (xF v)⟩,0)
theorem aQR(k:Nat){v:aA}(hv:vin v):uM (k+3) v=some (aJW v):=by
 unfold uM aJW;rw[aK1 _ hv]
 simp only[ae]
 obtain⟨m1,m2⟩:=aLL hv;by_cases h:xF v=0
 ·rw[if_pos h,show(xF v==0)=true by simpa using h,cond_true]
 ·have hm:cJ (xF v):=⟨by omega,by omega⟩
  rw[if_neg h,show(xF v==0)=false by simpa using h,cond_false,aM1 k hv.1 hm h,aM1 k hv.2.1 hm h,aM1 k hv.2.2 hm h]
  rfl
def pqt(p:aC):Prop:=(-16384<=p.gX/\p.gX<=16384)/\(-16384<=p.gY/\p.gY<=16384) /\ -16384<=p.gZ/\p.gZ<=16384
theorem aIz{v:aA}(hv:vin v):pqt (aJW v).1:=by
 unfold aJW;obtain⟨m1,m2⟩:=aLL hv;obtain⟨g1,g2,g3⟩:=aQg v;split
 ·exact⟨⟨by decide,by decide⟩,⟨by decide,by decide⟩,by decide,by decide⟩
 ·have hm:0 < xF v:=by omega
  exact⟨aPV hm g1,aPV hm g2,aPV hm g3⟩
theorem aSt{α:Type}{c:Bool}{x y:α}:cond c (some x) (some y)=some (cond c x y):=by cases c <;> rfl
def aBE(p:aC):Bool:=cond (!(aC.eq p (aC.mk 0 0 0))) (cond (decide (jR (jR p.gX p.gY) p.gZ<=16384)) (decide (fN (fN p.gX p.gY) p.gZ >= -16384)) false) false
theorem aR4(N:Nat)(p:aC):vL N p=some (aBE p):=by
 unfold vL aBE;simp only[aR,aSt,ae]
theorem aTO(N:Nat)(a b c:Int):mH N a b c=some (cond (decide (a>=b)) (decide (a<=c)) false):=by
 unfold mH;simp only[aR]
def aNL(c:bR)(w h:Int):Prop:=(1<=w/\w<=64)/\(1<=h/\h<=64)/\(0<=c.gD3/\c.gD3<=1024)/\(1<=c.gD5/\c.gD5<=32768)/\aBE c.gB4=true/\aBE c.gUp=true/\aBE c.gE2=true/\jR (jR c.gA9.gX c.gA9.gY) c.gA9.gZ<=32768/\fN (fN c.gA9.gX c.gA9.gY) c.gA9.gZ >= -32768
theorem aG8(N:Nat)(c:bR)(w h:Int):T (tW N c w h) (λr=>r=0->aNL c w h):=by
 unfold tW;simp only[aR,aR4,aTO,aSt,ae]
 refine⟨_,rfl,λe=>?_⟩
 unfold aNL;revert e;cases h1:decide (jR (jR c.gA9.gX c.gA9.gY) c.gA9.gZ > 32768)
 case true=>intro e;exact absurd (show(8:Int)=0 from e) (by decide)
 cases h2:decide (fN (fN c.gA9.gX c.gA9.gY) c.gA9.gZ < -32768)
 case true=>intro e;exact absurd (show(8:Int)=0 from e) (by decide)
 cases h3:aBE c.gB4
 case false=>intro e;exact absurd (show(2:Int)=0 from e) (by decide)
 cases h4:aBE c.gUp
 case false=>intro e;exact absurd (show(2:Int)=0 from e) (by decide)
 cases h5:aBE c.gE2
 case false=>intro e;exact absurd (show(2:Int)=0 from e) (by decide)
 have b:∀a lo hi:Int,cond (decide (a>=lo)) (decide (a<=hi)) false=true->lo<=a/\a<=hi:=by
  intro a lo hi h;by_cases h':a>=lo
  ·rw[dt h',cond_true] at h;exact⟨h',of_decide_eq_true h⟩
  ·rw[df h',cond_false] at h;cases h
 have b1:=b c.gD3 0 1024;have b2:=b c.gD5 1 32768;have b3:=b w 1 64;have b4:=b h 1 64;generalize cond (decide (c.gD3>=0)) (decide (c.gD3<=1024)) false=x1 at *;generalize cond (decide (c.gD5>=1)) (decide (c.gD5<=32768)) false=x2 at *;generalize cond (decide (w>=1)) (decide (w<=64)) false=x3 at *;generalize cond (decide (h>=1)) (decide (h<=64)) false=x4 at *;have n1:=of_decide_eq_false h1;have n2:=of_decide_eq_false h2;cases x1
 case false=>intro e;exact absurd (show(2:Int)=0 from e) (by decide)
 cases x2
 case false=>intro e;exact absurd (show(2:Int)=0 from e) (by decide)
 cases x3
 case false=>intro e;exact absurd (show(2:Int)=0 from e) (by decide)
 cases x4
 case false=>intro e;exact absurd (show(2:Int)=0 from e) (by decide)
 intro _;exact⟨b3 rfl,b4 rfl,b1 rfl,b2 rfl,rfl,rfl,rfl,by omega,by omega⟩
theorem aCV{p:aC}(h:aBE p=true):pqt p:=by
 unfold aBE at h;cases h1:(!(aC.eq p (aC.mk 0 0 0))) with
 | false=>rw[h1,cond_false] at h;cases h
 | true=>
  rw[h1,cond_true] at h;simp only[tB,vQ] at h;by_cases h2:max (max p.gX p.gY) p.gZ<=16384
  ·rw[dt h2,cond_true] at h;have h3:=of_decide_eq_true h;unfold pqt;omega
  ·rw[df h2,cond_false] at h;cases h
theorem aDv{p:aC}(h:pqt p):pin p:=by
 obtain⟨⟨a,b⟩,⟨c,d⟩,e,f⟩:=h;exact⟨⟨by omega,by omega⟩,⟨by omega,by omega⟩,by omega,by omega⟩
theorem ofNZ{w:Int}(h1:1<=w)(h2:w<=64):S64 (w*4294967296)≠0:=by unfold S64;(repeat' split) <;> omega
theorem T.eq{α β:Type}{o:Option α}{a:α}{f:α->Option β}{Q:β->Prop}(e:o=some a)(h:T (f a) Q):T (aa o f) Q:=by rw[e];exact h
theorem aLW(k:Nat)(c:bR)(w h x y:Int)(v:Vector Int 2):T (uY (k+6) c w h x y v) (λr=>vin r.1/\(r.2=0->aNL c w h)):=by
 unfold uY;refine T.bind (aG8 _ c w h) λr hr=>?_;refine T.cond (λhc=>?_) (λhc=>?_)
 ·exact T.ret ⟨⟨z64,z64,z64⟩,λe=>by dsimp only at e;rw[e] at hc;cases hc⟩
 have h0:r=0:=by simpa using hc
 have cam:=hr h0;obtain⟨⟨w1,w2⟩,⟨h1,h2⟩,hl,hf,o1,o2,o3,_⟩:=cam;simp only[aR]
 refine T.cond (λ_=>T.ret ⟨⟨z64,z64,z64⟩,λe=>by cases e⟩) (λ_=>?_)
 refine T.eq (rP _ (dM _)) ?_;refine T.bind (T.idx (by decide) (by simp)) λe7 _=>?_;unfold pX;refine T.eq rfl ?_;refine T.eq (aAw (k+3) (eH _) (dM _)) ?_;refine T.eq (rP _ ⟨by omega,by omega⟩) ?_;refine T.eq (wQ (k+3) (eH _) (eH _) (ofNZ w1 w2)) ?_;refine T.eq (rP _ (dM _)) ?_;refine T.bind (T.idx (by decide) (by simp)) λe14 _=>?_;refine T.eq rfl ?_;refine T.eq (aEi _ (eH _) (dM _)) ?_;refine T.eq (rP _ ⟨by omega,by omega⟩) ?_;refine T.eq (wQ (k+3) (eH _) (eH _) (ofNZ h1 h2)) ?_;refine T.eq (zK _ (aDv (aCV o3))) ?_;refine T.eq (zK _ (aDv (aCV o1))) ?_;refine T.eq (qK (k+3) (zD _) (eH _)) ?_;refine T.eq (zK _ (aDv (aCV o2))) ?_;refine T.eq (qK (k+3) (zD _) (eH _)) ?_;refine T.eq (aGn (k+3) _ (by intro u hu;simp at hu;rcases hu with rfl | rfl | rfl;exact zD _;exact oS _ _;exact oS _ _) (by simp) (by simp)) ?_;refine T.ret ⟨?_,λ_=>hr h0⟩
 exact sL _ _
theorem aPR(N:Nat)(a b:Int):T (qX N a b) cJ:=by
 unfold qX;simp only[aR]
 exact T.ret (dM _)
theorem aNe(k:Nat)(a:Int)(c:bR):T (mT (k+3) a c) cJ:=by
 unfold mT;simp only[aR]
 refine T.bind (aPR _ _ _) λr hr=>?_;refine T.eq (rP _ (dM _)) ?_;refine T.eq (rP _ ⟨by decide,by decide⟩) ?_;refine T.eq (wQ k (eH _) (eH _) (by decide)) ?_;exact T.ret (eH _)
theorem aMe(N:Nat)(a:Int):T (tR N a) cJ:=by
 unfold tR;simp only[aR]
 exact T.ret (dM _)
theorem aTu(k:Nat)(c:bR)(v:Vector Int 4)(h1:pin c.gB4)(h2:pin c.gUp):T (wZ (k+6) c v) pin:=by
 unfold wZ;refine T.eq (zK _ h1) ?_;refine T.bind (T.idx (by decide) (by simp)) λe2 _=>?_;refine T.bind (aNe (k+3) _ _) λr3 h3=>?_;refine T.eq (qK (k+3) (zD _) h3) ?_;refine T.eq (zK _ h2) ?_;refine T.bind (T.idx (by decide) (by simp)) λe6 _=>?_;refine T.bind (aNe (k+3) _ _) λr7 h7=>?_;refine T.eq (qK (k+3) (zD _) h7) ?_;refine T.eq (aHM (k+3) (oS _ _) (oS _ _)) ?_;refine T.bind (aMe _ _) λ_ a=>T.bind (aMe _ _) λ_ b=>T.bind (aMe _ _) λ_ d=>T.ret ⟨a,b,d⟩
theorem aBN{α:Type}{m:Nat}(v:Vector α m)(i:Nat)(h:i < m):v.toList[i]? = some v[i]:=by simp[h]
theorem aKL{α:Type}{m:Nat}(v:Vector α m){i:Nat}(h:i < m):v[i]∈v.toList:=by simp
theorem T.vget{α:Type}{m:Nat}{v:Vector α m}{i:Nat}(h:i < m):T (v.toList[i]?) (λ_=>True):=⟨_,Go.UK.aBN v i h,trivial⟩
theorem T.loop{σ:Type}{n:Nat}(hn:n < 9223372036854775807)(I:Nat->σ->Prop){F:Nat->σ->Int->Option σ}
  (hstep:∀k s i,i < n->I i s->∀Q:σ->Prop,(∀s',I (i+1) s'->T (F k s' ((i+1:Nat):Int)) Q)->T (F (k+1) s (i:Int)) Q) (hend:∀k s,F (k+1) s (n:Int)=some s) :
  ∀(k i:Nat) (s:σ),I i s->i<=n->n - i < k->T (F k s (i:Int)) (I n)
 | 0,i,_,_,_,h=>by omega
 | k+1,i,s,hs,hi,hk=>by
  by_cases h:i < n
  ·exact hstep k s i h hs _ λs' h'=>T.loop hn I hstep hend k (i+1) s' h' (by omega) (by omega)
  ·obtain rfl:i=n:=by omega
   exact⟨s,hend _ _,hs⟩
theorem T.loop0{σ:Type}{n:Nat}(hn:n < 9223372036854775807)(I:Nat->σ->Prop){F:Nat->σ->Int->Option σ}
  (hstep:∀k s i,i < n->I i s->∀Q:σ->Prop,(∀s',I (i+1) s'->T (F k s' ((i+1:Nat):Int)) Q)->T (F (k+1) s (i:Int)) Q) (hend:∀k s,F (k+1) s (n:Int)=some s) {N:Nat} (hN:n < N) {s:σ} (hs:I 0 s):T (F N s 0) (I n):=
 T.loop hn I hstep hend N 0 s hs (by omega) (by omega)
theorem numC(N:Nat)(b:List Int)(h:4<=b.length):T (oW N b) (λ_=>True):=by
 unfold oW;refine T.bind (T.idx (by omega) (by omega)) λ_ _=>T.bind (T.idx (by omega) (by omega)) λ_ _=>?_;refine T.letO λ_ _=>T.bind (T.idx (by omega) (by omega)) λ_ _=>T.letO λ_ _=>T.bind (T.idx (by omega) (by omega)) λ_ _=>T.letO λ_ _=>T.ret trivial
theorem i4{a i:Nat}(h:a*i < 1000000):I64 ((a:Int)*(i:Int))=((a*i:Nat):Int):=by
 have e:(a:Int)*(i:Int)=((a*i:Nat):Int):=by push_cast;rfl
 rw[e];exact bC (by omega) (by omega)
theorem ia{a i:Nat}(h:a+i < 1000000):I64 ((a:Int)+(i:Int))=((a+i:Nat):Int):=by
 rw[bC (by omega) (by omega)];omega
theorem aUO(N:Nat)(hN:20 < N)(key:Vector Int 32)(c:Int)(n:Vector Int 12):T (tO N key c n) (λ_=>True):=by
 unfold tO;refine T.bind (T.loop0 (n:=8) (by decide) (λ_ _=>True) (F:=mP N key) (λk s i hi _ Q hk=>?_) (λk s=>by rw[mP,df (by omega),cond_false]) (by omega) trivial) λv _=>?_
 ·rw[mP,dt (by omega),cond_true,show(4:Int)=((4:Nat):Int) from rfl,i4 (by omega),ia (by omega)]
  refine T.bind (T.slc (by omega) (by omega) (by simp)) λs4 h4=>T.bind (numC N s4 (by omega)) λr _=>T.bind (T.inRO (by omega) (by omega)) λ_ _=>T.bind (T.vget (by omega)) λe _=>?_;rw[dI (by omega)]
  exact hk _ trivial
 refine T.bind (T.loop0 (n:=3) (by decide) (λ_ _=>True) (F:=mR N n) (λk s i hi _ Q hk=>?_) (λk s=>by rw[mR,df (by omega),cond_false]) (by omega) trivial) λv _=>T.ret trivial;rw[mR,dt (by omega),cond_true,show(4:Int)=((4:Nat):Int) from rfl,i4 (by omega),show(13:Int)=((13:Nat):Int) from rfl,ia (by omega)]
 refine T.bind (T.slc (by omega) (by omega) (by simp)) λs4 h4=>T.bind (numC N s4 (by omega)) λr _=>T.bind (T.inRO (by omega) (by omega)) λ_ _=>T.bind (T.vget (by omega)) λe _=>?_;rw[dI (by omega)]
 exact hk _ trivial
theorem rotT(N:Nat)(x:Int)(n:Nat)(h1:1<=n)(h2:n<=31):T (eG N x (n:Int)) (λ_=>True):=by
 have b:∀n:Fin 32,fI .u64 (U64 (n.val:Int)) 31=(n.val:Int):=by decide +kernel
 have hb:fI .u64 (U64 (n:Int)) 31=(n:Int):=b ⟨n,by omega⟩
 unfold eG;rw[hb,aGi .u32 (by omega),ae,aR,mY (by omega) (by omega),aBq .u32 (by omega)]
 exact T.ret trivial
theorem aQr(N:Nat)(v:Vector Int 4):T (qT N v) (λ_=>True):=by
 unfold qT;refine T.bind (T.idx (by omega) (by simp)) λ_ _=>T.bind (T.idx (by omega) (by simp)) λ_ _=>T.bind (T.idx (by omega) (by simp)) λ_ _=>T.bind (T.idx (by omega) (by simp)) λ_ _=>?_;refine T.letO λ_ _=>T.bind (rotT N _ 16 (by decide) (by decide)) λ_ _=>T.letO λ_ _=>T.bind (rotT N _ 12 (by decide) (by decide)) λ_ _=>T.letO λ_ _=>T.bind (rotT N _ 8 (by decide) (by decide)) λ_ _=>T.letO λ_ _=>T.bind (rotT N _ 7 (by decide) (by decide)) λ_ _=>T.ret trivial
def aJX : List (Vector Int 4):=(#v[#v[0,4,8,12],#v[1,5,9,13],#v[2,6,10,14],#v[3,7,11,15],#v[0,5,10,15],#v[1,6,11,12],#v[2,7,8,13],#v[3,4,9,14]]:Vector (Vector Int 4) 8).toList
theorem aON : ∀v∈aJX,∀x∈v.toList,0<=x/\x < 16:=by unfold aJX;decide
theorem T.place{v:Vector Int 4}(hv:v∈aJX){i:Nat}(h:i < 4):T (v.toList[i]?) (λx=>0<=x/\x < 16):=
 ⟨_,Go.UK.aBN v i h,aON v hv _ (aKL v h)⟩
theorem aRg(N:Nat)(hN:20 < N)(s:Vector Int 16):T (kM N N s 0) (λ_=>True):=by
 refine T.loop0 (n:=8) (by decide) (λ_ _=>True) (F:=kM N) (λk s i hi _ Q hk=>?_) (λk s=>by rw[kM,df (by omega),cond_false]) (by omega) trivial;rw[kM,dt (by omega),cond_true]
 refine T.bind (T.idx (by omega) (by simp;omega)) λe8 he=>?_;have hm:e8∈aJX:=List.mem_of_getElem? he
 iterate 4 refine T.bind (T.inRO (by decide) (by decide)) λ_ _=>T.bind (T.place hm (by decide)) λ_ h=>T.bind (T.inRO h.1 h.2) λ_ _=>T.bind (T.vget (by omega)) λ_ _=>?_
 refine T.bind (aQr N _) λr25 _=>?_;refine T.bind (T.inRO (by decide) (by decide)) λ_ _=>T.bind (T.place hm (by decide)) λ_ h0=>?_;refine T.bind (T.inRO (by decide) (by decide)) λ_ _=>T.bind (T.place hm (by decide)) λ_ h1=>?_;refine T.bind (T.inRO (by decide) (by decide)) λ_ _=>T.bind (T.place hm (by decide)) λ_ h2=>?_;refine T.bind (T.inRO (by decide) (by decide)) λ_ _=>T.bind (T.place hm (by decide)) λ_ h3=>?_
 iterate 4 refine T.bind (T.inRO (by decide) (by decide)) λ_ _=>T.bind (T.vget (by decide)) λ_ _=>?_
 refine T.bind (T.inRO h0.1 h0.2) λ_ _=>T.bind (T.vget (by omega)) λ_ _=>T.bind (T.inRO h1.1 h1.2) λ_ _=>T.bind (T.vget (by omega)) λ_ _=>T.bind (T.inRO h2.1 h2.2) λ_ _=>T.bind (T.vget (by omega)) λ_ _=>T.bind (T.inRO h3.1 h3.2) λ_ _=>T.bind (T.vget (by omega)) λ_ _=>?_;rw[dI (by omega)]
 exact hk _ trivial
theorem aTE(N:Nat)(hN:20 < N)(key:Vector Int 32)(c:Int)(n:Vector Int 12):T (tI N key c n) (λ_=>True):=by
 unfold tI;refine T.bind (aUO N hN key c n) λr1 _=>?_;refine T.bind (T.loop0 (n:=10) (by decide) (λ_ _=>True) (F:=mM N) (λk s i hi _ Q hk=>?_) (λk s=>by rw[mM,df (by omega),cond_false]) (by omega) trivial) λp2 _=>?_
 ·rw[mM,dt (by omega),cond_true,dI (by omega)]
  exact T.bind (aRg N hN s) λ_ _=>hk _ trivial
 refine T.bind (T.loop0 (n:=16) (by decide) (λ_ _=>True) (F:=mU N p2 r1) (λk s i hi _ Q hk=>?_) (λk s=>by rw[mU,df (by omega),cond_false]) (by omega) trivial) λp3 _=>T.ret trivial;rw[mU,dt (by omega),cond_true,show(4:Int)=((4:Nat):Int) from rfl,i4 (by omega)]
 have f1:I64 (((4*i:Nat):Int)+1)=((4*i+1:Nat):Int):=by rw[bC (by omega) (by omega)];omega
 have f2:I64 (((4*i:Nat):Int)+2)=((4*i+2:Nat):Int):=by rw[bC (by omega) (by omega)];omega
 have f3:I64 (((4*i:Nat):Int)+3)=((4*i+3:Nat):Int):=by rw[bC (by omega) (by omega)];omega
 refine T.bind (T.idx (by omega) (by simp;omega)) λ_ _=>T.bind (T.inRO (by omega) (by omega)) λ_ _=>T.bind (T.vget (by omega)) λ_ _=>?_;simp only[aR,f1,f2,f3]
 iterate 4 refine T.bind (T.inRO (by omega) (by omega)) λ_ _=>T.bind (T.vget (by omega)) λ_ _=>?_
 rw[dI (by omega)]
 exact hk _ trivial
end Go.UK
