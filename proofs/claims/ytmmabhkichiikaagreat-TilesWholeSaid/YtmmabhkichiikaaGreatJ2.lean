/- A part of the proof: what the functions of the program compute. -/
import Derived.Test.YtmmabhkichiikaaGreatAJ2
import Derived.Test.YtmmabhkichiikaaGreatJ1
open BitVec renaming ofInt→bf
open Int renaming add_mul_ediv_left→fq,add_mul_emod_self_left→iu,ediv_eq_zero_of_lt→jb,ediv_le_self→j7,ediv_lt_iff_lt_mul→ed,ediv_nonneg→ck,emod_eq_of_lt→gu,emod_lt_of_pos→cm,emod_nonneg→ct,eq_ofNat_of_zero_le→bm,le_of_lt→cc,mul_comm→eh,mul_ediv_add_emod→cf,mul_le_mul→i0,mul_le_mul_of_nonneg_right→eo,mul_lt_mul_of_pos_right→io,mul_nonneg→dk,ne_of_gt→cu,neg_neg→lj,one_mul→lk,pow_add→k7,pow_pos→dr,tdiv→d7,tdiv_eq_ediv_of_nonneg→dp,zero_add→jf
open Nat renaming div_div_eq_div_mul→ja,mul_le_mul_left→jz,pow_add→il,pow_lt_pow_right→ju
open Option renaming bind→aa,bind_some→ae
namespace Go.UK
open Go Go.Proofs
set_option maxRecDepth 20000
set_option linter.all false
theorem aVZ(N:Nat){a b:Int}(ha:0<=a)(ha':a < 18446744073709551616)(hb:0<=b)(hb':b < 18446744073709551616) :
  mO N a b=some (a*b / 18446744073709551616,a*b % 18446744073709551616):=by
 unfold mO;simp only[aO,aJ3 ha ha',aJ3 hb hb',aJQ,aJ3 (aCU _) (aEU _)]
 simp only[aE8]
 generalize hA1:a / 4294967296=A1;generalize hA0:a % 4294967296=A0;generalize hB1:b / 4294967296=B1;generalize hB0:b % 4294967296=B0;have ea:a=A1*4294967296+A0:=by omega
 have eb:b=B1*4294967296+B0:=by omega
 have hp:a*b=(A1*B1)*18446744073709551616+(A1*B0+A0*B1)*4294967296+A0*B0:=by
  rw[ea,eb];grind
 rw[hp]
 obtain⟨x1,y1⟩:=aG1 (a:=A1) (b:=B1) (by omega) (by omega) (by omega) (by omega)
 obtain⟨x2,y2⟩:=aG1 (a:=A1) (b:=B0) (by omega) (by omega) (by omega) (by omega)
 obtain⟨x3,y3⟩:=aG1 (a:=A0) (b:=B1) (by omega) (by omega) (by omega) (by omega)
 obtain⟨x4,y4⟩:=aG1 (a:=A0) (b:=B0) (by omega) (by omega) (by omega) (by omega)
 clear hp ea eb;generalize A1*B1=p at *;generalize A1*B0=q at *;generalize A0*B1=r at *;generalize A0*B0=s at *;congr 2;omega
theorem aQy(i:Nat)(h:i < 256):∃b:UInt8,aQM.data.toList[i]? = some b/\b.toNat<=8/\i < 2 ^ b.toNat/\(0 < i->1<=b.toNat/\2 ^ (b.toNat - 1)<=i):=by
 have key:∀i:Fin 256,(match aQM.data.toList[i.val]? with | some b=>decide (b.toNat<=8)&&decide (i.val < 2 ^ b.toNat)&&(decide (i.val=0)||(decide (1<=b.toNat)&&decide (2 ^ (b.toNat - 1)<=i.val))) | none=>false)=true:=by decide
 have:=key ⟨i,h⟩
 simp only at this;split at this
 ·rename_i b hb;simp only[Bool.and_eq_true,Bool.or_eq_true,decide_eq_true_eq] at this;exact⟨b,hb,this.1.1,this.1.2,λhi=>by rcases this.2 with h | h;omega;exact h⟩
 ·cases this
theorem len64(N:Nat){a:Int}(ha:0 < a)(ha':a < 18446744073709551616) :
  ∃n:Nat,tK N a=some (n:Int)/\1<=n/\n<=64/\(2:Int) ^ (n - 1)<=a/\a < (2:Int) ^ n:=by
 obtain⟨A,rfl⟩:=bm (cc ha)
 unfold tK;simp only[aO,aJQ,aWc,shr8u]
 -- the three steps
 obtain⟨y1,n1,e1,h1,h1'⟩:∃(y n:Nat),(cond (decide ((A:Int)>=4294967296)) (some ((A:Int) / 4294967296,(32:Int))) (some ((A:Int),0)))=some ((y:Int),(n:Int))/\y < 4294967296/\(A / 2 ^ n=y/\0 < y/\(n=0\/n=32)):=by
  by_cases hc:(A:Int)>=4294967296
  ·exact⟨A / 4294967296,32,by simp[hc],by omega,rfl,by omega,.inr rfl⟩
  ·exact⟨A,0,by simp[hc],by omega,by simp,by omega,.inl rfl⟩
 rw[e1]
 simp only[ae]
 obtain⟨y2,n2,e2,h2,h2'⟩:∃(y n:Nat),(cond (decide ((y1:Int)>=65536)) (some ((y1:Int) / 65536,I64 ((n1:Int)+16))) (some ((y1:Int),(n1:Int))))=some ((y:Int),(n:Int))/\y < 65536/\(A / 2 ^ n=y/\0 < y/\n<=48):=by
  by_cases hc:(y1:Int)>=65536
  ·refine⟨y1 / 65536,n1+16,?_,by omega,?_,by omega,by omega⟩
   ·simp only[hc,decide_true,cond_true]
    rw[bD (by omega) (by omega)]
    rfl
   ·rw[il,<- ja,h1'.1]
  ·exact⟨y1,n1,by simp[hc],by omega,h1'.1,h1'.2.1,by omega⟩
 rw[e2]
 simp only[ae]
 obtain⟨y3,n3,e3,h3,h3'⟩:∃(y n:Nat),(cond (decide ((y2:Int)>=256)) (some ((y2:Int) / 256,I64 ((n2:Int)+8))) (some ((y2:Int),(n2:Int))))=some ((y:Int),(n:Int))/\y < 256/\(A / 2 ^ n=y/\0 < y/\n<=56):=by
  by_cases hc:(y2:Int)>=256
  ·refine⟨y2 / 256,n2+8,?_,by omega,?_,by omega,by omega⟩
   ·simp only[hc,decide_true,cond_true]
    rw[bD (by omega) (by omega)]
    rfl
   ·rw[il,<- ja,h2'.1]
  ·exact⟨y2,n2,by simp[hc],by omega,h2'.1,h2'.2.1,by omega⟩
 rw[e3]
 simp only[ae]
 obtain⟨b,g1,g2,g3,g4⟩:=aQy y3 h3;obtain⟨g5,g6⟩:=g4 h3'.2.1;have hidx:idx aQM.data.toList (U8 (y3:Int))=some b:=by
  have:U8 (y3:Int)=(y3:Int):=by
   rw[show U8 (y3:Int)=(y3:Int) % 256 from IntKind.wrap_u8 _]
   omega
  rw[this]
  unfold idx;simp[g1]
 rw[hidx]
 simp only[ae]
 refine⟨n3+b.toNat,?_,by omega,by omega,?_,?_⟩
 ·rw[bD (x:=(b.toNat:Int)) (by omega) (by omega),bD (by omega) (by omega)]
  rfl
 ·have e:n3+b.toNat - 1=n3+(b.toNat - 1):=by omega
  have:2 ^ (n3+b.toNat - 1)<=A:=by
   rw[e,il]
   calc 2 ^ n3*2 ^ (b.toNat - 1)<=2 ^ n3*y3:=jz _ g6
    _=2 ^ n3*(A / 2 ^ n3):=by rw[h3'.1]
    _<=A:=Nat.mul_div_le A _
  exact_mod_cast this
 ·have:A < 2 ^ (n3+b.toNat):=by
   rw[il]
   have:=Nat.lt_mul_div_succ A (Nat.two_pow_pos n3)
   rw[h3'.1] at this
   calc A < 2 ^ n3*(y3+1):=this
    _<=2 ^ n3*2 ^ b.toNat:=jz _ (by omega)
  exact_mod_cast this
theorem aL2(N:Nat){l y:Int}(hy:0 < y)(hl:0<=l)(hl':l < 18446744073709551616):kS N 0 l y=some (l / y,l % y):=by
 unfold kS;have e1:(y==0)=false:=by simp;omega
 have e2:decide (y<=0)=false:=by simp;omega
 rw[e1,e2]
 simp only[cond_false,beq_self_eq_true,cond_true,aO]
 rw[aEa _ (by omega),aQF _ (by omega)]
 simp only[ae]
 rw[show IntKind.u64.wrap (l.tdiv y)=U64 (l.tdiv y) from rfl,dp hl,Int.tmod_eq_emod_of_nonneg hl]
 rw[nP (ck hl (cc hy)) (by have:=j7 y hl;omega)]
theorem aVm(N:Nat){H D Y y1 y0:Int}(R:aDc H D Y y1 y0)(x5 s14 s15 s16:Int)(h6:s14=y1)(h8:x5=y0)(h13:s16=D)(k:Nat)(q r:Int)(hq:q*y1+r=H)(hr:0<=r)(hr':r < 4294967296)(hge:(H*4294967296+D) / Y<=q)(hle:q<=4294967297)(hk:q - (H*4294967296+D) / Y < k) :
  mG N x5 k s14 s15 s16 q r=some (s14,s15,s16,(H*4294967296+D) / Y):=by
 subst s14 x5 s16
 induction k generalizing q r with
 | zero=>simp at hk;omega
 | succ k ih=>
  obtain⟨b1,b2⟩:=R.q_lt;have ht:=R.test hq;unfold mG;simp only[aO]
  have hy1:=R.y1l;have hy1':=R.y1h;have hy0:=R.y0l;have hy0':=R.y0h;have hD:=R.Dl;have hD':=R.Dh;have e1:U64 (U64 (4294967296*r)+D)=4294967296*r+D:=by rw[nP (x:=4294967296*r) (by omega) (by omega),nP (by omega) (by omega)]
  rw[e1]
  have htest:cond (decide (q>=4294967296)) true (decide (U64 (q*y0) > 4294967296*r+D))=decide ((H*4294967296+D) / Y < q):=by
   by_cases hc:q>=4294967296
   ·rw[show decide (q>=4294967296)=true by simpa using hc,cond_true]
    symm;simp;omega
   ·rw[show decide (q>=4294967296)=false by simpa using hc,cond_false]
    obtain⟨m1,m2⟩:=aG1 (a:=q) (b:=y0) (by omega) (by omega) hy0 hy0';rw[nP m1 (by omega)]
    simp only[decide_eq_decide]
    exact ht
  rw[htest]
  by_cases hc:(H*4294967296+D) / Y < q
  ·rw[show decide ((H*4294967296+D) / Y < q)=true by simpa using hc,cond_true]
   have e2:U64 (r+y1)=r+y1:=nP (by omega) (by omega)
   have e3:U64 (q - 1)=q - 1:=nP (by omega) (by omega)
   rw[e2,e3]
   have hq':(q - 1)*y1+(r+y1)=H:=by rw[<- hq];grind
   by_cases hx:r+y1>=4294967296
   ·rw[show decide (r+y1>=4294967296)=true by simpa using hx,cond_true]
    have ht':=R.test hq';have hnot:¬((q - 1)*y0 > 4294967296*(r+y1)+D):=by
     have:(q - 1)*y0<=4294967296*4294967295:=i0 (by omega) (by omega) hy0 (by omega)
     omega
    have:¬(H*4294967296+D) / Y < q - 1:=λh'=>hnot (ht'.2 h')
    rw[show(H*4294967296+D) / Y=q - 1 by omega]
   ·rw[show decide (r+y1>=4294967296)=false by simpa using hx,cond_false]
    have hh:=ih (q - 1) (r+y1) hq' (by omega) (by omega) (by omega) (by omega) (by omega)
    exact hh
  ·rw[show decide ((H*4294967296+D) / Y < q)=false by simpa using hc,cond_false]
   rw[show(H*4294967296+D) / Y=q by omega]
theorem aVu(N:Nat){H D Y y1 y0:Int}(R:aDc H D Y y1 y0)(x5 x9:Int)(p13:Int×Int×Int×Int)(h6:p13.1=y1)(h8:x5=y0)(h15:x9=D)(k:Nat)(q r:Int)(hq:q*y1+r=H)(hr:0<=r)(hr':r < 4294967296)(hge:(H*4294967296+D) / Y<=q)(hle:q<=4294967297)(hk:q - (H*4294967296+D) / Y < k) :
  mE N x9 x5 p13 k r q=some ((H*4294967296+D) / Y):=by
 subst x5 x9
 induction k generalizing q r with
 | zero=>simp at hk;omega
 | succ k ih=>
  obtain⟨b1,b2⟩:=R.q_lt;have ht:=R.test hq;unfold mE;simp only[aO]
  rw[h6]
  have hy1:=R.y1l;have hy1':=R.y1h;have hy0:=R.y0l;have hy0':=R.y0h;have hD:=R.Dl;have hD':=R.Dh;have e1:U64 (U64 (4294967296*r)+D)=4294967296*r+D:=by rw[nP (x:=4294967296*r) (by omega) (by omega),nP (by omega) (by omega)]
  rw[e1]
  have htest:cond (decide (q>=4294967296)) true (decide (U64 (q*y0) > 4294967296*r+D))=decide ((H*4294967296+D) / Y < q):=by
   by_cases hc:q>=4294967296
   ·rw[show decide (q>=4294967296)=true by simpa using hc,cond_true]
    symm;simp;omega
   ·rw[show decide (q>=4294967296)=false by simpa using hc,cond_false]
    obtain⟨m1,m2⟩:=aG1 (a:=q) (b:=y0) (by omega) (by omega) hy0 hy0';rw[nP m1 (by omega)]
    simp only[decide_eq_decide]
    exact ht
  rw[htest]
  by_cases hc:(H*4294967296+D) / Y < q
  ·rw[show decide ((H*4294967296+D) / Y < q)=true by simpa using hc,cond_true]
   have e2:U64 (r+y1)=r+y1:=nP (by omega) (by omega)
   have e3:U64 (q - 1)=q - 1:=nP (by omega) (by omega)
   rw[e2,e3]
   have hq':(q - 1)*y1+(r+y1)=H:=by rw[<- hq];grind
   by_cases hx:r+y1>=4294967296
   ·rw[show decide (r+y1>=4294967296)=true by simpa using hx,cond_true]
    have ht':=R.test hq';have hnot:¬((q - 1)*y0 > 4294967296*(r+y1)+D):=by
     have:(q - 1)*y0<=4294967296*4294967295:=i0 (by omega) (by omega) hy0 (by omega)
     omega
    have:¬(H*4294967296+D) / Y < q - 1:=λh'=>hnot (ht'.2 h')
    congr 1;omega
   ·rw[show decide (r+y1>=4294967296)=false by simpa using hx,cond_false]
    have hh:=ih (q - 1) (r+y1) hq' (by omega) (by omega) (by omega) (by omega) (by omega)
    exact hh
  ·rw[show decide ((H*4294967296+D) / Y < q)=false by simpa using hc,cond_false]
   congr 1;omega
end Go.UK
namespace Go.UK
def S64(z:Int):Int:=if z < -9223372036854775808 then -9223372036854775808 else if 9223372036854775807 < z then 9223372036854775807 else z
theorem dD(z:Int):cD (S64 z):=by unfold S64 cD;(repeat' split) <;> omega
theorem qR{z:Int}(h:cD z):S64 z=z:=by unfold S64;obtain⟨h1,h2⟩:=h;rw[if_neg (by omega),if_neg (by omega)]
theorem ix0(a b:Int):idx [a,b] 0=some a:=rfl
theorem ix1(a b:Int):idx [a,b] 1=some b:=rfl
theorem aJy{s e:Int}(hs:cD s)(he:cD e) :
  (aR (cond (decide (s > 0)) (decide (e > 0)) false) λx7=>aR (decide ((I64 (s+e)) < 0)) λx8=>cond (cond x7 x8 false) (some (9223372036854775807:Int)) (
    aR (cond (decide (s < 0)) (decide (e < 0)) false) λx9=>aR (decide ((I64 (s+e))>=0)) λx10=>cond (cond x9 x10 false) (some (-9223372036854775808)) (some (I64 (s+e)))))=some (S64 (s+e)):=by
 simp only[aO]
 obtain⟨h1,h2⟩:=hs;obtain⟨h3,h4⟩:=he;by_cases a1:s > 0
 ·rw[dt a1,df (show ¬s < 0 by omega)]
  simp only[cond_true,cond_false]
  by_cases a2:e > 0
  ·rw[dt a2]
   simp only[cond_true]
   by_cases a3:9223372036854775807 < s+e
   ·rw[dt (show I64 (s+e) < 0 by rw[vR];omega),cond_true]
    unfold S64;rw[if_neg (by omega),if_pos a3]
   ·rw[bD (by omega) (by omega),df (show ¬s+e < 0 by omega),cond_false]
    rw[qR ⟨by omega,by omega⟩]
  ·rw[df a2,cond_false,bD (by omega) (by omega),qR ⟨by omega,by omega⟩];rfl
 ·rw[df a1]
  simp only[cond_false]
  by_cases a2:s < 0
  ·rw[dt a2]
   simp only[cond_true]
   by_cases a3:e < 0
   ·rw[dt a3]
    simp only[cond_true]
    by_cases a4:s+e < -9223372036854775808
    ·rw[dt (show I64 (s+e)>=0 by rw[vR];omega),cond_true]
     unfold S64;rw[if_pos a4]
    ·rw[bD (by omega) (by omega),df (show ¬s+e>=0 by omega),cond_false]
     rw[qR ⟨by omega,by omega⟩]
   ·rw[df a3,cond_false,bD (by omega) (by omega),qR ⟨by omega,by omega⟩];rfl
  ·rw[df a2,cond_false,bD (by omega) (by omega),qR ⟨by omega,by omega⟩];rfl
theorem aCK(k:Nat){a b:Int}(ha:cD a)(hb:cD b):lC (k+3) [a,b]=some (S64 (a+b)):=by
 unfold lC;have l2:(([a,b]:List Int).length:Int)=2:=rfl;rw[nZ,aO,l2,dt (show(0:Int) < 2 by decide),cond_true,ix0]
 simp only[ae]
 rw[aJy (s:=0) ⟨by decide,by decide⟩ ha]
 simp only[ae]
 rw[show I64 (0+1)=1 by decide,nZ,aO,l2,dt (show(1:Int) < 2 by decide),cond_true,ix1]
 simp only[ae]
 rw[jf,qR ha,aJy ha hb]
 simp only[ae]
 rw[show I64 (1+1)=2 by decide,nZ,aO,l2,df (show ¬(2:Int) < 2 by decide),cond_false]
 rfl
theorem wsz(N:Nat){a:Int}(ha:cD a):xJ N a=some (if a < 0 then -a else a,decide (a < 0)):=by
 obtain⟨h1,h2⟩:=ha;unfold xJ;by_cases h:a < 0
 ·rw[dt h,cond_true,if_pos h]
  congr 2;rw[aE8,aE8];omega
 ·rw[df h,cond_false,if_neg h,nP (by omega) (by omega)]
theorem aVT{x y c:Int}(hx:0<=x)(hy:0<=y)(hy':y<=18446744073709551615)(hc:0<=c)(hc':c<=1):aEl x y c=some ((x - y - c) % 18446744073709551616,if x < y+c then 1 else 0):=by
 unfold aEl;rw[dt hx,dt hy,dt hc,dt hc',dt hy']
 simp only[Bool.and_self,cond_true]
 by_cases h:x < y+c
 ·rw[dt h,if_pos h];rfl
 ·rw[df h,if_neg h];rfl
theorem aIc(N:Nat){h l:Int}(hh:0<=h)(hh':h < 18446744073709551616)(hl:0<=l)(hl':l < 18446744073709551616) :
  ∃h' l',sM N h l=some (h',l')/\0<=h'/\h' < 18446744073709551616/\0<=l'/\l' < 18446744073709551616/\(h'*18446744073709551616+l'=0/\h*18446744073709551616+l=0\/h'*18446744073709551616+l'=340282366920938463463374607431768211456 - (h*18446744073709551616+l)):=by
 unfold sM;rw[aVT (by decide) hl (by omega) (by decide) (by decide)]
 simp only[ae]
 have hc:0<=(if (0:Int) < l+0 then(1:Int) else 0)/\(if (0:Int) < l+0 then(1:Int) else 0)<=1:=by split <;> omega
 rw[aVT (by decide) hh (by omega) hc.1 hc.2]
 simp only[ae]
 refine⟨_,_,rfl,?_⟩
 split <;> omega
abbrev vH(w:aT):Int:=w.gHi*18446744073709551616+w.gLo
def wok(w:aT):Prop:=cD w.gHi/\0<=w.gLo/\w.gLo < 18446744073709551616
theorem aQB(N:Nat){h l:Int}(m:Bool)(hh:0<=h)(hl:0<=l)(hl':l < 18446744073709551616)(hb:h*18446744073709551616+l<=170141183460469231731687303715884105727) :
  ∃w,mD N h l m=some (w,true)/\wok w/\vH w=cond m (-(h*18446744073709551616+l)) (h*18446744073709551616+l):=by
 unfold mD;cases m with
 | false=>
  simp only[cond_false,ae,aO]
  have hi:I64 h=h:=bD (by omega) (by omega)
  rw[hi,df (show ¬h < 0 by omega)]
  refine⟨⟨h,l⟩,rfl,⟨⟨by show _<=h;omega,by show h<=_;omega⟩,hl,hl'⟩,rfl⟩
 | true=>
  obtain⟨h',l',e,a1,a2,a3,a4,a5⟩:=aIc N (h:=h) (l:=l) hh (by omega) hl hl';rw[e]
  simp only[cond_true,ae,aO]
  have hw:I64 h'*18446744073709551616+l' = -(h*18446744073709551616+l):=by rw[vR];omega
  refine⟨⟨I64 h',l'⟩,?_,⟨⟨aLs _,by have:=aLt h';show I64 h'<=_;omega⟩,a3,a4⟩,hw⟩
  congr 2;by_cases hz:I64 h' < 0
  ·rw[dt hz];rfl
  ·rw[df hz]
   have h0:h'=0/\l'=0:=by rw[vR] at hz hw;omega
   rw[h0.1,h0.2]
   rfl
theorem aUC{x y:Int}(hx:0<=x)(hx':x<=9223372036854775808)(hy:0<=y)(hy':y<=9223372036854775808):0<=x*y/\x*y<=85070591730234615865843651857942052864:=by
 have h1:=dk hx hy;have h2:x*y<=9223372036854775808*9223372036854775808:=i0 hx' hy' hy (by omega)
 omega
theorem aNF(N:Nat){a b:Int}(ha:cD a)(hb:cD b):∃w,iX N a b=some w/\wok w/\vH w=a*b:=by
 unfold iX;rw[wsz N ha,wsz N hb]
 simp only[ae]
 obtain⟨a1,a2⟩:=ha;obtain⟨b1,b2⟩:=hb;have key:∀(x y:Int) (m:Bool),0<=x->x<=9223372036854775808->0<=y->y<=9223372036854775808->(cond m (-(x*y)) (x*y)=a*b) ->
   ∃w,(aa (mO N x y) λr3=>aa (mD N r3.1 r3.2 m) λr4=>some r4.1)=some w/\wok w/\vH w=a*b:=by
  intro x y m hx hx' hy hy' he;obtain⟨m1,m2⟩:=aUC hx hx' hy hy';rw[aVZ N hx (by omega) hy (by omega)]
  simp only[ae]
  obtain⟨w,e1,e2,e3⟩:=aQB N (h:=x*y / 18446744073709551616) (l:=x*y % 18446744073709551616) m (by omega) (by omega) (by omega) (by omega)
  rw[e1]
  refine⟨w,rfl,e2,?_⟩
  rw[e3,<- he]
  have:x*y / 18446744073709551616*18446744073709551616+x*y % 18446744073709551616=x*y:=by omega
  rw[this]
 by_cases s1:a < 0 <;> by_cases s2:b < 0
 ·rw[if_pos s1,if_pos s2,dt s1,dt s2]
  exact key (-a) (-b) _ (by omega) (by omega) (by omega) (by omega) (by show -a * -b=_;rw[Int.neg_mul_neg])
 ·rw[if_pos s1,if_neg s2,dt s1,df s2]
  exact key (-a) b _ (by omega) (by omega) (by omega) (by omega) (by show -(-a*b)=_;rw[Int.neg_mul,lj])
 ·rw[if_neg s1,if_pos s2,df s1,dt s2]
  exact key a (-b) _ (by omega) (by omega) (by omega) (by omega) (by show -(a * -b)=_;rw[Int.mul_neg,lj])
 ·rw[if_neg s1,if_neg s2,df s1,df s2]
  exact key a b _ (by omega) (by omega) (by omega) (by omega) rfl
theorem aW0{h l:Int}(hl:0<=l)(hl':l < 18446744073709551616):(h*18446744073709551616+l) / 4294967296=h*4294967296+l / 4294967296:=by omega
theorem wshrA(N:Nat){w:aT}(hw:wok w):∃v,aDR N w 32=some v/\wok v/\vH v=vH w / 4294967296:=by
 obtain⟨⟨h1,h2⟩,h3,h4⟩:=hw;unfold aDR;have e1:jB 32 0=32:=by decide
 simp only[e1,aO]
 rw[df (show ¬(32:Int)>=64 by decide),cond_false,show((32:Int)==0)=false by decide,cond_false]
 simp only[aCz _ (show(0:Int)<=32 by decide),aIY _ (show(0:Int)<=I64 (64 - 32) by decide),ae]
 rw[show I64 (64 - 32)=32 by decide,aRj,aJQ,shl32,aRp]
 have hb:bor .u64 (U64 w.gHi*4294967296 % 18446744073709551616) (w.gLo / 4294967296)=U64 w.gHi*4294967296 % 18446744073709551616+w.gLo / 4294967296:=by
  refine aL1 32 (by omega) (by omega) (by omega) (by omega) (by decide) ?_;have h5:=aCU w.gHi;obtain⟨X,hX⟩:=bm h5;rw[hX]
  exact⟨X % 4294967296,by omega⟩
 rw[hb]
 refine⟨_,rfl,⟨⟨by show _<=w.gHi / 4294967296;omega,by show w.gHi / 4294967296<=_;omega⟩,by show 0<=_+_;omega,by show _+_ < _;omega⟩,?_⟩
 show w.gHi / 4294967296*18446744073709551616+(U64 w.gHi*4294967296 % 18446744073709551616+w.gLo / 4294967296)=(w.gHi*18446744073709551616+w.gLo) / 4294967296;rw[aW0 h3 h4,aE8]
 omega
theorem aQa(N:Nat){w:aT}(hw:wok w):wL N w=some (S64 (vH w)):=by
 obtain⟨⟨h1,h2⟩,h3,h4⟩:=hw;unfold wL rT;simp only[aO,aOx]
 by_cases hc:w.gHi=I64 w.gLo / 9223372036854775808
 ·rw[show(w.gHi != I64 w.gLo / 9223372036854775808)=false by simp[bne,hc]]
  simp only[cond_false,ae,cond_true]
  rw[qR]
  ·congr 1;show I64 w.gLo=w.gHi*18446744073709551616+w.gLo;rw[hc];simp only[vR];omega
  ·show cD (w.gHi*18446744073709551616+w.gLo)
   rw[hc];unfold cD;simp only[vR];omega
 ·rw[show(w.gHi != I64 w.gLo / 9223372036854775808)=true by simp[bne,hc]]
  simp only[cond_true,ae,cond_false]
  rw[vR] at hc;by_cases hs:w.gHi < 0
  ·rw[dt hs,cond_true]
   unfold S64;rw[if_pos (show w.gHi*18446744073709551616+w.gLo < _ by omega)]
  ·rw[df hs,cond_false]
   unfold S64;rw[if_neg (show ¬w.gHi*18446744073709551616+w.gLo < _ by omega),if_pos (show _ < w.gHi*18446744073709551616+w.gLo by omega)]
theorem aGS(k:Nat){a b:Int}(ha:cD a)(hb:cD b):aBF (k+3) [a,b]=some (S64 (a*b / 4294967296)):=by
 unfold aBF;have l2:(([a,b]:List Int).length:Int)=2:=rfl;rw[uV,aO,l2,dt (show(0:Int) < 2 by decide),cond_true,ix0]
 simp only[ae,beq_self_eq_true,cond_true]
 rw[show I64 (0+1)=1 by decide,uV,aO,l2,dt (show(1:Int) < 2 by decide),cond_true,ix1]
 simp only[ae]
 rw[show((1:Int)==0)=false by decide,cond_false]
 obtain⟨w,e1,e2,e3⟩:=aNF (k+3) ha hb;obtain⟨v,f1,f2,f3⟩:=wshrA (k+3) e2;rw[e1]
 simp only[ae]
 rw[f1]
 simp only[ae]
 rw[aQa _ f2]
 simp only[ae]
 rw[show I64 (1+1)=2 by decide,uV,aO,l2,df (show ¬(2:Int) < 2 by decide),cond_false,f3,e3]
 rfl
theorem rQ(N:Nat){a:Int}(ha:cD a):iV N a=some (S64 (a*4294967296)):=by
 unfold iV;obtain⟨w,e1,e2,e3⟩:=aNF N ha (b:=4294967296) ⟨by decide,by decide⟩
 rw[e1]
 simp only[ae]
 rw[aQa _ e2,e3]
 rfl
set_option maxHeartbeats 2000000
theorem aT4{H L1 L0 Y:Int}(hY:0 < Y):(((H*4294967296+L1) % Y)*4294967296+L0) % Y=(H*18446744073709551616+(L1*4294967296+L0)) % Y:=by
 have h:=cf (H*4294967296+L1) Y;generalize hq:(H*4294967296+L1) / Y=q at *;generalize hr:(H*4294967296+L1) % Y=r at *;have e:H*18446744073709551616+(L1*4294967296+L0)=(r*4294967296+L0)+Y*(q*4294967296):=by
  have:(H*4294967296+L1)*4294967296=(Y*q+r)*4294967296:=by rw[h]
  grind
 rw[e,iu]
theorem aOQ{a b c:Int}(hc:0 < c):(a*c) % (b*c)=(a % b)*c:=by
 rw[eh a c,eh b c,Int.mul_emod_mul_of_pos _ _ hc,eh]
theorem aSL(k:Nat){h l y:Int}(hy:0 < y)(hy':y < 18446744073709551616)(hh:0<=h)(hh':h < y)(hl:0<=l)(hl':l < 18446744073709551616) :
  kS (k+3) h l y=some ((h*18446744073709551616+l) / y,(h*18446744073709551616+l) % y):=by
 by_cases h0:h=0
 ·subst h0;rw[aL2 _ hy hl hl',Int.zero_mul,jf]
 obtain⟨n,hn,h1,h64,hlo,hhi⟩:=len64 (k+3) hy hy';unfold kS;have e1:(y==0)=false:=by simp;omega
 have e2:decide (y<=h)=false:=by simp;omega
 have e3:(h==0)=false:=by simp;omega
 rw[e1,e2,e3]
 simp only[cond_false]
 unfold oO;rw[hn]
 simp only[ae]
 have e4:I64 (64 - (n:Int))=64 - n:=bD (by omega) (by omega)
 rw[e4]
 have e5:U64 (64 - (n:Int))=64 - n:=nP (by omega) (by omega)
 have e5':U64 (64 - (64 - (n:Int)))=n:=by rw[nP (by omega) (by omega)];omega
 have e6:(0:Int)<=64 - (n:Int):=by omega
 have e7:(0:Int)<=(n:Int):=by omega
 simp only[aO,e5,e5']
 simp only[aIY _ e6,aCz _ e7,ae]
 have pw:(2:Int) ^ n*2 ^ (64 - n)=18446744073709551616:=by rw[<- k7,show n+(64 - n)=64 by omega];rfl
 have hpos:(0:Int) < 2 ^ (64 - n):=dr (by decide)
 -- the divisor
 have hz2:y*(2:Int) ^ (64 - n) < 18446744073709551616:=by
  rw[<- pw];exact io hhi hpos
 have hz0:0<=y*(2:Int) ^ (64 - n):=dk (by omega) (cc hpos)
 have hz:shl .u64 y (64 - (n:Int))=y*(2:Int) ^ (64 - n):=by
  rw[aN7 y (64 - (n:Int)) (64 - n) (by omega) (by omega)]
  exact gu hz0 hz2
 have hz1:9223372036854775808<=y*(2:Int) ^ (64 - n):=by
  calc (9223372036854775808:Int)=2 ^ (n - 1)*2 ^ (64 - n):=by rw[<- k7,show n - 1+(64 - n)=63 by omega];rfl
   _<=_:=eo hlo (cc hpos)
 -- what is divided
 have hhY:h*(2:Int) ^ (64 - n) < y*2 ^ (64 - n):=io hh' hpos;have hh0:0<=h*(2:Int) ^ (64 - n):=dk hh (cc hpos)
 have hsh:shl .u64 h (64 - (n:Int))=h*(2:Int) ^ (64 - n):=by
  rw[aN7 h (64 - (n:Int)) (64 - n) (by omega) (by omega)]
  exact gu hh0 (by omega)
 have hsr:shr .u64 l (n:Int)=l / (2:Int) ^ n:=aIp .u64 l n n rfl h64;have hsl:shl .u64 l (64 - (n:Int))=(l*(2:Int) ^ (64 - n)) % 18446744073709551616:=aN7 l (64 - (n:Int)) (64 - n) (by omega) (by omega)
 have hd0:0<=l / (2:Int) ^ n:=ck hl (cc (dr (by decide)))
 have hd1:l / (2:Int) ^ n < 2 ^ (64 - n):=by
  rw[ed (dr (by decide)),eh,pw];exact hl'
 have hor:bor .u64 (h*(2:Int) ^ (64 - n)) (l / (2:Int) ^ n)=h*(2:Int) ^ (64 - n)+l / (2:Int) ^ n:=by
  refine aL1 (64 - n) hh0 (by omega) hd0 (by exact_mod_cast hd1) (by omega) ?_;obtain⟨A,rfl⟩:=bm hh;refine⟨A,?_⟩
  have:((A:Int)*(2:Int) ^ (64 - n))=((2 ^ (64 - n)*A:Nat):Int):=by rw[Nat.mul_comm];simp
  rw[this];rfl
 have hfin:=aMx (h:=h) (l:=l) (64 - n) (by omega) hl hl';rw[show 64 - (64 - n)=n by omega] at hfin;rw[hz,hsh,hsr,hsl,hor]
 have hHY:h*(2:Int) ^ (64 - n)+l / (2:Int) ^ n < y*2 ^ (64 - n):=by
  have:(h+1)*(2:Int) ^ (64 - n)<=y*2 ^ (64 - n):=eo (by omega) (cc hpos)
  rw[Int.add_mul,lk] at this;omega
 have hq:(h*18446744073709551616+l) / y=((h*(2:Int) ^ (64 - n)+l / (2:Int) ^ n)*18446744073709551616+(l*(2:Int) ^ (64 - n)) % 18446744073709551616) / (y*2 ^ (64 - n)):=by
  rw[hfin,scale _ hy]
 have hr:((h*(2:Int) ^ (64 - n)+l / (2:Int) ^ n)*18446744073709551616+(l*(2:Int) ^ (64 - n)) % 18446744073709551616) % (y*2 ^ (64 - n))=((h*18446744073709551616+l) % y)*2 ^ (64 - n):=by
  rw[hfin,aOQ hpos]
 rw[hq]
 have hH0:0<=h*(2:Int) ^ (64 - n)+l / (2:Int) ^ n:=by omega
 generalize h*(2:Int) ^ (64 - n)+l / (2:Int) ^ n=H at hHY hH0 hr ⊢;have hL0:0<=(l*(2:Int) ^ (64 - n)) % 18446744073709551616:=ct _ (by decide)
 have hL1:(l*(2:Int) ^ (64 - n)) % 18446744073709551616 < 18446744073709551616:=cm _ (by decide)
 generalize (l*(2:Int) ^ (64 - n)) % 18446744073709551616=L at hL0 hL1 hr ⊢;generalize y*(2:Int) ^ (64 - n)=Y at hz1 hz2 hHY hr ⊢;clear hq hfin hor hsl hsr hsh hz hd1 hd0 hh0 hhY pw;have s1:shr .u64 Y 32=Y / 4294967296:=aJQ Y;have s2:kB .u64 Y 4294967295=Y % 4294967296:=aJ3 (by omega) hz2;have s3:kB .u64 L 4294967295=L % 4294967296:=aJ3 hL0 hL1;have s4:shr .u64 L 32=L / 4294967296:=aJQ L;have R1:aDc H (L / 4294967296) Y (Y / 4294967296) (Y % 4294967296):=⟨by omega,by omega,by omega,by omega,by omega,hH0,hHY,by omega,by omega⟩
 have e8:shr .u64 Y 32≠0:=by rw[s1];omega
 rw[aRh e8]
 simp only[ae]
 have hY1:0 < Y / 4294967296:=by omega
 obtain⟨g1,g2,g3⟩:=R1.start;have t1:d7 H (Y / 4294967296)=H / (Y / 4294967296):=dp hH0;have sm:U64 (H - U64 (U64 (H.tdiv (shr .u64 Y 32))*shr .u64 Y 32))=H % (Y / 4294967296):=by
  rw[s1];exact aRx hH0 (by omega) hY1 (by omega)
 have st:U64 (H.tdiv (shr .u64 Y 32))=H / (Y / 4294967296):=by
  rw[s1,t1];exact nP (ck hH0 (by omega)) (by omega)
 have rem1:=ct H (cu hY1)
 have rem2:=cm H hY1;obtain⟨b1,b2⟩:=R1.q_lt;rw[sm,st]
 rw[aVm (k+3) R1 (kB .u64 Y 4294967295) (shr .u64 Y 32) H (shr .u64 L 32) s1 s2 s4 (k+3) _ _ g3 rem1 (by omega) g1 g2 (by have:=R1.near;omega)]
 simp only[ae]
 rw[aRh e8,s4]
 simp only[ae]
 generalize hQ1:(H*4294967296+L / 4294967296) / Y=Q1 at *;have hdm:=cf (H*4294967296+L / 4294967296) Y;rw[hQ1] at hdm;have hYp:0 < Y:=by omega
 have hm0:=ct (H*4294967296+L / 4294967296) (cu hYp)
 have hm1:=cm (H*4294967296+L / 4294967296) hYp;have hZ:U64 (U64 (U64 (H*4294967296)+L / 4294967296) - U64 (Q1*Y))=(H*4294967296+L / 4294967296) % Y:=by
  rw[eh Y Q1] at hdm;simp only[aE8]
  generalize Q1*Y=A at *;omega
 rw[hZ]
 generalize hZ':(H*4294967296+L / 4294967296) % Y=Z at *;have R2:aDc Z (L % 4294967296) Y (Y / 4294967296) (Y % 4294967296):=⟨by omega,by omega,by omega,by omega,by omega,hm0,hm1,by omega,by omega⟩
 obtain⟨f1,f2,f3⟩:=R2.start;have t2:d7 Z (Y / 4294967296)=Z / (Y / 4294967296):=dp hm0;have sm2:U64 (Z - U64 (U64 (Z.tdiv (shr .u64 Y 32))*shr .u64 Y 32))=Z % (Y / 4294967296):=by
  rw[s1];exact aRx hm0 (by omega) hY1 (by omega)
 have st2:U64 (Z.tdiv (shr .u64 Y 32))=Z / (Y / 4294967296):=by
  rw[s1,t2];exact nP (ck hm0 (by omega)) (by omega)
 have rem3:=ct Z (cu hY1)
 have rem4:=cm Z hY1;obtain⟨c1,c2⟩:=R2.q_lt;rw[sm2,st2,aVu (k+3) R2 (kB .u64 Y 4294967295) (kB .u64 L 4294967295) _ s1 s2 s3 (k+3) _ _ f3 rem3 (by omega) f1 f2 (by have:=R2.near;omega)]
 simp only[ae]
 rw[aCz _ e6]
 simp only[ae]
 have hts:=aRN (H:=H) (L1:=L / 4294967296) (L0:=L % 4294967296) hYp;rw[hQ1,hZ',show L / 4294967296*4294967296+L % 4294967296=L by omega] at hts;rw[nP (x:=Q1*4294967296) (by omega) (by omega),nP (x:=Q1*4294967296+_) (by omega) (by omega),hts]
 congr 2;have hm:=aT4 (H:=H) (L1:=L / 4294967296) (L0:=L % 4294967296) hYp;rw[hZ',show L / 4294967296*4294967296+L % 4294967296=L by omega,hr] at hm;have hdm2:=cf (Z*4294967296+L % 4294967296) Y;rw[hm] at hdm2;have hrr0:0<=(h*18446744073709551616+l) % y:=ct _ (cu hy)
 have hlt2:(h*18446744073709551616+l) % y*2 ^ (64 - n) < Y:=by rw[<- hm];exact cm _ hYp
 have hx:U64 (U64 (U64 (Z*4294967296)+L % 4294967296) - U64 ((Z*4294967296+L % 4294967296) / Y*Y))=(h*18446744073709551616+l) % y*2 ^ (64 - n):=by
  have h0:0<=(h*18446744073709551616+l) % y*2 ^ (64 - n):=dk hrr0 (cc hpos)
  rw[eh Y] at hdm2;simp only[aE8]
  generalize (Z*4294967296+L % 4294967296) / Y*Y=A at *;generalize (h*18446744073709551616+l) % y*2 ^ (64 - n)=B at *;omega
 rw[s3,hx,aIp .u64 _ (64 - (n:Int)) (64 - n) (by omega) (by show 64 - n<=64;omega)]
 exact Int.mul_ediv_cancel _ (cu hpos)
def aMg(V Y:Int)(m:Bool):Int:=cond m (-((V+Y - 1) / Y)) (V / Y)
abbrev ab(a:Int):Int:=if a < 0 then -a else a
theorem aVe{V Y:Int}(hY:0 < Y):(V+Y - 1) / Y=if V % Y > 0 then V / Y+1 else V / Y:=by
 have h:=cf V Y;have h1:=ct V (cu hY)
 have h2:=cm V hY;generalize V / Y=q at *;generalize V % Y=r at *;split
 ·have e:V+Y - 1=(r - 1)+Y*(q+1):=by rw[<- h];grind
  rw[e,fq _ _ (cu hY),jb (by omega) (by omega)]
  omega
 ·have e:V+Y - 1=(Y - 1)+Y*q:=by rw[<- h,show r=0 by omega];grind
  rw[e,fq _ _ (cu hY),jb (by omega) (by omega)]
  omega
theorem aVW(k:Nat){w:aT}{y:Int}(hw:wok w)(hv:-39614081257132168796771975168<=vH w)(hv':vH w<=39614081257132168796771975168)(hy:cD y)(hy0:y≠0) :
  ∃r,rO (k+3) w y=some r/\wok r.1/\vH r.1=aMg (ab (vH w)) (ab y) (!(decide (vH w < 0)==decide (y < 0))):=by
 obtain⟨⟨w1,w2⟩,w3,w4⟩:=hw;have hneg:w.gHi < 0↔vH w < 0:=by show _↔w.gHi*18446744073709551616+w.gLo < 0;omega
 have hp:∃p:Int×Int,(cond (decide (w.gHi < 0)) (aa (sM (k+3) (U64 w.gHi) w.gLo) λr2=>some ((r2.1,r2.2))) (some ((U64 w.gHi,w.gLo))))=some p/\0<=p.1/\0<=p.2/\p.2 < 18446744073709551616/\p.1*18446744073709551616+p.2=ab (vH w):=by
  by_cases hs:w.gHi < 0
  ·rw[dt hs,cond_true]
   obtain⟨h',l',e,a1,a2,a3,a4,a5⟩:=aIc (k+3) (h:=U64 w.gHi) (l:=w.gLo) (aCU _) (aEU _) w3 w4;rw[e]
   refine⟨(h',l'),rfl,a1,a3,a4,?_⟩
   rw[show ab (vH w) = -(vH w) from if_pos (hneg.1 hs)]
   show h'*18446744073709551616+l' = -(w.gHi*18446744073709551616+w.gLo)
   rw[aE8] at a5;omega
  ·rw[df hs,cond_false]
   refine⟨(U64 w.gHi,w.gLo),rfl,aCU _,w3,w4,?_⟩
   rw[show ab (vH w)=vH w from if_neg (λh=>hs (hneg.2 h))]
   show U64 w.gHi*18446744073709551616+w.gLo=w.gHi*18446744073709551616+w.gLo;rw[nP (by omega) (by omega)]
 obtain⟨⟨h,l⟩,e1,p1,p2,p3,p4⟩:=hp;dsimp only at p1 p2 p3 p4;have hY:0 < ab y/\ab y<=9223372036854775808:=by obtain⟨y1,y2⟩:=hy;unfold ab;split <;> omega
 have hVb:ab (vH w)<=39614081257132168796771975168:=by unfold ab;split <;> omega
 unfold rO;rw[show(y==0)=false by simpa using hy0,cond_false,e1,wsz (k+3) hy]
 simp only[ae]
 simp only[show(if y < 0 then -y else y)=ab y from rfl]
 rw[show decide (w.gHi < 0)=decide (vH w < 0) by rw[decide_eq_decide];exact hneg]
 generalize hm:(!(decide (vH w < 0)==decide (y < 0)))=m;rw[<- p4] at hVb ⊢;generalize ab y=Y at *;obtain⟨Y1,Y2⟩:=hY;rw[aL2 _ Y1 p1 (by omega)]
 simp only[ae]
 have hr:=ct h (cu Y1)
 have hr':=cm h Y1;rw[aSL k Y1 (by omega) hr hr' p2 p3]
 simp only[ae]
 have hV:=cf h Y;have hq0:0<=h / Y:=ck p1 (cc Y1)
 have hqle:h / Y<=h:=j7 _ p1;have eV:h*18446744073709551616+l=(h % Y*18446744073709551616+l)+Y*(h / Y*18446744073709551616):=by
  have:h*18446744073709551616=(Y*(h / Y)+h % Y)*18446744073709551616:=by rw[hV]
  grind
 have dV:(h*18446744073709551616+l) / Y=(h % Y*18446744073709551616+l) / Y+h / Y*18446744073709551616:=by
  rw[eV,fq _ _ (cu Y1)]
 have mV:(h*18446744073709551616+l) % Y=(h % Y*18446744073709551616+l) % Y:=by
  rw[eV,iu]
 have q20:0<=(h % Y*18446744073709551616+l) / Y:=ck (by omega) (cc Y1)
 have q21:(h % Y*18446744073709551616+l) / Y < 18446744073709551616:=Int.ediv_lt_of_lt_mul Y1 (by omega)
 have r0:0<=(h % Y*18446744073709551616+l) % Y:=ct _ (cu Y1)
 have r1:(h % Y*18446744073709551616+l) % Y < Y:=cm _ Y1;rw[show aMg (h*18446744073709551616+l) Y m=cond m (-(if (h % Y*18446744073709551616+l) % Y > 0 then(h % Y*18446744073709551616+l) / Y+h / Y*18446744073709551616+1 else(h % Y*18446744073709551616+l) / Y+h / Y*18446744073709551616)) ((h % Y*18446744073709551616+l) / Y+h / Y*18446744073709551616) by
  unfold aMg;rw[aVe Y1,mV,dV]]
 clear eV dV mV hV;generalize (h % Y*18446744073709551616+l) / Y=q2 at *;generalize (h % Y*18446744073709551616+l) % Y=r at *;generalize h / Y=q1 at *;have hq1b:q1<=2147483648:=by omega
 simp only[aO]
 have fin:∀(c1 c2 c3:Int) (m':Bool),m'=m->0<=c1->c1<=4294967296->0<=c2->c2 < 18446744073709551616->(cond m (-(c1*18446744073709551616+c2)) (c1*18446744073709551616+c2))=(cond m (-(if r > 0 then q2+q1*18446744073709551616+1 else q2+q1*18446744073709551616)) (q2+q1*18446744073709551616)) ->
   ∃x,(aa (mD (k+3) c1 c2 m') λr12=>cond (!r12.2) (some ((aT.mk 0 0,0,false))) (aa (cond (decide (y < 0)) (some (U64 (0 - c3))) (some c3)) λp13=>some ((r12.1,I64 p13,true))))=some x/\wok x.1/\vH x.1=(cond m (-(if r > 0 then q2+q1*18446744073709551616+1 else q2+q1*18446744073709551616)) (q2+q1*18446744073709551616)):=by
  intro c1 c2 c3 m' hm' d1 d2 d3 d4 d5;subst hm';obtain⟨w',f1,f2,f3⟩:=aQB (k+3) (h:=c1) (l:=c2) m' d1 d3 d4 (by omega)
  rw[f1]
  simp only[ae,Bool.not_true,cond_false]
  cases decide (y < 0) with
  | true=>exact⟨_,rfl,f2,f3.trans d5⟩
  | false=>exact⟨_,rfl,f2,f3.trans d5⟩
 cases hmm:m with
 | false=>
  subst hmm;simp only[cond_false,ae]
  exact fin q1 q2 r false rfl hq0 (by omega) q20 q21 (by simp only[cond_false];omega)
 | true=>
  subst hmm;simp only[cond_true]
  by_cases hr9:r > 0
  ·rw[dt hr9]
   simp only[cond_true]
   have hadd:aAz q2 1 0=some ((q2+1+0) % 18446744073709551616,(q2+1+0) / 18446744073709551616):=by
    unfold aAz;rw[dt q20,dt (show(0:Int)<=1 by decide),dt (show(0:Int)<=0 by decide)]
    rfl
   rw[hadd]
   simp only[ae]
   rw[nP (x:=q1+_) (by omega) (by omega)]
   exact fin _ _ _ true rfl (by omega) (by omega) (by omega) (by omega) (by simp only[cond_true];rw[if_pos hr9];omega)
  ·rw[df hr9]
   simp only[cond_false,ae]
   exact fin q1 q2 r true rfl hq0 (by omega) q20 q21 (by simp only[cond_true];rw[if_neg hr9];omega)
theorem abv{a:Int}(ha:cD a):ab (a*4294967296)=ab a*4294967296/\decide (a*4294967296 < 0)=decide (a < 0)/\0<=ab a/\ab a<=9223372036854775808:=by
 obtain⟨h1,h2⟩:=ha;refine⟨?_,?_,?_,?_⟩
 ·unfold ab;split <;> split <;> omega
 ·rw[decide_eq_decide];omega
 ·unfold ab;split <;> omega
 ·unfold ab;split <;> omega
theorem yH(k:Nat){a y:Int}(ha:cD a)(hy:cD y)(hy0:y≠0):jG (k+3) a y=some (S64 (aMg (ab a*4294967296) (ab y) (!(decide (a < 0)==decide (y < 0))))):=by
 unfold jG;rw[show(y==0)=false by simpa using hy0,cond_false]
 obtain⟨w,e1,e2,e3⟩:=aNF (k+3) ha (b:=4294967296) ⟨by decide,by decide⟩
 obtain⟨b1,b2,b3,b4⟩:=abv ha;have hh:=ha;obtain⟨a1,a2⟩:=hh;obtain⟨r,f1,f2,f3⟩:=aVW k e2 (by rw[e3];omega) (by rw[e3];omega) hy hy0;rw[e1]
 simp only[ae]
 rw[f1]
 simp only[ae]
 rw[aQa _ f2,f3,e3,b1,b2]
 rfl
def vin(v:aA):Prop:=cD v.gX/\cD v.gY/\cD v.gZ
def aJL(u v:aA):aA:=⟨S64 (u.gX+v.gX),S64 (u.gY+v.gY),S64 (u.gZ+v.gZ)⟩
def aMN(v:aA)(s:Int):aA:=⟨S64 (v.gX*s / 4294967296),S64 (v.gY*s / 4294967296),S64 (v.gZ*s / 4294967296)⟩
theorem uT(u v:aA):vin (aJL u v):=⟨dD _,dD _,dD _⟩
theorem pK(u:aA)(s:Int):vin (aMN u s):=⟨dD _,dD _,dD _⟩
theorem aTf(k:Nat){u v:aA}(hu:vin u)(hv:vin v):uU (k+3) u v=some (aJL u v):=by
 unfold uU aAT;rw[aCK k hu.1 hv.1,aCK k hu.2.1 hv.2.1,aCK k hu.2.2 hv.2.2]
 rfl
theorem aSi(k:Nat){u v:aA}(hu:vin u)(hv:vin v):rS (k+3) u v=some ⟨S64 (u.gX*v.gX / 4294967296),S64 (u.gY*v.gY / 4294967296),S64 (u.gZ*v.gZ / 4294967296)⟩:=by
 unfold rS vU;rw[aGS k hu.1 hv.1,aGS k hu.2.1 hv.2.1,aGS k hu.2.2 hv.2.2]
 rfl
theorem vix0(a b:aA):idx [a,b] 0=some a:=rfl
theorem vix1(a b:aA):idx [a,b] 1=some b:=rfl
theorem aJ5(k:Nat){u v:aA}(hu:vin u)(hv:vin v):lW (k+3) [u,v]=some (aJL u v):=by
 unfold lW;have l2:(([u,v]:List aA).length:Int)=2:=rfl;rw[pN,aO,l2,dt (show(0:Int) < 2 by decide),cond_true,vix0]
 simp only[ae]
 rw[aTf k (u:=⟨0,0,0⟩) ⟨⟨by decide,by decide⟩,⟨by decide,by decide⟩,⟨by decide,by decide⟩⟩ hu]
 simp only[ae]
 have e:aJL ⟨0,0,0⟩ u=u:=by
  unfold aJL;simp only[jf,qR hu.1,qR hu.2.1,qR hu.2.2]
 rw[e,show I64 (0+1)=1 by decide,pN,aO,l2,dt (show(1:Int) < 2 by decide),cond_true,vix1]
 simp only[ae]
 rw[aTf k (u:=⟨u.gX,u.gY,u.gZ⟩) hu hv]
 simp only[ae]
 rw[show I64 (1+1)=2 by decide,pN,aO,l2,df (show ¬(2:Int) < 2 by decide),cond_false]
 rfl
theorem rD(k:Nat){v:aA}{s:Int}(hv:vin v)(hs:cD s):fX (k+3) v s=some (aMN v s):=by
 unfold fX jY;have l2:(([v,⟨s,s,s⟩]:List aA).length:Int)=2:=rfl;rw[kU,aO,l2,dt (show(0:Int) < 2 by decide),cond_true,vix0]
 simp only[ae]
 rw[aSi k (u:=⟨4294967296,4294967296,4294967296⟩) ⟨⟨by decide,by decide⟩,⟨by decide,by decide⟩,⟨by decide,by decide⟩⟩ hv]
 simp only[ae]
 have e:∀x:Int,cD x->S64 (4294967296*x / 4294967296)=x:=by
  intro x hx;rw[Int.mul_ediv_cancel_left _ (by decide),qR hx]
 rw[e _ hv.1,e _ hv.2.1,e _ hv.2.2,show I64 (0+1)=1 by decide,kU,aO,l2,dt (show(1:Int) < 2 by decide),cond_true,vix1]
 simp only[ae]
 rw[aSi k (u:=⟨v.gX,v.gY,v.gZ⟩) (v:=⟨s,s,s⟩) hv ⟨hs,hs,hs⟩]
 simp only[ae]
 rw[show I64 (1+1)=2 by decide,kU,aO,l2,df (show ¬(2:Int) < 2 by decide),cond_false]
 rfl
theorem aIH(k:Nat)(l:List aA)(hl:∀v∈l,vin v)(hk:l.length < k+3)(hb:l.length < 1000):lW (k+3) l=some (l.foldl aJL ⟨0,0,0⟩):=by
 unfold lW;have main:∀(m i:Nat) (a:aA),vin a->i<=l.length->l.length - i < m->pN (k+3) l m a (i:Int)=some ((l.drop i).foldl aJL a):=by
  intro m
  induction m with
  | zero=>intro i a _ _ h;omega
  | succ m ih=>
   intro i a ha hi hm;rw[pN,aO]
   by_cases h:i < l.length
   ·rw[dt (by omega),cond_true,eP,List.getElem?_eq_getElem h]
    simp only[ae]
    rw[aTf k ha (hl _ (List.getElem_mem h))]
    simp only[ae]
    rw[cW (by omega),ih (i+1) _ (uT _ _) (by omega) (by omega),List.drop_eq_getElem_cons h]
    rfl
   ·rw[df (by omega),cond_false,List.drop_eq_nil_of_le (by omega)]
    rfl
 have:=main (k+3) 0 ⟨0,0,0⟩ ⟨⟨by decide,by decide⟩,⟨by decide,by decide⟩,⟨by decide,by decide⟩⟩ (by omega) (by omega)
 rw[show((0:Nat):Int)=0 from rfl] at this;rw[this]
 rfl
theorem shl1(j:Nat)(hj:j < 64):shl .u64 1 (j:Int)=(2:Int) ^ j:=by
 rw[aN7 1 j j rfl (by omega),lk]
 refine gu (cc (dr (by decide))) ?_;have h8:(2:Nat) ^ j < 18446744073709551616:=Nat.lt_of_lt_of_eq (ju (by decide) hj) (by rfl:2 ^ 64=18446744073709551616)
 have h9:((2 ^ j:Nat):Int) < 18446744073709551616:=by omega
 rw[Int.natCast_pow] at h9;exact h9
theorem aRu(N:Nat)(w:aT)(hh:0<=w.gHi)(hh':w.gHi<=9223372036854775807)(hl:0<=w.gLo)(hl':w.gLo < 18446744073709551616)(k:Nat):∀(j:Nat) (s:Int),j<=64->0<=s->s < 18446744073709551616->(∃X:Nat,s=(2:Int) ^ j*X) ->
  s*s<=vH w->vH w < (s+2 ^ j)*(s+2 ^ j) ->
  ∃r,qX N w (k+j+1) s (64 - (j:Int))=some r/\0<=r/\r < 18446744073709551616/\r*r<=vH w/\vH w < (r+1)*(r+1)
 | 0,s,_,h0,h1,_,a,b=>by
  rw[qX,df (show ¬(64 - ((0:Nat):Int) < 64) by decide)]
  exact⟨s,rfl,h0,h1,a,by simpa using b⟩
 | j+1,s,hj,h0,h1,⟨X,hX⟩,a,b=>by
  rw[qX,dt (show 64 - ((j+1:Nat):Int) < 64 by omega)]
  simp only[cond_true]
  have e1:I64 (63 - (64 - ((j+1:Nat):Int)))=(j:Int):=by rw[bD (by omega) (by omega)];omega
  rw[e1,aIY _ (show(0:Int)<=(j:Int) by omega),shl1 j (by omega)]
  simp only[ae]
  have hp:(0:Int) < 2 ^ j:=dr (by decide)
  have hp2:(2:Int) ^ (j+1)=2 ^ j*2:=Int.pow_succ ..;have hlt:s+2 ^ j < 18446744073709551616:=by
   have e64:(18446744073709551616:Int)=2 ^ (j+1)*2 ^ (63 - j):=by rw[<- k7,show j+1+(63 - j)=64 by omega];rfl
   have hx1:(X:Int) < 2 ^ (63 - j):=by
    rw[hX,e64] at h1;exact Int.lt_of_mul_lt_mul_left h1 (cc (dr (by decide)))
   have hx2:(2:Int) ^ (j+1)*X+2 ^ (j+1)<=2 ^ (j+1)*2 ^ (63 - j):=by
    have:(2:Int) ^ (j+1)*(X+1)<=2 ^ (j+1)*2 ^ (63 - j):=Int.mul_le_mul_of_nonneg_left (by omega) (cc (dr (by decide)))
    rwa[Int.mul_add,Int.mul_one] at this
   rw[<- hX,<- e64] at hx2;omega
  have hbor:bor .u64 s (2 ^ j)=s+2 ^ j:=by
   refine aL1 (j+1) h0 h1 (cc hp) ?_ (by omega) ?_
   ·have:(2:Nat) ^ j < 2 ^ (j+1):=ju (by decide) (by omega)
    exact_mod_cast this
   ·refine⟨X,?_⟩
    rw[hX]
    have:((2:Int) ^ (j+1)*(X:Int))=((2 ^ (j+1)*X:Nat):Int):=by simp
    rw[this];rfl
  rw[hbor]
  have hs0:0<=s+2 ^ j:=by omega
  rw[aVZ N hs0 hlt hs0 hlt]
  simp only[ae,aO]
  have hU:U64 w.gHi=w.gHi:=nP hh (by omega)
  rw[hU]
  have hi1:I64 (64 - ((j+1:Nat):Int)+1)=64 - (j:Int):=by rw[bD (by omega) (by omega)];omega
  rw[hi1]
  have ek:k+(j+1)=k+j+1:=by omega
  rw[ek]
  have r1:=aRu N w hh hh' hl hl' k j (s+2 ^ j) (by omega) hs0 hlt ⟨2*X+1,by rw[hX,hp2];push_cast;grind⟩
  have r2:=aRu N w hh hh' hl hl' k j s (by omega) h0 h1 ⟨2*X,by rw[hX,hp2];push_cast;grind⟩
  have b':vH w < (s+2 ^ j+2 ^ j)*(s+2 ^ j+2 ^ j):=by
   have:s+2 ^ j+2 ^ j=s+2 ^ (j+1):=by rw[hp2];omega
   rw[this];exact b
  have hv:vH w=w.gHi*18446744073709551616+w.gLo:=rfl;generalize hM:(s+2 ^ j)*(s+2 ^ j)=M at r1 r2 ⊢;have hm0:0<=M:=by rw[<- hM];exact dk hs0 hs0
  cases h7:decide (M / 18446744073709551616 < w.gHi) with
  | true=>
   simp only[cond_true,ae]
   have:=of_decide_eq_true h7;exact r1 (by omega) b'
  | false=>
   have n7:=of_decide_eq_false h7;simp only[cond_false,ae]
   cases h8:(cond (M / 18446744073709551616==w.gHi) (decide (M % 18446744073709551616<=w.gLo)) false) with
   | true=>
    simp only[cond_true,ae]
    cases h9:(M / 18446744073709551616==w.gHi) with
    | false=>rw[h9] at h8;simp at h8
    | true=>
     rw[h9,cond_true] at h8;have:=of_decide_eq_true h8;have:=eq_of_beq h9;exact r1 (by omega) b'
   | false=>
    simp only[cond_false,ae]
    refine r2 a ?_;cases h9:(M / 18446744073709551616==w.gHi) with
    | false=>
     have:M / 18446744073709551616≠w.gHi:=by intro e;rw[e] at h9;simp at h9
     omega
    | true=>
     rw[h9,cond_true] at h8;have:=of_decide_eq_false h8;have:=eq_of_beq h9;omega
theorem aVH(k:Nat){w:aT}(hw:wok w)(h0:0<=vH w):∃r,wQ (k+65) w=some r/\0<=r/\r < 18446744073709551616/\r*r<=vH w/\vH w < (r+1)*(r+1):=by
 obtain⟨⟨a1,a2⟩,b1,b2⟩:=hw;have hv:vH w=w.gHi*18446744073709551616+w.gLo:=rfl;unfold wQ;rw[df (by omega),cond_false]
 obtain⟨r,e,h1,h2,h3,h4⟩:=aRu (k+65) w (by omega) a2 b1 b2 k 64 0 (by omega) (by decide) (by decide) ⟨0,by decide⟩ (by omega) (by rw[show((0:Int)+2 ^ 64)*(0+2 ^ 64)=340282366920938463463374607431768211456 by decide];omega)
 rw[show(64:Int) - ((64:Nat):Int)=0 by decide,show k+64+1=k+65 from rfl] at e;rw[e]
 exact⟨r,rfl,h1,h2,h3,h4⟩
theorem aF0(N:Nat){s e:Int}(hs:cD s)(he:cD e):xO N s e=some (S64 (s - e)):=by
 unfold xO;simp only[aO]
 obtain⟨h1,h2⟩:=hs;obtain⟨h3,h4⟩:=he;by_cases a1:s>=0
 ·rw[dt a1,df (show ¬s < 0 by omega)]
  simp only[cond_true,cond_false]
  by_cases a2:e < 0
  ·rw[dt a2]
   simp only[cond_true]
   by_cases a3:9223372036854775807 < s - e
   ·rw[dt (show I64 (s - e) < 0 by rw[vR];omega),cond_true]
    unfold S64;rw[if_neg (by omega),if_pos a3]
   ·rw[bD (by omega) (by omega),df (show ¬s - e < 0 by omega),cond_false]
    rw[qR ⟨by omega,by omega⟩]
  ·rw[df a2,cond_false,bD (by omega) (by omega),qR ⟨by omega,by omega⟩];rfl
 ·rw[df a1,dt (show s < 0 by omega)]
  simp only[cond_false,cond_true]
  by_cases a3:e > 0
  ·rw[dt a3]
   simp only[cond_true]
   by_cases a4:s - e < -9223372036854775808
   ·rw[dt (show I64 (s - e)>=0 by rw[vR];omega),cond_true]
    unfold S64;rw[if_pos a4]
   ·rw[bD (by omega) (by omega),df (show ¬s - e>=0 by omega),cond_false]
    rw[qR ⟨by omega,by omega⟩]
  ·rw[df a3,cond_false,bD (by omega) (by omega),qR ⟨by omega,by omega⟩];rfl
theorem z64 : cD 0:=⟨by decide,by decide⟩
theorem aPu(N:Nat){a:Int}(ha:cD a):xF N a=some (S64 (-a)):=by
 unfold xF;rw[aF0 N z64 ha,Int.zero_sub];rfl
def aM3(a:Int):Int:=max a (S64 (-a))
theorem tR(a b:Int):jB a b=max a b:=by unfold jB;split <;> omega
theorem wI(a b:Int):dO a b=min a b:=by unfold dO;split <;> omega
theorem aMB(N:Nat){a:Int}(ha:cD a):aBG N a=some (aM3 a):=by
 unfold aBG;rw[aPu N ha]
 simp only[ae,tR]
 rfl
theorem aLI{a:Int}(ha:cD a):0<=aM3 a/\aM3 a<=9223372036854775807:=by
 obtain⟨h1,h2⟩:=ha;unfold aM3 S64
 repeat' split
 all_goals omega
def vSub(u v:aA):aA:=⟨S64 (u.gX - v.gX),S64 (u.gY - v.gY),S64 (u.gZ - v.gZ)⟩
theorem aIg(u v:aA):vin (vSub u v):=⟨dD _,dD _,dD _⟩
theorem aIP(N:Nat){u v:aA}(hu:vin u)(hv:vin v):zJ N u v=some (vSub u v):=by
 unfold zJ aBi;rw[aF0 N hu.1 hv.1,aF0 N hu.2.1 hv.2.1,aF0 N hu.2.2 hv.2.2];rfl
def pin(p:aB):Prop:=cD p.gX/\cD p.gY/\cD p.gZ
def ptV(p:aB):aA:=⟨S64 (p.gX*4294967296),S64 (p.gY*4294967296),S64 (p.gZ*4294967296)⟩
theorem aCe(p:aB):vin (ptV p):=⟨dD _,dD _,dD _⟩
theorem aCR(N:Nat){p:aB}(hp:pin p):qU N p=some (ptV p):=by
 unfold qU;rw[rQ N hp.1,rQ N hp.2.1,rQ N hp.2.2];rfl
def yT(v:aA):Int:=max (max (aM3 v.gX) (aM3 v.gY)) (aM3 v.gZ)
theorem aOD(N:Nat){v:aA}(hv:vin v):aBs N v=some (yT v):=by
 unfold aBs;rw[aMB N hv.1,aMB N hv.2.1,aMB N hv.2.2]
 simp only[ae,tR];rfl
theorem aN4{v:aA}(hv:vin v):0<=yT v/\yT v<=9223372036854775807:=by
 have:=aLI hv.1;have:=aLI hv.2.1;have:=aLI hv.2.2;unfold yT;omega
theorem aT7(N:Nat){h l:Int}(m:Bool)(hh:0<=h)(hh':h < 18446744073709551616)(hl:0<=l)(hl':l < 18446744073709551616):T (mD N h l m) (λr=>wok r.1):=by
 unfold mD;refine T.bind (P:=λp=>0<=p.2/\p.2 < 18446744073709551616) ?_ λp hp=>?_
 ·cases m with
  | true=>
   rw[cond_true]
   obtain⟨h',l',e,a1,a2,a3,a4,a5⟩:=aIc N hh hh' hl hl';rw[e]
   exact⟨_,rfl,a3,a4⟩
  | false=>rw[cond_false];exact⟨_,rfl,hl,hl'⟩
 ·simp only[aO]
  exact⟨_,rfl,cG _,hp.1,hp.2⟩
theorem aIX(N:Nat){w:aT}(hw:wok w):T (rT N w) (λr=>cD r.1/\(r.2=true->r.1=vH w)):=by
 obtain⟨⟨w1,w2⟩,w3,w4⟩:=hw;unfold rT;simp only[aO]
 rw[aOx]
 by_cases h:(w.gHi != I64 w.gLo / 9223372036854775808)=true
 ·rw[h,cond_true]
  exact⟨_,rfl,z64,λh=>by cases h⟩
 ·rw[Bool.not_eq_true] at h;rw[h,cond_false]
  refine⟨_,rfl,cG _,λ_=>?_⟩
  have:w.gHi=I64 w.gLo / 9223372036854775808:=by simpa using h
  show I64 w.gLo=w.gHi*18446744073709551616+w.gLo;rw[this,vR]
  omega
def mdV(a b y:Int):Int:=S64 (aMg (ab (a*b)) (ab y) (!(decide (a*b < 0)==decide (y < 0))))
theorem aUX(k:Nat){a b y:Int}(ha:cD a)(hb:cD b)(hy:cD y)(hy0:y≠0)(h1:-39614081257132168796771975168<=a*b)(h2:a*b<=39614081257132168796771975168):kJ (k+3) a b y=some (mdV a b y):=by
 obtain⟨w,e,hw,hv⟩:=aNF (k+3) ha hb;obtain⟨r,e2,hr,hv2⟩:=aVW k hw (by rw[hv];exact h1) (by rw[hv];exact h2) hy hy0;have hn:=aQa (k+3) hr;unfold wL at hn;unfold kJ;rw[show(y==0)=false by simpa using hy0,cond_false,e]
 simp only[ae]
 rw[e2]
 simp only[ae]
 rw[hn,hv2,hv]
 rfl
def qV(x m:Int):Int:=max (mdV x 16384 m) (-16384)
theorem aSG{x m:Int}(hm:0 < m)(hx:x<=m) : -16384<=qV x m/\qV x m<=16384:=by
 unfold qV;refine⟨by omega,?_⟩
 have:mdV x 16384 m<=16384:=by
  unfold mdV;have hb:ab m=m:=if_neg (by omega)
  rw[hb,df (show ¬m < 0 by omega)]
  have hd:aMg (ab (x*16384)) m (!(decide (x*16384 < 0)==false))<=16384:=by
   by_cases h:x*16384 < 0
   ·rw[dt h]
    have hn:0<=ab (x*16384):=by unfold ab;split <;> omega
    have:0<=(ab (x*16384)+m - 1) / m:=ck (by omega) (by omega)
    show -((ab (x*16384)+m - 1) / m)<=16384;omega
   ·rw[df h]
    have e:ab (x*16384)=x*16384:=if_neg h;rw[e]
    show x*16384 / m<=16384;have:x*16384 / m < 16385:=by
     rw[ed hm]
     omega
    omega
  generalize aMg (ab (x*16384)) m (!(decide (x*16384 < 0)==false))=d at hd;unfold S64;(repeat' split) <;> omega
 omega
theorem aSd(v:aA):v.gX<=yT v/\v.gY<=yT v/\v.gZ<=yT v:=by
 unfold yT aM3;omega
theorem aO2(k:Nat){x m:Int}(hx:cD x)(hm:cD m)(h0:m≠0):mY (k+3) x m=some (qV x m):=by
 unfold mY;obtain⟨h1,h2⟩:=hx;rw[aUX k ⟨h1,h2⟩ ⟨by decide,by decide⟩ hm h0 (by omega) (by omega)]
 simp only[ae,tR]
 rfl
def aMd(v:aA):aB×Int:=if yT v=0 then(⟨0,0,0⟩,2) else(⟨qV v.gX (yT v),qV v.gY (yT v),qV v.gZ (yT v)⟩,0)
theorem aTB(k:Nat){v:aA}(hv:vin v):yD (k+3) v=some (aMd v):=by
 unfold yD aMd;rw[aOD _ hv]
 simp only[ae]
 obtain⟨m1,m2⟩:=aN4 hv;by_cases h:yT v=0
 ·rw[if_pos h,show(yT v==0)=true by simpa using h,cond_true]
 ·have hm:cD (yT v):=⟨by omega,by omega⟩
  rw[if_neg h,show(yT v==0)=false by simpa using h,cond_false,aO2 k hv.1 hm h,aO2 k hv.2.1 hm h,aO2 k hv.2.2 hm h]
  rfl
def pqt(p:aB):Prop:=(-16384<=p.gX/\p.gX<=16384)/\(-16384<=p.gY/\p.gY<=16384) /\ -16384<=p.gZ/\p.gZ<=16384
theorem aKh{v:aA}(hv:vin v):pqt (aMd v).1:=by
 unfold aMd;obtain⟨m1,m2⟩:=aN4 hv;obtain⟨g1,g2,g3⟩:=aSd v;split
 ·exact⟨⟨by decide,by decide⟩,⟨by decide,by decide⟩,by decide,by decide⟩
 ·have hm:0 < yT v:=by omega
  exact⟨aSG hm g1,aSG hm g2,aSG hm g3⟩
theorem aVO{α:Type}{c:Bool}{x y:α}:cond c (some x) (some y)=some (cond c x y):=by cases c <;> rfl
def aCZ(p:aB):Bool:=cond (!(aB.eq p (aB.mk 0 0 0))) (cond (decide (jB (jB p.gX p.gY) p.gZ<=16384)) (decide (dO (dO p.gX p.gY) p.gZ >= -16384)) false) false
theorem aUo(N:Nat)(p:aB):zE N p=some (aCZ p):=by
 unfold zE aCZ;simp only[aO,aVO,ae]
theorem aW6(N:Nat)(a b c:Int):oR N a b c=some (cond (decide (a>=b)) (decide (a<=c)) false):=by
 unfold oR;simp only[aO]
def aQL(c:bN)(w h:Int):Prop:=(1<=w/\w<=64)/\(1<=h/\h<=64)/\(0<=c.gC6/\c.gC6<=1024)/\(1<=c.gD1/\c.gD1<=32768)/\aCZ c.gB6=true/\aCZ c.gUp=true/\aCZ c.gE2=true/\jB (jB c.gA7.gX c.gA7.gY) c.gA7.gZ<=32768/\dO (dO c.gA7.gX c.gA7.gY) c.gA7.gZ >= -32768
theorem aJi(N:Nat)(c:bN)(w h:Int):T (yE N c w h) (λr=>r=0->aQL c w h):=by
 unfold yE;simp only[aO,aUo,aW6,aVO,ae]
 refine⟨_,rfl,λe=>?_⟩
 unfold aQL;revert e;cases h1:decide (jB (jB c.gA7.gX c.gA7.gY) c.gA7.gZ > 32768)
 case true=>intro e;exact absurd (show(8:Int)=0 from e) (by decide)
 cases h2:decide (dO (dO c.gA7.gX c.gA7.gY) c.gA7.gZ < -32768)
 case true=>intro e;exact absurd (show(8:Int)=0 from e) (by decide)
 cases h3:aCZ c.gB6
 case false=>intro e;exact absurd (show(2:Int)=0 from e) (by decide)
 cases h4:aCZ c.gUp
 case false=>intro e;exact absurd (show(2:Int)=0 from e) (by decide)
 cases h5:aCZ c.gE2
 case false=>intro e;exact absurd (show(2:Int)=0 from e) (by decide)
 have b:∀a lo hi:Int,cond (decide (a>=lo)) (decide (a<=hi)) false=true->lo<=a/\a<=hi:=by
  intro a lo hi h;by_cases h':a>=lo
  ·rw[dt h',cond_true] at h;exact⟨h',of_decide_eq_true h⟩
  ·rw[df h',cond_false] at h;cases h
 have b1:=b c.gC6 0 1024;have b2:=b c.gD1 1 32768;have b3:=b w 1 64;have b4:=b h 1 64;generalize cond (decide (c.gC6>=0)) (decide (c.gC6<=1024)) false=x1 at *;generalize cond (decide (c.gD1>=1)) (decide (c.gD1<=32768)) false=x2 at *;generalize cond (decide (w>=1)) (decide (w<=64)) false=x3 at *;generalize cond (decide (h>=1)) (decide (h<=64)) false=x4 at *;have n1:=of_decide_eq_false h1;have n2:=of_decide_eq_false h2;cases x1
 case false=>intro e;exact absurd (show(2:Int)=0 from e) (by decide)
 cases x2
 case false=>intro e;exact absurd (show(2:Int)=0 from e) (by decide)
 cases x3
 case false=>intro e;exact absurd (show(2:Int)=0 from e) (by decide)
 cases x4
 case false=>intro e;exact absurd (show(2:Int)=0 from e) (by decide)
 intro _;exact⟨b3 rfl,b4 rfl,b1 rfl,b2 rfl,rfl,rfl,rfl,by omega,by omega⟩
theorem aEI{p:aB}(h:aCZ p=true):pqt p:=by
 unfold aCZ at h;cases h1:(!(aB.eq p (aB.mk 0 0 0))) with
 | false=>rw[h1,cond_false] at h;cases h
 | true=>
  rw[h1,cond_true] at h;simp only[tR,wI] at h;by_cases h2:max (max p.gX p.gY) p.gZ<=16384
  ·rw[dt h2,cond_true] at h;have h3:=of_decide_eq_true h;unfold pqt;omega
  ·rw[df h2,cond_false] at h;cases h
theorem aFQ{p:aB}(h:pqt p):pin p:=by
 obtain⟨⟨a,b⟩,⟨c,d⟩,e,f⟩:=h;exact⟨⟨by omega,by omega⟩,⟨by omega,by omega⟩,by omega,by omega⟩
theorem ofNZ{w:Int}(h1:1<=w)(h2:w<=64):S64 (w*4294967296)≠0:=by unfold S64;(repeat' split) <;> omega
theorem T.eq{α β:Type}{o:Option α}{a:α}{f:α->Option β}{Q:β->Prop}(e:o=some a)(h:T (f a) Q):T (aa o f) Q:=by rw[e];exact h
theorem aNU(k:Nat)(c:bN)(w h x y:Int)(v:Vector Int 2):T (zY (k+6) c w h x y v) (λr=>vin r.1/\(r.2=0->aQL c w h)):=by
 unfold zY;refine T.bind (aJi _ c w h) λr hr=>?_;refine T.cond (λhc=>?_) (λhc=>?_)
 ·exact T.ret ⟨⟨z64,z64,z64⟩,λe=>by dsimp only at e;rw[e] at hc;cases hc⟩
 have h0:r=0:=by simpa using hc
 have cam:=hr h0;obtain⟨⟨w1,w2⟩,⟨h1,h2⟩,hl,hf,o1,o2,o3,_⟩:=cam;simp only[aO]
 refine T.cond (λ_=>T.ret ⟨⟨z64,z64,z64⟩,λe=>by cases e⟩) (λ_=>?_)
 refine T.eq (rQ _ (cG _)) ?_;refine T.bind (T.idx (by decide) (by simp)) λe7 _=>?_;unfold sN;refine T.eq rfl ?_;refine T.eq (aCK (k+3) (dD _) (cG _)) ?_;refine T.eq (rQ _ ⟨by omega,by omega⟩) ?_;refine T.eq (yH (k+3) (dD _) (dD _) (ofNZ w1 w2)) ?_;refine T.eq (rQ _ (cG _)) ?_;refine T.bind (T.idx (by decide) (by simp)) λe14 _=>?_;refine T.eq rfl ?_;refine T.eq (aF0 _ (dD _) (cG _)) ?_;refine T.eq (rQ _ ⟨by omega,by omega⟩) ?_;refine T.eq (yH (k+3) (dD _) (dD _) (ofNZ h1 h2)) ?_;refine T.eq (aCR _ (aFQ (aEI o3))) ?_;refine T.eq (aCR _ (aFQ (aEI o1))) ?_;refine T.eq (rD (k+3) (aCe _) (dD _)) ?_;refine T.eq (aCR _ (aFQ (aEI o2))) ?_;refine T.eq (rD (k+3) (aCe _) (dD _)) ?_;refine T.eq (aIH (k+3) _ (by intro u hu;simp at hu;rcases hu with rfl | rfl | rfl;exact aCe _;exact pK _ _;exact pK _ _) (by simp) (by simp)) ?_;refine T.ret ⟨?_,λ_=>hr h0⟩
 exact uT _ _
theorem aSu(N:Nat)(a b:Int):T (uA N a b) cD:=by
 unfold uA;simp only[aO]
 exact T.ret (cG _)
theorem aPX(k:Nat)(a:Int)(c:bN):T (pW (k+3) a c) cD:=by
 unfold pW;simp only[aO]
 refine T.bind (aSu _ _ _) λr hr=>?_;refine T.eq (rQ _ (cG _)) ?_;refine T.eq (rQ _ ⟨by decide,by decide⟩) ?_;refine T.eq (yH k (dD _) (dD _) (by decide)) ?_;exact T.ret (dD _)
theorem aPF(N:Nat)(a:Int):T (xC N a) cD:=by
 unfold xC;simp only[aO]
 exact T.ret (cG _)
theorem aWx(k:Nat)(c:bN)(v:Vector Int 4)(h1:pin c.gB6)(h2:pin c.gUp):T (aAt (k+6) c v) pin:=by
 unfold aAt;refine T.eq (aCR _ h1) ?_;refine T.bind (T.idx (by decide) (by simp)) λe2 _=>?_;refine T.bind (aPX (k+3) _ _) λr3 h3=>?_;refine T.eq (rD (k+3) (aCe _) h3) ?_;refine T.eq (aCR _ h2) ?_;refine T.bind (T.idx (by decide) (by simp)) λe6 _=>?_;refine T.bind (aPX (k+3) _ _) λr7 h7=>?_;refine T.eq (rD (k+3) (aCe _) h7) ?_;refine T.eq (aJ5 (k+3) (pK _ _) (pK _ _)) ?_;refine T.bind (aPF _ _) λ_ a=>T.bind (aPF _ _) λ_ b=>T.bind (aPF _ _) λ_ d=>T.ret ⟨a,b,d⟩
theorem aML{α:Type}{m:Nat}(v:Vector α m)(i:Nat)(h:i < m):v.toList[i]? = some v[i]:=by simp[h]
theorem vmem{α:Type}{m:Nat}(v:Vector α m){i:Nat}(h:i < m):v[i]∈v.toList:=by simp
theorem T.vget{α:Type}{m:Nat}{v:Vector α m}{i:Nat}(h:i < m):T (v.toList[i]?) (λ_=>True):=⟨_,Go.UK.aML v i h,trivial⟩
theorem T.loop{σ:Type}{n:Nat}(hn:n < 9223372036854775807)(I:Nat->σ->Prop){F:Nat->σ->Int->Option σ}
  (hstep:∀k s i,i < n->I i s->∀Q:σ->Prop,(∀s',I (i+1) s'->T (F k s' ((i+1:Nat):Int)) Q)->T (F (k+1) s (i:Int)) Q) (hend:∀k s,F (k+1) s (n:Int)=some s) :
  ∀(k i:Nat) (s:σ),I i s->i<=n->n - i < k->T (F k s (i:Int)) (I n)
 | 0,i,_,_,_,h=>by omega
 | k+1,i,s,hs,hi,hk=>by
  by_cases h:i < n
  ·exact hstep k s i h hs _ λs' h'=>T.loop hn I hstep hend k (i+1) s' h' (by omega) (by omega)
  ·obtain rfl:i=n:=by omega
   exact⟨s,hend _ _,hs⟩
theorem T.loop0{σ:Type}{n:Nat}(hn:n < 9223372036854775807)(I:Nat->σ->Prop){F:Nat->σ->Int->Option σ}
  (hstep:∀k s i,i < n->I i s->∀Q:σ->Prop,(∀s',I (i+1) s'->T (F k s' ((i+1:Nat):Int)) Q)->T (F (k+1) s (i:Int)) Q) (hend:∀k s,F (k+1) s (n:Int)=some s) {N:Nat} (hN:n < N) {s:σ} (hs:I 0 s):T (F N s 0) (I n):=
 T.loop hn I hstep hend N 0 s hs (by omega) (by omega)
theorem numC(N:Nat)(b:List Int)(h:4<=b.length):T (rX N b) (λ_=>True):=by
 unfold rX;refine T.bind (T.idx (by omega) (by omega)) λ_ _=>T.bind (T.idx (by omega) (by omega)) λ_ _=>?_;refine T.letO λ_ _=>T.bind (T.idx (by omega) (by omega)) λ_ _=>T.letO λ_ _=>T.bind (T.idx (by omega) (by omega)) λ_ _=>T.letO λ_ _=>T.ret trivial
theorem i4{a i:Nat}(h:a*i < 1000000):I64 ((a:Int)*(i:Int))=((a*i:Nat):Int):=by
 have e:(a:Int)*(i:Int)=((a*i:Nat):Int):=by push_cast;rfl
 rw[e];exact bD (by omega) (by omega)
theorem ia{a i:Nat}(h:a+i < 1000000):I64 ((a:Int)+(i:Int))=((a+i:Nat):Int):=by
 rw[bD (by omega) (by omega)];omega
theorem aWN(N:Nat)(hN:20 < N)(key:Vector Int 32)(c:Int)(n:Vector Int 12):T (yA N key c n) (λ_=>True):=by
 unfold yA;refine T.bind (T.loop0 (n:=8) (by decide) (λ_ _=>True) (F:=mS N key) (λk s i hi _ Q hk=>?_) (λk s=>by rw[mS,df (by omega),cond_false]) (by omega) trivial) λv _=>?_
 ·rw[mS,dt (by omega),cond_true,show(4:Int)=((4:Nat):Int) from rfl,i4 (by omega),ia (by omega)]
  refine T.bind (T.slc (by omega) (by omega) (by simp)) λs4 h4=>T.bind (numC N s4 (by omega)) λr _=>T.bind (T.inRO (by omega) (by omega)) λ_ _=>T.bind (T.vget (by omega)) λe _=>?_;rw[cW (by omega)]
  exact hk _ trivial
 refine T.bind (T.loop0 (n:=3) (by decide) (λ_ _=>True) (F:=mP N n) (λk s i hi _ Q hk=>?_) (λk s=>by rw[mP,df (by omega),cond_false]) (by omega) trivial) λv _=>T.ret trivial;rw[mP,dt (by omega),cond_true,show(4:Int)=((4:Nat):Int) from rfl,i4 (by omega),show(13:Int)=((13:Nat):Int) from rfl,ia (by omega)]
 refine T.bind (T.slc (by omega) (by omega) (by simp)) λs4 h4=>T.bind (numC N s4 (by omega)) λr _=>T.bind (T.inRO (by omega) (by omega)) λ_ _=>T.bind (T.vget (by omega)) λe _=>?_;rw[cW (by omega)]
 exact hk _ trivial
theorem rotT(N:Nat)(x:Int)(n:Nat)(h1:1<=n)(h2:n<=31):T (eG N x (n:Int)) (λ_=>True):=by
 have b:∀n:Fin 32,kB .u64 (U64 (n.val:Int)) 31=(n.val:Int):=by decide +kernel
 have hb:kB .u64 (U64 (n:Int)) 31=(n:Int):=b ⟨n,by omega⟩
 unfold eG;rw[hb,aIY .u32 (by omega),ae,aO,nP (by omega) (by omega),aCz .u32 (by omega)]
 exact T.ret trivial
theorem aS3(N:Nat)(v:Vector Int 4):T (uG N v) (λ_=>True):=by
 unfold uG;refine T.bind (T.idx (by omega) (by simp)) λ_ _=>T.bind (T.idx (by omega) (by simp)) λ_ _=>T.bind (T.idx (by omega) (by simp)) λ_ _=>T.bind (T.idx (by omega) (by simp)) λ_ _=>?_;refine T.letO λ_ _=>T.bind (rotT N _ 16 (by decide) (by decide)) λ_ _=>T.letO λ_ _=>T.bind (rotT N _ 12 (by decide) (by decide)) λ_ _=>T.letO λ_ _=>T.bind (rotT N _ 8 (by decide) (by decide)) λ_ _=>T.letO λ_ _=>T.bind (rotT N _ 7 (by decide) (by decide)) λ_ _=>T.ret trivial
def aMm : List (Vector Int 4):=(#v[#v[0,4,8,12],#v[1,5,9,13],#v[2,6,10,14],#v[3,7,11,15],#v[0,5,10,15],#v[1,6,11,12],#v[2,7,8,13],#v[3,4,9,14]]:Vector (Vector Int 4) 8).toList
theorem aRY : ∀v∈aMm,∀x∈v.toList,0<=x/\x < 16:=by unfold aMm;decide
theorem T.place{v:Vector Int 4}(hv:v∈aMm){i:Nat}(h:i < 4):T (v.toList[i]?) (λx=>0<=x/\x < 16):=
 ⟨_,Go.UK.aML v i h,aRY v hv _ (vmem v h)⟩
theorem aT8(N:Nat)(hN:20 < N)(s:Vector Int 16):T (kK N N s 0) (λ_=>True):=by
 refine T.loop0 (n:=8) (by decide) (λ_ _=>True) (F:=kK N) (λk s i hi _ Q hk=>?_) (λk s=>by rw[kK,df (by omega),cond_false]) (by omega) trivial;rw[kK,dt (by omega),cond_true]
 refine T.bind (T.idx (by omega) (by simp;omega)) λe8 he=>?_;have hm:e8∈aMm:=List.mem_of_getElem? he
 iterate 4 refine T.bind (T.inRO (by decide) (by decide)) λ_ _=>T.bind (T.place hm (by decide)) λ_ h=>T.bind (T.inRO h.1 h.2) λ_ _=>T.bind (T.vget (by omega)) λ_ _=>?_
 refine T.bind (aS3 N _) λr25 _=>?_;refine T.bind (T.inRO (by decide) (by decide)) λ_ _=>T.bind (T.place hm (by decide)) λ_ h0=>?_;refine T.bind (T.inRO (by decide) (by decide)) λ_ _=>T.bind (T.place hm (by decide)) λ_ h1=>?_;refine T.bind (T.inRO (by decide) (by decide)) λ_ _=>T.bind (T.place hm (by decide)) λ_ h2=>?_;refine T.bind (T.inRO (by decide) (by decide)) λ_ _=>T.bind (T.place hm (by decide)) λ_ h3=>?_
 iterate 4 refine T.bind (T.inRO (by decide) (by decide)) λ_ _=>T.bind (T.vget (by decide)) λ_ _=>?_
 refine T.bind (T.inRO h0.1 h0.2) λ_ _=>T.bind (T.vget (by omega)) λ_ _=>T.bind (T.inRO h1.1 h1.2) λ_ _=>T.bind (T.vget (by omega)) λ_ _=>T.bind (T.inRO h2.1 h2.2) λ_ _=>T.bind (T.vget (by omega)) λ_ _=>T.bind (T.inRO h3.1 h3.2) λ_ _=>T.bind (T.vget (by omega)) λ_ _=>?_;rw[cW (by omega)]
 exact hk _ trivial
theorem aV8(N:Nat)(hN:20 < N)(key:Vector Int 32)(c:Int)(n:Vector Int 12):T (yK N key c n) (λ_=>True):=by
 unfold yK;refine T.bind (aWN N hN key c n) λr1 _=>?_;refine T.bind (T.loop0 (n:=10) (by decide) (λ_ _=>True) (F:=mW N) (λk s i hi _ Q hk=>?_) (λk s=>by rw[mW,df (by omega),cond_false]) (by omega) trivial) λp2 _=>?_
 ·rw[mW,dt (by omega),cond_true,cW (by omega)]
  exact T.bind (aT8 N hN s) λ_ _=>hk _ trivial
 refine T.bind (T.loop0 (n:=16) (by decide) (λ_ _=>True) (F:=mJ N p2 r1) (λk s i hi _ Q hk=>?_) (λk s=>by rw[mJ,df (by omega),cond_false]) (by omega) trivial) λp3 _=>T.ret trivial;rw[mJ,dt (by omega),cond_true,show(4:Int)=((4:Nat):Int) from rfl,i4 (by omega)]
 have f1:I64 (((4*i:Nat):Int)+1)=((4*i+1:Nat):Int):=by rw[bD (by omega) (by omega)];omega
 have f2:I64 (((4*i:Nat):Int)+2)=((4*i+2:Nat):Int):=by rw[bD (by omega) (by omega)];omega
 have f3:I64 (((4*i:Nat):Int)+3)=((4*i+3:Nat):Int):=by rw[bD (by omega) (by omega)];omega
 refine T.bind (T.idx (by omega) (by simp;omega)) λ_ _=>T.bind (T.inRO (by omega) (by omega)) λ_ _=>T.bind (T.vget (by omega)) λ_ _=>?_;simp only[aO,f1,f2,f3]
 iterate 4 refine T.bind (T.inRO (by omega) (by omega)) λ_ _=>T.bind (T.vget (by omega)) λ_ _=>?_
 rw[cW (by omega)]
 exact hk _ trivial
theorem aSY{a:Int}(m:Nat)(hm:m < 9223372036854775808):0<=kB .i64 a (m:Int)/\kB .i64 a (m:Int)<=(m:Int):=by
 have h1:(bf 64 (m:Int)).toNat=m:=aHG m (by omega)
 have h2:(bf 64 a &&& bf 64 (m:Int)).toNat<=m:=by
  rw[BitVec.toNat_and,h1];exact Nat.and_le_right
 have h3:kB .i64 a (m:Int)=I64 ((bf 64 a &&& bf 64 (m:Int)).toNat:Int):=rfl;rw[h3]
 generalize (bf 64 a &&& bf 64 (m:Int)).toNat=x at *;rw[bD (by omega) (by omega)]
 omega
theorem keyT(N:Nat)(hN:20 < N)(a:Int):T (aAu N a) (λ_=>True):=by
 unfold aAu;refine T.eq (a:=()) (by decide) ?_;refine T.bind (P:=λ_=>True) ?_ λv _=>?_
 ·unfold cpV;rw[dif_pos (by decide)]
  exact T.ret trivial
 refine T.bind (T.loop0 (n:=8) (by decide) (λ_ _=>True) (F:=pF N a) (λk s i hi _ Q hk=>?_) (λk s=>by rw[pF,df (by omega),cond_false]) (by omega) trivial) λv _=>T.ret trivial;rw[pF,dt (by omega),cond_true,show(8:Int)=((8:Nat):Int) from rfl,i4 (by omega),show(24:Int)=((24:Nat):Int) from rfl,ia (by omega)]
 refine T.eq (aCz .u64 (by omega)) ?_;refine T.bind (T.inRO (by omega) (by omega)) λ_ _=>T.bind (T.vget (by omega)) λe _=>?_;rw[cW (by omega)]
 exact hk _ trivial
theorem aWY(N:Nat)(hN:20 < N)(p:bV)(a:Int):T (pQ N p a) (λ_=>True):=by
 unfold pQ;refine T.bind (T.loop0 (n:=4) (by decide) (λ_ _=>True) (F:=iE N p) (λk s i hi _ Q hk=>?_) (λk s=>by rw[iE,df (by omega),cond_false]) (by omega) trivial) λv _=>?_
 ·rw[iE,dt (by omega),cond_true,show(8:Int)=((8:Nat):Int) from rfl,i4 (by omega),show(4:Int)=((4:Nat):Int) from rfl,ia (by omega)]
  refine T.eq (aCz .u32 (by omega)) ?_;refine T.eq (aCz .u32 (by omega)) ?_;refine T.bind (T.inRO (by omega) (by omega)) λ_ _=>T.bind (T.vget (by omega)) λe _=>?_;refine T.bind (T.inRO (by omega) (by omega)) λ_ _=>T.bind (T.vget (by omega)) λe _=>?_;rw[cW (by omega)]
  exact hk _ trivial
 refine T.bind (keyT N hN a) λ_ _=>T.bind (aV8 N hN _ _ _) λ_ _=>T.ret trivial
theorem aUh(N:Nat)(b:Vector Int 64)(a:Int):T (wE N b a) (λ_=>True):=by
 unfold wE;have h:=aSY (a:=a) 15 (by decide)
 simp only[aO]
 generalize hx:kB .i64 a 15=x at *;rw[show((15:Nat):Int)=15 from rfl] at h;rw[show I64 (4*x)=4*x from bD (by omega) (by omega),show I64 (4*x+1)=4*x+1 from bD (by omega) (by omega),show I64 (4*x+2)=4*x+2 from bD (by omega) (by omega),show I64 (4*x+3)=4*x+3 from bD (by omega) (by omega)]
 refine T.bind (T.idx (by omega) (by simp;omega)) λ_ _=>T.bind (T.idx (by omega) (by simp;omega)) λ_ _=>T.bind (T.idx (by omega) (by simp;omega)) λ_ _=>T.bind (T.idx (by omega) (by simp;omega)) λ_ _=>T.ret trivial
theorem aVQ(N:Nat)(hN:20 < N)(a b:Int)(s:aD):T (jP N a b s) (λ_=>True):=by
 unfold jP;refine T.cond (λ_=>T.ret trivial) (λ_=>?_)
 refine T.bind (P:=λ_=>True) ?_ λp1 _=>T.bind (aUh N _ _) λ_ _=>T.ret trivial;refine T.bind (P:=λ_=>True) (by unfold aBe;simp only[aO];exact T.ret trivial) λr2 _=>?_;refine T.bind (P:=λ_=>True) (T.cond (λ_=>T.ret trivial) (λ_=>T.ret trivial)) λp3 _=>?_;refine T.cond (λ_=>T.bind (aWY N hN _ _) λ_ _=>T.ret trivial) (λ_=>T.ret trivial)
end Go.UK
