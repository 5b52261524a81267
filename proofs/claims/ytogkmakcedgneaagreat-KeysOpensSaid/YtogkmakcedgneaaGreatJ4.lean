/- A part of the proof: what the functions of the program compute. -/
import Derived.Test.YtogkmakcedgneaaGreatJ3
open BitVec renaming ofInt→au
open Int renaming add_zero→pn,ediv_ediv_of_nonneg→jb,ediv_one→lr,eq_ofNat_of_zero_le→br,mul_comm→kf,mul_emod→pk,mul_le_mul→gr,mul_nonneg→kc,natCast_mul→fp,natCast_pow→gu,one_mul→pr,tdiv→eg,tdiv_eq_ediv_of_nonneg→ed,tmod→cp,tmod_eq_emod_of_nonneg→dw,toNat_natCast→bo,toNat_of_nonneg→fh
open List renaming cons_append→gg,drop_drop→fq,drop_of_length_le→ff,drop_zero→eu,ext_getElem?→du,getD_eq_getElem?_getD→ap,getElem?_append_left→cj,getElem?_append_right→ck,getElem?_cons_succ→je,getElem?_drop→eo,getElem?_eq_getElem→af,getElem?_eq_none→ar,getElem?_replicate→de,getElem?_set→cz,getElem?_take→dx,getElem_mem→co,length_append→ah,length_cons→cx,length_drop→bw,length_singleton→cn,length_take→ca,mem_append→dz,mem_cons_of_mem→jh,mem_cons_self→j4,mem_of_getElem?→gw,mem_of_mem_drop→dn,mem_of_mem_take→cu,mem_singleton→jp,replicate→ak,set_append_right→io,take_append_drop→fe,take_append_of_le_length→kg,take_of_length_le→bf,take_succ_eq_append_getElem→fj
open Nat renaming add_mul_div_left→gd,add_mul_mod_self_left→lj,div_div_eq_div_mul→jd,div_eq_of_lt→oo,div_lt_iff_lt_mul→my,le_refl→ct,mod_add_div→ou,mod_eq_of_lt→kp,mod_lt→ic,mod_mul→jm,mod_one→lg,mul_add→pu,mul_assoc→ky,mul_zero→mw,pow_add→ib,pow_le_pow_right→gc,pow_mul→pq,pow_pos→pt,pow_succ→fc,pow_zero→ki,reduceMul→ip,reducePow→fy,two_pow_pos→fv
open Option renaming bind→ae,bind_some→aa
open Vector renaming replicate→ai,toList_inj→ez,toList_setIfInBounds→bu
namespace Go.UK
open Go Go.Proofs
set_option maxRecDepth 20000
set_option maxHeartbeats 4000000
set_option linter.all false
abbrev W1 : Int:=18446744073709551616
abbrev W2 : Int:=340282366920938463463374607431768211456
abbrev W3 : Int:=6277101735386680763835789423207666416102355444464034512896
abbrev aEX : Int:=1361129467683753853853498429727072845824
abbrev PP : Int:=1361129467683753853853498429727072845819
def xF(a b c:Int):Int:=a+W1*b+W2*c
theorem mulX(h0 h1 h2 r0 r1:Int):xF h0 h1 h2*(r0+W1*r1)=h0*r0+W1*(h1*r0+h0*r1)+W2*(h1*r1+h2*r0)+W3*(h2*r1):=by unfold xF;grind
theorem aTQ{l00 u00 l10 u10 l01 u01 l11 u11 p20 p21:Int}(b00:(0<=l00/\l00 < W1)/\0<=u00/\u00 < 1152921504606846976)(b10:(0<=l10/\l10 < W1)/\0<=u10/\u10 < 1152921504606846976)(b01:(0<=l01/\l01 < W1)/\0<=u01/\u01 < 1152921504606846976)(b11:(0<=l11/\l11 < W1)/\0<=u11/\u11 < 1152921504606846976)
  (q0:0<=p20/\p20<=9223372036854775808) (q1:0<=p21/\p21<=9223372036854775808)
  {m1 c1 m2 c2 m3 m4 c4 m5 m6 c6 m7 t1 d1 t2 d2 t3:Int}
  (e1:m1=(l10+l01+0) % W1/\c1=(l10+l01+0) / W1) (e2:m2=(u10+u01+c1) % W1/\c2=(u10+u01+c1) / W1) (e3:m3=(0+0+c2) % W1) (e4:m4=(m2+l11+0) % W1/\c4=(m2+l11+0) / W1) (e5:m5=(m3+u11+c4) % W1)
  (e6:m6=(m4+p20+0) % W1/\c6=(m4+p20+0) / W1) (e7:m7=(m5+p21+c6) % W1) (f1:t1=(m1+u00+0) % W1/\d1=(m1+u00+0) / W1) (f2:t2=(m6+0+d1) % W1/\d2=(m6+0+d1) / W1) (f3:t3=(m7+0+d2) % W1) :
  l00+W1*t1+W2*t2+W3*t3=(l00+W1*u00)+W1*((l10+W1*u10)+(l01+W1*u01))+W2*((l11+W1*u11)+p20)+W3*p21:=by
 simp only[W1,W2,W3] at *;omega
theorem addT{x y c:Int}(hx:0<=x)(hy:0<=y)(hc:0<=c)(hc':c<=1):cW x y c=some ((x+y+c) % 18446744073709551616,(x+y+c) / 18446744073709551616):=by
 unfold cW;rw[dt hx,dt hy,dt hc,dt hc']
 rfl
theorem mulV(N:Nat){a b:Int}(ha:0<=a)(ha':a < 18446744073709551616)(hb:0<=b)(hb':b < 18446744073709551616) :
  cB N a b=some (a*b / 18446744073709551616,a*b % 18446744073709551616):=by
 unfold cB;simp only[aC,aNK ha ha',aNK hb hb',aVU,aNK (aCa _) (aGH _)]
 simp only[aH0]
 generalize hA1:a / 4294967296=A1;generalize hA0:a % 4294967296=A0;generalize hB1:b / 4294967296=B1;generalize hB0:b % 4294967296=B0;have ea:a=A1*4294967296+A0:=by omega
 have eb:b=B1*4294967296+B0:=by omega
 have hp:a*b=(A1*B1)*18446744073709551616+(A1*B0+A0*B1)*4294967296+A0*B0:=by
  rw[ea,eb];grind
 rw[hp]
 obtain⟨x1,y1⟩:=aKd (a:=A1) (b:=B1)
 obtain⟨x2,y2⟩:=aKd (a:=A1) (b:=B0)
 obtain⟨x3,y3⟩:=aKd (a:=A0) (b:=B1)
 obtain⟨x4,y4⟩:=aKd (a:=A0) (b:=B0)
 clear hp ea eb;generalize A1*B1=p at *;generalize A1*B0=q at *;generalize A0*B1=r at *;generalize A0*B0=s at *;congr 2;omega
theorem aMM(a b c:Int):(#v[a,b,c]:Vector Int 3).toList[((0:Int).toNat)]? = some a:=rfl
theorem aMt(a b c:Int):(#v[a,b,c]:Vector Int 3).toList[((1:Int).toNat)]? = some b:=rfl
theorem aM4(a b c:Int):(#v[a,b,c]:Vector Int 3).toList[((2:Int).toNat)]? = some c:=rfl
theorem aNm(a b c x:Int):(#v[a,b,c]:Vector Int 3).setIfInBounds ((0:Int).toNat) x=#v[x,b,c]:=rfl
theorem aNf(a b c x:Int):(#v[a,b,c]:Vector Int 3).setIfInBounds ((1:Int).toNat) x=#v[a,x,c]:=rfl
theorem aN4(a b c x:Int):(#v[a,b,c]:Vector Int 3).setIfInBounds ((2:Int).toNat) x=#v[a,b,x]:=rfl
theorem aGg : aS 0 3=some ():=rfl
theorem aGb : aS 1 3=some ():=rfl
theorem aJF : aS 2 3=some ():=rfl
def addW(h0 h1 h2 a b:Int):Vector Int 3:=#v[(h0+a+0) % 18446744073709551616,(h1+b+(h0+a+0) / 18446744073709551616) % 18446744073709551616,h2+(h1+b+(h0+a+0) / 18446744073709551616) / 18446744073709551616]
theorem aUq(N:Nat){h0 h1 h2 a b:Int}(b0:isU h0)(b1:isU h1)(b2:0<=h2/\h2 < 1000)(ba:isU a)(bb:isU b):cA N a b (aO.mk #v[h0,h1,h2])=some (addW h0 h1 h2 a b):=by
 unfold isU at *;unfold cA addW;simp only[aGg,aGb,aJF,aMM,aMt,aM4,aNm,aNf,aN4,aa]
 rw[addT b0.1 ba.1 (by decide) (by decide)]
 simp only[aGg,aGb,aJF,aMM,aMt,aM4,aNm,aNf,aN4,aa]
 rw[addT b1.1 bb.1 (by omega) (by omega)]
 simp only[aGg,aGb,aJF,aMM,aMt,aM4,aNm,aNf,aN4,aa]
 rw[jW]
def leV : List Int->Int
 | []=>0
 | x :: l=>x+256*leV l
theorem aFU(l:List Int)(x:Int):leV (l++[x])=leV l+x*((256 ^ l.length:Nat):Int):=by
 induction l with
 | nil=>show x+256*0=0+x*1;omega
 | cons a l ih=>
  rw[gg,leV,ih,leV,cx,fc,fp]
  generalize ((256 ^ l.length:Nat):Int)=p
  grind
theorem aIE : ∀(l:List Int),aN l->0<=leV l/\leV l < ((256 ^ l.length:Nat):Int):=by
 intro l
 induction l with
 | nil=>intro _;exact⟨Int.le_refl _,by decide⟩
 | cons a l ih=>
  intro h;have ha:=h a (j4)
  have hl:=ih λx hx=>h x (jh _ hx)
  unfold isB at ha;rw[leV,cx,fc,fp]
  generalize ((256 ^ l.length:Nat):Int)=p at *;omega
theorem aOE{n:Nat}{x B C:Int}(h:n<=B.toNat)(h0:0<=B)(hx:0<=x:=by omega)(hx':x<=C:=by omega):0<=(n:Int)*x/\(n:Int)*x<=B*C:=
 ⟨kc (by omega) hx,gr (by omega) hx' hx h0⟩
theorem p2t(i:Nat):(256 ^ i:Nat)=2 ^ (8*i):=by rw[pq]
theorem aC2(N:Nat)(hN:20 < N){b:List Int}(h:8<=b.length)(hb:aN b):dD N b=some (leV (b.take 8)):=by
 have main:T (dD N b) (λr=>r=leV (b.take 8)):=by
  unfold dD;refine T.bind (T.loop0 (n:=8) (by decide) (λi x=>x=leV (b.take i)) (F:=iY N b) (λk s i hi hs Q hk=>?_) (λk s=>by rw[iY,df,cond_false]) (by omega) (by rfl)) λp1 h1=>T.ret h1;have hx:=hb _ (co (show i < b.length by omega))
  unfold isB at hx;rw[iY,dt,cond_true,kX,af (show i < b.length by omega),aa,show(8:Int)=((8:Nat):Int) from rfl,i4,tU .u64,aa,cF]
  refine hk _ ?_;have hb8:aN (b.take i):=λx hx=>hb x (cu hx)
  obtain⟨l0,l1⟩:=aIE _ hb8;have ll:(b.take i).length=i:=by rw[ca];omega
  rw[ll,p2t] at l1;have le:((2 ^ (8*i):Nat):Int)<=((2 ^ 56:Nat):Int):=Int.ofNat_le.2 (gc (by decide) (by omega))
  have c56:((2 ^ 56:Nat):Int)=72057594037927936:=by decide
  rw[jW hx.1,aLb _ _ (8*i) rfl,hs]
  have pe:(2:Int) ^ (8*i)=((2 ^ (8*i):Nat):Int):=by rw[gu];rfl
  rw[pe]
  have mb:=aOE (n:=b[i].toNat) (B:=255) (C:=72057594037927936) (by omega) (by decide) (x:=((2 ^ (8*i):Nat):Int))
  rw[fh hx.1] at mb;rw[Int.emod_eq_of_lt mb.1 (by omega),aIF,aKR (8*i) mb.1 (by omega) l0 l1 (by omega) ⟨b[i].toNat,?_⟩]
  ·rw[fj (show i < b.length by omega),aFU,ll,p2t];omega
  ·have q:(b[i].toNat:Int)=b[i]:=fh hx.1;have q2:b[i]*((2 ^ (8*i):Nat):Int)=((2 ^ (8*i)*b[i].toNat:Nat):Int):=by rw[fp,q,kf]
   rw[q2,bo]
 obtain⟨r,e,rfl⟩:=main;exact e
set_option maxHeartbeats 8000000
theorem aDM{x y c:Int}(hx:isU x)(hy:isU y)(hc:0<=c/\c<=1):∃m d,cW x y c=some (m,d)/\isU m/\(0<=d/\d<=1)/\m=(x+y+c) % 18446744073709551616/\d=(x+y+c) / 18446744073709551616:=by
 unfold isU at *;exact⟨_,_,addT hx.1 hy.1 hc.1 hc.2,by omega,by omega,rfl,rfl⟩
theorem mulE(N:Nat){a b:Int}(ha:isU a)(hb:0<=b/\b < 1152921504606846976):∃u l,cB N a b=some (u,l)/\isU l/\(0<=u/\u < 1152921504606846976)/\a*b=l+18446744073709551616*u:=by
 unfold isU at *;have m:=kc ha.1 hb.1;have m2:a*b<=18446744073709551615*1152921504606846975:=gr (by omega) (by omega) hb.1 (by decide)
 refine⟨_,_,mulV N ha.1 ha.2 hb.1 (by omega),?_,?_,?_⟩
 ·omega
 ·generalize a*b=p at *;omega
 ·generalize a*b=p at *;omega
theorem aWa{a:Int}(h:isU a):aJL .u64 a 3=a - a % 4:=by
 have e:aJL .u64 a 3=((a.toNat / 4*4:Nat):Int):=by
  unfold isU at h;unfold aJL;have k:(au IntKind.u64.bits a &&& ~~~ (au IntKind.u64.bits 3)).toNat=a.toNat / 4*4:=by
   obtain⟨A,rfl⟩:=br h.1;have hA:A < 18446744073709551616:=by omega
   show((au 64 (A:Int)) &&& ~~~ (au 64 3)).toNat=_;rw[show(A:Int).toNat=A from rfl]
   have q:au 64 (A:Int)=BitVec.ofNat 64 A:=by simp
   rw[q]
   have:(BitVec.ofNat 64 A &&& ~~~ (au 64 3))=(BitVec.ofNat 64 A >>> 2) <<< 2:=by
    apply BitVec.eq_of_getLsbD_eq;intro i hi;have h3:(au 64 3).getLsbD i=decide (i < 2):=by
     rcases i with _ | _ | i
     ·rfl
     ·rfl
     ·have:∀j:Fin 62,(au 64 3).getLsbD (j.val+2)=false:=by decide
      rw[this ⟨i,by omega⟩]
      simp
    rw[BitVec.getLsbD_and,BitVec.getLsbD_not,h3,BitVec.getLsbD_shiftLeft,BitVec.getLsbD_ushiftRight]
    by_cases h2:i < 2
    ·simp[h2]
    ·rw[show 2+(i - 2)=i by omega]
     simp[h2,hi]
   rw[this]
   simp[BitVec.toNat_shiftLeft,BitVec.toNat_ushiftRight,Nat.shiftLeft_eq,Nat.shiftRight_eq_div_pow]
   omega
  rw[k]
  exact jW
 rw[e]
 unfold isU at h;omega
set_option maxHeartbeats 16000000
def bnum(b:List Int):Int:=leV (b.take 8)+W1*leV ((b.take 16).drop 8)+W2*(b.getD 16 0)
theorem add2(N:Nat){t0 t1 t2 t3:Int}(b0:isU t0)(b1:isU t1)(b2:isU t2)(b3:isU t3):∃x y z,(ae (cA N (aJL .u64 t2 3) t3 (aO.mk (#v[t0,t1,cI .u64 t2 3]))) λr47=>
  aM (bor .u64 (shr .u64 t2 2) (shl .u64 t3 62)) λx48=>
  ae (cA N x48 (shr .u64 t3 2) (aO.mk r47)) λr49=>some r49)=some #v[x,y,z]/\isU x/\isU y/\(0<=z/\z<=5)/\xF x y z+PP*(t2 / 4+4611686018427387904*t3)=t0+W1*t1+W2*t2+W3*t3:=by
 have e3:cI .u64 t2 3=t2 % 4:=by
  unfold isU at b2;rw[aLU b2.1 b2.2 (by decide) (by decide)]
  have:t2.toNat &&& (3:Int).toNat=t2.toNat % 4:=Nat.and_two_pow_sub_one_eq_mod t2.toNat 2;rw[this];omega
 have s2:shr .u64 t2 2=t2 / 4:=by rw[zC .u64 t2 2 2 rfl];rfl
 have s3:shr .u64 t3 2=t3 / 4:=by rw[zC .u64 t3 2 2 rfl];rfl
 have l3:shl .u64 t3 62=4611686018427387904*(t3 % 4):=by
  rw[aLb t3 62 62 rfl (by decide)]
  have:(2:Int) ^ 62=4611686018427387904:=by decide
  rw[this];omega
 unfold isU at *;have bb:bor .u64 (t2 / 4) (4611686018427387904*(t3 % 4))=4611686018427387904*(t3 % 4)+t2 / 4:=by
  rw[aIF]
  refine aKR 62 (by omega) (by omega) (by omega) ?_ (by decide) ⟨(t3 % 4).toNat,?_⟩
  ·have:((2 ^ 62:Nat):Int)=4611686018427387904:=by decide
   rw[this];omega
  ·have:(2 ^ 62:Nat)=4611686018427387904:=by decide
   rw[this];omega
 rw[e3,aWa ⟨b2.1,b2.2⟩,s2,s3,l3,bb]
 rw[aUq N (by unfold isU;omega) (by unfold isU;omega) (by omega) (by unfold isU;omega) (by unfold isU;omega),aa]
 simp only[aC]
 unfold addW;rw[aUq N (by unfold isU;omega) (by unfold isU;omega) (by omega) (by unfold isU;omega) (by unfold isU;omega),aa]
 unfold addW;refine⟨_,_,_,rfl,by omega,by omega,by omega,?_⟩
 unfold xF;simp only[W1,W2,W3,PP]
 omega
structure Hok(h0 h1 h2:Int):Prop where
 a:isU h0
 b:isU h1
 c:0<=h2/\h2<=5
def Rok(r0 r1:Int):Prop:=(0<=r0/\r0 < 1152921504606846976)/\0<=r1/\r1 < 1152921504606846976
def Bok(b:Vector Int 17):Prop:=aN b.toList/\0<=b.toList.getD 16 0/\b.toList.getD 16 0<=1
theorem leV8{l:List Int}(h:aN l)(hl:l.length=8):isU (leV l):=by
 have:=aIE l h;rw[hl] at this;exact⟨this.1,this.2⟩
theorem aVw(N:Nat)(hN:20 < N){h0 h1 h2 r0 r1:Int}(hh:Hok h0 h1 h2)(hr:Rok r0 r1){b:Vector Int 17}(hb:Bok b) :
  ∃x y z H,dB N b r0 r1 (aO.mk #v[h0,h1,h2])=some #v[x,y,z]/\Hok x y z/\xF x y z+PP*H=(xF h0 h1 h2+bnum b.toList)*(r0+W1*r1):=by
 obtain⟨a0,a1,a2⟩:=hh;obtain⟨hb1,hb2⟩:=hb;have ll:b.toList.length=17:=by simp
 have n0:isU (leV (b.toList.take 8)):=leV8 (λx hx=>hb1 x (cu hx)) (by rw[ca,ll];rfl)
 have n1:isU (leV ((b.toList.take 16).drop 8)):=leV8 (λx hx=>hb1 x (cu (dn hx))) (by rw[bw,ca,ll];rfl)
 have s0:cR b.toList 0 8=some (b.toList.take 8):=nQ (n:=8) (by rw[ll];decide)
 have s1:cR b.toList 8 16=some ((b.toList.take 16).drop 8):=qC (by decide) (by decide) (by rw[ll];decide)
 have i16:idx b.toList 16=some (b.toList.getD 16 0):=by
  rw[show(16:Int)=((16:Nat):Int) from rfl,kX,af (by rw[ll];decide),ap,af (by rw[ll];decide)]
  rfl
 have p0:dD N (b.toList.take 8)=some (leV (b.toList.take 8)):=by
  rw[aC2 N hN (by rw[ca,ll];decide) (λx hx=>hb1 x (cu hx)),List.take_take];rfl
 have p1:dD N ((b.toList.take 16).drop 8)=some (leV ((b.toList.take 16).drop 8)):=by
  rw[aC2 N hN (by rw[bw,ca,ll];decide) (λx hx=>hb1 x (cu (dn hx))),bf (by rw[bw,ca,ll];decide)]
 unfold bnum;generalize leV (b.toList.take 8)=m0 at *;generalize leV ((b.toList.take 16).drop 8)=m1 at *;generalize b.toList.getD 16 0=m2 at *;unfold dB;simp only[s0,s1,i16,p0,p1,aGg,aGb,aJF,aMM,aMt,aM4,aNm,aNf,aN4,aa]
 obtain⟨x0,c1,E1,bx0,bc1,f1⟩:=aDM a0 n0 (c:=0) ⟨by decide,by decide⟩
 rw[E1]
 simp only[aGg,aGb,aJF,aMM,aMt,aM4,aNm,aNf,aN4,aa]
 obtain⟨x1,c2,E2,bx1,bc2,f2⟩:=aDM a1 n1 bc1;rw[E2]
 simp only[aGg,aGb,aJF,aMM,aMt,aM4,aNm,aNf,aN4,aa]
 rw[aC]
 rw[jW hb2.1,jW (x:=m2+c2),jW (x:=h2+(m2+c2))]
 have va:xF h0 h1 h2+(m0+W1*m1+W2*m2)=xF x0 x1 (h2+(m2+c2)):=by
  unfold isU at a0 a1 n0 n1;unfold xF;simp only[W1,W2]
  omega
 have cc:0<=h2+(m2+c2)/\h2+(m2+c2)<=7:=by omega
 clear f1 f2 E1 E2;generalize h2+(m2+c2)=hs2 at *;obtain⟨hr0,hr1⟩:=hr;obtain⟨u00,l00,M1,g1,g2,g3⟩:=mulE N bx0 hr0;obtain⟨u10,l10,M2,g4,g5,g6⟩:=mulE N bx1 hr0;obtain⟨u01,l01,M3,g7,g8,g9⟩:=mulE N bx0 hr1;obtain⟨u11,l11,M4,g10,g11,g12⟩:=mulE N bx1 hr1;rw[M1,aa,M2,aa,M3,aa,M4,aa]
 dsimp only;have q0:=aOE (n:=hs2.toNat) (B:=7) (C:=1152921504606846975) (by omega) (by decide) (x:=r0)
 have q1:=aOE (n:=hs2.toNat) (B:=7) (C:=1152921504606846975) (by omega) (by decide) (x:=r1)
 rw[fh (by omega)] at q0 q1;have q0':0<=hs2*r0/\hs2*r0<=9223372036854775808:=⟨q0.1,by omega⟩
 have q1':0<=hs2*r1/\hs2*r1<=9223372036854775808:=⟨q1.1,by omega⟩
 have uu:∀{u:Int},0<=u/\u < 1152921504606846976->isU u:=λh=>⟨h.1,by omega⟩
 have uq:∀{u:Int},0<=u/\u<=7*1152921504606846975->isU u:=λh=>⟨h.1,by omega⟩
 have z01:(0:Int)<=0/\(0:Int)<=1:=⟨by decide,by decide⟩
 rw[jW q0.1,jW q1.1]
 obtain⟨y1,d1,F1,by1,bd1,k1⟩:=aDM g4 g7 z01;rw[F1,aa]
 obtain⟨y2,d2,F2,by2,bd2,k2⟩:=aDM (uu g5) (uu g8) bd1;rw[F2,aa]
 obtain⟨y3,d3,F3,by3,bd3,k3⟩:=aDM aAI aAI bd2;rw[F3,aa]
 dsimp only;obtain⟨y4,d4,F4,by4,bd4,k4⟩:=aDM by2 g10 z01;rw[F4,aa]
 obtain⟨y5,d5,F5,by5,bd5,k5⟩:=aDM by3 (uu g11) bd4;rw[F5,aa]
 dsimp only;obtain⟨y6,d6,F6,by6,bd6,k6⟩:=aDM by4 (uq q0) z01;rw[F6,aa]
 obtain⟨y7,d7,F7,by7,bd7,k7⟩:=aDM by5 (uq q1) bd6;rw[F7,aa]
 dsimp only;obtain⟨t1,e1,F8,bt1,be1,k8⟩:=aDM by1 (uu g2) z01;rw[F8,aa]
 obtain⟨t2,e2,F9,bt2,be2,k9⟩:=aDM by6 aAI be1;rw[F9,aa]
 obtain⟨t3,e3,F10,bt3,be3,k10⟩:=aDM by7 aAI be2;rw[F10,aa]
 dsimp only;obtain⟨x,y,z,e,hx,hy,hz,hv⟩:=add2 N g1 bt1 bt2 bt3;refine⟨x,y,z,_,e,⟨hx,hy,hz⟩,hv.trans ?_⟩
 have pm:=aTQ ⟨g1,g2⟩ ⟨g4,g5⟩ ⟨g7,g8⟩ ⟨g10,g11⟩ (p20:=hs2*r0) (p21:=hs2*r1) q0' q1' k1 k2 k3.1 k4 k5.1 k6 k7.1 k8 k9 k10.1;rw[pm]
 rw[va,mulX,g3,g6,g9,g12]
theorem aWb(N:Nat)(a b:Int)(m:aT):iR N a b m=cA N a b m.gA1:=rfl
theorem aTb(N:Nat)(b:Vector Int 17)(r0 r1:Int)(m:aT):jN N b r0 r1 m=ae (dB N b r0 r1 m.gA1) λr=>some (r,m.gC,m.gr0,m.gr1,m.gs0,m.gs1,m.gN,m.gO):=by
 unfold jN dB;simp only[aWb,aC,Option.bind_assoc,aa]
theorem aMo(N:Nat){a b c:Int}(h:Hok a b c)(k i:Nat)(hi:i < 2:=by decide):∃x y z,Hok x y z/\xF x y z=(if xF a b c>=PP then xF a b c - PP else xF a b c)/\dZ N (k+1) #v[a,b,c] (i:Int)=dZ N k #v[x,y,z] ((i+1:Nat):Int):=by
 obtain⟨ha,hb,hc⟩:=h;rw[dZ,dt,cond_true]
 simp only[aGg,aGb,aJF,aMM,aMt,aM4,aNm,aNf,aN4,aa,aC]
 obtain⟨m,d,E,bm,bd,e⟩:=aDM ha aEi (c:=0) ⟨by decide,by decide⟩
 rw[E,aa]
 obtain⟨m2,d2,E2,bm2,bd2,e2⟩:=aDM hb aAI bd;rw[E2,aa]
 dsimp only;rw[jW (x:=c+d2)]
 unfold isU at *;have vv:xF a b c+5=m+W1*m2+W2*(c+d2):=by
  unfold xF;simp only[W1,W2];omega
 by_cases g:c+d2>=4
 ·rw[dt g,cond_true,aa,jW,cF]
  refine⟨m,m2,c+d2 - 4,⟨bm,bm2,by omega⟩,?_,rfl⟩
  unfold xF at *;simp only[W1,W2,PP] at *;rw[if_pos (by omega)]
  omega
 ·rw[df g,cond_false,aa,cF]
  refine⟨a,b,c,⟨ha,hb,hc⟩,?_,rfl⟩
  unfold xF at *;simp only[W1,W2,PP] at *;rw[if_neg (by omega)]
theorem endL1(N:Nat)(hN:10 < N){a b c:Int}(h:Hok a b c):∃x y z,Hok x y z/\xF x y z=xF a b c % PP/\dZ N N #v[a,b,c] 0=some #v[x,y,z]:=by
 obtain⟨k,rfl⟩:∃k,N=k+3:=⟨N - 3,by omega⟩
 obtain⟨x1,y1,z1,h1,v1,e1⟩:=aMo (k+3) h (k+2) 0;obtain⟨x2,y2,z2,h2,v2,e2⟩:=aMo (k+3) h1 (k+1) 1;refine⟨x2,y2,z2,h2,?_,?_⟩
 ·have lo:0<=xF a b c/\xF a b c < 3*PP:=by
   obtain⟨ha,hb,hc⟩:=h;unfold isU at *;unfold xF;simp only[W1,W2,PP]
   omega
  rw[v2,v1]
  generalize xF a b c=V at *;simp only[PP] at *;split <;> (try split) <;> omega
 ·rw[show(0:Int)=((0:Nat):Int) from rfl,show k+3=k+2+1 from rfl,e1,show k+2=k+1+1 from rfl,e2,dZ,df (by decide),cond_false]
def byN : Nat->Int->List Int
 | 0,_=>[]
 | n+1,x=>x % 256 :: byN n (x / 256)
theorem aU7 : ∀(n:Nat) (x:Int),(byN n x).length=n
 | 0,_=>rfl
 | n+1,x=>by rw[byN,cx,aU7 n]
theorem aLD : ∀(n:Nat) (x:Int) (i:Nat),i < n->(byN n x)[i]? = some (x / ((256 ^ i:Nat):Int) % 256)
 | 0,_,i,h=>by omega
 | n+1,x,0,_=>by
  show some (x % 256)=_;rw[show((256 ^ 0:Nat):Int)=1 from rfl,lr]
 | n+1,x,i+1,h=>by
  rw[byN,je,aLD n (x / 256) i (by omega),fc,fp,jb (by decide),kf]
  rfl
def aNv(lo hi:Int)(i j:Nat):Int:=if j < 8 then(if j < i then lo / ((256 ^ j:Nat):Int) % 256 else 0) else if j - 8 < i then hi / ((256 ^ (j - 8):Nat):Int) % 256 else 0
theorem aXN(i:Nat):bL i=((256 ^ i:Nat):Int):=by unfold bL;rw[gu];rfl
theorem endL2(N:Nat)(hN:20 < N)(lo hi:Int×Int):T (fE N lo hi N (ai 16 0) 0) (λv=>∀j,j < 16->v.toList[j]? = some (aNv lo.1 hi.1 8 j)):=by
 refine T.loop0 (n:=8) (by decide) (λi (v:Vector Int 16)=>∀j,j < 16->v.toList[j]? = some (aNv lo.1 hi.1 i j)) (F:=fE N lo hi) (λk s i hi' hs Q hk=>?_) (λk s=>by rw[fE,df,cond_false]) (by omega) (λj hj=>?_)
 ·rw[fE,dt,cond_true,show(8:Int)=((8:Nat):Int) from rfl,i4,ia,cF]
  rw[jB .u64,aa,jB .u64,aa]
  refine T.bind (T.inRO) λ_ _=>T.bind (T.vget) λ_ _=>T.bind (T.inRO) λ_ _=>T.bind (T.vget) λ_ _=>hk _ λj hj=>?_;rw[aKi lo.1 i,aKi hi.1 i,aBu,aBu,aXN]
  have t1:((i:Nat):Int).toNat=i:=rfl;have t2:((8+i:Nat):Int).toNat=8+i:=rfl;rw[t1,t2]
  simp only[bu,cz,List.length_set,Vector.length_toList]
  unfold aNv;by_cases c1:8+i=j
  ·subst c1;rw[if_pos rfl,if_pos (by omega),if_neg (by omega),if_pos (by omega),Nat.add_sub_cancel_left]
  ·rw[if_neg c1]
   by_cases c2:i=j
   ·subst c2;rw[if_pos rfl,if_pos (by omega),if_pos (by omega),if_pos (by omega)]
   ·rw[if_neg c2,hs j hj]
    unfold aNv;by_cases c3:j < 8
    ·rw[if_pos c3,if_pos c3]
     by_cases c4:j < i
     ·rw[if_pos c4,if_pos (by omega)]
     ·rw[if_neg c4,if_neg (by omega)]
    ·rw[if_neg c3,if_neg c3]
     by_cases c4:j - 8 < i
     ·rw[if_pos c4,if_pos (by omega)]
     ·rw[if_neg c4,if_neg (by omega)]
 ·have z:(ai 16 (0:Int)).toList=ak 16 0:=rfl;rw[z,de,if_pos hj]
  unfold aNv;simp
theorem leAll(lo hi:Int)(h0:isU lo)(h1:isU hi):∀j,j < 16->aNv lo hi 8 j=(lo+W1*hi) / ((256 ^ j:Nat):Int) % 256:=by
 intro j hj;unfold isU at *;unfold aNv;simp only[W1]
 have c:j=0\/j=1\/j=2\/j=3\/j=4\/j=5\/j=6\/j=7\/j=8\/j=9\/j=10\/j=11\/j=12\/j=13\/j=14\/j=15:=by omega
 rcases c with rfl | rfl | rfl | rfl | rfl | rfl | rfl | rfl | rfl | rfl | rfl | rfl | rfl | rfl | rfl | rfl
 all_goals
  simp only[fy,Nat.reduceSub,Nat.reduceLT,↓reduceIte]
  omega
theorem endW(N:Nat)(hN:20 < N){a b c s0 s1:Int}(h:Hok a b c)(h0:isU s0)(h1:isU s1):∃r,sC N (aO.mk #v[a,b,c]) s0 s1=some r/\r.toList=byN 16 ((xF a b c % PP+(s0+W1*s1)) % W2):=by
 obtain⟨x,y,z,hh,v,e⟩:=endL1 N (by omega) h;obtain⟨hx,hy,hz⟩:=hh;unfold sC;rw[e]
 simp only[aGg,aGb,aMM,aMt,aa]
 obtain⟨lo,d,E,bl,bd,f1⟩:=aDM hx h0 (c:=0) ⟨by decide,by decide⟩
 rw[E,aa]
 obtain⟨hi,d2,E2,bh,bd2,f2⟩:=aDM hy h1 bd;rw[E2,aa]
 obtain⟨r,er,hr⟩:=endL2 N hN (lo,d) (hi,d2)
 rw[er,aa]
 refine⟨r,rfl,?_⟩
 have X:(xF a b c % PP+(s0+W1*s1)) % W2=lo+W1*hi:=by
  rw[<- v]
  unfold isU at *;unfold xF;simp only[W1,W2]
  omega
 rw[X]
 apply du;intro j;by_cases hj:j < 16
 ·rw[hr j hj,aLD 16 _ j hj,leAll lo hi bl bh j hj]
 ·rw[ar (by simp;omega),ar (by rw[aU7];omega)]
theorem aPE(a b:List Int):leV (a++b)=leV a+((256 ^ a.length:Nat):Int)*leV b:=by
 induction a with
 | nil=>show leV b=0+1*leV b;omega
 | cons x a ih=>
  rw[gg,leV,ih,leV,cx,fc,fp]
  generalize ((256 ^ a.length:Nat):Int)=p;generalize leV b=q
  grind
theorem aWM{s:List Int}(h:s.length=16):bnum (s++[1])=leV s+W2:=by
 unfold bnum;have e1:(s++[1]).take 8=s.take 8:=by rw[kg (by omega)]
 have e2:((s++[1]).take 16).drop 8=s.drop 8:=by rw[kg (by omega),bf (by omega)]
 have e3:(s++[1]).getD 16 0=1:=by
  rw[ap,ck (by omega),h];rfl
 rw[e1,e2,e3,Int.mul_one]
 have:=aPE (s.take 8) (s.drop 8)
 rw[fe,ca,h] at this;rw[this]
 rfl
theorem aT7(N:Nat)(hN:20 < N){s:List Int}(h:s.length=16)(hb:aN s):∃bv:Vector Int 17,mA N s=some [bv]/\Bok bv/\bv.toList=s++[1]:=by
 obtain⟨k,rfl⟩:∃k,N=k+2:=⟨N - 2,by omega⟩
 obtain⟨v8,c16,hv⟩:∃v8:Vector Int 17,cpV (ai 17 (0:Int)) s 0 16=some v8/\v8.toList=s++[0]:=by
  refine⟨⟨(s++[0]).toArray,by simp;omega⟩,?_,rfl⟩
  unfold cpV;rw[dif_pos (by decide)]
  congr 2;unfold cpy;have z:(ai 17 (0:Int)).toList=ak 17 0:=rfl;rw[z,h]
  simp[bf (show s.length<=16 by omega)]
 have key:mA (k+2) s=some [v8.setIfInBounds 16 1]:=by
  unfold mA;rw[aC,h,show nE ((16:Nat):Int) 65536=((16:Nat):Int) from by decide,nQ,bf (by omega),aa]
  rw[lN,aC,h,dt (by decide),cond_true,show aEB 17 0 16=some () from rfl,aa,c16,aa]
  simp only[aC,show min 16 16=16 from rfl]
  rw[show aS ((16:Nat):Int) 17=some () from rfl,aa]
  have t16:((16:Nat):Int).toNat=16:=rfl;rw[t16,af (by simp),aa,cK (by simp),aa,qC (by decide),aa]
  have d0:(s.take ((16:Nat):Int).toNat).drop ((16:Nat):Int).toNat=[]:=by rw[t16];simp
  rw[d0,lN,aC,df (by decide),cond_false]
  rfl
 have hs:(v8.setIfInBounds 16 1).toList=s++[1]:=by
  rw[bu,hv,io _ _ (by omega),h]
  rfl
 refine⟨_,key,⟨?_,?_⟩,hs⟩
 ·rw[hs]
  intro x hx;rcases dz.1 hx with h' | h'
  ·exact hb x h'
  ·rw[jp.1 h'];exact⟨by decide,by decide⟩
 ·rw[hs,ap,ck (by omega),h]
  exact⟨by decide,by decide⟩
def aJ0(R:Int)(l:List Int):Nat->Int
 | 0=>0
 | n+1=>((aJ0 R l n+(leV ((l.drop (16*n)).take 16)+W2))*R) % PP
theorem aPH{V V' H R b p:Int}(h:V'+PP*H=(V+b)*R)(hp:V % PP=p):V' % PP=((p+b)*R) % PP:=by
 have e:V' % PP=((V+b)*R) % PP:=by rw[<- h,Int.add_mul_emod_self_left]
 rw[e,<- hp,pk (V % PP+b),Int.emod_add_emod,<- pk]
theorem aW5(N:Nat)(hN:30 < N){r0 r1 s0 s1 al:Int}(hr:Rok r0 r1){l:List Int}(hb:aN l){m:Nat}(hm:l.length=16*m)(hl:l.length < 1000000) :
  ∀(d k n:Nat) (a b c:Int),n+d=m->d < k->Hok a b c->xF a b c % PP=aJ0 (r0+W1*r1) l n ->
  ∃x y z,Hok x y z/\xF x y z % PP=aJ0 (r0+W1*r1) l m/\fJ N k #v[a,b,c] true r0 r1 s0 s1 (l.drop (16*n)) al=some (#v[x,y,z],true,r0,r1,s0,s1,[],al):=by
 intro d
 induction d with
 | zero=>
  intro k n a b c hn hk h hv;obtain⟨k,rfl⟩:∃j,k=j+1:=⟨k - 1,by omega⟩
  obtain rfl:n=m:=by omega
  have e:l.drop (16*n)=[]:=ff (by omega)
  refine⟨a,b,c,h,hv,?_⟩
  rw[e,fJ,aC,df (by decide),cond_false]
 | succ d ih=>
  intro k n a b c hn hk h hv;obtain⟨k,rfl⟩:∃j,k=j+1:=⟨k - 1,by omega⟩
  have dl:(l.drop (16*n)).length=16*m - 16*n:=by rw[bw,hm]
  have t16:((l.drop (16*n)).take 16).length=16:=by rw[ca,dl];omega
  have tb:aN ((l.drop (16*n)).take 16):=λx hx=>hb x (dn (cu hx))
  obtain⟨bv,e1,e2,e3⟩:=aT7 N (by omega) t16 tb;obtain⟨x,y,z,H,e4,hh,e5⟩:=aVw N (by omega) h hr e2;rw[e3,aWM t16] at e5;have hv':=aPH e5 hv;obtain⟨x',y',z',g1,g2,g3⟩:=ih k (n+1) x y z (by omega) (by omega) hh hv';refine⟨x',y',z',g1,g2,?_⟩
  have s16:cR (l.drop (16*n)) 0 16=some ((l.drop (16*n)).take 16):=nQ (n:=16)
  rw[fJ,aC,dt,cond_true,s16,aa,e1,aa]
  rw[show idx [bv] 0=some bv from rfl,aa,aTb,e4,aa,aa]
  dsimp only;rw[qC (by decide),aa]
  have e6:((l.drop (16*n)).take (((l.drop (16*n)).length:Nat):Int).toNat).drop (16:Int).toNat=l.drop (16*(n+1)):=by
   rw[bo,bf (ct _),fq]
   congr 1
  rw[e6]
  exact g3
def clB(j:Nat)(x:Int):Int:=if j % 4=3 then x % 16 else if j % 4=0/\0 < j then x / 4*4 else x
def vg(v:Vector Int 16)(j:Nat):Int:=v.toList.getD j 0
theorem zI(v:Vector Int 16){j:Nat}(h:j < 16:=by omega):v.toList[j]? = some (vg v j):=by
 unfold vg;rw[ap,af (by simp;omega)]
 rfl
theorem aSU{v:Vector Int 16}(hv:eD v){j:Nat}(h:j < 16:=by omega):isB (vg v j):=hv _ (gw (zI v h))
theorem aWc{x:Int}(h:isB x):cI .u8 x 15=x % 16:=by
 have key:∀y:Fin 256,cI .u8 (y.val:Int) 15=(y.val:Int) % 16:=by decide +kernel
 unfold isB at h;have:=key ⟨x.toNat,by omega⟩
 rwa[fh h.1] at this
theorem aS6{x:Int}(h:isB x):cI .u8 x 252=x / 4*4:=by
 have key:∀y:Fin 256,cI .u8 (y.val:Int) 252=(y.val:Int) / 4*4:=by decide +kernel
 unfold isB at h;have:=key ⟨x.toNat,by omega⟩
 rwa[fh h.1] at this
def ClI(v:Vector Int 16)(n:Nat)(s:Vector Int 16):Prop:=∀j,j < 16->s.toList[j]? = some (if j < n then clB j (vg v j) else vg v j)
theorem aW7(N:Nat)(hN:30 < N){v:Vector Int 16}(hv:eD v):T (sR N v) (ClI v 16):=by
 unfold sR;refine T.bind (T.loop0 (n:=4) (by decide) (λi s=>ClI v (4*i) s) (F:=kZ N) (λk s i hi hs Q hk=>?_) (λk s=>by rw[kZ,df,cond_false]) (by omega) (λj hj=>by rw[zI v hj,if_neg (by omega)])) λp1 h1=>T.ret h1;have i3:I64 (I64 (4*(i:Int))+3)=((4*i+3:Nat):Int):=by rw[aP (x:=4*(i:Int)),aP];omega
 have i0:I64 (4*(i:Int))=((4*i:Nat):Int):=by rw[aP];omega
 rw[kZ,dt,cond_true,i3,i0,aC,cF]
 have g3:=hs (4*i+3) (by omega)
 rw[if_neg (by omega)] at g3;have t3:((4*i+3:Nat):Int).toNat=4*i+3:=rfl;have t0:((4*i:Nat):Int).toNat=4*i:=rfl;rw[bQ (i:=((4*i+3:Nat):Int)),aa,t3,g3,aa,aa,aa,aWc (aSU hv)]
 by_cases c:i=0
 ·subst c;rw[df (by decide),cond_false,aa]
  refine hk _ λj hj=>?_;rw[bu,cz]
  by_cases e:4*0+3=j
  ·subst e;rw[if_pos rfl,if_pos (by simp),if_pos (by decide)]
   rfl
  ·rw[if_neg e,hs j hj,if_neg (by omega)]
   by_cases e2:j < 4*(0+1)
   ·rw[if_pos e2]
    unfold clB;rw[if_neg (by omega),if_neg (by omega)]
   ·rw[if_neg e2]
 ·have g0:(s.setIfInBounds (4*i+3) (vg v (4*i+3) % 16)).toList[4*i]? = some (vg v (4*i)):=by
   rw[bu,cz,if_neg (by omega),hs (4*i) (by omega),if_neg (by omega)]
  rw[dt,cond_true,bQ (i:=((4*i:Nat):Int)),aa,t0,g0,aa,aa,aa,aS6 (aSU hv),aa]
  refine hk _ λj hj=>?_;rw[bu,bu,cz,cz]
  by_cases e:4*i=j
  ·subst e;rw[if_pos rfl,if_pos (by simp;omega),if_pos (by omega)]
   unfold clB;rw[if_neg (by omega),if_pos (by omega)]
  ·rw[if_neg e]
   by_cases e3:4*i+3=j
   ·subst e3;rw[if_pos rfl,if_pos (by simp;omega),if_pos (by omega)]
    unfold clB;rw[if_pos (by omega)]
   ·rw[if_neg e3,hs j hj]
    by_cases e2:j < 4*(i+1)
    ·rw[if_pos e2]
     by_cases e4:j < 4*i
     ·rw[if_pos e4]
     ·rw[if_neg e4]
      unfold clB;rw[if_neg (by omega),if_neg (by omega)]
    ·rw[if_neg e2,if_neg (by omega)]
theorem aXA(N:Nat)(hN:30 < N){v:Vector Int 16}(hv:eD v):T (lD N v) (ClI v 16):=by
 unfold lD;refine T.bind (T.loop0 (n:=16) (by decide) (λi s=>ClI v i s) (F:=kR N) (λk s i hi hs Q hk=>?_) (λk s=>by rw[kR,df,cond_false]) (by omega) (λj hj=>by rw[zI v hj,if_neg (by omega)])) λp1 h1=>T.ret h1;have ti:((i:Nat):Int).toNat=i:=rfl;have tm:cp (i:Int) 4=((i % 4:Nat):Int):=by rw[dw (by omega)];omega
 have gi:=hs i hi;rw[if_neg (by omega)] at gi;obtain⟨b0,b1⟩:=aSU hv hi;have nx:∀x,x=clB i (vg v i)->ClI v (i+1) (s.setIfInBounds i x):=by
  intro x hx j hj;subst hx;rw[bu,cz]
  by_cases e:i=j
  ·subst e;rw[if_pos rfl,if_pos (by simp;omega),if_pos (by omega)]
  ·rw[if_neg e,hs j hj]
   by_cases e2:j < i
   ·rw[if_pos e2,if_pos (by omega)]
   ·rw[if_neg e2,if_neg (by omega)]
 have nx0:clB i (vg v i)=vg v i->ClI v (i+1) s:=by
  intro h j hj;rw[hs j hj]
  by_cases e:i=j
  ·subst e;rw[if_neg (by omega),if_pos (by omega),h]
  ·by_cases e2:j < i
   ·rw[if_pos e2,if_pos (by omega)]
   ·rw[if_neg e2,if_neg (by omega)]
 rw[kR,dt,cond_true,tm,cF,ti]
 by_cases c3:i % 4=3
 ·rw[c3,show(((3:Nat):Int)==3)=true from rfl,cond_true,bQ,aa,gi,aa,aa,aa,aa,aC,show(((3:Nat):Int)==0)=false from rfl,cond_false,cond_false,aa]
  refine hk _ (nx _ ?_)
  unfold clB;rw[if_pos c3,dw b0]
 ·rw[show(((i % 4:Nat):Int)==3)=false by simp;omega,cond_false,aa,aC]
  by_cases c0:i % 4=0/\0 < i
  ·rw[c0.1,show(((0:Nat):Int)==0)=true from rfl,cond_true,dt,cond_true,bQ,aa,gi,aa,aC,aa,aa,aa]
   refine hk _ (nx _ ?_)
   unfold clB;rw[if_neg c3,if_pos c0,ed b0,aBu,aBu]
   omega
  ·have e:(cond (((i % 4:Nat):Int)==0) (decide ((i:Int) > 0)) false)=false:=by
    by_cases z:i % 4=0
    ·rw[z,show(((0:Nat):Int)==0)=true from rfl,cond_true,df]
    ·rw[show(((i % 4:Nat):Int)==0)=false by simp;omega,cond_false]
   rw[e,cond_false,aa]
   refine hk _ (nx0 ?_)
   unfold clB;rw[if_neg c3,if_neg c0]
theorem aV7(N:Nat)(hN:30 < N){v:Vector Int 16}(hv:eD v):∃c,sR N v=some c/\lD N v=some c/\∀j,j < 16->c.toList[j]? = some (clB j (vg v j)):=by
 obtain⟨c,e,h⟩:=aW7 N hN hv;obtain⟨d,e',h'⟩:=aXA N hN hv;have:c=d:=by
  apply ez.1;apply du;intro j;by_cases hj:j < 16
  ·rw[h j hj,h' j hj]
  ·rw[ar (by simp;omega),ar (by simp;omega)]
 subst this;exact⟨c,e,e',λj hj=>by rw[h j hj,if_pos hj]⟩
theorem vecE{m:Nat}{l:List Int}(h:l.length=m):∃v:Vector Int m,aHI m l=some v/\v.toList=l:=by
 unfold aHI;rw[dif_pos (by omega)]
 exact⟨_,rfl,bf (by omega)⟩
theorem aUy{l:List Int}(h:l.length=16):leV l=leV (l.take 8)+W1*leV ((l.take 16).drop 8):=by
 have:=aPE (l.take 8) (l.drop 8)
 rw[fe,ca,h] at this;rw[this,bf (show l.length<=16 by omega)]
 rfl
theorem aUN{l:List Int}(hb:aN l)(hl:l.length=8)(h7:∀x,l[7]? = some x->x < 16):0<=leV l/\leV l < 1152921504606846976:=by
 have e:l=l.take 7++[l[7]'(by omega)]:=by
  rw[<- fj (show 7 < l.length by omega),bf (by omega)]
 have x0:=hb _ (co (show 7 < l.length by omega))
 have x1:=h7 _ (af (show 7 < l.length by omega))
 have b:=aIE (l.take 7) (λx hx=>hb x (cu hx))
 have l7:(l.take 7).length=7:=by rw[ca];omega
 rw[e,aFU,l7]
 rw[l7] at b;unfold isB at x0;generalize l[7]'(by omega)=x at *;have c:((256 ^ 7:Nat):Int)=72057594037927936:=by decide
 rw[c] at b ⊢;omega
structure KeyOk(key:Vector Int 32)(c:Vector Int 16)(r0 r1 s0 s1:Int):Prop where
 r:Rok r0 r1
 s:isU s0/\isU s1
 re:r0+W1*r1=leV c.toList
 se:s0+W1*s1=leV (key.toList.drop 16)
theorem newV(N:Nat)(hN:30 < N){key:Vector Int 32}(hk:eD key):∃(v c:Vector Int 16) (r0 r1 s0 s1:Int),v.toList=key.toList.take 16/\lD N v=some c/\aN c.toList/\xN N key=some (r0,r1,s0,s1)/\KeyOk key c r0 r1 s0 s1:=by
 have kl:key.toList.length=32:=by simp
 obtain⟨v,ev,hv⟩:=vecE (m:=16) (l:=key.toList.take 16) (by rw[ca,kl];decide)
 have vb:eD v:=by intro x hx;rw[hv] at hx;exact hk x (cu hx)
 obtain⟨c,e1,e2,hc⟩:=aV7 N hN vb;have cl:c.toList.length=16:=by simp
 have cb:aN c.toList:=by
  intro x hx;obtain⟨j,hj,rfl⟩:=List.mem_iff_getElem.1 hx;have h:=hc j (by omega)
  rw[af hj] at h;have b:=aSU vb (show j < 16 by omega)
  unfold isB at b ⊢;rw[Option.some.inj h]
  unfold clB;split
  ·omega
  ·split <;> omega
 have c15:∀j,j < 16->j % 4=3->∀x,c.toList[j]? = some x->x < 16:=by
  intro j hj h3 x hx;rw[hc j hj] at hx;have b:=aSU vb hj;unfold isB at b;rw[<- Option.some.inj hx]
  unfold clB;rw[if_pos h3]
  omega
 have s0:cR key.toList 0 16=some (key.toList.take 16):=nQ (n:=16)
 have s1:cR c.toList 0 16=some (c.toList.take 16):=nQ (n:=16)
 have s2:cR c.toList 8 16=some ((c.toList.take 16).drop 8):=qC (by decide) (by decide)
 have s3:cR key.toList 16 32=some ((key.toList.take 32).drop 16):=qC (by decide) (by decide)
 have s4:cR key.toList 24 32=some ((key.toList.take 32).drop 24):=qC (by decide) (by decide)
 have t32:key.toList.take 32=key.toList:=bf (by omega)
 have t16:c.toList.take 16=c.toList:=bf (by omega)
 have sub:∀{l l':List Int},aN l->(∀x∈l',x∈l)->aN l':=λh g x hx=>h x (g x hx)
 have kb:aN key.toList:=hk;rw[t32] at s3 s4;rw[t16] at s1;have n0:=aC2 N (by omega) (b:=c.toList) (by omega) cb;have n1:=aC2 N (by omega) (b:=(c.toList.take 16).drop 8) (by rw[bw,t16];omega) (sub cb λx hx=>cu (dn hx))
 have n2:=aC2 N (by omega) (b:=key.toList.drop 16) (by rw[bw];omega) (sub kb λx hx=>dn hx)
 have n3:=aC2 N (by omega) (b:=key.toList.drop 24) (by rw[bw];omega) (sub kb λx hx=>dn hx)
 have t8:((c.toList.take 16).drop 8).take 8=(c.toList.take 16).drop 8:=bf (by rw[bw,t16];omega)
 have t8':(key.toList.drop 24).take 8=key.toList.drop 24:=bf (by rw[bw];omega)
 rw[t8] at n1;rw[t8'] at n3;have k8:(key.toList.drop 16).drop 8=key.toList.drop 24:=by rw[fq]
 refine⟨v,c,leV (c.toList.take 8),leV ((c.toList.take 16).drop 8),leV ((key.toList.drop 16).take 8),leV (key.toList.drop 24),hv,e2,cb,?_,⟨⟨?_,?_⟩,⟨?_,?_⟩,?_,?_⟩⟩
 ·unfold xN;rw[s0,aa,ev,aa,e1,aa,s1,aa,n0,aa,s2,aa,n1,aa,s3,aa,n2,aa,s4,aa,n3,aa]
 ·refine aUN (sub cb λx hx=>cu hx) (by rw[ca];omega) λx hx=>?_;rw[dx,if_pos (by decide)] at hx;exact c15 7 (by decide) (by decide) x hx
 ·refine aUN (sub cb λx hx=>cu (dn hx)) (by rw[bw,t16];omega) λx hx=>?_;rw[t16,eo] at hx;exact c15 15 (by decide) (by decide) x hx
 ·exact leV8 (sub kb λx hx=>dn (cu hx)) (by rw[ca,bw];omega)
 ·exact leV8 (sub kb λx hx=>dn hx) (by rw[bw];omega)
 ·exact(aUy cl).symm
 ·have:=aUy (l:=key.toList.drop 16) (by rw[bw];omega)
  rw[this,bf (i:=16) (by rw[bw];omega),k8]
theorem aVq(N:Nat)(hN:70000 < N){ms:List (List Int)}(hms:ms.length < 1000):∀(d k i:Nat) (s:List Int),i+d=ms.length->d < k->s.length+((ms.drop i).flatten).length<=65536->fG N ms k s (s.length:Int) (i:Int)=some (s++(ms.drop i).flatten,((s++(ms.drop i).flatten).length:Int)):=by
 intro d
 induction d with
 | zero=>
  intro k i s hi hk hl;obtain⟨k,rfl⟩:∃j,k=j+1:=⟨k - 1,by omega⟩
  rw[fG,aC,df,cond_false,ff (show ms.length<=i by omega),List.flatten_nil,List.append_nil]
 | succ d ih=>
  intro k i s hi hk hl;obtain⟨k,rfl⟩:∃j,k=j+1:=⟨k - 1,by omega⟩
  have hlt:i < ms.length:=by omega
  have e:(ms.drop i).flatten=ms[i]++(ms.drop (i+1)).flatten:=by rw[List.drop_eq_getElem_cons hlt,List.flatten_cons]
  rw[e,ah] at hl;rw[fG,aC,dt,cond_true,kX,af hlt,aa,aC]
  have f:I64 (65536 - (s.length:Int))=((65536 - s.length:Nat):Int):=by rw[aP];omega
  have g:nE ((ms[i].length:Nat):Int) (I64 (65536 - (s.length:Int)))=((ms[i].length:Nat):Int):=by rw[f];unfold nE;split <;> omega
  rw[g,nQ (ct _),bf (ct _),aa,aC,cK,aa,cF]
  have h2:I64 ((s.length:Int)+(ms[i].length:Int))=((s++ms[i]).length:Int):=by rw[aP,ah];rfl
  rw[h2,ih k (i+1) (s++ms[i]) (by omega) (by omega) (by rw[ah];omega),e,List.append_assoc]
theorem tagV(N:Nat)(hN:70000 < N){key:Vector Int 32}(hk:eD key){ms:List (List Int)}(hms:ms.length < 1000)(hb:aN ms.flatten){m:Nat}(hm:ms.flatten.length=16*m)(hl:ms.flatten.length<=65536) :
  ∃(v c t:Vector Int 16),v.toList=key.toList.take 16/\lD N v=some c/\aN c.toList/\wG N key ms=some t/\t.toList=byN 16 ((aJ0 (leV c.toList) ms.flatten m+leV (key.toList.drop 16)) % W2):=by
 obtain⟨v,c,r0,r1,s0,s1,hv,hc,hcb,e,kr,ks,kre,kse⟩:=newV N (by omega) hk;have a1:=aVq N hN hms ms.length N 0 [] (by omega) (by omega) (by simpa using hl)
 rw[eu,List.nil_append] at a1;have z0:Hok 0 0 0:=⟨aAI,aAI,by decide,by decide⟩
 obtain⟨x,y,z,hh,hv2,a2⟩:=aW5 N (by omega) kr hb hm (by omega) (s0:=s0) (s1:=s1) (al:=(ms.flatten.length:Int)) m N 0 0 0 0 (by omega) (by omega) z0 rfl;rw[mw,eu] at a2;obtain⟨t,et,ht⟩:=endW N (by omega) hh ks.1 ks.2;rw[hv2,kre,kse] at ht;refine⟨v,c,t,hv,hc,hcb,?_,ht⟩
 unfold wG;rw[e,aa]
 unfold uA;dsimp only;rw[Bool.not_true,cond_false,show(0:Int)=(([]:List Int).length:Int) from rfl] at *;rw[show((([]:List Int).length:Nat):Int)=((0:Nat):Int) from rfl] at *;rw[a1,aa]
 dsimp only;rw[a2,aa,aa]
 unfold sB;dsimp only;obtain⟨k,rfl⟩:∃j,N=j+1:=⟨N - 1,by omega⟩
 have b0:mA (k+1) []=some []:=by
  unfold mA;rw[aC,show nE ((([]:List Int).length:Nat):Int) 65536=((0:Nat):Int) from by decide,nQ (by decide),aa,lN,aC,df (by decide),cond_false]
  rfl
 rw[Bool.not_true,cond_false,b0,aa,kD,aC,df (by decide),cond_false,aa,et]
 rfl
def oY(a b c d e:Int):Int:=a+67108864*b+4503599627370496*c+302231454903657293676544*d+20282409603651670423947251286016*e
theorem aJJ(a b c d e:Int):(#v[a,b,c,d,e]:Vector Int 5).toList[((0:Int).toNat)]? = some a:=rfl
theorem aH4(a b c d e:Int):(#v[a,b,c,d,e]:Vector Int 5).toList[((1:Int).toNat)]? = some b:=rfl
theorem aIJ(a b c d e:Int):(#v[a,b,c,d,e]:Vector Int 5).toList[((2:Int).toNat)]? = some c:=rfl
theorem aIb(a b c d e:Int):(#v[a,b,c,d,e]:Vector Int 5).toList[((3:Int).toNat)]? = some d:=rfl
theorem aIm(a b c d e:Int):(#v[a,b,c,d,e]:Vector Int 5).toList[((4:Int).toNat)]? = some e:=rfl
theorem aJv(a b c d e x:Int):(#v[a,b,c,d,e]:Vector Int 5).setIfInBounds ((0:Int).toNat) x=#v[x,b,c,d,e]:=rfl
theorem aJN(a b c d e x:Int):(#v[a,b,c,d,e]:Vector Int 5).setIfInBounds ((1:Int).toNat) x=#v[a,x,c,d,e]:=rfl
theorem aJY(a b c d e x:Int):(#v[a,b,c,d,e]:Vector Int 5).setIfInBounds ((2:Int).toNat) x=#v[a,b,x,d,e]:=rfl
theorem aJP(a b c d e x:Int):(#v[a,b,c,d,e]:Vector Int 5).setIfInBounds ((3:Int).toNat) x=#v[a,b,c,x,e]:=rfl
theorem aJV(a b c d e x:Int):(#v[a,b,c,d,e]:Vector Int 5).setIfInBounds ((4:Int).toNat) x=#v[a,b,c,d,x]:=rfl
theorem aDi : aS 0 5=some ():=rfl
theorem aDh : aS 1 5=some ():=rfl
theorem aDm : aS 2 5=some ():=rfl
theorem aDa : aS 3 5=some ():=rfl
theorem aDf : aS 4 5=some ():=rfl
theorem k01 : I64 (0+1)=1:=by decide
theorem k12 : I64 (1+1)=2:=by decide
theorem k23 : I64 (2+1)=3:=by decide
theorem k34 : I64 (3+1)=4:=by decide
theorem k45 : I64 (4+1)=5:=by decide
def ng(x:Int):Prop:=0<=x/\x < 1152921504606846976
theorem aEh{x:Int}(h:0<=x/\x < 4611686018427387904:=by omega):I64 (x - shl .i64 (x / 67108864) 26)=x % 67108864/\shr .i64 x 26=x / 67108864:=by
 have e:shr .i64 x 26=x / 67108864:=by rw[zC .i64 x 26 26 rfl];rfl
 have e2:shl .i64 (x / 67108864) 26=I64 (x / 67108864*67108864):=by
  rw[show(26:Int)=((26:Nat):Int) from rfl,aPo _ 26 (by decide)];rfl
 refine⟨?_,e⟩
 rw[e2,aP (x:=x / 67108864*67108864),aP]
 omega
theorem aNQ(N:Nat)(hN:10 < N){a b c d e:Int}(ha:ng a)(hb:ng b)(hc:ng c)(hd:ng d)(he:ng e):∃a' b' c' d' e' q,bX N N #v[a,b,c,d,e] 0=some #v[a',b',c',d',e']/\(0<=q/\q<=(e+34359738368) / 67108864)/\(0<=a'/\a' < 67108864+5*q)/\(0<=b'/\b' < 67108864)/\(0<=c'/\c' < 67108864)/\(0<=d'/\d' < 67108864)/\(0<=e'/\e' < 67108864)/\oY a' b' c' d' e'+PP*q=oY a b c d e/\(∃a0,a'=a0+5*q/\a0+67108864*((a - a0) / 67108864)=a/\0<=a0/\a0 < 67108864):=by
 unfold ng at *;obtain⟨k,rfl⟩:∃j,N=j+6:=⟨N - 6,by omega⟩
 obtain⟨f1,g1⟩:=aEh (x:=a)
 have hI1:I64 (b+a / 67108864)=b+a / 67108864:=aP;rw[bX,dt (by decide),cond_true]
 simp only[aDi,aDh,aJJ,aH4,aJv,aa,k01,aC,f1,g1,hI1]
 rw[dt (by decide),cond_true,aa,aJN]
 have hb1:0<=b+a / 67108864/\b+a / 67108864 < 2305843009213693952:=by omega
 clear hI1;generalize hB:b+a / 67108864=B at *;obtain⟨f2,g2⟩:=aEh (x:=B)
 have hI2:I64 (c+B / 67108864)=c+B / 67108864:=aP;rw[bX,dt (by decide),cond_true]
 simp only[aDh,aDm,aH4,aIJ,aJN,aa,k12,aC,f2,g2,hI2]
 rw[dt (by decide),cond_true,aa,aJY]
 have hc1:0<=c+B / 67108864/\c+B / 67108864 < 2305843009213693952:=by omega
 clear hI2;generalize hC:c+B / 67108864=C at *;obtain⟨f3,g3⟩:=aEh (x:=C)
 have hI3:I64 (d+C / 67108864)=d+C / 67108864:=aP;rw[bX,dt (by decide),cond_true]
 simp only[aDm,aDa,aIJ,aIb,aJY,aa,k23,aC,f3,g3,hI3]
 rw[dt (by decide),cond_true,aa,aJP]
 have hd1:0<=d+C / 67108864/\d+C / 67108864 < 2305843009213693952:=by omega
 clear hI3;generalize hD:d+C / 67108864=D at *;obtain⟨f4,g4⟩:=aEh (x:=D)
 have hI4:I64 (e+D / 67108864)=e+D / 67108864:=aP;rw[bX,dt (by decide),cond_true]
 simp only[aDa,aDf,aIb,aIm,aJP,aa,k34,aC,f4,g4,hI4]
 rw[dt (by decide),cond_true,aa,aJV]
 have he1:0<=e+D / 67108864/\e+D / 67108864 < 2305843009213693952:=by omega
 have he2:(e+D / 67108864) / 67108864<=(e+34359738368) / 67108864:=by omega
 clear hI4;generalize hE:e+D / 67108864=E at *;obtain⟨f5,g5⟩:=aEh (x:=E)
 have hI5:I64 (5*(E / 67108864))=5*(E / 67108864):=aP;have hI6:I64 (a % 67108864+5*(E / 67108864))=a % 67108864+5*(E / 67108864):=aP;rw[bX,dt (by decide),cond_true]
 simp only[aDf,aDi,aIm,aJJ,aJV,aa,k45,aC,f5,g5,hI5,hI6]
 rw[df (by decide),cond_false,aa,aJv]
 rw[bX,df (by decide),cond_false]
 refine⟨_,_,_,_,_,E / 67108864,rfl,⟨by omega,he2⟩,by omega,by omega,by omega,by omega,by omega,?_,a % 67108864,rfl,by omega,by omega,by omega⟩
 unfold oY;simp only[PP]
 omega
def d26(x:Int):Prop:=0<=x/\x < 67108864
structure Dok(a b c d e:Int):Prop where
 a:d26 a
 b:d26 b
 c:d26 c
 d:d26 d
 e:d26 e
theorem Dok.lt{a b c d e:Int}(h:Dok a b c d e):0<=oY a b c d e/\oY a b c d e < aEX:=by
 obtain⟨h1,h2,h3,h4,h5⟩:=h;unfold d26 at *;unfold oY;simp only[aEX]
 omega
theorem aNr(N:Nat)(hN:10 < N){a b c d e:Int}(ha:ng a)(hb:ng b)(hc:ng c)(hd:ng d)(he:ng e):∃a0 b' c' d' e' q,bX N N #v[a,b,c,d,e] 0=some #v[a0+5*q,b',c',d',e']/\0<=q/\Dok a0 b' c' d' e'/\oY a0 b' c' d' e'+aEX*q=oY a b c d e:=by
 obtain⟨a',b',c',d',e',q,e1,⟨q0,_⟩,_,hb',hc',hd',he',hv,a0,ea,_,h0,h1⟩:=aNQ N hN ha hb hc hd he;subst ea;refine⟨a0,b',c',d',e',q,e1,q0,⟨⟨h0,h1⟩,hb',hc',hd',he'⟩,?_⟩
 unfold oY at *;simp only[PP,aEX] at *;omega
theorem aMR(N:Nat)(hN:10 < N){a b c d e:Int}(ha:ng a)(hb:ng b)(hc:ng c)(hd:ng d)(he:ng e):∃a' b' c' d' e' H,nY N #v[a,b,c,d,e]=some #v[a',b',c',d',e']/\Dok a' b' c' d' e'/\oY a' b' c' d' e'+PP*H=oY a b c d e:=by
 obtain⟨k,hk⟩:∃j,N=j+4:=⟨N - 4,by omega⟩
 obtain⟨a1,b1,c1,d1,e1,q1,E1,p1,D1,v1⟩:=aNr N hN ha hb hc hd he;have u1:q1<=68719476736:=by
  have:=D1.lt;unfold ng at *;unfold oY at *;simp only[aEX] at *;omega
 have L1:=D1;obtain⟨x1,x2,x3,x4,x5⟩:=D1;unfold d26 at x1 x2 x3 x4 x5;obtain⟨a2,b2,c2,d2,e2,q2,E2,p2,D2,v2⟩:=aNr N hN (a:=a1+5*q1) (b:=b1) (c:=c1) (d:=d1) (e:=e1) (by unfold ng;omega) (by unfold ng;omega) (by unfold ng;omega) (by unfold ng;omega) (by unfold ng;omega)
 have u2:q2<=1:=by
  have:=D2.lt;unfold oY at *;simp only[aEX] at *;omega
 have L2:=D2;obtain⟨y1,y2,y3,y4,y5⟩:=D2;unfold d26 at y1 y2 y3 y4 y5;obtain⟨a3,b3,c3,d3,e3,q3,E3,p3,D3,v3⟩:=aNr N hN (a:=a2+5*q2) (b:=b2) (c:=c2) (d:=d2) (e:=e2) (by unfold ng;omega) (by unfold ng;omega) (by unfold ng;omega) (by unfold ng;omega) (by unfold ng;omega)
 have L3:=D3.lt;obtain⟨z1,z2,z3,z4,z5⟩:=D3;have u3:a3+5*q3 < 67108864:=by
  unfold d26 at z1 z2 z3 z4 z5;have:q3<=1:=by
   unfold oY at *;simp only[aEX] at *;omega
  by_cases c:q3=0
  ·subst c;omega
  ·have c1:q3=1:=by omega
   subst c1;unfold oY at v3;simp only[aEX] at v3;omega
 refine⟨a3+5*q3,b3,c3,d3,e3,q1+q2+q3,?_,⟨⟨by have:=z1.1;omega,u3⟩,z2,z3,z4,z5⟩,?_⟩
 ·unfold nY;subst hk;rw[eW,dt (by decide),cond_true,E1,aa,k01,eW,dt (by decide),cond_true,E2,aa,k12,eW,dt (by decide),cond_true,E3,aa,k23,eW,df (by decide),cond_false]
  rfl
 ·unfold oY at *;simp only[PP,aEX] at *;omega
theorem aDd(a b c d e:Int):idx (#v[a,b,c,d,e]:Vector Int 5).toList 0=some a:=rfl
theorem aDb(a b c d e:Int):idx (#v[a,b,c,d,e]:Vector Int 5).toList 1=some b:=rfl
theorem aDc(a b c d e:Int):idx (#v[a,b,c,d,e]:Vector Int 5).toList 2=some c:=rfl
theorem aDl(a b c d e:Int):idx (#v[a,b,c,d,e]:Vector Int 5).toList 3=some d:=rfl
theorem aDn(a b c d e:Int):idx (#v[a,b,c,d,e]:Vector Int 5).toList 4=some e:=rfl
def pd(x:Int):Prop:=0<=x/\x < 18014398509481984
def sm(n x:Int):Prop:=0<=x/\x<=n*90071992547409920
theorem pdI{x:Int}(h:pd x):I64 x=x:=by unfold pd at h;exact aP
theorem pdJ{x:Int}(h:pd x):I64 (5*x)=5*x:=by unfold pd at h;exact aP
theorem smI{n s w:Int}(hn:0<=n/\n<=5)(h:sm n s)(hw:pd w):I64 (s+w)=s+w:=by unfold pd sm at *;exact aP
theorem smJ{n s w:Int}(hn:0<=n/\n<=5)(h:sm n s)(hw:pd w):I64 (s+5*w)=s+5*w:=by unfold pd sm at *;exact aP
theorem smS{n s w:Int}(hn:0<=n/\n<=5)(h:sm n s)(hw:pd w):sm (n+1) (s+w):=by unfold pd sm at *;omega
theorem smT{n s w:Int}(hn:0<=n/\n<=5)(h:sm n s)(hw:pd w):sm (n+1) (s+5*w):=by unfold pd sm at *;omega
theorem tm5_0 : cp 0 5=0:=by decide
theorem aUR : cp 1 5=1:=by decide
theorem aR7 : cp 2 5=2:=by decide
theorem aPR : cp 3 5=3:=by decide
theorem aLY : cp 4 5=4:=by decide
theorem aOG : cp 5 5=0:=by decide
theorem aSa : cp 6 5=1:=by decide
theorem aUK : cp 7 5=2:=by decide
theorem tm5_8 : cp 8 5=3:=by decide
theorem ik00 : I64 (0+0)=0:=by decide
theorem ik01 : I64 (0+1)=1:=by decide
theorem ik02 : I64 (0+2)=2:=by decide
theorem ik03 : I64 (0+3)=3:=by decide
theorem ik04 : I64 (0+4)=4:=by decide
theorem ik10 : I64 (1+0)=1:=by decide
theorem ik11 : I64 (1+1)=2:=by decide
theorem ik12 : I64 (1+2)=3:=by decide
theorem ik13 : I64 (1+3)=4:=by decide
theorem ik14 : I64 (1+4)=5:=by decide
theorem ik20 : I64 (2+0)=2:=by decide
theorem ik21 : I64 (2+1)=3:=by decide
theorem ik22 : I64 (2+2)=4:=by decide
theorem ik23 : I64 (2+3)=5:=by decide
theorem ik24 : I64 (2+4)=6:=by decide
theorem ik30 : I64 (3+0)=3:=by decide
theorem ik31 : I64 (3+1)=4:=by decide
theorem ik32 : I64 (3+2)=5:=by decide
theorem ik33 : I64 (3+3)=6:=by decide
theorem ik34 : I64 (3+4)=7:=by decide
theorem ik40 : I64 (4+0)=4:=by decide
theorem ik41 : I64 (4+1)=5:=by decide
theorem ik42 : I64 (4+2)=6:=by decide
theorem ik43 : I64 (4+3)=7:=by decide
theorem ik44 : I64 (4+4)=8:=by decide
theorem row0(N:Nat)(hN:10 < N){n:Int}(hn:0<=n/\n<=5){a0 a1 a2 a3 a4 b0 b1 b2 b3 b4 s0 s1 s2 s3 s4:Int}(hp0:pd (a0*b0))(hp1:pd (a0*b1))(hp2:pd (a0*b2))(hp3:pd (a0*b3))(hp4:pd (a0*b4))(hs0:sm n s0)(hs1:sm n s1)(hs2:sm n s2)(hs3:sm n s3)(hs4:sm n s4):aQ N #v[a0,a1,a2,a3,a4] 0 #v[b0,b1,b2,b3,b4] N #v[s0,s1,s2,s3,s4] 0=some #v[s0+a0*b0,s1+a0*b1,s2+a0*b2,s3+a0*b3,s4+a0*b4]/\sm (n+1) (s0+a0*b0)/\sm (n+1) (s1+a0*b1)/\sm (n+1) (s2+a0*b2)/\sm (n+1) (s3+a0*b3)/\sm (n+1) (s4+a0*b4):=by
 obtain⟨k,rfl⟩:∃j,N=j+6:=⟨N - 6,by omega⟩
 refine⟨?_,smS hn hs0 hp0,smS hn hs1 hp1,smS hn hs2 hp2,smS hn hs3 hp3,smS hn hs4 hp4⟩
 rw[aQ,dt (by decide),cond_true,aDd,aa,aDd,aa,pdI hp0,aC]
 rw[ik00,df (by decide),cond_false,aa,aC,aC,tm5_0,aDi,aa,aJJ,aa,aa,aa,smI hn hs0 hp0,aJv,k01]
 rw[aQ,dt (by decide),cond_true,aDd,aa,aDb,aa,pdI hp1,aC]
 rw[ik01,df (by decide),cond_false,aa,aC,aC,aUR,aDh,aa,aH4,aa,aa,aa,smI hn hs1 hp1,aJN,k12]
 rw[aQ,dt (by decide),cond_true,aDd,aa,aDc,aa,pdI hp2,aC]
 rw[ik02,df (by decide),cond_false,aa,aC,aC,aR7,aDm,aa,aIJ,aa,aa,aa,smI hn hs2 hp2,aJY,k23]
 rw[aQ,dt (by decide),cond_true,aDd,aa,aDl,aa,pdI hp3,aC]
 rw[ik03,df (by decide),cond_false,aa,aC,aC,aPR,aDa,aa,aIb,aa,aa,aa,smI hn hs3 hp3,aJP,k34]
 rw[aQ,dt (by decide),cond_true,aDd,aa,aDn,aa,pdI hp4,aC]
 rw[ik04,df (by decide),cond_false,aa,aC,aC,aLY,aDf,aa,aIm,aa,aa,aa,smI hn hs4 hp4,aJV,k45]
 rw[aQ,df (by decide),cond_false]
theorem row1(N:Nat)(hN:10 < N){n:Int}(hn:0<=n/\n<=5){a0 a1 a2 a3 a4 b0 b1 b2 b3 b4 s0 s1 s2 s3 s4:Int}(hp0:pd (a1*b0))(hp1:pd (a1*b1))(hp2:pd (a1*b2))(hp3:pd (a1*b3))(hp4:pd (a1*b4))(hs0:sm n s0)(hs1:sm n s1)(hs2:sm n s2)(hs3:sm n s3)(hs4:sm n s4):aQ N #v[a0,a1,a2,a3,a4] 1 #v[b0,b1,b2,b3,b4] N #v[s0,s1,s2,s3,s4] 0=some #v[s0+5*(a1*b4),s1+a1*b0,s2+a1*b1,s3+a1*b2,s4+a1*b3]/\sm (n+1) (s0+5*(a1*b4))/\sm (n+1) (s1+a1*b0)/\sm (n+1) (s2+a1*b1)/\sm (n+1) (s3+a1*b2)/\sm (n+1) (s4+a1*b3):=by
 obtain⟨k,rfl⟩:∃j,N=j+6:=⟨N - 6,by omega⟩
 refine⟨?_,smT hn hs0 hp4,smS hn hs1 hp0,smS hn hs2 hp1,smS hn hs3 hp2,smS hn hs4 hp3⟩
 rw[aQ,dt (by decide),cond_true,aDb,aa,aDd,aa,pdI hp0,aC]
 rw[ik10,df (by decide),cond_false,aa,aC,aC,aUR,aDh,aa,aH4,aa,aa,aa,smI hn hs1 hp0,aJN,k01]
 rw[aQ,dt (by decide),cond_true,aDb,aa,aDb,aa,pdI hp1,aC]
 rw[ik11,df (by decide),cond_false,aa,aC,aC,aR7,aDm,aa,aIJ,aa,aa,aa,smI hn hs2 hp1,aJY]
 rw[aQ,dt (by decide),cond_true,aDb,aa,aDc,aa,pdI hp2,aC]
 rw[ik12,df (by decide),cond_false,aa,aC,aC,aPR,aDa,aa,aIb,aa,aa,aa,smI hn hs3 hp2,aJP,k23]
 rw[aQ,dt (by decide),cond_true,aDb,aa,aDl,aa,pdI hp3,aC]
 rw[ik13,df (by decide),cond_false,aa,aC,aC,aLY,aDf,aa,aIm,aa,aa,aa,smI hn hs4 hp3,aJV,k34]
 rw[aQ,dt (by decide),cond_true,aDb,aa,aDn,aa,pdI hp4,aC]
 rw[ik14,dt (by decide),cond_true,aC,pdJ hp4,aa,aC,aC,aOG,aDi,aa,aJJ,aa,aa,aa,smJ hn hs0 hp4,aJv,k45]
 rw[aQ,df (by decide),cond_false]
theorem row2(N:Nat)(hN:10 < N){n:Int}(hn:0<=n/\n<=5){a0 a1 a2 a3 a4 b0 b1 b2 b3 b4 s0 s1 s2 s3 s4:Int}(hp0:pd (a2*b0))(hp1:pd (a2*b1))(hp2:pd (a2*b2))(hp3:pd (a2*b3))(hp4:pd (a2*b4))(hs0:sm n s0)(hs1:sm n s1)(hs2:sm n s2)(hs3:sm n s3)(hs4:sm n s4):aQ N #v[a0,a1,a2,a3,a4] 2 #v[b0,b1,b2,b3,b4] N #v[s0,s1,s2,s3,s4] 0=some #v[s0+5*(a2*b3),s1+5*(a2*b4),s2+a2*b0,s3+a2*b1,s4+a2*b2]/\sm (n+1) (s0+5*(a2*b3))/\sm (n+1) (s1+5*(a2*b4))/\sm (n+1) (s2+a2*b0)/\sm (n+1) (s3+a2*b1)/\sm (n+1) (s4+a2*b2):=by
 obtain⟨k,rfl⟩:∃j,N=j+6:=⟨N - 6,by omega⟩
 refine⟨?_,smT hn hs0 hp3,smT hn hs1 hp4,smS hn hs2 hp0,smS hn hs3 hp1,smS hn hs4 hp2⟩
 rw[aQ,dt (by decide),cond_true,aDc,aa,aDd,aa,pdI hp0,aC]
 rw[ik20,df (by decide),cond_false,aa,aC,aC,aR7,aDm,aa,aIJ,aa,aa,aa,smI hn hs2 hp0,aJY,k01]
 rw[aQ,dt (by decide),cond_true,aDc,aa,aDb,aa,pdI hp1,aC]
 rw[ik21,df (by decide),cond_false,aa,aC,aC,aPR,aDa,aa,aIb,aa,aa,aa,smI hn hs3 hp1,aJP,k12]
 rw[aQ,dt (by decide),cond_true,aDc,aa,aDc,aa,pdI hp2,aC]
 rw[ik22,df (by decide),cond_false,aa,aC,aC,aLY,aDf,aa,aIm,aa,aa,aa,smI hn hs4 hp2,aJV,k23]
 rw[aQ,dt (by decide),cond_true,aDc,aa,aDl,aa,pdI hp3,aC]
 rw[ik23,dt (by decide),cond_true,aC,pdJ hp3,aa,aC,aC,aOG,aDi,aa,aJJ,aa,aa,aa,smJ hn hs0 hp3,aJv,k34]
 rw[aQ,dt (by decide),cond_true,aDc,aa,aDn,aa,pdI hp4,aC]
 rw[ik24,dt (by decide),cond_true,aC,pdJ hp4,aa,aC,aC,aSa,aDh,aa,aH4,aa,aa,aa,smJ hn hs1 hp4,aJN,k45]
 rw[aQ,df (by decide),cond_false]
theorem row3(N:Nat)(hN:10 < N){n:Int}(hn:0<=n/\n<=5){a0 a1 a2 a3 a4 b0 b1 b2 b3 b4 s0 s1 s2 s3 s4:Int}(hp0:pd (a3*b0))(hp1:pd (a3*b1))(hp2:pd (a3*b2))(hp3:pd (a3*b3))(hp4:pd (a3*b4))(hs0:sm n s0)(hs1:sm n s1)(hs2:sm n s2)(hs3:sm n s3)(hs4:sm n s4):aQ N #v[a0,a1,a2,a3,a4] 3 #v[b0,b1,b2,b3,b4] N #v[s0,s1,s2,s3,s4] 0=some #v[s0+5*(a3*b2),s1+5*(a3*b3),s2+5*(a3*b4),s3+a3*b0,s4+a3*b1]/\sm (n+1) (s0+5*(a3*b2))/\sm (n+1) (s1+5*(a3*b3))/\sm (n+1) (s2+5*(a3*b4))/\sm (n+1) (s3+a3*b0)/\sm (n+1) (s4+a3*b1):=by
 obtain⟨k,rfl⟩:∃j,N=j+6:=⟨N - 6,by omega⟩
 refine⟨?_,smT hn hs0 hp2,smT hn hs1 hp3,smT hn hs2 hp4,smS hn hs3 hp0,smS hn hs4 hp1⟩
 rw[aQ,dt (by decide),cond_true,aDl,aa,aDd,aa,pdI hp0,aC]
 rw[ik30,df (by decide),cond_false,aa,aC,aC,aPR,aDa,aa,aIb,aa,aa,aa,smI hn hs3 hp0,aJP,k01]
 rw[aQ,dt (by decide),cond_true,aDl,aa,aDb,aa,pdI hp1,aC]
 rw[ik31,df (by decide),cond_false,aa,aC,aC,aLY,aDf,aa,aIm,aa,aa,aa,smI hn hs4 hp1,aJV,k12]
 rw[aQ,dt (by decide),cond_true,aDl,aa,aDc,aa,pdI hp2,aC]
 rw[ik32,dt (by decide),cond_true,aC,pdJ hp2,aa,aC,aC,aOG,aDi,aa,aJJ,aa,aa,aa,smJ hn hs0 hp2,aJv,k23]
 rw[aQ,dt (by decide),cond_true,aDl,aa,aDl,aa,pdI hp3,aC]
 rw[ik33,dt (by decide),cond_true,aC,pdJ hp3,aa,aC,aC,aSa,aDh,aa,aH4,aa,aa,aa,smJ hn hs1 hp3,aJN,k34]
 rw[aQ,dt (by decide),cond_true,aDl,aa,aDn,aa,pdI hp4,aC]
 rw[ik34,dt (by decide),cond_true,aC,pdJ hp4,aa,aC,aC,aUK,aDm,aa,aIJ,aa,aa,aa,smJ hn hs2 hp4,aJY,k45]
 rw[aQ,df (by decide),cond_false]
theorem row4(N:Nat)(hN:10 < N){n:Int}(hn:0<=n/\n<=5){a0 a1 a2 a3 a4 b0 b1 b2 b3 b4 s0 s1 s2 s3 s4:Int}(hp0:pd (a4*b0))(hp1:pd (a4*b1))(hp2:pd (a4*b2))(hp3:pd (a4*b3))(hp4:pd (a4*b4))(hs0:sm n s0)(hs1:sm n s1)(hs2:sm n s2)(hs3:sm n s3)(hs4:sm n s4):aQ N #v[a0,a1,a2,a3,a4] 4 #v[b0,b1,b2,b3,b4] N #v[s0,s1,s2,s3,s4] 0=some #v[s0+5*(a4*b1),s1+5*(a4*b2),s2+5*(a4*b3),s3+5*(a4*b4),s4+a4*b0]/\sm (n+1) (s0+5*(a4*b1))/\sm (n+1) (s1+5*(a4*b2))/\sm (n+1) (s2+5*(a4*b3))/\sm (n+1) (s3+5*(a4*b4))/\sm (n+1) (s4+a4*b0):=by
 obtain⟨k,rfl⟩:∃j,N=j+6:=⟨N - 6,by omega⟩
 refine⟨?_,smT hn hs0 hp1,smT hn hs1 hp2,smT hn hs2 hp3,smT hn hs3 hp4,smS hn hs4 hp0⟩
 rw[aQ,dt (by decide),cond_true,aDn,aa,aDd,aa,pdI hp0,aC]
 rw[ik40,df (by decide),cond_false,aa,aC,aC,aLY,aDf,aa,aIm,aa,aa,aa,smI hn hs4 hp0,aJV,k01]
 rw[aQ,dt (by decide),cond_true,aDn,aa,aDb,aa,pdI hp1,aC]
 rw[ik41,dt (by decide),cond_true,aC,pdJ hp1,aa,aC,aC,aOG,aDi,aa,aJJ,aa,aa,aa,smJ hn hs0 hp1,aJv,k12]
 rw[aQ,dt (by decide),cond_true,aDn,aa,aDc,aa,pdI hp2,aC]
 rw[ik42,dt (by decide),cond_true,aC,pdJ hp2,aa,aC,aC,aSa,aDh,aa,aH4,aa,aa,aa,smJ hn hs1 hp2,aJN,k23]
 rw[aQ,dt (by decide),cond_true,aDn,aa,aDl,aa,pdI hp3,aC]
 rw[ik43,dt (by decide),cond_true,aC,pdJ hp3,aa,aC,aC,aUK,aDm,aa,aIJ,aa,aa,aa,smJ hn hs2 hp3,aJY,k34]
 rw[aQ,dt (by decide),cond_true,aDn,aa,aDn,aa,pdI hp4,aC]
 rw[ik44,dt (by decide),cond_true,aC,pdJ hp4,aa,aC,aC,tm5_8,aDa,aa,aIb,aa,aa,aa,smJ hn hs3 hp4,aJP,k45]
 rw[aQ,df (by decide),cond_false]
theorem prodV(a0 a1 a2 a3 a4 b0 b1 b2 b3 b4:Int):oY (0+a0*b0+5*(a1*b4)+5*(a2*b3)+5*(a3*b2)+5*(a4*b1)) (0+a0*b1+a1*b0+5*(a2*b4)+5*(a3*b3)+5*(a4*b2)) (0+a0*b2+a1*b1+a2*b0+5*(a3*b4)+5*(a4*b3)) (0+a0*b3+a1*b2+a2*b1+a3*b0+5*(a4*b4)) (0+a0*b4+a1*b3+a2*b2+a3*b1+a4*b0)+PP*(1*(a1*b4)+1*(a2*b3)+67108864*(a2*b4)+1*(a3*b2)+67108864*(a3*b3)+4503599627370496*(a3*b4)+1*(a4*b1)+67108864*(a4*b2)+4503599627370496*(a4*b3)+302231454903657293676544*(a4*b4))=oY a0 a1 a2 a3 a4*oY b0 b1 b2 b3 b4:=by
 unfold oY;simp only[PP]
 grind
def d27(x:Int):Prop:=0<=x/\x < 134217728
theorem pdM{a b:Int}(ha:d27 a)(hb:d26 b):pd (a*b):=by
 unfold d27 d26 at *;have h1:=kc ha.1 hb.1;have h2:a*b<=134217727*67108863:=gr (by omega) (by omega) hb.1 (by decide)
 unfold pd;exact⟨h1,by omega⟩
theorem smN{x:Int}(h:sm 5 x):ng x:=by unfold sm ng at *;omega
theorem aWD(N:Nat)(hN:10 < N){a0 a1 a2 a3 a4 b0 b1 b2 b3 b4:Int}(ha0:d27 a0)(ha1:d27 a1)(ha2:d27 a2)(ha3:d27 a3)(ha4:d27 a4)(hb:Dok b0 b1 b2 b3 b4):∃c0 c1 c2 c3 c4 H,sS N #v[a0,a1,a2,a3,a4] #v[b0,b1,b2,b3,b4]=some #v[c0,c1,c2,c3,c4]/\Dok c0 c1 c2 c3 c4/\oY c0 c1 c2 c3 c4+PP*H=oY a0 a1 a2 a3 a4*oY b0 b1 b2 b3 b4:=by
 obtain⟨h0,h1,h2,h3,h4⟩:=hb;have z:sm 0 0:=⟨by decide,by decide⟩
 obtain⟨r0,q00,q01,q02,q03,q04⟩:=row0 N hN (n:=0) ⟨by decide,by decide⟩ (a0:=a0) (a1:=a1) (a2:=a2) (a3:=a3) (a4:=a4) (pdM ha0 h0) (pdM ha0 h1) (pdM ha0 h2) (pdM ha0 h3) (pdM ha0 h4) z z z z z;obtain⟨r1,q10,q11,q12,q13,q14⟩:=row1 N hN (n:=1) ⟨by decide,by decide⟩ (a0:=a0) (a1:=a1) (a2:=a2) (a3:=a3) (a4:=a4) (pdM ha1 h0) (pdM ha1 h1) (pdM ha1 h2) (pdM ha1 h3) (pdM ha1 h4) q00 q01 q02 q03 q04;obtain⟨r2,q20,q21,q22,q23,q24⟩:=row2 N hN (n:=2) ⟨by decide,by decide⟩ (a0:=a0) (a1:=a1) (a2:=a2) (a3:=a3) (a4:=a4) (pdM ha2 h0) (pdM ha2 h1) (pdM ha2 h2) (pdM ha2 h3) (pdM ha2 h4) q10 q11 q12 q13 q14;obtain⟨r3,q30,q31,q32,q33,q34⟩:=row3 N hN (n:=3) ⟨by decide,by decide⟩ (a0:=a0) (a1:=a1) (a2:=a2) (a3:=a3) (a4:=a4) (pdM ha3 h0) (pdM ha3 h1) (pdM ha3 h2) (pdM ha3 h3) (pdM ha3 h4) q20 q21 q22 q23 q24;obtain⟨r4,q40,q41,q42,q43,q44⟩:=row4 N hN (n:=4) ⟨by decide,by decide⟩ (a0:=a0) (a1:=a1) (a2:=a2) (a3:=a3) (a4:=a4) (pdM ha4 h0) (pdM ha4 h1) (pdM ha4 h2) (pdM ha4 h3) (pdM ha4 h4) q30 q31 q32 q33 q34;obtain⟨c0,c1,c2,c3,c4,H,e,hd,hv⟩:=aMR N hN (smN q40) (smN q41) (smN q42) (smN q43) (smN q44)
 refine⟨c0,c1,c2,c3,c4,H+(1*(a1*b4)+1*(a2*b3)+67108864*(a2*b4)+1*(a3*b2)+67108864*(a3*b3)+4503599627370496*(a3*b4)+1*(a4*b1)+67108864*(a4*b2)+4503599627370496*(a4*b3)+302231454903657293676544*(a4*b4)),?_,hd,?_⟩
 ·obtain⟨k,hk⟩:∃j,N=j+6:=⟨N - 6,by omega⟩
  have zz:(ai 5 (0:Int))=#v[0,0,0,0,0]:=rfl;have l1:cS N #v[a0,a1,a2,a3,a4] #v[b0,b1,b2,b3,b4] (k+6) (ai 5 0) 0=some #v[0+a0*b0+5*(a1*b4)+5*(a2*b3)+5*(a3*b2)+5*(a4*b1),0+a0*b1+a1*b0+5*(a2*b4)+5*(a3*b3)+5*(a4*b2),0+a0*b2+a1*b1+a2*b0+5*(a3*b4)+5*(a4*b3),0+a0*b3+a1*b2+a2*b1+a3*b0+5*(a4*b4),0+a0*b4+a1*b3+a2*b2+a3*b1+a4*b0]:=by
   rw[zz,cS,dt (by decide),cond_true,r0,aa,k01,cS,dt (by decide),cond_true,r1,aa,k12,cS,dt (by decide),cond_true,r2,aa,k23,cS,dt (by decide),cond_true,r3,aa,k34,cS,dt (by decide),cond_true,r4,aa,k45,cS,df (by decide),cond_false]
  rw[<- hk] at l1;unfold sS;rw[l1,aa,e,aa]
 ·rw[<- prodV,<- hv,Int.mul_add]
  omega
theorem bitV : ∀(l:List Int),aN l->∀i:Nat,i < 8*l.length->leV l / ((2 ^ i:Nat):Int) % 2=(l.getD (i / 8) 0) / ((2 ^ (i % 8):Nat):Int) % 2
 | [],_,i,h=>by simp at h
 | x :: t,hb,i,h=>by
  have hx:=hb x (j4)
  unfold isB at hx;rw[leV]
  by_cases c:i < 8
  ·have e1:i / 8=0:=by omega
   have e2:i % 8=i:=by omega
   rw[e1,e2]
   show _=x / _ % 2;have cc:i=0\/i=1\/i=2\/i=3\/i=4\/i=5\/i=6\/i=7:=by omega
   generalize leV t=T;rcases cc with rfl | rfl | rfl | rfl | rfl | rfl | rfl | rfl <;> simp only[fy] <;> omega
  ·obtain⟨k,rfl⟩:∃k,i=k+8:=⟨i - 8,by omega⟩
   have ih:=bitV t (λy hy=>hb y (jh _ hy)) k (by rw[cx] at h;omega)
   have e1:(k+8) / 8=k / 8+1:=by omega
   have e2:(k+8) % 8=k % 8:=by omega
   have e3:((2 ^ (k+8):Nat):Int)=256*((2 ^ k:Nat):Int):=by rw[ib,fp,kf];rfl
   rw[e1,e2,e3,List.getD_cons_succ,<- ih,<- jb (by decide)]
   congr 2;omega
def dg(X i j:Nat):Nat:=X % 2 ^ i / 2 ^ (26*j) % 67108864
theorem dg0(X i j q:Nat)(hq:q=i / 26)(hb:X / 2 ^ i % 2=1):dg X (i+1) j=if j=q then dg X i j+2 ^ (i % 26) else dg X i j:=by
 have hm:X % 2 ^ (i+1)=X % 2 ^ i+2 ^ i:=by rw[fc,jm,hb,Nat.mul_one]
 have hlt:X % 2 ^ i < 2 ^ i:=ic _ (fv i)
 unfold dg;rw[hm]
 generalize X % 2 ^ i=M at *;have er:i=26*q+i % 26:=by omega
 have hr:i % 26 < 26:=ic _ (by decide)
 generalize i % 26=r at *;have ep:2 ^ i=2 ^ (26*q)*2 ^ r:=by rw[er,ib]
 have hr2:2 ^ r*2<=67108864:=by
  have:2 ^ (r+1)<=2 ^ 26:=gc (by decide) (by omega)
  rw[fc] at this;exact this
 by_cases c:j=q
 ·subst c;rw[if_pos rfl,ep,gd _ _ (fv _)]
  have hd:M / 2 ^ (26*j) < 2 ^ r:=by
   rw[my (fv _),Nat.mul_comm,<- ep];exact hlt
  rw[kp (by omega),kp (by omega)]
 ·rw[if_neg c]
  by_cases c2:j < q
  ·have e2:2 ^ i=2 ^ (26*j)*(67108864*2 ^ (26*(q - j - 1)+r)):=by
    have:i=26*j+(26+(26*(q - j - 1)+r)):=by omega
    rw[this,ib,ib 2 26]
   rw[e2,gd _ _ (fv _),lj]
  ·have e3:2 ^ i*2<=2 ^ (26*j):=by
    rw[<- fc]
    exact gc (by decide) (by omega)
   rw[oo (by omega),oo (by omega)]
theorem dg1(X i j:Nat)(hb:X / 2 ^ i % 2=0):dg X (i+1) j=dg X i j:=by
 unfold dg;rw[fc,jm,hb,mw,Nat.add_zero]
theorem aVC(X i j:Nat):dg X i j < 67108864:=ic _ (by decide)
theorem band1{x:Int}(h:isB x):cI .u8 x 1=x % 2:=by
 have key:∀y:Fin 256,cI .u8 (y.val:Int) 1=(y.val:Int) % 2:=by decide +kernel
 unfold isB at h;have:=key ⟨x.toNat,by omega⟩
 rwa[fh h.1] at this
def DgI(X i:Nat)(s:Vector Int 5):Prop:=∀j,j < 5->s.toList[j]? = some ((dg X (min i 130) j:Nat):Int)
theorem aTv(N:Nat)(hN:200 < N){b:Vector Int 17}(hb:aN b.toList){X:Nat}(hX:leV b.toList=(X:Int)):T (mQ N b) (DgI X 136):=by
 unfold mQ;have bl:b.toList.length=17:=by simp
 refine T.bind (T.loop0 (n:=136) (by decide) (λi s=>DgI X i s) (F:=iZ N b) (λk s i hi hs Q hk=>?_) (λk s=>by rw[iZ,df,cond_false]) (by omega) (λj hj=>?_)) λp1 h1=>T.ret h1
 ·have t8:eg (i:Int) 8=((i / 8:Nat):Int):=by rw[ed (by omega)];omega
  have m8:cp (i:Int) 8=((i % 8:Nat):Int):=by rw[dw (by omega)];omega
  have t26:eg (i:Int) 26=((i / 26:Nat):Int):=by rw[ed (by omega)];omega
  have m26:cp (i:Int) 26=((i % 26:Nat):Int):=by rw[dw (by omega)];omega
  have i8:I64 (((i / 8:Nat):Int))=((i / 8:Nat):Int):=aP;have i26:I64 (((i / 26:Nat):Int))=((i / 26:Nat):Int):=aP;rw[iZ,dt,cond_true,t8,m8,t26,m26,i8,i26,cF]
  have ge:b.toList[i / 8]? = some (b.toList.getD (i / 8) 0):=by rw[ap,af (by omega)];rfl
  have be:isB (b.toList.getD (i / 8) 0):=hb _ (gw ge)
  have bit:=bitV b.toList hb i (by omega)
  rw[hX] at bit;rw[kX,ge,aa,jB .u8,aa,zC .u8 _ _ (i % 8) rfl (by show i % 8<=8;omega)]
  have pe:(2:Int) ^ (i % 8)=((2 ^ (i % 8):Nat):Int):=by rw[gu];rfl
  rw[pe]
  have pp:0 < ((2 ^ (i % 8):Nat):Int):=Int.natCast_pos.2 (fv _)
  have b2:isB (b.toList.getD (i / 8) 0 / ((2 ^ (i % 8):Nat):Int)):=by
   unfold isB at *;exact⟨Int.ediv_nonneg be.1 (by omega),Int.lt_of_le_of_lt (Int.ediv_le_self _ be.1) be.2⟩
  rw[band1 b2,<- bit]
  have bn:((X:Int) / ((2 ^ i:Nat):Int) % 2)=((X / 2 ^ i % 2:Nat):Int):=by omega
  rw[bn,aC]
  have same:(∀j,dg X (min (i+1) 130) j=dg X (min i 130) j)->DgI X (i+1) s:=λh j hj=>by rw[hs j hj,h]
  by_cases c1:X / 2 ^ i % 2=1
  ·rw[c1,show(((1:Nat):Int)==1)=true from rfl,cond_true]
   by_cases c2:i < 130
   ·rw[dt,cond_true,bQ,aa]
    have q5:i / 26 < 5:=by omega
    have g:=hs (i / 26) q5;have mi:min i 130=i:=by omega
    have mi1:min (i+1) 130=i+1:=by omega
    have tq:((i / 26:Nat):Int).toNat=i / 26:=rfl;obtain⟨w,hw,lw⟩:∃w:Nat,w=2 ^ (i % 26)/\w<=33554432:=⟨_,rfl,Nat.le_trans (gc (by decide) (show i % 26<=25 by omega)) (by decide)⟩
    have sh:shl .i64 1 ((i % 26:Nat):Int)=(w:Int):=by
     rw[aPo 1 (i % 26),pr]
     have:(2:Int) ^ (i % 26)=((2 ^ (i % 26):Nat):Int):=by rw[gu];rfl
     rw[this,<- hw]
     exact aP
    have dl:=aVC X i (i / 26)
    have dgw:=λj=>dg0 X i j (i / 26) rfl c1;rw[<- hw] at dgw;rw[tq,g,aa,tU .i64,aa,aa,aa,aa,sh,mi]
    have hI:I64 (((dg X i (i / 26):Nat):Int)+(w:Int))=((dg X i (i / 26):Nat):Int)+(w:Int):=by
     generalize dg X i (i / 26)=D at *;exact aP
    rw[hI]
    refine hk _ λj hj=>?_;rw[mi1,bu,cz,dgw]
    by_cases e:i / 26=j
    ·subst e;rw[if_pos rfl,if_pos (by simp;omega),if_pos rfl,Int.natCast_add]
    ·rw[if_neg e,if_neg (λh=>e h.symm),hs j hj,mi]
   ·rw[df,cond_false,aa]
    refine hk _ (same λj=>?_)
    rw[show min (i+1) 130=130 by omega,show min i 130=130 by omega]
  ·have c0:X / 2 ^ i % 2=0:=by omega
   rw[c0,show(((0:Nat):Int)==1)=false from rfl,cond_false,cond_false,aa]
   refine hk _ (same λj=>?_)
   by_cases c2:i < 130
   ·rw[show min (i+1) 130=i+1 by omega,show min i 130=i by omega,dg1 X i j c0]
   ·rw[show min (i+1) 130=130 by omega,show min i 130=130 by omega]
 ·have z:(ai 5 (0:Int)).toList=ak 5 0:=rfl;rw[z,de,if_pos hj]
  unfold dg;rw[show min 0 130=0 from rfl,ki,lg,Nat.zero_div,Nat.zero_mod]
  rfl
theorem T.loopG{σ ρ:Type}{n:Nat}(I:Nat->σ->Prop)(Q:ρ->Prop){F:Nat->σ->Int->Option ρ}
  (hstep:∀k s i,i < n->I i s->(∀s',I (i+1) s'->T (F k s' ((i+1:Nat):Int)) Q)->T (F (k+1) s (i:Int)) Q) (hend:∀k s,I n s->T (F (k+1) s (n:Int)) Q) :
  ∀(k i:Nat) (s:σ),I i s->i<=n->n - i < k->T (F k s (i:Int)) Q
 | 0,i,_,_,_,h=>by omega
 | k+1,i,s,hs,hi,hk=>by
  by_cases h:i < n
  ·exact hstep k s i h hs λs' h'=>T.loopG I Q hstep hend k (i+1) s' h' (by omega) (by omega)
  ·obtain rfl:i=n:=by omega
   exact hend _ _ hs
theorem T.loopG0{σ ρ:Type}{n:Nat}(I:Nat->σ->Prop)(Q:ρ->Prop){F:Nat->σ->Int->Option ρ}
  (hstep:∀k s i,i < n->I i s->(∀s',I (i+1) s'->T (F k s' ((i+1:Nat):Int)) Q)->T (F (k+1) s (i:Int)) Q) (hend:∀k s,I n s->T (F (k+1) s (n:Int)) Q) {N:Nat} (hN:n < N) {s:σ} (hs:I 0 s:=by simp):T (F N s 0) Q:=
 T.loopG I Q hstep hend N 0 s hs (by omega) (by omega)
theorem vec5(v:Vector Int 5){a b c d e:Int}(h0:v.toList[0]? = some a)(h1:v.toList[1]? = some b)(h2:v.toList[2]? = some c)(h3:v.toList[3]? = some d)(h4:v.toList[4]? = some e):v=#v[a,b,c,d,e]:=by
 apply ez.1;apply du;intro j;have cc:j=0\/j=1\/j=2\/j=3\/j=4\/5<=j:=by omega
 rcases cc with rfl | rfl | rfl | rfl | rfl | h
 ·rw[h0];rfl
 ·rw[h1];rfl
 ·rw[h2];rfl
 ·rw[h3];rfl
 ·rw[h4];rfl
 ·rw[ar (by simp;omega),ar (by simp;omega)]
theorem aPC(N:Nat)(hN:200 < N){b:Vector Int 17}(hb:aN b.toList)(hl:leV b.toList < aEX):∃d0 d1 d2 d3 d4,mQ N b=some #v[d0,d1,d2,d3,d4]/\Dok d0 d1 d2 d3 d4/\oY d0 d1 d2 d3 d4=leV b.toList:=by
 have l0:=(aIE _ hb).1;obtain⟨X,hX⟩:=br l0;obtain⟨r,e,h⟩:=aTv N hN hb hX;have g:=λj (hj:j < 5)=>h j hj;have hv:=vec5 r (g 0 (by decide)) (g 1 (by decide)) (g 2 (by decide)) (g 3 (by decide)) (g 4 (by decide))
 rw[hv] at e;have lt:=λj=>aVC X (min 136 130) j;refine⟨_,_,_,_,_,e,⟨⟨by omega,by have:=lt 0;omega⟩,⟨by omega,by have:=lt 1;omega⟩,⟨by omega,by have:=lt 2;omega⟩,⟨by omega,by have:=lt 3;omega⟩,⟨by omega,by have:=lt 4;omega⟩⟩,?_⟩
 rw[hX]
 rw[hX] at hl;simp only[aEX] at hl;unfold oY dg;have m:X % 2 ^ min 136 130=X:=kp (by show X < 1361129467683753853853498429727072845824;omega)
 rw[m]
 simp only[ip,fy,mw,ki,Nat.div_one]
 omega
theorem addL4(N:Nat)(hN:10 < N){a b c d e a' b' c' d' e':Int}(h:Dok a b c d e)(h':Dok a' b' c' d' e'):dL N #v[a',b',c',d',e'] N #v[a,b,c,d,e] 0=some #v[a+a',b+b',c+c',d+d',e+e']/\(d27 (a+a')/\d27 (b+b')/\d27 (c+c')/\d27 (d+d')/\d27 (e+e'))/\oY (a+a') (b+b') (c+c') (d+d') (e+e')=oY a b c d e+oY a' b' c' d' e':=by
 obtain⟨h1,h2,h3,h4,h5⟩:=h;obtain⟨g1,g2,g3,g4,g5⟩:=h';have sI:∀{x y:Int},d26 x->d26 y->I64 (x+y)=x+y/\d27 (x+y):=by
  intro x y hx hy;unfold d26 at hx hy;unfold d27;exact⟨aP,by omega,by omega⟩
 refine⟨?_,⟨(sI h1 g1).2,(sI h2 g2).2,(sI h3 g3).2,(sI h4 g4).2,(sI h5 g5).2⟩,?_⟩
 ·obtain⟨k,rfl⟩:∃j,N=j+6:=⟨N - 6,by omega⟩
  rw[dL,dt (by decide),cond_true,aDi,aa,aJJ,aa,aa,aJJ,aa,aa,aa,(sI h1 g1).1,aJv,k01]
  rw[dL,dt (by decide),cond_true,aDh,aa,aH4,aa,aa,aH4,aa,aa,aa,(sI h2 g2).1,aJN,k12]
  rw[dL,dt (by decide),cond_true,aDm,aa,aIJ,aa,aa,aIJ,aa,aa,aa,(sI h3 g3).1,aJY,k23]
  rw[dL,dt (by decide),cond_true,aDa,aa,aIb,aa,aa,aIb,aa,aa,aa,(sI h4 g4).1,aJP,k34]
  rw[dL,dt (by decide),cond_true,aDf,aa,aIm,aa,aa,aIm,aa,aa,aa,(sI h5 g5).1,aJV,k45]
  rw[dL,df (by decide),cond_false]
 ·unfold oY;omega
theorem refL2(N:Nat)(hN:30 < N){l:List Int}(hl:l.length<=65536){n:Nat}(hn:16*n+16<=l.length):T (fN N ((16*n:Nat):Int) l N (ai 17 0) 0) (λr=>r.2=16/\r.1.toList=(l.drop (16*n)).take 16++[0]):=by
 refine T.loopG0 (n:=16) (λi (v:Vector Int 17)=>∀j,j < 17->v.toList[j]? = some (if j < i then l.getD (16*n+j) 0 else 0)) _ (F:=λk (v:Vector Int 17) i=>fN N ((16*n:Nat):Int) l k v i) (λk v i hi hv hk=>?_) (λk v hv=>?_) (by omega) (s:=ai 17 0) (λj hj=>?_)
 ·have e:I64 (((16*n:Nat):Int)+(i:Int))=((16*n+i:Nat):Int):=by rw[aP];omega
  have g:l[16*n+i]? = some (l.getD (16*n+i) 0):=by rw[ap,af (by omega)];rfl
  rw[fN,e,aC,dt (show(i:Int) < 16 by omega),cond_true,aC,dt,cond_true,kX,g,aa,bQ,aa,cF]
  have ti:((i:Nat):Int).toNat=i:=rfl;rw[ti,hv i (by omega),aa]
  refine hk _ λj hj=>?_;rw[bu,cz]
  by_cases c:i=j
  ·subst c;rw[if_pos rfl,if_pos (by simp;omega),if_pos (by omega)]
  ·rw[if_neg c,hv j hj]
   by_cases c2:j < i
   ·rw[if_pos c2,if_pos (by omega)]
   ·rw[if_neg c2,if_neg (by omega)]
 ·rw[fN,aC,df (show ¬(((16:Nat):Int) < 16) by omega),cond_false,aC,cond_false]
  refine T.ret ⟨rfl,?_⟩
  apply du;intro j;have tl:((l.drop (16*n)).take 16).length=16:=by rw[ca,bw];omega
  by_cases c:j < 17
  ·rw[hv j c]
   by_cases c2:j < 16
   ·rw[if_pos c2,cj (by omega),dx,if_pos c2,eo,ap,af (by omega)]
    rfl
   ·rw[if_neg c2,ck (by omega),tl,show j - 16=0 by omega]
    rfl
  ·rw[ar (by simp;omega),ar (by rw[ah,tl,cn];omega)]
 ·have z:(ai 17 (0:Int)).toList=ak 17 0:=rfl;rw[z,de,if_pos hj,if_neg (by omega)]
def Blk(l:List Int)(bs:List (Vector Int 17))(m:Nat):Prop:=bs.length=m/\∀i,i < m->∃v,bs[i]? = some v/\v.toList=(l.drop (16*i)).take 16++[1]
theorem refL1(N:Nat)(hN:30 < N){l:List Int}(hl:l.length<=65536){m:Nat}(hm:l.length=16*m):∀(d k n:Nat) (acc:List (Vector Int 17)),n+d=m->d < k->Blk l acc n->∃bs,jD N l k acc ((16*n:Nat):Int)=some bs/\Blk l bs m:=by
 intro d
 induction d with
 | zero=>
  intro k n acc hn hk h;obtain⟨k,rfl⟩:∃j,k=j+1:=⟨k - 1,by omega⟩
  obtain rfl:n=m:=by omega
  exact⟨acc,by rw[jD,aC,df,cond_false],h⟩
 | succ d ih=>
  intro k n acc hn hk h;obtain⟨k,rfl⟩:∃j,k=j+1:=⟨k - 1,by omega⟩
  obtain⟨⟨v,w⟩,e,h16,hv⟩:=refL2 N hN hl (n:=n) (by omega)
  dsimp only at h16 hv;subst h16;have ge:v.toList[16]? = some 0:=by
   rw[hv,ck (by rw[ca,bw];omega),ca,bw,show 16 - min 16 (l.length - 16*n)=0 by omega]
   rfl
  have hs:(v.setIfInBounds 16 1).toList=(l.drop (16*n)).take 16++[1]:=by
   rw[bu,hv,io _ _ (by rw[ca];omega)]
   rw[ca,bw,show 16 - min 16 (l.length - 16*n)=0 by omega]
   rfl
  obtain⟨hl2,hb⟩:=h;have nb:Blk l (acc++[v.setIfInBounds 16 1]) (n+1):=by
   refine⟨by rw[ah,hl2];rfl,λi hi=>?_⟩
   by_cases c:i < n
   ·obtain⟨u,h1,h2⟩:=hb i c;exact⟨u,by rw[cj (by omega)];exact h1,h2⟩
   ·obtain rfl:i=n:=by omega
    exact⟨_,by rw[ck (by omega),hl2,Nat.sub_self];rfl,hs⟩
  obtain⟨bs,e2,h2⟩:=ih k (n+1) _ (by omega) (by omega) nb;refine⟨bs,?_,h2⟩
  have i16:I64 (((16*n:Nat):Int)+16)=((16*(n+1):Nat):Int):=by rw[aP];omega
  have t16:(16:Int).toNat=16:=rfl;rw[jD,aC,dt,cond_true,e,aa]
  dsimp only;rw[show aS 16 17=some () from rfl,aa,t16,ge,aa,cK (by rw[hl2,cn];omega),aa,i16,e2]
theorem aQE(N:Nat)(hN:70000 < N){l:List Int}(hl:l.length<=65536){m:Nat}(hm:l.length=16*m):∃bs,rL N l=some bs/\Blk l bs m:=by
 obtain⟨bs,e,h⟩:=refL1 N (by omega) hl hm m N 0 [] (by omega) (by omega) ⟨rfl,λi hi=>absurd hi (by omega)⟩
 refine⟨bs,?_,h⟩
 unfold rL xR;rw[aC,df,cond_false,aa]
 have z:((16*0:Nat):Int)=0:=rfl;rw[z] at e;rw[e,aa]
theorem aR8{V V' c H1 H2 R b p:Int}(h1:c+PP*H1=b+V)(h2:V'+PP*H2=c*R)(hp:V % PP=p):V' % PP=((p+b)*R) % PP:=by
 refine aPH (H:=H2+H1*R) ?_ hp;have:c=b+V - PP*H1:=by omega
 subst this;generalize PP=q at *
 grind
theorem refL3(N:Nat)(hN:70000 < N){l:List Int}(hb:aN l)(hl:l.length<=65536){m:Nat}(hm:l.length=16*m){bs:List (Vector Int 17)}(hbs:Blk l bs m){r0 r1 r2 r3 r4:Int}(hr:Dok r0 r1 r2 r3 r4) :
  ∀(d k n:Nat) (a b c e f:Int),n+d=m->d < k->Dok a b c e f->oY a b c e f % PP=aJ0 (oY r0 r1 r2 r3 r4) l n ->
  ∃a' b' c' e' f',Dok a' b' c' e' f'/\oY a' b' c' e' f' % PP=aJ0 (oY r0 r1 r2 r3 r4) l m/\mY N bs #v[r0,r1,r2,r3,r4] k #v[a,b,c,e,f] (n:Int)=some #v[a',b',c',e',f']:=by
 obtain⟨bl,bg⟩:=hbs;intro d
 induction d with
 | zero=>
  intro k n a b c e f hn hk h hv;obtain⟨k,rfl⟩:∃j,k=j+1:=⟨k - 1,by omega⟩
  obtain rfl:n=m:=by omega
  refine⟨a,b,c,e,f,h,hv,?_⟩
  rw[mY,aC,df,cond_false]
 | succ d ih=>
  intro k n a b c e f hn hk h hv;obtain⟨k,rfl⟩:∃j,k=j+1:=⟨k - 1,by omega⟩
  obtain⟨v,gv,tv⟩:=bg n (by omega)
  have tl:((l.drop (16*n)).take 16).length=16:=by rw[ca,bw];omega
  have tb:aN ((l.drop (16*n)).take 16):=λx hx=>hb x (dn (cu hx))
  have vb:aN v.toList:=by
   rw[tv]
   intro x hx;rcases dz.1 hx with h' | h'
   ·exact tb x h'
   ·rw[jp.1 h'];exact⟨by decide,by decide⟩
  have lv:leV v.toList=leV ((l.drop (16*n)).take 16)+W2:=by
   rw[tv,aFU,tl,pr];rfl
  have lb:=aIE _ tb;rw[tl] at lb;have lt:leV v.toList < aEX:=by
   rw[lv]
   have:((256 ^ 16:Nat):Int)=340282366920938463463374607431768211456:=by decide
   rw[this] at lb;simp only[aEX,W2]
   omega
  obtain⟨d0,d1,d2,d3,d4,E1,D1,V1⟩:=aPC N (by omega) vb lt;obtain⟨E2,⟨g0,g1,g2,g3,g4⟩,V2⟩:=addL4 N (by omega) D1 h;have n27:∀{x:Int},d27 x->ng x:=by intro x hx;unfold d27 at hx;unfold ng;omega
  obtain⟨c0,c1,c2,c3,c4,H1,E3,D3,V3⟩:=aMR N (by omega) (n27 g0) (n27 g1) (n27 g2) (n27 g3) (n27 g4)
  have n26:∀{x:Int},d26 x->d27 x:=by intro x hx;unfold d26 at hx;unfold d27;omega
  obtain⟨x0,x1,x2,x3,x4,H2,E4,D4,V4⟩:=aWD N (by omega) (n26 D3.a) (n26 D3.b) (n26 D3.c) (n26 D3.d) (n26 D3.e) hr;rw[V2,V1,lv] at V3;obtain⟨a',b',c',e',f',q1,q2,q3⟩:=ih k (n+1) x0 x1 x2 x3 x4 (by omega) (by omega) D4 (aR8 V3 V4 hv)
  refine⟨a',b',c',e',f',q1,q2,?_⟩
  rw[mY,aC,dt,cond_true,kX,gv,aa,E1,aa,E2,aa,E3,aa,E4,aa,cF]
  exact q3
theorem aJK(N:Nat)(hN:10 < N){a b c d e:Int}(h:Dok a b c d e)(k i:Nat)(hi:i < 2:=by decide):∃a' b' c' d' e',Dok a' b' c' d' e'/\oY a' b' c' d' e'=(if oY a b c d e>=PP then oY a b c d e - PP else oY a b c d e)/\dI N (k+1) #v[a,b,c,d,e] (i:Int)=dI N k #v[a',b',c',d',e'] ((i+1:Nat):Int):=by
 have h0:=h;obtain⟨h1,h2,h3,h4,h5⟩:=h;unfold d26 at h1 h2 h3 h4 h5;obtain⟨j,hj⟩:∃j,N=j+6:=⟨N - 6,by omega⟩
 have L2:dG N N #v[a+5,b,c,d,e] 0=some #v[(a+5) % 67108864,(b+(a+5) / 67108864) % 67108864,(c+(b+(a+5) / 67108864) / 67108864) % 67108864,(d+(c+(b+(a+5) / 67108864) / 67108864) / 67108864) % 67108864,e+(d+(c+(b+(a+5) / 67108864) / 67108864) / 67108864) / 67108864]:=by
  subst hj;obtain⟨f1,g1⟩:=aEh (x:=a+5)
  have hI1:I64 (b+(a+5) / 67108864)=b+(a+5) / 67108864:=aP;obtain⟨f2,g2⟩:=aEh (x:=b+(a+5) / 67108864)
  have hI2:I64 (c+(b+(a+5) / 67108864) / 67108864)=c+(b+(a+5) / 67108864) / 67108864:=aP;obtain⟨f3,g3⟩:=aEh (x:=c+(b+(a+5) / 67108864) / 67108864)
  have hI3:I64 (d+(c+(b+(a+5) / 67108864) / 67108864) / 67108864)=d+(c+(b+(a+5) / 67108864) / 67108864) / 67108864:=aP;obtain⟨f4,g4⟩:=aEh (x:=d+(c+(b+(a+5) / 67108864) / 67108864) / 67108864)
  have hI4:I64 (e+(d+(c+(b+(a+5) / 67108864) / 67108864) / 67108864) / 67108864)=e+(d+(c+(b+(a+5) / 67108864) / 67108864) / 67108864) / 67108864:=aP;rw[dG,dt (by decide),cond_true,aDi,aa,aJJ,aa,aa,aa,g1,aC,aa,aa,f1,aJv,k01,aDh,aa,aH4,aa,aC,aa,aa,hI1,aJN]
  rw[dG,dt (by decide),cond_true,aDh,aa,aH4,aa,aa,aa,g2,aC,aa,aa,f2,aJN,k12,aDm,aa,aIJ,aa,aC,aa,aa,hI2,aJY]
  rw[dG,dt (by decide),cond_true,aDm,aa,aIJ,aa,aa,aa,g3,aC,aa,aa,f3,aJY,k23,aDa,aa,aIb,aa,aC,aa,aa,hI3,aJP]
  rw[dG,dt (by decide),cond_true,aDa,aa,aIb,aa,aa,aa,g4,aC,aa,aa,f4,aJP,k34,aDf,aa,aIm,aa,aC,aa,aa,hI4,aJV]
  rw[dG,df (by decide),cond_false]
 have a5:I64 (a+5)=a+5:=aP;rw[dI,dt,cond_true,aDi,aa,aJJ,aa,aa,aa,a5,aJv,L2,aa,aDf,aa,aIm,aa,aC,cF]
 have vv:oY ((a+5) % 67108864) ((b+(a+5) / 67108864) % 67108864) ((c+(b+(a+5) / 67108864) / 67108864) % 67108864) ((d+(c+(b+(a+5) / 67108864) / 67108864) / 67108864) % 67108864) (e+(d+(c+(b+(a+5) / 67108864) / 67108864) / 67108864) / 67108864)=oY a b c d e+5:=by
  unfold oY;omega
 have m0:0<=(a+5) % 67108864/\(a+5) % 67108864 < 67108864:=by omega
 have m1:0<=(b+(a+5) / 67108864) % 67108864/\(b+(a+5) / 67108864) % 67108864 < 67108864:=by omega
 have m2:0<=(c+(b+(a+5) / 67108864) / 67108864) % 67108864/\(c+(b+(a+5) / 67108864) / 67108864) % 67108864 < 67108864:=by omega
 have m3:0<=(d+(c+(b+(a+5) / 67108864) / 67108864) / 67108864) % 67108864/\(d+(c+(b+(a+5) / 67108864) / 67108864) / 67108864) % 67108864 < 67108864:=by omega
 have m4:0<=e+(d+(c+(b+(a+5) / 67108864) / 67108864) / 67108864) / 67108864/\e+(d+(c+(b+(a+5) / 67108864) / 67108864) / 67108864) / 67108864<=67108864:=by omega
 clear L2;generalize (a+5) % 67108864=A at *;generalize (b+(a+5) / 67108864) % 67108864=B at *;generalize (c+(b+(a+5) / 67108864) / 67108864) % 67108864=C at *;generalize (d+(c+(b+(a+5) / 67108864) / 67108864) / 67108864) % 67108864=D at *;generalize e+(d+(c+(b+(a+5) / 67108864) / 67108864) / 67108864) / 67108864=E at *;by_cases g:E>=67108864
 ·have e5:I64 (E - 67108864)=E - 67108864:=aP;rw[dt g,cond_true,aa,aa,aa,aa,aa,e5,aJV]
  refine⟨A,B,C,D,E - 67108864,⟨m0,m1,m2,m3,by omega,by omega⟩,?_,rfl⟩
  unfold oY at *;simp only[PP]
  rw[if_pos (by omega)]
  omega
 ·rw[df g,cond_false,aa]
  refine⟨a,b,c,d,e,h0,?_,rfl⟩
  unfold oY at *;simp only[PP]
  rw[if_neg (by omega)]
theorem aVR(N:Nat)(hN:10 < N){a b c d e:Int}(h:Dok a b c d e):∃a' b' c' d' e',sL N #v[a,b,c,d,e]=some #v[a',b',c',d',e']/\Dok a' b' c' d' e'/\oY a' b' c' d' e'=oY a b c d e % PP:=by
 obtain⟨k,hk⟩:∃k,N=k+3:=⟨N - 3,by omega⟩
 obtain⟨a1,b1,c1,d1,e1,h1,v1,q1⟩:=aJK N hN h (k+2) 0;obtain⟨a2,b2,c2,d2,e2,h2,v2,q2⟩:=aJK N hN h1 (k+1) 1;refine⟨a2,b2,c2,d2,e2,?_,h2,?_⟩
 ·unfold sL;rw[show dI N N #v[a,b,c,d,e] 0=dI N (k+2+1) #v[a,b,c,d,e] ((0:Nat):Int) by rw[hk];rfl,q1,q2,dI,df (by decide),cond_false]
  rfl
 ·have lt:=h.lt;rw[v2,v1]
  generalize oY a b c d e=V at *;simp only[PP,aEX] at *;split <;> (try split) <;> omega
theorem aWf{a:Int}(h:0<=a/\a < 4611686018427387904):cI .i64 a 1=a % 2:=by
 obtain⟨A,rfl⟩:=br h.1;have h3:cI .i64 (A:Int) 1=I64 ((au 64 (A:Int) &&& au 64 ((1:Nat):Int)).toNat:Int):=rfl;have e:(au 64 (A:Int) &&& au 64 ((1:Nat):Int)).toNat=A % 2:=by
  rw[BitVec.toNat_and,show(au 64 (A:Int)).toNat=A from aC4 A,show(au 64 ((1:Nat):Int)).toNat=1 from aC4 1 (by decide)]
  exact Nat.and_one_is_mod A
 rw[h3,e,aP]
 omega
theorem aVp(x T r:Nat)(hr:r < 26):(x+67108864*T) / 2 ^ r % 2=x / 2 ^ r % 2:=by
 have e:67108864=2 ^ r*(2*2 ^ (25 - r)):=by
  rw[<- Nat.pow_succ',<- ib,show r+(25 - r).succ=26 by omega]
 rw[e,ky,gd _ _ (fv r),ky,lj]
def dv(v:Vector Int 5)(j:Nat):Int:=v.toList.getD j 0
theorem bit5{a b c d e:Int}(h:Dok a b c d e){V:Nat}(hV:oY a b c d e=(V:Int)){t:Nat}(ht:t < 130):∃x:Nat,dv #v[a,b,c,d,e] (t / 26)=(x:Int)/\x < 67108864/\x / 2 ^ (t % 26) % 2=V / 2 ^ t % 2:=by
 obtain⟨h0,h1,h2,h3,h4⟩:=h;unfold d26 at *;obtain⟨a,rfl⟩:=br h0.1;obtain⟨b,rfl⟩:=br h1.1;obtain⟨c,rfl⟩:=br h2.1;obtain⟨d,rfl⟩:=br h3.1;obtain⟨e,rfl⟩:=br h4.1;unfold oY at hV;have hr:t % 26 < 26:=ic _ (by decide)
 have et:t=26*(t / 26)+t % 26:=by omega
 have key:∀(q x T:Nat),t / 26=q->V / 2 ^ (26*q)=x+67108864*T->x / 2 ^ (t % 26) % 2=V / 2 ^ t % 2:=by
  intro q x T hq hx;have:V / 2 ^ t=(x+67108864*T) / 2 ^ (t % 26):=by
   rw[<- hx,jd,<- ib,<- hq,<- et]
  rw[this,aVp x T _ hr]
 have cc:t / 26=0\/t / 26=1\/t / 26=2\/t / 26=3\/t / 26=4:=by omega
 rcases cc with q | q | q | q | q
 ·refine⟨a,by rw[q];rfl,by omega,key 0 a (b+67108864*c+4503599627370496*d+302231454903657293676544*e) q ?_⟩
  simp only[ip,fy];omega
 ·refine⟨b,by rw[q];rfl,by omega,key 1 b (c+67108864*d+4503599627370496*e) q ?_⟩
  simp only[ip,fy];omega
 ·refine⟨c,by rw[q];rfl,by omega,key 2 c (d+67108864*e) q ?_⟩
  simp only[ip,fy];omega
 ·refine⟨d,by rw[q];rfl,by omega,key 3 d e q ?_⟩
  simp only[ip,fy];omega
 ·refine⟨e,by rw[q];rfl,by omega,key 4 e 0 q ?_⟩
  simp only[ip,fy];omega
theorem refL6(N:Nat)(hN:20 < N){a b c d e:Int}(h:Dok a b c d e){V:Nat}(hV:oY a b c d e=(V:Int)){i:Nat}(hi:i < 16){y:Int}(hy:0<=y/\y < 100000):T (hO N (i:Int) #v[a,b,c,d,e] N y 0) (λr=>r=y+((V / 2 ^ (8*i) % 256:Nat):Int)):=by
 have main:T (hO N (i:Int) #v[a,b,c,d,e] N y 0) (λr=>r=y+((V / 2 ^ (8*i) % 2 ^ 8:Nat):Int)):=by
  refine T.loop0 (n:=8) (by decide) (λk r=>r=y+((V / 2 ^ (8*i) % 2 ^ k:Nat):Int)) (F:=hO N (i:Int) #v[a,b,c,d,e]) (λf s k hk hs Q hq=>?_) (λf s=>by rw[hO,df,cond_false]) (by omega) (by rw[ki,lg];exact(pn y).symm)
  have t8:I64 (I64 (8*(i:Int))+(k:Int))=((8*i+k:Nat):Int):=by rw[aP (x:=8*(i:Int)),aP];omega
  have td:eg ((8*i+k:Nat):Int) 26=(((8*i+k) / 26:Nat):Int):=by rw[ed (by omega)];omega
  have tm:cp ((8*i+k:Nat):Int) 26=(((8*i+k) % 26:Nat):Int):=by rw[dw (by omega)];omega
  have ti:I64 (((8*i+k) / 26:Nat):Int)=(((8*i+k) / 26:Nat):Int):=aP;obtain⟨x,hx,xl,xb⟩:=bit5 h hV (t:=8*i+k) (by omega)
  have g:(#v[a,b,c,d,e]:Vector Int 5).toList[(8*i+k) / 26]? = some (x:Int):=by
   rw[<- hx]
   unfold dv;rw[ap,af (by simp;omega)]
   rfl
  have tn:(((8*i+k) / 26:Nat):Int).toNat=(8*i+k) / 26:=rfl;rw[hO,dt,cond_true,t8,aC,td,tm,ti,bQ,aa,tn,g,aa,jB .i64,aa,tU .i64,aa,cF]
  refine hq _ ?_;have pe:(2:Int) ^ ((8*i+k) % 26)=((2 ^ ((8*i+k) % 26):Nat):Int):=by rw[gu];rfl
  have sx:shr .i64 (x:Int) (((8*i+k) % 26:Nat):Int)=((x / 2 ^ ((8*i+k) % 26):Nat):Int):=by
   rw[zC .i64 _ _ ((8*i+k) % 26) rfl (by show(8*i+k) % 26<=64;omega),pe];rfl
  have xs:x / 2 ^ ((8*i+k) % 26)<=x:=Nat.div_le_self _ _;rw[sx]
  generalize x / 2 ^ ((8*i+k) % 26)=w at *;rw[aWf ⟨by omega,by omega⟩]
  have bt:((w:Nat):Int) % 2=((V / 2 ^ (8*i) / 2 ^ k % 2:Nat):Int):=by
   have:V / 2 ^ (8*i) / 2 ^ k % 2=V / 2 ^ (8*i+k) % 2:=by rw[jd,<- ib]
   rw[this,<- xb]
   omega
  rw[bt,hs]
  generalize V / 2 ^ (8*i)=B;have mm:B % 2 ^ (k+1)=B % 2 ^ k+2 ^ k*(B / 2 ^ k % 2):=by rw[fc,jm]
  have p2:(2:Int) ^ k=((2 ^ k:Nat):Int):=by rw[gu];rfl
  have le:2 ^ k<=2 ^ 7:=gc (by decide) (by omega)
  have c7:2 ^ 7=128:=by decide
  have ml:B % 2 ^ k < 2 ^ k:=ic _ (fv k)
  rw[mm,aPo _ k,p2]
  have b2:B / 2 ^ k % 2=0\/B / 2 ^ k % 2=1:=by omega
  generalize B % 2 ^ k=M at *;generalize B / 2 ^ k % 2=z at *;generalize 2 ^ k=p at *;rcases b2 with rfl | rfl
  ·rw[show(((0:Nat):Int)*(p:Int))=0 by omega,aP (x:=0) (by decide) (by decide),aP];omega
  ·rw[show(((1:Nat):Int)*(p:Int))=(p:Int) by omega,aP (x:=(p:Int)),aP];omega
 exact main
theorem aO7 : ∀(l:List Int),aN l->∀i,i < l.length->l[i]? = some (leV l / ((256 ^ i:Nat):Int) % 256)
 | [],_,i,h=>by simp at h
 | x :: t,hb,0,_=>by
  have hx:=hb x (j4)
  unfold isB at hx;show some x=_;rw[leV,show((256 ^ 0:Nat):Int)=1 from rfl,lr]
  congr 1;omega
 | x :: t,hb,i+1,h=>by
  have hx:=hb x (j4)
  unfold isB at hx;rw[je,aO7 t (λy hy=>hb y (jh _ hy)) i (by simpa using h),leV]
  have e3:((256 ^ (i+1):Nat):Int)=256*((256 ^ i:Nat):Int):=by rw[fc,fp,kf];rfl
  rw[e3,<- jb (by decide)]
  congr 3;omega
def cyN(V S i:Nat):Nat:=(V % 256 ^ i+S % 256 ^ i) / 256 ^ i
theorem aWl(V S i:Nat):cyN V S i<=1:=by
 unfold cyN;have p:0 < 256 ^ i:=pt (by decide)
 have a:=ic V p;have b:=ic S p;have:(V % 256 ^ i+S % 256 ^ i) / 256 ^ i < 2:=by rw[my p];omega
 omega
theorem cyS(V S i:Nat):cyN V S (i+1)=(S / 256 ^ i % 256+cyN V S i+V / 256 ^ i % 256) / 256/\(V+S) / 256 ^ i % 256=(S / 256 ^ i % 256+cyN V S i+V / 256 ^ i % 256) % 256:=by
 unfold cyN;have p:0 < 256 ^ i:=pt (by decide)
 have e1:V % 256 ^ (i+1)=V % 256 ^ i+256 ^ i*(V / 256 ^ i % 256):=by rw[fc,jm]
 have e2:S % 256 ^ (i+1)=S % 256 ^ i+256 ^ i*(S / 256 ^ i % 256):=by rw[fc,jm]
 have e3:V=V % 256 ^ i+256 ^ i*(V / 256 ^ i):=(ou _ _).symm;have e4:S=S % 256 ^ i+256 ^ i*(S / 256 ^ i):=(ou _ _).symm;constructor
 ·rw[e1,e2,fc,<- jd]
  have:V % 256 ^ i+256 ^ i*(V / 256 ^ i % 256)+(S % 256 ^ i+256 ^ i*(S / 256 ^ i % 256))=(V % 256 ^ i+S % 256 ^ i)+256 ^ i*(V / 256 ^ i % 256+S / 256 ^ i % 256):=by rw[pu];omega
  rw[this,gd _ _ p]
  congr 1;omega
 ·have:(V+S) / 256 ^ i=(V % 256 ^ i+S % 256 ^ i) / 256 ^ i+(V / 256 ^ i+S / 256 ^ i):=by
   rw[<- gd _ _ p,pu]
   congr 1;omega
  rw[this]
  omega
theorem refL5(N:Nat)(hN:30 < N){key:Vector Int 32}(hk:eD key){a b c d e:Int}(h:Dok a b c d e){V S:Nat}(hV:oY a b c d e=(V:Int))(hS:leV (key.toList.drop 16)=(S:Int)):T (jY N key #v[a,b,c,d,e] N (ai 16 0) 0 0) (λr=>∀j,j < 16->r.toList[j]? = some (((V+S) / 256 ^ j % 256:Nat):Int)):=by
 have kl:key.toList.length=32:=by simp
 have db:aN (key.toList.drop 16):=λx hx=>hk x (dn hx)
 refine T.loopG0 (n:=16) (λi (q:Vector Int 16×Int)=>q.2=((cyN V S i:Nat):Int)/\∀j,j < 16->q.1.toList[j]? = some (if j < i then(((V+S) / 256 ^ j % 256:Nat):Int) else 0)) _ (F:=λk (q:Vector Int 16×Int) i=>jY N key #v[a,b,c,d,e] k q.1 q.2 i) (λk q i hi hq hk'=>?_) (λk q hq=>?_) (by omega) (s:=(ai 16 0,0)) ⟨?_,λj hj=>?_⟩
 ·obtain⟨v,cy⟩:=q;obtain⟨h1,h2⟩:=hq;dsimp only at h1 h2;subst h1;have e16:I64 (16+(i:Int))=((16+i:Nat):Int):=by rw[aP];omega
  have g:=aO7 _ db i (by rw[bw];omega)
  rw[eo,hS] at g;have gS:(S:Int) / ((256 ^ i:Nat):Int) % 256=((S / 256 ^ i % 256:Nat):Int):=by
   generalize 256 ^ i=p;rfl
  rw[gS] at g;have cl:=aWl V S i;obtain⟨c1,c2⟩:=cyS V S i;have sl:S / 256 ^ i % 256 < 256:=ic _ (by decide)
  have vl:V / 256 ^ i % 256 < 256:=ic _ (by decide)
  have pw:2 ^ (8*i)=256 ^ i:=by rw[pq]
  dsimp only;rw[jY,dt,cond_true,e16,kX,g,aa]
  have eb:I64 (I64 ((S / 256 ^ i % 256:Nat):Int)+((cyN V S i:Nat):Int))=((S / 256 ^ i % 256+cyN V S i:Nat):Int):=by
   generalize S / 256 ^ i % 256=s at *;generalize cyN V S i=y at *;rw[aP (x:=(s:Int)),aP];omega
  rw[eb]
  refine T.bind (refL6 N (by omega) h hV hi (y:=((S / 256 ^ i % 256+cyN V S i:Nat):Int)) ⟨by omega,by generalize S / 256 ^ i % 256=s at *;generalize cyN V S i=y at *;omega⟩) λr hr=>?_;rw[pw] at hr;have ti:((i:Nat):Int).toNat=i:=rfl;rw[bQ,aa,ti,h2 i hi,aa,cF]
  have r8:shr .i64 r 8=((cyN V S (i+1):Nat):Int):=by
   rw[zC .i64 r 8 8 rfl,c1,hr]
   show _ / 256=_;omega
  have u8:U8 r=(((V+S) / 256 ^ i % 256:Nat):Int):=by
   rw[aBu,c2,hr]
   omega
  refine hk' (_,_) ⟨r8,λj hj=>?_⟩
  show(v.setIfInBounds i (U8 r)).toList[j]? = some (if j < i+1 then(((V+S) / 256 ^ j % 256:Nat):Int) else 0)
  rw[bu,cz,u8]
  by_cases c:i=j
  ·subst c;rw[if_pos rfl,if_pos (by simp;omega),if_pos (by omega)]
  ·rw[if_neg c,h2 j hj]
   by_cases c3:j < i
   ·rw[if_pos c3,if_pos (by omega)]
   ·rw[if_neg c3,if_neg (by omega)]
 ·rw[jY,df,cond_false]
  exact T.ret λj hj=>by rw[hq.2 j hj,if_pos hj]
 ·show(0:Int)=((cyN V S 0:Nat):Int)
  unfold cyN;rw[ki,lg,lg]
  rfl
 ·have z:(ai 16 (0:Int)).toList=ak 16 0:=rfl;dsimp only;rw[z,de,if_pos hj,if_neg (by omega)]
theorem refT1(N:Nat)(hN:30 < N)(key:Vector Int 32):T (kE N key N (ai 16 0) 0) (λv=>v.toList=key.toList.take 16):=by
 have kl:key.toList.length=32:=by simp
 refine T.mono (T.loop0 (n:=16) (by decide) (λi (v:Vector Int 16)=>∀j,j < 16->v.toList[j]? = some (if j < i then key.toList.getD j 0 else 0)) (F:=kE N key) (λk s i hi hs Q hk=>?_) (λk s=>by rw[kE,df,cond_false]) (by omega) (λj hj=>?_)) λv hv=>?_
 ·have g:key.toList[i]? = some (key.toList.getD i 0):=by rw[ap,af (by omega)];rfl
  have ti:((i:Nat):Int).toNat=i:=rfl;rw[kE,dt,cond_true,kX,g,aa,bQ,aa,ti,hs i hi,aa,cF]
  refine hk _ λj hj=>?_;rw[bu,cz]
  by_cases c:i=j
  ·subst c;rw[if_pos rfl,if_pos (by simp;omega),if_pos (by omega)]
  ·rw[if_neg c,hs j hj]
   by_cases c3:j < i
   ·rw[if_pos c3,if_pos (by omega)]
   ·rw[if_neg c3,if_neg (by omega)]
 ·have z:(ai 16 (0:Int)).toList=ak 16 0:=rfl;rw[z,de,if_pos hj,if_neg (by omega)]
 ·apply du;intro j;by_cases c:j < 16
  ·rw[hv j c,if_pos c,dx,if_pos c,ap,af (by omega)]
   rfl
  ·rw[ar (by simp;omega),ar (by rw[ca];omega)]
theorem refT2(N:Nat)(hN:30 < N)(c:Vector Int 16):T (jV N c N (ai 17 0) 0) (λv=>v.toList=c.toList++[0]):=by
 have kl:c.toList.length=16:=by simp
 refine T.mono (T.loop0 (n:=16) (by decide) (λi (v:Vector Int 17)=>∀j,j < 17->v.toList[j]? = some (if j < i then c.toList.getD j 0 else 0)) (F:=jV N c) (λk s i hi hs Q hk=>?_) (λk s=>by rw[jV,df,cond_false]) (by omega) (λj hj=>?_)) λv hv=>?_
 ·have g:c.toList[i]? = some (c.toList.getD i 0):=by rw[ap,af (by omega)];rfl
  have ti:((i:Nat):Int).toNat=i:=rfl;rw[jV,dt,cond_true,bQ (i:=(i:Int)) (n:=16),aa,ti,g,aa,bQ,aa,hs i (by omega),aa,cF]
  refine hk _ λj hj=>?_;rw[bu,cz]
  by_cases c:i=j
  ·subst c;rw[if_pos rfl,if_pos (by simp;omega),if_pos (by omega)]
  ·rw[if_neg c,hs j hj]
   by_cases c3:j < i
   ·rw[if_pos c3,if_pos (by omega)]
   ·rw[if_neg c3,if_neg (by omega)]
 ·have z:(ai 17 (0:Int)).toList=ak 17 0:=rfl;rw[z,de,if_pos hj,if_neg (by omega)]
 ·apply du;intro j;by_cases c1:j < 16
  ·rw[hv j (by omega),if_pos c1,cj (by omega),ap,af (by omega)]
   rfl
  ·by_cases c2:j=16
   ·subst c2;rw[hv 16 (by decide),if_neg (by decide),ck (by omega),kl]
    rfl
   ·rw[ar (by simp;omega),ar (by rw[ah,kl,cn];omega)]
theorem tagE(N:Nat)(hN:70000 < N){key:Vector Int 32}(hk:eD key){ms:List (List Int)}(hms:ms.length < 1000)(hb:aN ms.flatten){m:Nat}(hm:ms.flatten.length=16*m)(hl:ms.flatten.length<=65536):∃t,wG N key ms=some t/\vJ N key ms.flatten=some t:=by
 obtain⟨v,c,t,hv,hc,hcb,et,ht⟩:=tagV N hN hk hms hb hm hl;refine⟨t,et,?_⟩
 obtain⟨v',e1,hv'⟩:=refT1 N (by omega) key;obtain rfl:v'=v:=ez.1 (hv'.trans hv.symm)
 obtain⟨w,e2,hw⟩:=refT2 N (by omega) c;have cl:c.toList.length=16:=by simp
 have wb:aN w.toList:=by
  rw[hw]
  intro x hx;rcases dz.1 hx with h' | h'
  ·exact hcb x h'
  ·rw[jp.1 h'];exact⟨by decide,by decide⟩
 have lw:leV w.toList=leV c.toList:=by rw[hw,aFU,Int.zero_mul,pn]
 have lb:=aIE _ hcb;rw[cl] at lb;have c16:((256 ^ 16:Nat):Int)=340282366920938463463374607431768211456:=by decide
 rw[c16] at lb;obtain⟨r0,r1,r2,r3,r4,e3,hr,vr⟩:=aPC N (by omega) wb (by rw[lw];simp only[aEX];omega)
 obtain⟨bs,e4,hbs⟩:=aQE N hN hl hm;have z0:Dok 0 0 0 0 0:=⟨⟨by decide,by decide⟩,⟨by decide,by decide⟩,⟨by decide,by decide⟩,⟨by decide,by decide⟩,⟨by decide,by decide⟩⟩
 obtain⟨a',b',c',d',f',hd,hp,e5⟩:=refL3 N hN hb hl hm hbs hr m N 0 0 0 0 0 0 (by omega) (by omega) z0 rfl;obtain⟨a2,b2,c2,d2,f2,e6,hd2,hv2⟩:=aVR N (by omega) hd;rw[hp,vr,lw] at hv2;have l2:=hd2.lt;obtain⟨V,hV⟩:=br l2.1;have kb:aN (key.toList.drop 16):=λx hx=>hk x (dn hx)
 obtain⟨S,hS⟩:=br (aIE _ kb).1;obtain⟨u,e7,hu⟩:=refL5 N (by omega) hk hd2 hV hS;have ut:u=t:=by
  apply ez.1;apply du;intro j;by_cases hj:j < 16
  ·rw[hu j hj,ht,aLD 16 _ j hj,hS,<- hv2,hV]
   have p:256 ^ 16=256 ^ j*256 ^ (16 - j):=by rw[<- ib,show j+(16 - j)=16 by omega]
   have q:256 ∣ 256 ^ (16 - j):=by
    rw[show 16 - j=(15 - j)+1 by omega,fc]
    exact Nat.dvd_mul_left _ _
   have k:((V:Int)+(S:Int)) % W2=(((V+S) % 256 ^ 16:Nat):Int):=by
    have:(256 ^ 16:Nat)=340282366920938463463374607431768211456:=by decide
    rw[this]
    simp only[W2]
    omega
   have m2:((V+S) % 256 ^ 16) / 256 ^ j % 256=(V+S) / 256 ^ j % 256:=by
    rw[p,Nat.mod_mul_right_div_self,Nat.mod_mod_of_dvd _ q]
   rw[k,<- m2]
   generalize 256 ^ j=pj;rfl
  ·rw[ar (by simp;omega),ar (by simp;omega)]
 subst ut;have z5:(ai 5 (0:Int))=#v[0,0,0,0,0]:=rfl;unfold vJ;rw[e1,aa,hc,aa,e2,aa,e3,aa,e4,aa,z5]
 have zi:((0:Nat):Int)=0:=rfl;rw[zi] at e5;rw[e5,aa,e6,aa,e7,aa]
end Go.UK
