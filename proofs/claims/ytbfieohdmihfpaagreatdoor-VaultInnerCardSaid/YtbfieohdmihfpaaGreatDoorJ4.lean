/- A part of the proof: what the functions of the program compute. -/
import Derived.Test.YtbfieohdmihfpaaGreatDoorJ3
open BitVec renaming ofInt→bz
open Int renaming add_zero→nw,ediv_ediv_of_nonneg→i7,ediv_one→ka,eq_ofNat_of_zero_le→br,mul_comm→jc,mul_emod→nr,mul_le_mul→jb,mul_nonneg→j9,natCast_mul→f0,natCast_pow→fo,one_mul→o9,tdiv→de,tdiv_eq_ediv_of_nonneg→da,tmod→cj,tmod_eq_emod_of_nonneg→cv,toNat_natCast→bu,toNat_of_nonneg→dz
open List renaming cons_append→fg,drop_drop→nf,drop_of_length_le→ed,drop_zero→eu,ext_getElem?→cz,getD_eq_getElem?_getD→ap,getElem?_append_left→bx,getElem?_append_right→cf,getElem?_cons_succ→ij,getElem?_drop→ff,getElem?_eq_getElem→af,getElem?_eq_none→ar,getElem?_replicate→cq,getElem?_set→cp,getElem?_take→cw,getElem_mem→cm,length_append→ai,length_cons→dc,length_drop→cd,length_singleton→cr,length_take→bj,mem_append→d9,mem_cons_of_mem→il,mem_cons_self→gu,mem_of_getElem?→j1,mem_of_mem_drop→ct,mem_of_mem_take→ce,mem_singleton→hW,replicate→aj,set_append_right→gf,take_append_drop→iu,take_append_of_le_length→jd,take_of_length_le→aq,take_succ_eq_append_getElem→dr
open Nat renaming add_mul_div_left→fe,add_mul_mod_self_left→jv,div_div_eq_div_mul→ig,div_eq_of_lt→na,div_lt_iff_lt_mul→ky,le_refl→ca,mod_add_div→nh,mod_eq_of_lt→jh,mod_lt→fu,mod_mul→iv,mod_one→jt,mul_add→od,mul_assoc→jp,mul_zero→kx,pow_add→fq,pow_le_pow_right→fc,pow_mul→o8,pow_pos→oc,pow_succ→dq,pow_zero→je,reduceMul→gg,reducePow→fa,two_pow_pos→f6
open Option renaming bind→ae,bind_some→aa
open Vector renaming replicate→ah,toList_inj→fb,toList_setIfInBounds→bo
namespace Go.UK
open Go Go.Proofs
set_option maxRecDepth 20000
set_option maxHeartbeats 4000000
set_option linter.all false
abbrev W1 : Int:=18446744073709551616
abbrev W2 : Int:=340282366920938463463374607431768211456
abbrev W3 : Int:=6277101735386680763835789423207666416102355444464034512896
abbrev aDS : Int:=1361129467683753853853498429727072845824
abbrev PP : Int:=1361129467683753853853498429727072845819
def uP(a b c:Int):Int:=a+W1*b+W2*c
theorem mulX(h0 h1 h2 r0 r1:Int):uP h0 h1 h2*(r0+W1*r1)=h0*r0+W1*(h1*r0+h0*r1)+W2*(h1*r1+h2*r0)+W3*(h2*r1):=by unfold uP;grind
theorem aS4{l00 u00 l10 u10 l01 u01 l11 u11 p20 p21:Int}(b00:(0<=l00/\l00 < W1)/\0<=u00/\u00 < 1152921504606846976)(b10:(0<=l10/\l10 < W1)/\0<=u10/\u10 < 1152921504606846976)(b01:(0<=l01/\l01 < W1)/\0<=u01/\u01 < 1152921504606846976)(b11:(0<=l11/\l11 < W1)/\0<=u11/\u11 < 1152921504606846976)
  (q0:0<=p20/\p20<=9223372036854775808) (q1:0<=p21/\p21<=9223372036854775808)
  {m1 c1 m2 c2 m3 m4 c4 m5 m6 c6 m7 t1 d1 t2 d2 t3:Int}
  (e1:m1=(l10+l01+0) % W1/\c1=(l10+l01+0) / W1) (e2:m2=(u10+u01+c1) % W1/\c2=(u10+u01+c1) / W1) (e3:m3=(0+0+c2) % W1) (e4:m4=(m2+l11+0) % W1/\c4=(m2+l11+0) / W1) (e5:m5=(m3+u11+c4) % W1)
  (e6:m6=(m4+p20+0) % W1/\c6=(m4+p20+0) / W1) (e7:m7=(m5+p21+c6) % W1) (f1:t1=(m1+u00+0) % W1/\d1=(m1+u00+0) / W1) (f2:t2=(m6+0+d1) % W1/\d2=(m6+0+d1) / W1) (f3:t3=(m7+0+d2) % W1) :
  l00+W1*t1+W2*t2+W3*t3=(l00+W1*u00)+W1*((l10+W1*u10)+(l01+W1*u01))+W2*((l11+W1*u11)+p20)+W3*p21:=by
 simp only[W1,W2,W3] at *;omega
theorem addT{x y c:Int}(hx:0<=x)(hy:0<=y)(hc:0<=c)(hc':c<=1):cK x y c=some ((x+y+c) % 18446744073709551616,(x+y+c) / 18446744073709551616):=by
 unfold cK;rw[dt hx,dt hy,dt hc,dt hc']
 rfl
theorem mulV(N:Nat){a b:Int}(ha:0<=a)(ha':a < 18446744073709551616)(hb:0<=b)(hb':b < 18446744073709551616) :
  bV N a b=some (a*b / 18446744073709551616,a*b % 18446744073709551616):=by
 unfold bV;simp only[aB,aM1 ha ha',aM1 hb hb',aW8,aM1 (aL4 _) (aM6 _)]
 simp only[aIo]
 generalize hA1:a / 4294967296=A1;generalize hA0:a % 4294967296=A0;generalize hB1:b / 4294967296=B1;generalize hB0:b % 4294967296=B0;have ea:a=A1*4294967296+A0:=by omega
 have eb:b=B1*4294967296+B0:=by omega
 have hp:a*b=(A1*B1)*18446744073709551616+(A1*B0+A0*B1)*4294967296+A0*B0:=by
  rw[ea,eb];grind
 rw[hp]
 obtain⟨x1,y1⟩:=aJ0 (a:=A1) (b:=B1)
 obtain⟨x2,y2⟩:=aJ0 (a:=A1) (b:=B0)
 obtain⟨x3,y3⟩:=aJ0 (a:=A0) (b:=B1)
 obtain⟨x4,y4⟩:=aJ0 (a:=A0) (b:=B0)
 clear hp ea eb;generalize A1*B1=p at *;generalize A1*B0=q at *;generalize A0*B1=r at *;generalize A0*B0=s at *;congr 2;omega
theorem aLR(a b c:Int):(#v[a,b,c]:Vector Int 3).toList[((0:Int).toNat)]? = some a:=rfl
theorem aK5(a b c:Int):(#v[a,b,c]:Vector Int 3).toList[((1:Int).toNat)]? = some b:=rfl
theorem aMO(a b c:Int):(#v[a,b,c]:Vector Int 3).toList[((2:Int).toNat)]? = some c:=rfl
theorem aMb(a b c x:Int):(#v[a,b,c]:Vector Int 3).setIfInBounds ((0:Int).toNat) x=#v[x,b,c]:=rfl
theorem aLz(a b c x:Int):(#v[a,b,c]:Vector Int 3).setIfInBounds ((1:Int).toNat) x=#v[a,x,c]:=rfl
theorem aLv(a b c x:Int):(#v[a,b,c]:Vector Int 3).setIfInBounds ((2:Int).toNat) x=#v[a,b,x]:=rfl
theorem aFj : aO 0 3=some ():=rfl
theorem aFO : aO 1 3=some ():=rfl
theorem aHf : aO 2 3=some ():=rfl
def addW(h0 h1 h2 a b:Int):Vector Int 3:=#v[(h0+a+0) % 18446744073709551616,(h1+b+(h0+a+0) / 18446744073709551616) % 18446744073709551616,h2+(h1+b+(h0+a+0) / 18446744073709551616) / 18446744073709551616]
theorem aUd(N:Nat){h0 h1 h2 a b:Int}(b0:isU h0)(b1:isU h1)(b2:0<=h2/\h2 < 1000)(ba:isU a)(bb:isU b):bX N a b (aG.mk #v[h0,h1,h2])=some (addW h0 h1 h2 a b):=by
 unfold isU at *;unfold bX addW;simp only[aFj,aFO,aHf,aLR,aK5,aMO,aMb,aLz,aLv,aa]
 rw[addT b0.1 ba.1 (by decide) (by decide)]
 simp only[aFj,aFO,aHf,aLR,aK5,aMO,aMb,aLz,aLv,aa]
 rw[addT b1.1 bb.1 (by omega) (by omega)]
 simp only[aFj,aFO,aHf,aLR,aK5,aMO,aMb,aLz,aLv,aa]
 rw[eF]
def leV : List Int->Int
 | []=>0
 | x :: l=>x+256*leV l
theorem aES(l:List Int)(x:Int):leV (l++[x])=leV l+x*((256 ^ l.length:Nat):Int):=by
 induction l with
 | nil=>show x+256*0=0+x*1;omega
 | cons a l ih=>
  rw[fg,leV,ih,leV,dc,dq,f0]
  generalize ((256 ^ l.length:Nat):Int)=p
  grind
theorem aHS : ∀(l:List Int),aS l->0<=leV l/\leV l < ((256 ^ l.length:Nat):Int):=by
 intro l
 induction l with
 | nil=>intro _;exact⟨Int.le_refl _,by decide⟩
 | cons a l ih=>
  intro h;have ha:=h a (gu)
  have hl:=ih λx hx=>h x (il _ hx)
  unfold isB at ha;rw[leV,dc,dq,f0]
  generalize ((256 ^ l.length:Nat):Int)=p at *;omega
theorem aNi{n:Nat}{x B C:Int}(h:n<=B.toNat)(h0:0<=B)(hx:0<=x:=by omega)(hx':x<=C:=by omega):0<=(n:Int)*x/\(n:Int)*x<=B*C:=
 ⟨j9 (by omega) hx,jb (by omega) hx' hx h0⟩
theorem p2t(i:Nat):(256 ^ i:Nat)=2 ^ (8*i):=by rw[o8]
theorem aBy(N:Nat)(hN:20 < N){b:List Int}(h:8<=b.length)(hb:aS b):cO N b=some (leV (b.take 8)):=by
 have main:T (cO N b) (λr=>r=leV (b.take 8)):=by
  unfold cO;refine T.bind (T.loop0 (n:=8) (by decide) (λi x=>x=leV (b.take i)) (F:=fY N b) (λk s i hi hs Q hk=>?_) (λk s=>by rw[fY,df,cond_false]) (by omega) (by rfl)) λp1 h1=>T.ret h1;have hx:=hb _ (cm (show i < b.length by omega))
  unfold isB at hx;rw[fY,dt,cond_true,lE,af (show i < b.length by omega),aa,show(8:Int)=((8:Nat):Int) from rfl,i4,uM .u64,aa,cI]
  refine hk _ ?_;have hb8:aS (b.take i):=λx hx=>hb x (ce hx)
  obtain⟨l0,l1⟩:=aHS _ hb8;have ll:(b.take i).length=i:=by rw[bj];omega
  rw[ll,p2t] at l1;have le:((2 ^ (8*i):Nat):Int)<=((2 ^ 56:Nat):Int):=Int.ofNat_le.2 (fc (by decide) (by omega))
  have c56:((2 ^ 56:Nat):Int)=72057594037927936:=by decide
  rw[eF hx.1,aNz _ _ (8*i) rfl (by omega),hs]
  have pe:(2:Int) ^ (8*i)=((2 ^ (8*i):Nat):Int):=by rw[fo];rfl
  rw[pe]
  have mb:=aNi (n:=b[i].toNat) (B:=255) (C:=72057594037927936) (by omega) (by decide) (x:=((2 ^ (8*i):Nat):Int))
  rw[dz hx.1] at mb;rw[Int.emod_eq_of_lt mb.1 (by omega),aKo,aNU (8*i) mb.1 (by omega) l0 l1 (by omega) ⟨b[i].toNat,?_⟩]
  ·rw[dr (show i < b.length by omega),aES,ll,p2t];omega
  ·have q:(b[i].toNat:Int)=b[i]:=dz hx.1;have q2:b[i]*((2 ^ (8*i):Nat):Int)=((2 ^ (8*i)*b[i].toNat:Nat):Int):=by rw[f0,q,jc]
   rw[q2,bu]
 obtain⟨r,e,rfl⟩:=main;exact e
set_option maxHeartbeats 8000000
theorem aCQ{x y c:Int}(hx:isU x)(hy:isU y)(hc:0<=c/\c<=1):∃m d,cK x y c=some (m,d)/\isU m/\(0<=d/\d<=1)/\m=(x+y+c) % 18446744073709551616/\d=(x+y+c) / 18446744073709551616:=by
 unfold isU at *;exact⟨_,_,addT hx.1 hy.1 hc.1 hc.2,by omega,by omega,rfl,rfl⟩
theorem mulE(N:Nat){a b:Int}(ha:isU a)(hb:0<=b/\b < 1152921504606846976):∃u l,bV N a b=some (u,l)/\isU l/\(0<=u/\u < 1152921504606846976)/\a*b=l+18446744073709551616*u:=by
 unfold isU at *;have m:=j9 ha.1 hb.1;have m2:a*b<=18446744073709551615*1152921504606846975:=jb (by omega) (by omega) hb.1 (by decide)
 refine⟨_,_,mulV N ha.1 ha.2 hb.1 (by omega),?_,?_,?_⟩
 ·omega
 ·generalize a*b=p at *;omega
 ·generalize a*b=p at *;omega
theorem aWU{a:Int}(h:isU a):aGl .u64 a 3=a - a % 4:=by
 have e:aGl .u64 a 3=((a.toNat / 4*4:Nat):Int):=by
  unfold isU at h;unfold aGl;have k:(bz IntKind.u64.bits a &&& ~~~ (bz IntKind.u64.bits 3)).toNat=a.toNat / 4*4:=by
   obtain⟨A,rfl⟩:=br h.1;have hA:A < 18446744073709551616:=by omega
   show((bz 64 (A:Int)) &&& ~~~ (bz 64 3)).toNat=_;rw[show(A:Int).toNat=A from rfl]
   have q:bz 64 (A:Int)=BitVec.ofNat 64 A:=by simp
   rw[q]
   have:(BitVec.ofNat 64 A &&& ~~~ (bz 64 3))=(BitVec.ofNat 64 A >>> 2) <<< 2:=by
    apply BitVec.eq_of_getLsbD_eq;intro i hi;have h3:(bz 64 3).getLsbD i=decide (i < 2):=by
     rcases i with _ | _ | i
     ·rfl
     ·rfl
     ·have:∀j:Fin 62,(bz 64 3).getLsbD (j.val+2)=false:=by decide
      rw[this ⟨i,by omega⟩]
      simp
    rw[BitVec.getLsbD_and,BitVec.getLsbD_not,h3,BitVec.getLsbD_shiftLeft,BitVec.getLsbD_ushiftRight]
    by_cases h2:i < 2
    ·simp[h2]
    ·rw[show 2+(i - 2)=i by omega]
     simp[h2,hi]
   rw[this]
   simp[BitVec.toNat_shiftLeft,BitVec.toNat_ushiftRight,Nat.shiftLeft_eq,Nat.shiftRight_eq_div_pow]
   omega
  rw[k]
  exact eF
 rw[e]
 unfold isU at h;omega
set_option maxHeartbeats 16000000
def bnum(b:List Int):Int:=leV (b.take 8)+W1*leV ((b.take 16).drop 8)+W2*(b.getD 16 0)
theorem add2(N:Nat){t0 t1 t2 t3:Int}(b0:isU t0)(b1:isU t1)(b2:isU t2)(b3:isU t3):∃x y z,(ae (bX N (aGl .u64 t2 3) t3 (aG.mk (#v[t0,t1,cF .u64 t2 3]))) λr47=>
  aN (bor .u64 (shr .u64 t2 2) (shl .u64 t3 62)) λx48=>
  ae (bX N x48 (shr .u64 t3 2) (aG.mk r47)) λr49=>some r49)=some #v[x,y,z]/\isU x/\isU y/\(0<=z/\z<=5)/\uP x y z+PP*(t2 / 4+4611686018427387904*t3)=t0+W1*t1+W2*t2+W3*t3:=by
 have e3:cF .u64 t2 3=t2 % 4:=by
  unfold isU at b2;rw[aQE b2.1 b2.2 (by decide) (by decide)]
  have:t2.toNat &&& (3:Int).toNat=t2.toNat % 4:=Nat.and_two_pow_sub_one_eq_mod t2.toNat 2;rw[this];omega
 have s2:shr .u64 t2 2=t2 / 4:=by rw[zR .u64 t2 2 2 rfl];rfl
 have s3:shr .u64 t3 2=t3 / 4:=by rw[zR .u64 t3 2 2 rfl];rfl
 have l3:shl .u64 t3 62=4611686018427387904*(t3 % 4):=by
  rw[aNz t3 62 62 rfl]
  have:(2:Int) ^ 62=4611686018427387904:=by decide
  rw[this];omega
 unfold isU at *;have bb:bor .u64 (t2 / 4) (4611686018427387904*(t3 % 4))=4611686018427387904*(t3 % 4)+t2 / 4:=by
  rw[aKo]
  refine aNU 62 (by omega) (by omega) (by omega) ?_ (by decide) ⟨(t3 % 4).toNat,?_⟩
  ·have:((2 ^ 62:Nat):Int)=4611686018427387904:=by decide
   rw[this];omega
  ·have:(2 ^ 62:Nat)=4611686018427387904:=by decide
   rw[this];omega
 rw[e3,aWU ⟨b2.1,b2.2⟩,s2,s3,l3,bb]
 rw[aUd N (by unfold isU;omega) (by unfold isU;omega) (by omega) (by unfold isU;omega) (by unfold isU;omega),aa]
 simp only[aB]
 unfold addW;rw[aUd N (by unfold isU;omega) (by unfold isU;omega) (by omega) (by unfold isU;omega) (by unfold isU;omega),aa]
 unfold addW;refine⟨_,_,_,rfl,by omega,by omega,by omega,?_⟩
 unfold uP;simp only[W1,W2,W3,PP]
 omega
structure Hok(h0 h1 h2:Int):Prop where
 a:isU h0
 b:isU h1
 c:0<=h2/\h2<=5
def Rok(r0 r1:Int):Prop:=(0<=r0/\r0 < 1152921504606846976)/\0<=r1/\r1 < 1152921504606846976
def Bok(b:Vector Int 17):Prop:=aS b.toList/\0<=b.toList.getD 16 0/\b.toList.getD 16 0<=1
theorem leV8{l:List Int}(h:aS l)(hl:l.length=8):isU (leV l):=by
 have:=aHS l h;rw[hl] at this;exact⟨this.1,this.2⟩
theorem aVH(N:Nat)(hN:20 < N){h0 h1 h2 r0 r1:Int}(hh:Hok h0 h1 h2)(hr:Rok r0 r1){b:Vector Int 17}(hb:Bok b) :
  ∃x y z H,cN N b r0 r1 (aG.mk #v[h0,h1,h2])=some #v[x,y,z]/\Hok x y z/\uP x y z+PP*H=(uP h0 h1 h2+bnum b.toList)*(r0+W1*r1):=by
 obtain⟨a0,a1,a2⟩:=hh;obtain⟨hb1,hb2⟩:=hb;have ll:b.toList.length=17:=by simp
 have n0:isU (leV (b.toList.take 8)):=leV8 (λx hx=>hb1 x (ce hx)) (by rw[bj,ll];rfl)
 have n1:isU (leV ((b.toList.take 16).drop 8)):=leV8 (λx hx=>hb1 x (ce (ct hx))) (by rw[cd,bj,ll];rfl)
 have s0:dM b.toList 0 8=some (b.toList.take 8):=qW (n:=8) (by rw[ll];decide)
 have s1:dM b.toList 8 16=some ((b.toList.take 16).drop 8):=pE (by decide) (by decide) (by rw[ll];decide)
 have i16:idx b.toList 16=some (b.toList.getD 16 0):=by
  rw[show(16:Int)=((16:Nat):Int) from rfl,lE,af (by rw[ll];decide),ap,af (by rw[ll];decide)]
  rfl
 have p0:cO N (b.toList.take 8)=some (leV (b.toList.take 8)):=by
  rw[aBy N hN (by rw[bj,ll];decide) (λx hx=>hb1 x (ce hx)),List.take_take];rfl
 have p1:cO N ((b.toList.take 16).drop 8)=some (leV ((b.toList.take 16).drop 8)):=by
  rw[aBy N hN (by rw[cd,bj,ll];decide) (λx hx=>hb1 x (ce (ct hx))),aq (by rw[cd,bj,ll];decide)]
 unfold bnum;generalize leV (b.toList.take 8)=m0 at *;generalize leV ((b.toList.take 16).drop 8)=m1 at *;generalize b.toList.getD 16 0=m2 at *;unfold cN;simp only[s0,s1,i16,p0,p1,aFj,aFO,aHf,aLR,aK5,aMO,aMb,aLz,aLv,aa]
 obtain⟨x0,c1,E1,bx0,bc1,f1⟩:=aCQ a0 n0 (c:=0) ⟨by decide,by decide⟩
 rw[E1]
 simp only[aFj,aFO,aHf,aLR,aK5,aMO,aMb,aLz,aLv,aa]
 obtain⟨x1,c2,E2,bx1,bc2,f2⟩:=aCQ a1 n1 bc1;rw[E2]
 simp only[aFj,aFO,aHf,aLR,aK5,aMO,aMb,aLz,aLv,aa]
 rw[aB]
 rw[eF hb2.1,eF (x:=m2+c2),eF (x:=h2+(m2+c2))]
 have va:uP h0 h1 h2+(m0+W1*m1+W2*m2)=uP x0 x1 (h2+(m2+c2)):=by
  unfold isU at a0 a1 n0 n1;unfold uP;simp only[W1,W2]
  omega
 have cc:0<=h2+(m2+c2)/\h2+(m2+c2)<=7:=by omega
 clear f1 f2 E1 E2;generalize h2+(m2+c2)=hs2 at *;obtain⟨hr0,hr1⟩:=hr;obtain⟨u00,l00,M1,g1,g2,g3⟩:=mulE N bx0 hr0;obtain⟨u10,l10,M2,g4,g5,g6⟩:=mulE N bx1 hr0;obtain⟨u01,l01,M3,g7,g8,g9⟩:=mulE N bx0 hr1;obtain⟨u11,l11,M4,g10,g11,g12⟩:=mulE N bx1 hr1;rw[M1,aa,M2,aa,M3,aa,M4,aa]
 dsimp only;have q0:=aNi (n:=hs2.toNat) (B:=7) (C:=1152921504606846975) (by omega) (by decide) (x:=r0)
 have q1:=aNi (n:=hs2.toNat) (B:=7) (C:=1152921504606846975) (by omega) (by decide) (x:=r1)
 rw[dz (by omega)] at q0 q1;have q0':0<=hs2*r0/\hs2*r0<=9223372036854775808:=⟨q0.1,by omega⟩
 have q1':0<=hs2*r1/\hs2*r1<=9223372036854775808:=⟨q1.1,by omega⟩
 have uu:∀{u:Int},0<=u/\u < 1152921504606846976->isU u:=λh=>⟨h.1,by omega⟩
 have uq:∀{u:Int},0<=u/\u<=7*1152921504606846975->isU u:=λh=>⟨h.1,by omega⟩
 have z01:(0:Int)<=0/\(0:Int)<=1:=⟨by decide,by decide⟩
 rw[eF q0.1,eF q1.1]
 obtain⟨y1,d1,F1,by1,bd1,k1⟩:=aCQ g4 g7 z01;rw[F1,aa]
 obtain⟨y2,d2,F2,by2,bd2,k2⟩:=aCQ (uu g5) (uu g8) bd1;rw[F2,aa]
 obtain⟨y3,d3,F3,by3,bd3,k3⟩:=aCQ xQ xQ bd2;rw[F3,aa]
 dsimp only;obtain⟨y4,d4,F4,by4,bd4,k4⟩:=aCQ by2 g10 z01;rw[F4,aa]
 obtain⟨y5,d5,F5,by5,bd5,k5⟩:=aCQ by3 (uu g11) bd4;rw[F5,aa]
 dsimp only;obtain⟨y6,d6,F6,by6,bd6,k6⟩:=aCQ by4 (uq q0) z01;rw[F6,aa]
 obtain⟨y7,d7,F7,by7,bd7,k7⟩:=aCQ by5 (uq q1) bd6;rw[F7,aa]
 dsimp only;obtain⟨t1,e1,F8,bt1,be1,k8⟩:=aCQ by1 (uu g2) z01;rw[F8,aa]
 obtain⟨t2,e2,F9,bt2,be2,k9⟩:=aCQ by6 xQ be1;rw[F9,aa]
 obtain⟨t3,e3,F10,bt3,be3,k10⟩:=aCQ by7 xQ be2;rw[F10,aa]
 dsimp only;obtain⟨x,y,z,e,hx,hy,hz,hv⟩:=add2 N g1 bt1 bt2 bt3;refine⟨x,y,z,_,e,⟨hx,hy,hz⟩,hv.trans ?_⟩
 have pm:=aS4 ⟨g1,g2⟩ ⟨g4,g5⟩ ⟨g7,g8⟩ ⟨g10,g11⟩ (p20:=hs2*r0) (p21:=hs2*r1) q0' q1' k1 k2 k3.1 k4 k5.1 k6 k7.1 k8 k9 k10.1;rw[pm]
 rw[va,mulX,g3,g6,g9,g12]
theorem aWo(N:Nat)(a b:Int)(m:aM):fN N a b m=bX N a b m.gA7:=rfl
theorem aTH(N:Nat)(b:Vector Int 17)(r0 r1:Int)(m:aM):fU N b r0 r1 m=ae (cN N b r0 r1 m.gA7) λr=>some (r,m.gP,m.gr0,m.gr1,m.gs0,m.gs1,m.gQ,m.gR):=by
 unfold fU cN;simp only[aWo,aB,Option.bind_assoc,aa]
theorem aKn(N:Nat){a b c:Int}(h:Hok a b c)(k i:Nat)(hi:i < 2:=by decide):∃x y z,Hok x y z/\uP x y z=(if uP a b c>=PP then uP a b c - PP else uP a b c)/\dB N (k+1) #v[a,b,c] (i:Int)=dB N k #v[x,y,z] ((i+1:Nat):Int):=by
 obtain⟨ha,hb,hc⟩:=h;rw[dB,dt,cond_true]
 simp only[aFj,aFO,aHf,aLR,aK5,aMO,aMb,aLz,aLv,aa,aB]
 obtain⟨m,d,E,bm,bd,e⟩:=aCQ ha aDt (c:=0) ⟨by decide,by decide⟩
 rw[E,aa]
 obtain⟨m2,d2,E2,bm2,bd2,e2⟩:=aCQ hb xQ bd;rw[E2,aa]
 dsimp only;rw[eF (x:=c+d2)]
 unfold isU at *;have vv:uP a b c+5=m+W1*m2+W2*(c+d2):=by
  unfold uP;simp only[W1,W2];omega
 by_cases g:c+d2>=4
 ·rw[dt g,cond_true,aa,eF,cI]
  refine⟨m,m2,c+d2 - 4,⟨bm,bm2,by omega⟩,?_,rfl⟩
  unfold uP at *;simp only[W1,W2,PP] at *;rw[if_pos (by omega)]
  omega
 ·rw[df g,cond_false,aa,cI]
  refine⟨a,b,c,⟨ha,hb,hc⟩,?_,rfl⟩
  unfold uP at *;simp only[W1,W2,PP] at *;rw[if_neg (by omega)]
theorem endL1(N:Nat)(hN:10 < N){a b c:Int}(h:Hok a b c):∃x y z,Hok x y z/\uP x y z=uP a b c % PP/\dB N N #v[a,b,c] 0=some #v[x,y,z]:=by
 obtain⟨k,rfl⟩:∃k,N=k+3:=⟨N - 3,by omega⟩
 obtain⟨x1,y1,z1,h1,v1,e1⟩:=aKn (k+3) h (k+2) 0;obtain⟨x2,y2,z2,h2,v2,e2⟩:=aKn (k+3) h1 (k+1) 1;refine⟨x2,y2,z2,h2,?_,?_⟩
 ·have lo:0<=uP a b c/\uP a b c < 3*PP:=by
   obtain⟨ha,hb,hc⟩:=h;unfold isU at *;unfold uP;simp only[W1,W2,PP]
   omega
  rw[v2,v1]
  generalize uP a b c=V at *;simp only[PP] at *;split <;> (try split) <;> omega
 ·rw[show(0:Int)=((0:Nat):Int) from rfl,show k+3=k+2+1 from rfl,e1,show k+2=k+1+1 from rfl,e2,dB,df (by decide),cond_false]
def byN : Nat->Int->List Int
 | 0,_=>[]
 | n+1,x=>x % 256 :: byN n (x / 256)
theorem aTv : ∀(n:Nat) (x:Int),(byN n x).length=n
 | 0,_=>rfl
 | n+1,x=>by rw[byN,dc,aTv n]
theorem aJi : ∀(n:Nat) (x:Int) (i:Nat),i < n->(byN n x)[i]? = some (x / ((256 ^ i:Nat):Int) % 256)
 | 0,_,i,h=>by omega
 | n+1,x,0,_=>by
  show some (x % 256)=_;rw[show((256 ^ 0:Nat):Int)=1 from rfl,ka]
 | n+1,x,i+1,h=>by
  rw[byN,ij,aJi n (x / 256) i (by omega),dq,f0,i7 (by decide),jc]
  rfl
def aMW(lo hi:Int)(i j:Nat):Int:=if j < 8 then(if j < i then lo / ((256 ^ j:Nat):Int) % 256 else 0) else if j - 8 < i then hi / ((256 ^ (j - 8):Nat):Int) % 256 else 0
theorem aU6(i:Nat):cE i=((256 ^ i:Nat):Int):=by unfold cE;rw[fo];rfl
theorem endL2(N:Nat)(hN:20 < N)(lo hi:Int×Int):T (eE N lo hi N (ah 16 0) 0) (λv=>∀j,j < 16->v.toList[j]? = some (aMW lo.1 hi.1 8 j)):=by
 refine T.loop0 (n:=8) (by decide) (λi (v:Vector Int 16)=>∀j,j < 16->v.toList[j]? = some (aMW lo.1 hi.1 i j)) (F:=eE N lo hi) (λk s i hi' hs Q hk=>?_) (λk s=>by rw[eE,df,cond_false]) (by omega) (λj hj=>?_)
 ·rw[eE,dt,cond_true,show(8:Int)=((8:Nat):Int) from rfl,i4,ia,cI]
  rw[jH .u64,aa,jH .u64,aa]
  refine T.bind (T.inRO) λ_ _=>T.bind (T.vget) λ_ _=>T.bind (T.inRO) λ_ _=>T.bind (T.vget) λ_ _=>hk _ λj hj=>?_;rw[aL0 lo.1 i,aL0 hi.1 i,aDC,aDC,aU6]
  have t1:((i:Nat):Int).toNat=i:=rfl;have t2:((8+i:Nat):Int).toNat=8+i:=rfl;rw[t1,t2]
  simp only[bo,cp,List.length_set,Vector.length_toList]
  unfold aMW;by_cases c1:8+i=j
  ·subst c1;rw[if_pos rfl,if_pos (by omega),if_neg (by omega),if_pos (by omega),Nat.add_sub_cancel_left]
  ·rw[if_neg c1]
   by_cases c2:i=j
   ·subst c2;rw[if_pos rfl,if_pos (by omega),if_pos (by omega),if_pos (by omega)]
   ·rw[if_neg c2,hs j hj]
    unfold aMW;by_cases c3:j < 8
    ·rw[if_pos c3,if_pos c3]
     by_cases c4:j < i
     ·rw[if_pos c4,if_pos (by omega)]
     ·rw[if_neg c4,if_neg (by omega)]
    ·rw[if_neg c3,if_neg c3]
     by_cases c4:j - 8 < i
     ·rw[if_pos c4,if_pos (by omega)]
     ·rw[if_neg c4,if_neg (by omega)]
 ·have z:(ah 16 (0:Int)).toList=aj 16 0:=rfl;rw[z,cq,if_pos hj]
  unfold aMW;simp
theorem leAll(lo hi:Int)(h0:isU lo)(h1:isU hi):∀j,j < 16->aMW lo hi 8 j=(lo+W1*hi) / ((256 ^ j:Nat):Int) % 256:=by
 intro j hj;unfold isU at *;unfold aMW;simp only[W1]
 have c:j=0\/j=1\/j=2\/j=3\/j=4\/j=5\/j=6\/j=7\/j=8\/j=9\/j=10\/j=11\/j=12\/j=13\/j=14\/j=15:=by omega
 rcases c with rfl | rfl | rfl | rfl | rfl | rfl | rfl | rfl | rfl | rfl | rfl | rfl | rfl | rfl | rfl | rfl
 all_goals
  simp only[fa,Nat.reduceSub,Nat.reduceLT,↓reduceIte]
  omega
theorem endW(N:Nat)(hN:20 < N){a b c s0 s1:Int}(h:Hok a b c)(h0:isU s0)(h1:isU s1):∃r,pL N (aG.mk #v[a,b,c]) s0 s1=some r/\r.toList=byN 16 ((uP a b c % PP+(s0+W1*s1)) % W2):=by
 obtain⟨x,y,z,hh,v,e⟩:=endL1 N (by omega) h;obtain⟨hx,hy,hz⟩:=hh;unfold pL;rw[e]
 simp only[aFj,aFO,aLR,aK5,aa]
 obtain⟨lo,d,E,bl,bd,f1⟩:=aCQ hx h0 (c:=0) ⟨by decide,by decide⟩
 rw[E,aa]
 obtain⟨hi,d2,E2,bh,bd2,f2⟩:=aCQ hy h1 bd;rw[E2,aa]
 obtain⟨r,er,hr⟩:=endL2 N hN (lo,d) (hi,d2)
 rw[er,aa]
 refine⟨r,rfl,?_⟩
 have X:(uP a b c % PP+(s0+W1*s1)) % W2=lo+W1*hi:=by
  rw[<- v]
  unfold isU at *;unfold uP;simp only[W1,W2]
  omega
 rw[X]
 apply cz;intro j;by_cases hj:j < 16
 ·rw[hr j hj,aJi 16 _ j hj,leAll lo hi bl bh j hj]
 ·rw[ar (by simp;omega),ar (by rw[aTv];omega)]
theorem aNe(a b:List Int):leV (a++b)=leV a+((256 ^ a.length:Nat):Int)*leV b:=by
 induction a with
 | nil=>show leV b=0+1*leV b;omega
 | cons x a ih=>
  rw[fg,leV,ih,leV,dc,dq,f0]
  generalize ((256 ^ a.length:Nat):Int)=p;generalize leV b=q
  grind
theorem aWO{s:List Int}(h:s.length=16):bnum (s++[1])=leV s+W2:=by
 unfold bnum;have e1:(s++[1]).take 8=s.take 8:=by rw[jd (by omega)]
 have e2:((s++[1]).take 16).drop 8=s.drop 8:=by rw[jd (by omega),aq (by omega)]
 have e3:(s++[1]).getD 16 0=1:=by
  rw[ap,cf (by omega),h];rfl
 rw[e1,e2,e3,Int.mul_one]
 have:=aNe (s.take 8) (s.drop 8)
 rw[iu,bj,h] at this;rw[this]
 rfl
theorem aSD(N:Nat)(hN:20 < N){s:List Int}(h:s.length=16)(hb:aS s):∃bv:Vector Int 17,jU N s=some [bv]/\Bok bv/\bv.toList=s++[1]:=by
 obtain⟨k,rfl⟩:∃k,N=k+2:=⟨N - 2,by omega⟩
 obtain⟨v8,c16,hv⟩:∃v8:Vector Int 17,cpV (ah 17 (0:Int)) s 0 16=some v8/\v8.toList=s++[0]:=by
  refine⟨⟨(s++[0]).toArray,by simp;omega⟩,?_,rfl⟩
  unfold cpV;rw[dif_pos (by decide)]
  congr 2;unfold cpy;have z:(ah 17 (0:Int)).toList=aj 17 0:=rfl;rw[z,h]
  simp[aq (show s.length<=16 by omega)]
 have key:jU (k+2) s=some [v8.setIfInBounds 16 1]:=by
  unfold jU;rw[aB,h,show lH ((16:Nat):Int) 65536=((16:Nat):Int) from by decide,qW,aq (by omega),aa]
  rw[jR,aB,h,dt (by decide),cond_true,show aE7 17 0 16=some () from rfl,aa,c16,aa]
  simp only[aB,show min 16 16=16 from rfl]
  rw[show aO ((16:Nat):Int) 17=some () from rfl,aa]
  have t16:((16:Nat):Int).toNat=16:=rfl;rw[t16,af (by simp),aa,dG (by simp),aa,pE (by decide),aa]
  have d0:(s.take ((16:Nat):Int).toNat).drop ((16:Nat):Int).toNat=[]:=by rw[t16];simp
  rw[d0,jR,aB,df (by decide),cond_false]
  rfl
 have hs:(v8.setIfInBounds 16 1).toList=s++[1]:=by
  rw[bo,hv,gf _ _ (by omega),h]
  rfl
 refine⟨_,key,⟨?_,?_⟩,hs⟩
 ·rw[hs]
  intro x hx;rcases d9.1 hx with h' | h'
  ·exact hb x h'
  ·rw[hW.1 h'];exact⟨by decide,by decide⟩
 ·rw[hs,ap,cf (by omega),h]
  exact⟨by decide,by decide⟩
def aIm(R:Int)(l:List Int):Nat->Int
 | 0=>0
 | n+1=>((aIm R l n+(leV ((l.drop (16*n)).take 16)+W2))*R) % PP
theorem aOS{V V' H R b p:Int}(h:V'+PP*H=(V+b)*R)(hp:V % PP=p):V' % PP=((p+b)*R) % PP:=by
 have e:V' % PP=((V+b)*R) % PP:=by rw[<- h,Int.add_mul_emod_self_left]
 rw[e,<- hp,nr (V % PP+b),Int.emod_add_emod,<- nr]
theorem aVO(N:Nat)(hN:30 < N){r0 r1 s0 s1 al:Int}(hr:Rok r0 r1){l:List Int}(hb:aS l){m:Nat}(hm:l.length=16*m)(hl:l.length < 1000000) :
  ∀(d k n:Nat) (a b c:Int),n+d=m->d < k->Hok a b c->uP a b c % PP=aIm (r0+W1*r1) l n ->
  ∃x y z,Hok x y z/\uP x y z % PP=aIm (r0+W1*r1) l m/\eH N k #v[a,b,c] true r0 r1 s0 s1 (l.drop (16*n)) al=some (#v[x,y,z],true,r0,r1,s0,s1,[],al):=by
 intro d
 induction d with
 | zero=>
  intro k n a b c hn hk h hv;obtain⟨k,rfl⟩:∃j,k=j+1:=⟨k - 1,by omega⟩
  obtain rfl:n=m:=by omega
  have e:l.drop (16*n)=[]:=ed (by omega)
  refine⟨a,b,c,h,hv,?_⟩
  rw[e,eH,aB,df (by decide),cond_false]
 | succ d ih=>
  intro k n a b c hn hk h hv;obtain⟨k,rfl⟩:∃j,k=j+1:=⟨k - 1,by omega⟩
  have dl:(l.drop (16*n)).length=16*m - 16*n:=by rw[cd,hm]
  have t16:((l.drop (16*n)).take 16).length=16:=by rw[bj,dl];omega
  have tb:aS ((l.drop (16*n)).take 16):=λx hx=>hb x (ct (ce hx))
  obtain⟨bv,e1,e2,e3⟩:=aSD N (by omega) t16 tb;obtain⟨x,y,z,H,e4,hh,e5⟩:=aVH N (by omega) h hr e2;rw[e3,aWO t16] at e5;have hv':=aOS e5 hv;obtain⟨x',y',z',g1,g2,g3⟩:=ih k (n+1) x y z (by omega) (by omega) hh hv';refine⟨x',y',z',g1,g2,?_⟩
  have s16:dM (l.drop (16*n)) 0 16=some ((l.drop (16*n)).take 16):=qW (n:=16)
  rw[eH,aB,dt,cond_true,s16,aa,e1,aa]
  rw[show idx [bv] 0=some bv from rfl,aa,aTH,e4,aa,aa]
  dsimp only;rw[pE (by decide),aa]
  have e6:((l.drop (16*n)).take (((l.drop (16*n)).length:Nat):Int).toNat).drop (16:Int).toNat=l.drop (16*(n+1)):=by
   rw[bu,aq (ca _),nf]
   congr 1
  rw[e6]
  exact g3
def clB(j:Nat)(x:Int):Int:=if j % 4=3 then x % 16 else if j % 4=0/\0 < j then x / 4*4 else x
def vg(v:Vector Int 16)(j:Nat):Int:=v.toList.getD j 0
theorem wU(v:Vector Int 16){j:Nat}(h:j < 16:=by omega):v.toList[j]? = some (vg v j):=by
 unfold vg;rw[ap,af (by simp;omega)]
 rfl
theorem aRa{v:Vector Int 16}(hv:fJ v){j:Nat}(h:j < 16:=by omega):isB (vg v j):=hv _ (j1 (wU v h))
theorem aU0{x:Int}(h:isB x):cF .u8 x 15=x % 16:=by
 have key:∀y:Fin 256,cF .u8 (y.val:Int) 15=(y.val:Int) % 16:=by decide +kernel
 unfold isB at h;have:=key ⟨x.toNat,by omega⟩
 rwa[dz h.1] at this
theorem aR9{x:Int}(h:isB x):cF .u8 x 252=x / 4*4:=by
 have key:∀y:Fin 256,cF .u8 (y.val:Int) 252=(y.val:Int) / 4*4:=by decide +kernel
 unfold isB at h;have:=key ⟨x.toNat,by omega⟩
 rwa[dz h.1] at this
def ClI(v:Vector Int 16)(n:Nat)(s:Vector Int 16):Prop:=∀j,j < 16->s.toList[j]? = some (if j < n then clB j (vg v j) else vg v j)
theorem aWX(N:Nat)(hN:30 < N){v:Vector Int 16}(hv:fJ v):T (qJ N v) (ClI v 16):=by
 unfold qJ;refine T.bind (T.loop0 (n:=4) (by decide) (λi s=>ClI v (4*i) s) (F:=jE N) (λk s i hi hs Q hk=>?_) (λk s=>by rw[jE,df,cond_false]) (by omega) (λj hj=>by rw[wU v hj,if_neg (by omega)])) λp1 h1=>T.ret h1;have i3:I64 (I64 (4*(i:Int))+3)=((4*i+3:Nat):Int):=by rw[aT (x:=4*(i:Int)),aT];omega
 have i0:I64 (4*(i:Int))=((4*i:Nat):Int):=by rw[aT];omega
 rw[jE,dt,cond_true,i3,i0,aB,cI]
 have g3:=hs (4*i+3) (by omega)
 rw[if_neg (by omega)] at g3;have t3:((4*i+3:Nat):Int).toNat=4*i+3:=rfl;have t0:((4*i:Nat):Int).toNat=4*i:=rfl;rw[bR (i:=((4*i+3:Nat):Int)),aa,t3,g3,aa,aa,aa,aU0 (aRa hv)]
 by_cases c:i=0
 ·subst c;rw[df (by decide),cond_false,aa]
  refine hk _ λj hj=>?_;rw[bo,cp]
  by_cases e:4*0+3=j
  ·subst e;rw[if_pos rfl,if_pos (by simp),if_pos (by decide)]
   rfl
  ·rw[if_neg e,hs j hj,if_neg (by omega)]
   by_cases e2:j < 4*(0+1)
   ·rw[if_pos e2]
    unfold clB;rw[if_neg (by omega),if_neg (by omega)]
   ·rw[if_neg e2]
 ·have g0:(s.setIfInBounds (4*i+3) (vg v (4*i+3) % 16)).toList[4*i]? = some (vg v (4*i)):=by
   rw[bo,cp,if_neg (by omega),hs (4*i) (by omega),if_neg (by omega)]
  rw[dt,cond_true,bR (i:=((4*i:Nat):Int)),aa,t0,g0,aa,aa,aa,aR9 (aRa hv),aa]
  refine hk _ λj hj=>?_;rw[bo,bo,cp,cp]
  by_cases e:4*i=j
  ·subst e;rw[if_pos rfl,if_pos (by simp;omega),if_pos (by omega)]
   unfold clB;rw[if_neg (by omega),if_pos (by omega)]
  ·rw[if_neg e]
   by_cases e3:4*i+3=j
   ·subst e3;rw[if_pos rfl,if_pos (by simp;omega),if_pos (by omega)]
    unfold clB;rw[if_pos (by omega)]
   ·rw[if_neg e3,hs j hj]
    by_cases e2:j < 4*(i+1)
    ·rw[if_pos e2]
     by_cases e4:j < 4*i
     ·rw[if_pos e4]
     ·rw[if_neg e4]
      unfold clB;rw[if_neg (by omega),if_neg (by omega)]
    ·rw[if_neg e2,if_neg (by omega)]
theorem aWj(N:Nat)(hN:30 < N){v:Vector Int 16}(hv:fJ v):T (jK N v) (ClI v 16):=by
 unfold jK;refine T.bind (T.loop0 (n:=16) (by decide) (λi s=>ClI v i s) (F:=jD N) (λk s i hi hs Q hk=>?_) (λk s=>by rw[jD,df,cond_false]) (by omega) (λj hj=>by rw[wU v hj,if_neg (by omega)])) λp1 h1=>T.ret h1;have ti:((i:Nat):Int).toNat=i:=rfl;have tm:cj (i:Int) 4=((i % 4:Nat):Int):=by rw[cv (by omega)];omega
 have gi:=hs i hi;rw[if_neg (by omega)] at gi;obtain⟨b0,b1⟩:=aRa hv hi;have nx:∀x,x=clB i (vg v i)->ClI v (i+1) (s.setIfInBounds i x):=by
  intro x hx j hj;subst hx;rw[bo,cp]
  by_cases e:i=j
  ·subst e;rw[if_pos rfl,if_pos (by simp;omega),if_pos (by omega)]
  ·rw[if_neg e,hs j hj]
   by_cases e2:j < i
   ·rw[if_pos e2,if_pos (by omega)]
   ·rw[if_neg e2,if_neg (by omega)]
 have nx0:clB i (vg v i)=vg v i->ClI v (i+1) s:=by
  intro h j hj;rw[hs j hj]
  by_cases e:i=j
  ·subst e;rw[if_neg (by omega),if_pos (by omega),h]
  ·by_cases e2:j < i
   ·rw[if_pos e2,if_pos (by omega)]
   ·rw[if_neg e2,if_neg (by omega)]
 rw[jD,dt,cond_true,tm,cI,ti]
 by_cases c3:i % 4=3
 ·rw[c3,show(((3:Nat):Int)==3)=true from rfl,cond_true,bR,aa,gi,aa,aa,aa,aa,aB,show(((3:Nat):Int)==0)=false from rfl,cond_false,cond_false,aa]
  refine hk _ (nx _ ?_)
  unfold clB;rw[if_pos c3,cv b0]
 ·rw[show(((i % 4:Nat):Int)==3)=false by simp;omega,cond_false,aa,aB]
  by_cases c0:i % 4=0/\0 < i
  ·rw[c0.1,show(((0:Nat):Int)==0)=true from rfl,cond_true,dt,cond_true,bR,aa,gi,aa,aB,aa,aa,aa]
   refine hk _ (nx _ ?_)
   unfold clB;rw[if_neg c3,if_pos c0,da b0,aDC,aDC]
   omega
  ·have e:(cond (((i % 4:Nat):Int)==0) (decide ((i:Int) > 0)) false)=false:=by
    by_cases z:i % 4=0
    ·rw[z,show(((0:Nat):Int)==0)=true from rfl,cond_true,df]
    ·rw[show(((i % 4:Nat):Int)==0)=false by simp;omega,cond_false]
   rw[e,cond_false,aa]
   refine hk _ (nx0 ?_)
   unfold clB;rw[if_neg c3,if_neg c0]
theorem aVg(N:Nat)(hN:30 < N){v:Vector Int 16}(hv:fJ v):∃c,qJ N v=some c/\jK N v=some c/\∀j,j < 16->c.toList[j]? = some (clB j (vg v j)):=by
 obtain⟨c,e,h⟩:=aWX N hN hv;obtain⟨d,e',h'⟩:=aWj N hN hv;have:c=d:=by
  apply fb.1;apply cz;intro j;by_cases hj:j < 16
  ·rw[h j hj,h' j hj]
  ·rw[ar (by simp;omega),ar (by simp;omega)]
 subst this;exact⟨c,e,e',λj hj=>by rw[h j hj,if_pos hj]⟩
theorem vecE{m:Nat}{l:List Int}(h:l.length=m):∃v:Vector Int m,aGW m l=some v/\v.toList=l:=by
 unfold aGW;rw[dif_pos (by omega)]
 exact⟨_,rfl,aq (by omega)⟩
theorem aUp{l:List Int}(h:l.length=16):leV l=leV (l.take 8)+W1*leV ((l.take 16).drop 8):=by
 have:=aNe (l.take 8) (l.drop 8)
 rw[iu,bj,h] at this;rw[this,aq (show l.length<=16 by omega)]
 rfl
theorem aUJ{l:List Int}(hb:aS l)(hl:l.length=8)(h7:∀x,l[7]? = some x->x < 16):0<=leV l/\leV l < 1152921504606846976:=by
 have e:l=l.take 7++[l[7]'(by omega)]:=by
  rw[<- dr (show 7 < l.length by omega),aq (by omega)]
 have x0:=hb _ (cm (show 7 < l.length by omega))
 have x1:=h7 _ (af (show 7 < l.length by omega))
 have b:=aHS (l.take 7) (λx hx=>hb x (ce hx))
 have l7:(l.take 7).length=7:=by rw[bj];omega
 rw[e,aES,l7]
 rw[l7] at b;unfold isB at x0;generalize l[7]'(by omega)=x at *;have c:((256 ^ 7:Nat):Int)=72057594037927936:=by decide
 rw[c] at b ⊢;omega
structure KeyOk(key:Vector Int 32)(c:Vector Int 16)(r0 r1 s0 s1:Int):Prop where
 r:Rok r0 r1
 s:isU s0/\isU s1
 re:r0+W1*r1=leV c.toList
 se:s0+W1*s1=leV (key.toList.drop 16)
theorem newV(N:Nat)(hN:30 < N){key:Vector Int 32}(hk:fJ key):∃(v c:Vector Int 16) (r0 r1 s0 s1:Int),v.toList=key.toList.take 16/\jK N v=some c/\aS c.toList/\uZ N key=some (r0,r1,s0,s1)/\KeyOk key c r0 r1 s0 s1:=by
 have kl:key.toList.length=32:=by simp
 obtain⟨v,ev,hv⟩:=vecE (m:=16) (l:=key.toList.take 16) (by rw[bj,kl];decide)
 have vb:fJ v:=by intro x hx;rw[hv] at hx;exact hk x (ce hx)
 obtain⟨c,e1,e2,hc⟩:=aVg N hN vb;have cl:c.toList.length=16:=by simp
 have cb:aS c.toList:=by
  intro x hx;obtain⟨j,hj,rfl⟩:=List.mem_iff_getElem.1 hx;have h:=hc j (by omega)
  rw[af hj] at h;have b:=aRa vb (show j < 16 by omega)
  unfold isB at b ⊢;rw[Option.some.inj h]
  unfold clB;split
  ·omega
  ·split <;> omega
 have c15:∀j,j < 16->j % 4=3->∀x,c.toList[j]? = some x->x < 16:=by
  intro j hj h3 x hx;rw[hc j hj] at hx;have b:=aRa vb hj;unfold isB at b;rw[<- Option.some.inj hx]
  unfold clB;rw[if_pos h3]
  omega
 have s0:dM key.toList 0 16=some (key.toList.take 16):=qW (n:=16)
 have s1:dM c.toList 0 16=some (c.toList.take 16):=qW (n:=16)
 have s2:dM c.toList 8 16=some ((c.toList.take 16).drop 8):=pE (by decide) (by decide)
 have s3:dM key.toList 16 32=some ((key.toList.take 32).drop 16):=pE (by decide) (by decide)
 have s4:dM key.toList 24 32=some ((key.toList.take 32).drop 24):=pE (by decide) (by decide)
 have t32:key.toList.take 32=key.toList:=aq (by omega)
 have t16:c.toList.take 16=c.toList:=aq (by omega)
 have sub:∀{l l':List Int},aS l->(∀x∈l',x∈l)->aS l':=λh g x hx=>h x (g x hx)
 have kb:aS key.toList:=hk;rw[t32] at s3 s4;rw[t16] at s1;have n0:=aBy N (by omega) (b:=c.toList) (by omega) cb;have n1:=aBy N (by omega) (b:=(c.toList.take 16).drop 8) (by rw[cd,t16];omega) (sub cb λx hx=>ce (ct hx))
 have n2:=aBy N (by omega) (b:=key.toList.drop 16) (by rw[cd];omega) (sub kb λx hx=>ct hx)
 have n3:=aBy N (by omega) (b:=key.toList.drop 24) (by rw[cd];omega) (sub kb λx hx=>ct hx)
 have t8:((c.toList.take 16).drop 8).take 8=(c.toList.take 16).drop 8:=aq (by rw[cd,t16];omega)
 have t8':(key.toList.drop 24).take 8=key.toList.drop 24:=aq (by rw[cd];omega)
 rw[t8] at n1;rw[t8'] at n3;have k8:(key.toList.drop 16).drop 8=key.toList.drop 24:=by rw[nf]
 refine⟨v,c,leV (c.toList.take 8),leV ((c.toList.take 16).drop 8),leV ((key.toList.drop 16).take 8),leV (key.toList.drop 24),hv,e2,cb,?_,⟨⟨?_,?_⟩,⟨?_,?_⟩,?_,?_⟩⟩
 ·unfold uZ;rw[s0,aa,ev,aa,e1,aa,s1,aa,n0,aa,s2,aa,n1,aa,s3,aa,n2,aa,s4,aa,n3,aa]
 ·refine aUJ (sub cb λx hx=>ce hx) (by rw[bj];omega) λx hx=>?_;rw[cw,if_pos (by decide)] at hx;exact c15 7 (by decide) (by decide) x hx
 ·refine aUJ (sub cb λx hx=>ce (ct hx)) (by rw[cd,t16];omega) λx hx=>?_;rw[t16,ff] at hx;exact c15 15 (by decide) (by decide) x hx
 ·exact leV8 (sub kb λx hx=>ct (ce hx)) (by rw[bj,cd];omega)
 ·exact leV8 (sub kb λx hx=>ct hx) (by rw[cd];omega)
 ·exact(aUp cl).symm
 ·have:=aUp (l:=key.toList.drop 16) (by rw[cd];omega)
  rw[this,aq (i:=16) (by rw[cd];omega),k8]
theorem aVF(N:Nat)(hN:70000 < N){ms:List (List Int)}(hms:ms.length < 1000):∀(d k i:Nat) (s:List Int),i+d=ms.length->d < k->s.length+((ms.drop i).flatten).length<=65536->eG N ms k s (s.length:Int) (i:Int)=some (s++(ms.drop i).flatten,((s++(ms.drop i).flatten).length:Int)):=by
 intro d
 induction d with
 | zero=>
  intro k i s hi hk hl;obtain⟨k,rfl⟩:∃j,k=j+1:=⟨k - 1,by omega⟩
  rw[eG,aB,df,cond_false,ed (show ms.length<=i by omega),List.flatten_nil,List.append_nil]
 | succ d ih=>
  intro k i s hi hk hl;obtain⟨k,rfl⟩:∃j,k=j+1:=⟨k - 1,by omega⟩
  have hlt:i < ms.length:=by omega
  have e:(ms.drop i).flatten=ms[i]++(ms.drop (i+1)).flatten:=by rw[List.drop_eq_getElem_cons hlt,List.flatten_cons]
  rw[e,ai] at hl;rw[eG,aB,dt,cond_true,lE,af hlt,aa,aB]
  have f:I64 (65536 - (s.length:Int))=((65536 - s.length:Nat):Int):=by rw[aT];omega
  have g:lH ((ms[i].length:Nat):Int) (I64 (65536 - (s.length:Int)))=((ms[i].length:Nat):Int):=by rw[f];unfold lH;split <;> omega
  rw[g,qW (ca _),aq (ca _),aa,aB,dG,aa,cI]
  have h2:I64 ((s.length:Int)+(ms[i].length:Int))=((s++ms[i]).length:Int):=by rw[aT,ai];rfl
  rw[h2,ih k (i+1) (s++ms[i]) (by omega) (by omega) (by rw[ai];omega),e,List.append_assoc]
theorem tagV(N:Nat)(hN:70000 < N){key:Vector Int 32}(hk:fJ key){ms:List (List Int)}(hms:ms.length < 1000)(hb:aS ms.flatten){m:Nat}(hm:ms.flatten.length=16*m)(hl:ms.flatten.length<=65536) :
  ∃(v c t:Vector Int 16),v.toList=key.toList.take 16/\jK N v=some c/\aS c.toList/\tT N key ms=some t/\t.toList=byN 16 ((aIm (leV c.toList) ms.flatten m+leV (key.toList.drop 16)) % W2):=by
 obtain⟨v,c,r0,r1,s0,s1,hv,hc,hcb,e,kr,ks,kre,kse⟩:=newV N (by omega) hk;have a1:=aVF N hN hms ms.length N 0 [] (by omega) (by omega) (by simpa using hl)
 rw[eu,List.nil_append] at a1;have z0:Hok 0 0 0:=⟨xQ,xQ,by decide,by decide⟩
 obtain⟨x,y,z,hh,hv2,a2⟩:=aVO N (by omega) kr hb hm (by omega) (s0:=s0) (s1:=s1) (al:=(ms.flatten.length:Int)) m N 0 0 0 0 (by omega) (by omega) z0 rfl;rw[kx,eu] at a2;obtain⟨t,et,ht⟩:=endW N (by omega) hh ks.1 ks.2;rw[hv2,kre,kse] at ht;refine⟨v,c,t,hv,hc,hcb,?_,ht⟩
 unfold tT;rw[e,aa]
 unfold rI;dsimp only;rw[Bool.not_true,cond_false,show(0:Int)=(([]:List Int).length:Int) from rfl] at *;rw[show((([]:List Int).length:Nat):Int)=((0:Nat):Int) from rfl] at *;rw[a1,aa]
 dsimp only;rw[a2,aa,aa]
 unfold pZ;dsimp only;obtain⟨k,rfl⟩:∃j,N=j+1:=⟨N - 1,by omega⟩
 have b0:jU (k+1) []=some []:=by
  unfold jU;rw[aB,show lH ((([]:List Int).length:Nat):Int) 65536=((0:Nat):Int) from by decide,qW (by decide),aa,jR,aB,df (by decide),cond_false]
  rfl
 rw[Bool.not_true,cond_false,b0,aa,iS,aB,df (by decide),cond_false,aa,et]
 rfl
def mQ(a b c d e:Int):Int:=a+67108864*b+4503599627370496*c+302231454903657293676544*d+20282409603651670423947251286016*e
theorem aG7(a b c d e:Int):(#v[a,b,c,d,e]:Vector Int 5).toList[((0:Int).toNat)]? = some a:=rfl
theorem aH4(a b c d e:Int):(#v[a,b,c,d,e]:Vector Int 5).toList[((1:Int).toNat)]? = some b:=rfl
theorem aHT(a b c d e:Int):(#v[a,b,c,d,e]:Vector Int 5).toList[((2:Int).toNat)]? = some c:=rfl
theorem aGo(a b c d e:Int):(#v[a,b,c,d,e]:Vector Int 5).toList[((3:Int).toNat)]? = some d:=rfl
theorem aH6(a b c d e:Int):(#v[a,b,c,d,e]:Vector Int 5).toList[((4:Int).toNat)]? = some e:=rfl
theorem aIU(a b c d e x:Int):(#v[a,b,c,d,e]:Vector Int 5).setIfInBounds ((0:Int).toNat) x=#v[x,b,c,d,e]:=rfl
theorem aIQ(a b c d e x:Int):(#v[a,b,c,d,e]:Vector Int 5).setIfInBounds ((1:Int).toNat) x=#v[a,x,c,d,e]:=rfl
theorem aIN(a b c d e x:Int):(#v[a,b,c,d,e]:Vector Int 5).setIfInBounds ((2:Int).toNat) x=#v[a,b,x,d,e]:=rfl
theorem aIX(a b c d e x:Int):(#v[a,b,c,d,e]:Vector Int 5).setIfInBounds ((3:Int).toNat) x=#v[a,b,c,x,e]:=rfl
theorem aIV(a b c d e x:Int):(#v[a,b,c,d,e]:Vector Int 5).setIfInBounds ((4:Int).toNat) x=#v[a,b,c,d,x]:=rfl
theorem aCZ : aO 0 5=some ():=rfl
theorem aCf : aO 1 5=some ():=rfl
theorem aCc : aO 2 5=some ():=rfl
theorem aCe : aO 3 5=some ():=rfl
theorem aCh : aO 4 5=some ():=rfl
theorem k01 : I64 (0+1)=1:=by decide
theorem k12 : I64 (1+1)=2:=by decide
theorem k23 : I64 (2+1)=3:=by decide
theorem k34 : I64 (3+1)=4:=by decide
theorem k45 : I64 (4+1)=5:=by decide
def ng(x:Int):Prop:=0<=x/\x < 1152921504606846976
theorem aDn{x:Int}(h:0<=x/\x < 4611686018427387904:=by omega):I64 (x - shl .i64 (x / 67108864) 26)=x % 67108864/\shr .i64 x 26=x / 67108864:=by
 have e:shr .i64 x 26=x / 67108864:=by rw[zR .i64 x 26 26 rfl];rfl
 have e2:shl .i64 (x / 67108864) 26=I64 (x / 67108864*67108864):=by
  rw[show(26:Int)=((26:Nat):Int) from rfl,shlI _ 26 (by decide)];rfl
 refine⟨?_,e⟩
 rw[e2,aT (x:=x / 67108864*67108864),aT]
 omega
theorem aMu(N:Nat)(hN:10 < N){a b c d e:Int}(ha:ng a)(hb:ng b)(hc:ng c)(hd:ng d)(he:ng e):∃a' b' c' d' e' q,bS N N #v[a,b,c,d,e] 0=some #v[a',b',c',d',e']/\(0<=q/\q<=(e+34359738368) / 67108864)/\(0<=a'/\a' < 67108864+5*q)/\(0<=b'/\b' < 67108864)/\(0<=c'/\c' < 67108864)/\(0<=d'/\d' < 67108864)/\(0<=e'/\e' < 67108864)/\mQ a' b' c' d' e'+PP*q=mQ a b c d e/\(∃a0,a'=a0+5*q/\a0+67108864*((a - a0) / 67108864)=a/\0<=a0/\a0 < 67108864):=by
 unfold ng at *;obtain⟨k,rfl⟩:∃j,N=j+6:=⟨N - 6,by omega⟩
 obtain⟨f1,g1⟩:=aDn (x:=a)
 have hI1:I64 (b+a / 67108864)=b+a / 67108864:=aT;rw[bS,dt (by decide),cond_true]
 simp only[aCZ,aCf,aG7,aH4,aIU,aa,k01,aB,f1,g1,hI1]
 rw[dt (by decide),cond_true,aa,aIQ]
 have hb1:0<=b+a / 67108864/\b+a / 67108864 < 2305843009213693952:=by omega
 clear hI1;generalize hB:b+a / 67108864=B at *;obtain⟨f2,g2⟩:=aDn (x:=B)
 have hI2:I64 (c+B / 67108864)=c+B / 67108864:=aT;rw[bS,dt (by decide),cond_true]
 simp only[aCf,aCc,aH4,aHT,aIQ,aa,k12,aB,f2,g2,hI2]
 rw[dt (by decide),cond_true,aa,aIN]
 have hc1:0<=c+B / 67108864/\c+B / 67108864 < 2305843009213693952:=by omega
 clear hI2;generalize hC:c+B / 67108864=C at *;obtain⟨f3,g3⟩:=aDn (x:=C)
 have hI3:I64 (d+C / 67108864)=d+C / 67108864:=aT;rw[bS,dt (by decide),cond_true]
 simp only[aCc,aCe,aHT,aGo,aIN,aa,k23,aB,f3,g3,hI3]
 rw[dt (by decide),cond_true,aa,aIX]
 have hd1:0<=d+C / 67108864/\d+C / 67108864 < 2305843009213693952:=by omega
 clear hI3;generalize hD:d+C / 67108864=D at *;obtain⟨f4,g4⟩:=aDn (x:=D)
 have hI4:I64 (e+D / 67108864)=e+D / 67108864:=aT;rw[bS,dt (by decide),cond_true]
 simp only[aCe,aCh,aGo,aH6,aIX,aa,k34,aB,f4,g4,hI4]
 rw[dt (by decide),cond_true,aa,aIV]
 have he1:0<=e+D / 67108864/\e+D / 67108864 < 2305843009213693952:=by omega
 have he2:(e+D / 67108864) / 67108864<=(e+34359738368) / 67108864:=by omega
 clear hI4;generalize hE:e+D / 67108864=E at *;obtain⟨f5,g5⟩:=aDn (x:=E)
 have hI5:I64 (5*(E / 67108864))=5*(E / 67108864):=aT;have hI6:I64 (a % 67108864+5*(E / 67108864))=a % 67108864+5*(E / 67108864):=aT;rw[bS,dt (by decide),cond_true]
 simp only[aCh,aCZ,aH6,aG7,aIV,aa,k45,aB,f5,g5,hI5,hI6]
 rw[df (by decide),cond_false,aa,aIU]
 rw[bS,df (by decide),cond_false]
 refine⟨_,_,_,_,_,E / 67108864,rfl,⟨by omega,he2⟩,by omega,by omega,by omega,by omega,by omega,?_,a % 67108864,rfl,by omega,by omega,by omega⟩
 unfold mQ;simp only[PP]
 omega
def d26(x:Int):Prop:=0<=x/\x < 67108864
structure Dok(a b c d e:Int):Prop where
 a:d26 a
 b:d26 b
 c:d26 c
 d:d26 d
 e:d26 e
theorem Dok.lt{a b c d e:Int}(h:Dok a b c d e):0<=mQ a b c d e/\mQ a b c d e < aDS:=by
 obtain⟨h1,h2,h3,h4,h5⟩:=h;unfold d26 at *;unfold mQ;simp only[aDS]
 omega
theorem aMz(N:Nat)(hN:10 < N){a b c d e:Int}(ha:ng a)(hb:ng b)(hc:ng c)(hd:ng d)(he:ng e):∃a0 b' c' d' e' q,bS N N #v[a,b,c,d,e] 0=some #v[a0+5*q,b',c',d',e']/\0<=q/\Dok a0 b' c' d' e'/\mQ a0 b' c' d' e'+aDS*q=mQ a b c d e:=by
 obtain⟨a',b',c',d',e',q,e1,⟨q0,_⟩,_,hb',hc',hd',he',hv,a0,ea,_,h0,h1⟩:=aMu N hN ha hb hc hd he;subst ea;refine⟨a0,b',c',d',e',q,e1,q0,⟨⟨h0,h1⟩,hb',hc',hd',he'⟩,?_⟩
 unfold mQ at *;simp only[PP,aDS] at *;omega
theorem aLa(N:Nat)(hN:10 < N){a b c d e:Int}(ha:ng a)(hb:ng b)(hc:ng c)(hd:ng d)(he:ng e):∃a' b' c' d' e' H,lV N #v[a,b,c,d,e]=some #v[a',b',c',d',e']/\Dok a' b' c' d' e'/\mQ a' b' c' d' e'+PP*H=mQ a b c d e:=by
 obtain⟨k,hk⟩:∃j,N=j+4:=⟨N - 4,by omega⟩
 obtain⟨a1,b1,c1,d1,e1,q1,E1,p1,D1,v1⟩:=aMz N hN ha hb hc hd he;have u1:q1<=68719476736:=by
  have:=D1.lt;unfold ng at *;unfold mQ at *;simp only[aDS] at *;omega
 have L1:=D1;obtain⟨x1,x2,x3,x4,x5⟩:=D1;unfold d26 at x1 x2 x3 x4 x5;obtain⟨a2,b2,c2,d2,e2,q2,E2,p2,D2,v2⟩:=aMz N hN (a:=a1+5*q1) (b:=b1) (c:=c1) (d:=d1) (e:=e1) (by unfold ng;omega) (by unfold ng;omega) (by unfold ng;omega) (by unfold ng;omega) (by unfold ng;omega)
 have u2:q2<=1:=by
  have:=D2.lt;unfold mQ at *;simp only[aDS] at *;omega
 have L2:=D2;obtain⟨y1,y2,y3,y4,y5⟩:=D2;unfold d26 at y1 y2 y3 y4 y5;obtain⟨a3,b3,c3,d3,e3,q3,E3,p3,D3,v3⟩:=aMz N hN (a:=a2+5*q2) (b:=b2) (c:=c2) (d:=d2) (e:=e2) (by unfold ng;omega) (by unfold ng;omega) (by unfold ng;omega) (by unfold ng;omega) (by unfold ng;omega)
 have L3:=D3.lt;obtain⟨z1,z2,z3,z4,z5⟩:=D3;have u3:a3+5*q3 < 67108864:=by
  unfold d26 at z1 z2 z3 z4 z5;have:q3<=1:=by
   unfold mQ at *;simp only[aDS] at *;omega
  by_cases c:q3=0
  ·subst c;omega
  ·have c1:q3=1:=by omega
   subst c1;unfold mQ at v3;simp only[aDS] at v3;omega
 refine⟨a3+5*q3,b3,c3,d3,e3,q1+q2+q3,?_,⟨⟨by have:=z1.1;omega,u3⟩,z2,z3,z4,z5⟩,?_⟩
 ·unfold lV;subst hk;rw[dX,dt (by decide),cond_true,E1,aa,k01,dX,dt (by decide),cond_true,E2,aa,k12,dX,dt (by decide),cond_true,E3,aa,k23,dX,df (by decide),cond_false]
  rfl
 ·unfold mQ at *;simp only[PP,aDS] at *;omega
theorem aCj(a b c d e:Int):idx (#v[a,b,c,d,e]:Vector Int 5).toList 0=some a:=rfl
theorem aCr(a b c d e:Int):idx (#v[a,b,c,d,e]:Vector Int 5).toList 1=some b:=rfl
theorem aCa(a b c d e:Int):idx (#v[a,b,c,d,e]:Vector Int 5).toList 2=some c:=rfl
theorem aCl(a b c d e:Int):idx (#v[a,b,c,d,e]:Vector Int 5).toList 3=some d:=rfl
theorem aCm(a b c d e:Int):idx (#v[a,b,c,d,e]:Vector Int 5).toList 4=some e:=rfl
def pd(x:Int):Prop:=0<=x/\x < 18014398509481984
def sm(n x:Int):Prop:=0<=x/\x<=n*90071992547409920
theorem pdI{x:Int}(h:pd x):I64 x=x:=by unfold pd at h;exact aT
theorem pdJ{x:Int}(h:pd x):I64 (5*x)=5*x:=by unfold pd at h;exact aT
theorem smI{n s w:Int}(hn:0<=n/\n<=5)(h:sm n s)(hw:pd w):I64 (s+w)=s+w:=by unfold pd sm at *;exact aT
theorem smJ{n s w:Int}(hn:0<=n/\n<=5)(h:sm n s)(hw:pd w):I64 (s+5*w)=s+5*w:=by unfold pd sm at *;exact aT
theorem smS{n s w:Int}(hn:0<=n/\n<=5)(h:sm n s)(hw:pd w):sm (n+1) (s+w):=by unfold pd sm at *;omega
theorem smT{n s w:Int}(hn:0<=n/\n<=5)(h:sm n s)(hw:pd w):sm (n+1) (s+5*w):=by unfold pd sm at *;omega
theorem tm5_0 : cj 0 5=0:=by decide
theorem aUb : cj 1 5=1:=by decide
theorem aRO : cj 2 5=2:=by decide
theorem aNM : cj 3 5=3:=by decide
theorem aLd : cj 4 5=4:=by decide
theorem aNr : cj 5 5=0:=by decide
theorem aQn : cj 6 5=1:=by decide
theorem aUM : cj 7 5=2:=by decide
theorem tm5_8 : cj 8 5=3:=by decide
theorem ik00 : I64 (0+0)=0:=by decide
theorem ik01 : I64 (0+1)=1:=by decide
theorem ik02 : I64 (0+2)=2:=by decide
theorem ik03 : I64 (0+3)=3:=by decide
theorem ik04 : I64 (0+4)=4:=by decide
theorem ik10 : I64 (1+0)=1:=by decide
theorem ik11 : I64 (1+1)=2:=by decide
theorem ik12 : I64 (1+2)=3:=by decide
theorem ik13 : I64 (1+3)=4:=by decide
theorem ik14 : I64 (1+4)=5:=by decide
theorem ik20 : I64 (2+0)=2:=by decide
theorem ik21 : I64 (2+1)=3:=by decide
theorem ik22 : I64 (2+2)=4:=by decide
theorem ik23 : I64 (2+3)=5:=by decide
theorem ik24 : I64 (2+4)=6:=by decide
theorem ik30 : I64 (3+0)=3:=by decide
theorem ik31 : I64 (3+1)=4:=by decide
theorem ik32 : I64 (3+2)=5:=by decide
theorem ik33 : I64 (3+3)=6:=by decide
theorem ik34 : I64 (3+4)=7:=by decide
theorem ik40 : I64 (4+0)=4:=by decide
theorem ik41 : I64 (4+1)=5:=by decide
theorem ik42 : I64 (4+2)=6:=by decide
theorem ik43 : I64 (4+3)=7:=by decide
theorem ik44 : I64 (4+4)=8:=by decide
theorem row0(N:Nat)(hN:10 < N){n:Int}(hn:0<=n/\n<=5){a0 a1 a2 a3 a4 b0 b1 b2 b3 b4 s0 s1 s2 s3 s4:Int}(hp0:pd (a0*b0))(hp1:pd (a0*b1))(hp2:pd (a0*b2))(hp3:pd (a0*b3))(hp4:pd (a0*b4))(hs0:sm n s0)(hs1:sm n s1)(hs2:sm n s2)(hs3:sm n s3)(hs4:sm n s4):aI N #v[a0,a1,a2,a3,a4] 0 #v[b0,b1,b2,b3,b4] N #v[s0,s1,s2,s3,s4] 0=some #v[s0+a0*b0,s1+a0*b1,s2+a0*b2,s3+a0*b3,s4+a0*b4]/\sm (n+1) (s0+a0*b0)/\sm (n+1) (s1+a0*b1)/\sm (n+1) (s2+a0*b2)/\sm (n+1) (s3+a0*b3)/\sm (n+1) (s4+a0*b4):=by
 obtain⟨k,rfl⟩:∃j,N=j+6:=⟨N - 6,by omega⟩
 refine⟨?_,smS hn hs0 hp0,smS hn hs1 hp1,smS hn hs2 hp2,smS hn hs3 hp3,smS hn hs4 hp4⟩
 rw[aI,dt (by decide),cond_true,aCj,aa,aCj,aa,pdI hp0,aB]
 rw[ik00,df (by decide),cond_false,aa,aB,aB,tm5_0,aCZ,aa,aG7,aa,aa,aa,smI hn hs0 hp0,aIU,k01]
 rw[aI,dt (by decide),cond_true,aCj,aa,aCr,aa,pdI hp1,aB]
 rw[ik01,df (by decide),cond_false,aa,aB,aB,aUb,aCf,aa,aH4,aa,aa,aa,smI hn hs1 hp1,aIQ,k12]
 rw[aI,dt (by decide),cond_true,aCj,aa,aCa,aa,pdI hp2,aB]
 rw[ik02,df (by decide),cond_false,aa,aB,aB,aRO,aCc,aa,aHT,aa,aa,aa,smI hn hs2 hp2,aIN,k23]
 rw[aI,dt (by decide),cond_true,aCj,aa,aCl,aa,pdI hp3,aB]
 rw[ik03,df (by decide),cond_false,aa,aB,aB,aNM,aCe,aa,aGo,aa,aa,aa,smI hn hs3 hp3,aIX,k34]
 rw[aI,dt (by decide),cond_true,aCj,aa,aCm,aa,pdI hp4,aB]
 rw[ik04,df (by decide),cond_false,aa,aB,aB,aLd,aCh,aa,aH6,aa,aa,aa,smI hn hs4 hp4,aIV,k45]
 rw[aI,df (by decide),cond_false]
theorem row1(N:Nat)(hN:10 < N){n:Int}(hn:0<=n/\n<=5){a0 a1 a2 a3 a4 b0 b1 b2 b3 b4 s0 s1 s2 s3 s4:Int}(hp0:pd (a1*b0))(hp1:pd (a1*b1))(hp2:pd (a1*b2))(hp3:pd (a1*b3))(hp4:pd (a1*b4))(hs0:sm n s0)(hs1:sm n s1)(hs2:sm n s2)(hs3:sm n s3)(hs4:sm n s4):aI N #v[a0,a1,a2,a3,a4] 1 #v[b0,b1,b2,b3,b4] N #v[s0,s1,s2,s3,s4] 0=some #v[s0+5*(a1*b4),s1+a1*b0,s2+a1*b1,s3+a1*b2,s4+a1*b3]/\sm (n+1) (s0+5*(a1*b4))/\sm (n+1) (s1+a1*b0)/\sm (n+1) (s2+a1*b1)/\sm (n+1) (s3+a1*b2)/\sm (n+1) (s4+a1*b3):=by
 obtain⟨k,rfl⟩:∃j,N=j+6:=⟨N - 6,by omega⟩
 refine⟨?_,smT hn hs0 hp4,smS hn hs1 hp0,smS hn hs2 hp1,smS hn hs3 hp2,smS hn hs4 hp3⟩
 rw[aI,dt (by decide),cond_true,aCr,aa,aCj,aa,pdI hp0,aB]
 rw[ik10,df (by decide),cond_false,aa,aB,aB,aUb,aCf,aa,aH4,aa,aa,aa,smI hn hs1 hp0,aIQ,k01]
 rw[aI,dt (by decide),cond_true,aCr,aa,aCr,aa,pdI hp1,aB]
 rw[ik11,df (by decide),cond_false,aa,aB,aB,aRO,aCc,aa,aHT,aa,aa,aa,smI hn hs2 hp1,aIN]
 rw[aI,dt (by decide),cond_true,aCr,aa,aCa,aa,pdI hp2,aB]
 rw[ik12,df (by decide),cond_false,aa,aB,aB,aNM,aCe,aa,aGo,aa,aa,aa,smI hn hs3 hp2,aIX,k23]
 rw[aI,dt (by decide),cond_true,aCr,aa,aCl,aa,pdI hp3,aB]
 rw[ik13,df (by decide),cond_false,aa,aB,aB,aLd,aCh,aa,aH6,aa,aa,aa,smI hn hs4 hp3,aIV,k34]
 rw[aI,dt (by decide),cond_true,aCr,aa,aCm,aa,pdI hp4,aB]
 rw[ik14,dt (by decide),cond_true,aB,pdJ hp4,aa,aB,aB,aNr,aCZ,aa,aG7,aa,aa,aa,smJ hn hs0 hp4,aIU,k45]
 rw[aI,df (by decide),cond_false]
theorem row2(N:Nat)(hN:10 < N){n:Int}(hn:0<=n/\n<=5){a0 a1 a2 a3 a4 b0 b1 b2 b3 b4 s0 s1 s2 s3 s4:Int}(hp0:pd (a2*b0))(hp1:pd (a2*b1))(hp2:pd (a2*b2))(hp3:pd (a2*b3))(hp4:pd (a2*b4))(hs0:sm n s0)(hs1:sm n s1)(hs2:sm n s2)(hs3:sm n s3)(hs4:sm n s4):aI N #v[a0,a1,a2,a3,a4] 2 #v[b0,b1,b2,b3,b4] N #v[s0,s1,s2,s3,s4] 0=some #v[s0+5*(a2*b3),s1+5*(a2*b4),s2+a2*b0,s3+a2*b1,s4+a2*b2]/\sm (n+1) (s0+5*(a2*b3))/\sm (n+1) (s1+5*(a2*b4))/\sm (n+1) (s2+a2*b0)/\sm (n+1) (s3+a2*b1)/\sm (n+1) (s4+a2*b2):=by
 obtain⟨k,rfl⟩:∃j,N=j+6:=⟨N - 6,by omega⟩
 refine⟨?_,smT hn hs0 hp3,smT hn hs1 hp4,smS hn hs2 hp0,smS hn hs3 hp1,smS hn hs4 hp2⟩
 rw[aI,dt (by decide),cond_true,aCa,aa,aCj,aa,pdI hp0,aB]
 rw[ik20,df (by decide),cond_false,aa,aB,aB,aRO,aCc,aa,aHT,aa,aa,aa,smI hn hs2 hp0,aIN,k01]
 rw[aI,dt (by decide),cond_true,aCa,aa,aCr,aa,pdI hp1,aB]
 rw[ik21,df (by decide),cond_false,aa,aB,aB,aNM,aCe,aa,aGo,aa,aa,aa,smI hn hs3 hp1,aIX,k12]
 rw[aI,dt (by decide),cond_true,aCa,aa,aCa,aa,pdI hp2,aB]
 rw[ik22,df (by decide),cond_false,aa,aB,aB,aLd,aCh,aa,aH6,aa,aa,aa,smI hn hs4 hp2,aIV,k23]
 rw[aI,dt (by decide),cond_true,aCa,aa,aCl,aa,pdI hp3,aB]
 rw[ik23,dt (by decide),cond_true,aB,pdJ hp3,aa,aB,aB,aNr,aCZ,aa,aG7,aa,aa,aa,smJ hn hs0 hp3,aIU,k34]
 rw[aI,dt (by decide),cond_true,aCa,aa,aCm,aa,pdI hp4,aB]
 rw[ik24,dt (by decide),cond_true,aB,pdJ hp4,aa,aB,aB,aQn,aCf,aa,aH4,aa,aa,aa,smJ hn hs1 hp4,aIQ,k45]
 rw[aI,df (by decide),cond_false]
theorem row3(N:Nat)(hN:10 < N){n:Int}(hn:0<=n/\n<=5){a0 a1 a2 a3 a4 b0 b1 b2 b3 b4 s0 s1 s2 s3 s4:Int}(hp0:pd (a3*b0))(hp1:pd (a3*b1))(hp2:pd (a3*b2))(hp3:pd (a3*b3))(hp4:pd (a3*b4))(hs0:sm n s0)(hs1:sm n s1)(hs2:sm n s2)(hs3:sm n s3)(hs4:sm n s4):aI N #v[a0,a1,a2,a3,a4] 3 #v[b0,b1,b2,b3,b4] N #v[s0,s1,s2,s3,s4] 0=some #v[s0+5*(a3*b2),s1+5*(a3*b3),s2+5*(a3*b4),s3+a3*b0,s4+a3*b1]/\sm (n+1) (s0+5*(a3*b2))/\sm (n+1) (s1+5*(a3*b3))/\sm (n+1) (s2+5*(a3*b4))/\sm (n+1) (s3+a3*b0)/\sm (n+1) (s4+a3*b1):=by
 obtain⟨k,rfl⟩:∃j,N=j+6:=⟨N - 6,by omega⟩
 refine⟨?_,smT hn hs0 hp2,smT hn hs1 hp3,smT hn hs2 hp4,smS hn hs3 hp0,smS hn hs4 hp1⟩
 rw[aI,dt (by decide),cond_true,aCl,aa,aCj,aa,pdI hp0,aB]
 rw[ik30,df (by decide),cond_false,aa,aB,aB,aNM,aCe,aa,aGo,aa,aa,aa,smI hn hs3 hp0,aIX,k01]
 rw[aI,dt (by decide),cond_true,aCl,aa,aCr,aa,pdI hp1,aB]
 rw[ik31,df (by decide),cond_false,aa,aB,aB,aLd,aCh,aa,aH6,aa,aa,aa,smI hn hs4 hp1,aIV,k12]
 rw[aI,dt (by decide),cond_true,aCl,aa,aCa,aa,pdI hp2,aB]
 rw[ik32,dt (by decide),cond_true,aB,pdJ hp2,aa,aB,aB,aNr,aCZ,aa,aG7,aa,aa,aa,smJ hn hs0 hp2,aIU,k23]
 rw[aI,dt (by decide),cond_true,aCl,aa,aCl,aa,pdI hp3,aB]
 rw[ik33,dt (by decide),cond_true,aB,pdJ hp3,aa,aB,aB,aQn,aCf,aa,aH4,aa,aa,aa,smJ hn hs1 hp3,aIQ,k34]
 rw[aI,dt (by decide),cond_true,aCl,aa,aCm,aa,pdI hp4,aB]
 rw[ik34,dt (by decide),cond_true,aB,pdJ hp4,aa,aB,aB,aUM,aCc,aa,aHT,aa,aa,aa,smJ hn hs2 hp4,aIN,k45]
 rw[aI,df (by decide),cond_false]
theorem row4(N:Nat)(hN:10 < N){n:Int}(hn:0<=n/\n<=5){a0 a1 a2 a3 a4 b0 b1 b2 b3 b4 s0 s1 s2 s3 s4:Int}(hp0:pd (a4*b0))(hp1:pd (a4*b1))(hp2:pd (a4*b2))(hp3:pd (a4*b3))(hp4:pd (a4*b4))(hs0:sm n s0)(hs1:sm n s1)(hs2:sm n s2)(hs3:sm n s3)(hs4:sm n s4):aI N #v[a0,a1,a2,a3,a4] 4 #v[b0,b1,b2,b3,b4] N #v[s0,s1,s2,s3,s4] 0=some #v[s0+5*(a4*b1),s1+5*(a4*b2),s2+5*(a4*b3),s3+5*(a4*b4),s4+a4*b0]/\sm (n+1) (s0+5*(a4*b1))/\sm (n+1) (s1+5*(a4*b2))/\sm (n+1) (s2+5*(a4*b3))/\sm (n+1) (s3+5*(a4*b4))/\sm (n+1) (s4+a4*b0):=by
 obtain⟨k,rfl⟩:∃j,N=j+6:=⟨N - 6,by omega⟩
 refine⟨?_,smT hn hs0 hp1,smT hn hs1 hp2,smT hn hs2 hp3,smT hn hs3 hp4,smS hn hs4 hp0⟩
 rw[aI,dt (by decide),cond_true,aCm,aa,aCj,aa,pdI hp0,aB]
 rw[ik40,df (by decide),cond_false,aa,aB,aB,aLd,aCh,aa,aH6,aa,aa,aa,smI hn hs4 hp0,aIV,k01]
 rw[aI,dt (by decide),cond_true,aCm,aa,aCr,aa,pdI hp1,aB]
 rw[ik41,dt (by decide),cond_true,aB,pdJ hp1,aa,aB,aB,aNr,aCZ,aa,aG7,aa,aa,aa,smJ hn hs0 hp1,aIU,k12]
 rw[aI,dt (by decide),cond_true,aCm,aa,aCa,aa,pdI hp2,aB]
 rw[ik42,dt (by decide),cond_true,aB,pdJ hp2,aa,aB,aB,aQn,aCf,aa,aH4,aa,aa,aa,smJ hn hs1 hp2,aIQ,k23]
 rw[aI,dt (by decide),cond_true,aCm,aa,aCl,aa,pdI hp3,aB]
 rw[ik43,dt (by decide),cond_true,aB,pdJ hp3,aa,aB,aB,aUM,aCc,aa,aHT,aa,aa,aa,smJ hn hs2 hp3,aIN,k34]
 rw[aI,dt (by decide),cond_true,aCm,aa,aCm,aa,pdI hp4,aB]
 rw[ik44,dt (by decide),cond_true,aB,pdJ hp4,aa,aB,aB,tm5_8,aCe,aa,aGo,aa,aa,aa,smJ hn hs3 hp4,aIX,k45]
 rw[aI,df (by decide),cond_false]
theorem prodV(a0 a1 a2 a3 a4 b0 b1 b2 b3 b4:Int):mQ (0+a0*b0+5*(a1*b4)+5*(a2*b3)+5*(a3*b2)+5*(a4*b1)) (0+a0*b1+a1*b0+5*(a2*b4)+5*(a3*b3)+5*(a4*b2)) (0+a0*b2+a1*b1+a2*b0+5*(a3*b4)+5*(a4*b3)) (0+a0*b3+a1*b2+a2*b1+a3*b0+5*(a4*b4)) (0+a0*b4+a1*b3+a2*b2+a3*b1+a4*b0)+PP*(1*(a1*b4)+1*(a2*b3)+67108864*(a2*b4)+1*(a3*b2)+67108864*(a3*b3)+4503599627370496*(a3*b4)+1*(a4*b1)+67108864*(a4*b2)+4503599627370496*(a4*b3)+302231454903657293676544*(a4*b4))=mQ a0 a1 a2 a3 a4*mQ b0 b1 b2 b3 b4:=by
 unfold mQ;simp only[PP]
 grind
def d27(x:Int):Prop:=0<=x/\x < 134217728
theorem pdM{a b:Int}(ha:d27 a)(hb:d26 b):pd (a*b):=by
 unfold d27 d26 at *;have h1:=j9 ha.1 hb.1;have h2:a*b<=134217727*67108863:=jb (by omega) (by omega) hb.1 (by decide)
 unfold pd;exact⟨h1,by omega⟩
theorem smN{x:Int}(h:sm 5 x):ng x:=by unfold sm ng at *;omega
theorem aVm(N:Nat)(hN:10 < N){a0 a1 a2 a3 a4 b0 b1 b2 b3 b4:Int}(ha0:d27 a0)(ha1:d27 a1)(ha2:d27 a2)(ha3:d27 a3)(ha4:d27 a4)(hb:Dok b0 b1 b2 b3 b4):∃c0 c1 c2 c3 c4 H,qL N #v[a0,a1,a2,a3,a4] #v[b0,b1,b2,b3,b4]=some #v[c0,c1,c2,c3,c4]/\Dok c0 c1 c2 c3 c4/\mQ c0 c1 c2 c3 c4+PP*H=mQ a0 a1 a2 a3 a4*mQ b0 b1 b2 b3 b4:=by
 obtain⟨h0,h1,h2,h3,h4⟩:=hb;have z:sm 0 0:=⟨by decide,by decide⟩
 obtain⟨r0,q00,q01,q02,q03,q04⟩:=row0 N hN (n:=0) ⟨by decide,by decide⟩ (a0:=a0) (a1:=a1) (a2:=a2) (a3:=a3) (a4:=a4) (pdM ha0 h0) (pdM ha0 h1) (pdM ha0 h2) (pdM ha0 h3) (pdM ha0 h4) z z z z z;obtain⟨r1,q10,q11,q12,q13,q14⟩:=row1 N hN (n:=1) ⟨by decide,by decide⟩ (a0:=a0) (a1:=a1) (a2:=a2) (a3:=a3) (a4:=a4) (pdM ha1 h0) (pdM ha1 h1) (pdM ha1 h2) (pdM ha1 h3) (pdM ha1 h4) q00 q01 q02 q03 q04;obtain⟨r2,q20,q21,q22,q23,q24⟩:=row2 N hN (n:=2) ⟨by decide,by decide⟩ (a0:=a0) (a1:=a1) (a2:=a2) (a3:=a3) (a4:=a4) (pdM ha2 h0) (pdM ha2 h1) (pdM ha2 h2) (pdM ha2 h3) (pdM ha2 h4) q10 q11 q12 q13 q14;obtain⟨r3,q30,q31,q32,q33,q34⟩:=row3 N hN (n:=3) ⟨by decide,by decide⟩ (a0:=a0) (a1:=a1) (a2:=a2) (a3:=a3) (a4:=a4) (pdM ha3 h0) (pdM ha3 h1) (pdM ha3 h2) (pdM ha3 h3) (pdM ha3 h4) q20 q21 q22 q23 q24;obtain⟨r4,q40,q41,q42,q43,q44⟩:=row4 N hN (n:=4) ⟨by decide,by decide⟩ (a0:=a0) (a1:=a1) (a2:=a2) (a3:=a3) (a4:=a4) (pdM ha4 h0) (pdM ha4 h1) (pdM ha4 h2) (pdM ha4 h3) (pdM ha4 h4) q30 q31 q32 q33 q34;obtain⟨c0,c1,c2,c3,c4,H,e,hd,hv⟩:=aLa N hN (smN q40) (smN q41) (smN q42) (smN q43) (smN q44)
 refine⟨c0,c1,c2,c3,c4,H+(1*(a1*b4)+1*(a2*b3)+67108864*(a2*b4)+1*(a3*b2)+67108864*(a3*b3)+4503599627370496*(a3*b4)+1*(a4*b1)+67108864*(a4*b2)+4503599627370496*(a4*b3)+302231454903657293676544*(a4*b4)),?_,hd,?_⟩
 ·obtain⟨k,hk⟩:∃j,N=j+6:=⟨N - 6,by omega⟩
  have zz:(ah 5 (0:Int))=#v[0,0,0,0,0]:=rfl;have l1:cH N #v[a0,a1,a2,a3,a4] #v[b0,b1,b2,b3,b4] (k+6) (ah 5 0) 0=some #v[0+a0*b0+5*(a1*b4)+5*(a2*b3)+5*(a3*b2)+5*(a4*b1),0+a0*b1+a1*b0+5*(a2*b4)+5*(a3*b3)+5*(a4*b2),0+a0*b2+a1*b1+a2*b0+5*(a3*b4)+5*(a4*b3),0+a0*b3+a1*b2+a2*b1+a3*b0+5*(a4*b4),0+a0*b4+a1*b3+a2*b2+a3*b1+a4*b0]:=by
   rw[zz,cH,dt (by decide),cond_true,r0,aa,k01,cH,dt (by decide),cond_true,r1,aa,k12,cH,dt (by decide),cond_true,r2,aa,k23,cH,dt (by decide),cond_true,r3,aa,k34,cH,dt (by decide),cond_true,r4,aa,k45,cH,df (by decide),cond_false]
  rw[<- hk] at l1;unfold qL;rw[l1,aa,e,aa]
 ·rw[<- prodV,<- hv,Int.mul_add]
  omega
theorem bitV : ∀(l:List Int),aS l->∀i:Nat,i < 8*l.length->leV l / ((2 ^ i:Nat):Int) % 2=(l.getD (i / 8) 0) / ((2 ^ (i % 8):Nat):Int) % 2
 | [],_,i,h=>by simp at h
 | x :: t,hb,i,h=>by
  have hx:=hb x (gu)
  unfold isB at hx;rw[leV]
  by_cases c:i < 8
  ·have e1:i / 8=0:=by omega
   have e2:i % 8=i:=by omega
   rw[e1,e2]
   show _=x / _ % 2;have cc:i=0\/i=1\/i=2\/i=3\/i=4\/i=5\/i=6\/i=7:=by omega
   generalize leV t=T;rcases cc with rfl | rfl | rfl | rfl | rfl | rfl | rfl | rfl <;> simp only[fa] <;> omega
  ·obtain⟨k,rfl⟩:∃k,i=k+8:=⟨i - 8,by omega⟩
   have ih:=bitV t (λy hy=>hb y (il _ hy)) k (by rw[dc] at h;omega)
   have e1:(k+8) / 8=k / 8+1:=by omega
   have e2:(k+8) % 8=k % 8:=by omega
   have e3:((2 ^ (k+8):Nat):Int)=256*((2 ^ k:Nat):Int):=by rw[fq,f0,jc];rfl
   rw[e1,e2,e3,List.getD_cons_succ,<- ih,<- i7 (by decide)]
   congr 2;omega
def dg(X i j:Nat):Nat:=X % 2 ^ i / 2 ^ (26*j) % 67108864
theorem dg0(X i j q:Nat)(hq:q=i / 26)(hb:X / 2 ^ i % 2=1):dg X (i+1) j=if j=q then dg X i j+2 ^ (i % 26) else dg X i j:=by
 have hm:X % 2 ^ (i+1)=X % 2 ^ i+2 ^ i:=by rw[dq,iv,hb,Nat.mul_one]
 have hlt:X % 2 ^ i < 2 ^ i:=fu _ (f6 i)
 unfold dg;rw[hm]
 generalize X % 2 ^ i=M at *;have er:i=26*q+i % 26:=by omega
 have hr:i % 26 < 26:=fu _ (by decide)
 generalize i % 26=r at *;have ep:2 ^ i=2 ^ (26*q)*2 ^ r:=by rw[er,fq]
 have hr2:2 ^ r*2<=67108864:=by
  have:2 ^ (r+1)<=2 ^ 26:=fc (by decide) (by omega)
  rw[dq] at this;exact this
 by_cases c:j=q
 ·subst c;rw[if_pos rfl,ep,fe _ _ (f6 _)]
  have hd:M / 2 ^ (26*j) < 2 ^ r:=by
   rw[ky (f6 _),Nat.mul_comm,<- ep];exact hlt
  rw[jh (by omega),jh (by omega)]
 ·rw[if_neg c]
  by_cases c2:j < q
  ·have e2:2 ^ i=2 ^ (26*j)*(67108864*2 ^ (26*(q - j - 1)+r)):=by
    have:i=26*j+(26+(26*(q - j - 1)+r)):=by omega
    rw[this,fq,fq 2 26]
   rw[e2,fe _ _ (f6 _),jv]
  ·have e3:2 ^ i*2<=2 ^ (26*j):=by
    rw[<- dq]
    exact fc (by decide) (by omega)
   rw[na (by omega),na (by omega)]
theorem dg1(X i j:Nat)(hb:X / 2 ^ i % 2=0):dg X (i+1) j=dg X i j:=by
 unfold dg;rw[dq,iv,hb,kx,Nat.add_zero]
theorem aUo(X i j:Nat):dg X i j < 67108864:=fu _ (by decide)
theorem band1{x:Int}(h:isB x):cF .u8 x 1=x % 2:=by
 have key:∀y:Fin 256,cF .u8 (y.val:Int) 1=(y.val:Int) % 2:=by decide +kernel
 unfold isB at h;have:=key ⟨x.toNat,by omega⟩
 rwa[dz h.1] at this
def DgI(X i:Nat)(s:Vector Int 5):Prop:=∀j,j < 5->s.toList[j]? = some ((dg X (min i 130) j:Nat):Int)
theorem aTc(N:Nat)(hN:200 < N){b:Vector Int 17}(hb:aS b.toList){X:Nat}(hX:leV b.toList=(X:Int)):T (kR N b) (DgI X 136):=by
 unfold kR;have bl:b.toList.length=17:=by simp
 refine T.bind (T.loop0 (n:=136) (by decide) (λi s=>DgI X i s) (F:=fT N b) (λk s i hi hs Q hk=>?_) (λk s=>by rw[fT,df,cond_false]) (by omega) (λj hj=>?_)) λp1 h1=>T.ret h1
 ·have t8:de (i:Int) 8=((i / 8:Nat):Int):=by rw[da (by omega)];omega
  have m8:cj (i:Int) 8=((i % 8:Nat):Int):=by rw[cv (by omega)];omega
  have t26:de (i:Int) 26=((i / 26:Nat):Int):=by rw[da (by omega)];omega
  have m26:cj (i:Int) 26=((i % 26:Nat):Int):=by rw[cv (by omega)];omega
  have i8:I64 (((i / 8:Nat):Int))=((i / 8:Nat):Int):=aT;have i26:I64 (((i / 26:Nat):Int))=((i / 26:Nat):Int):=aT;rw[fT,dt,cond_true,t8,m8,t26,m26,i8,i26,cI]
  have ge:b.toList[i / 8]? = some (b.toList.getD (i / 8) 0):=by rw[ap,af (by omega)];rfl
  have be:isB (b.toList.getD (i / 8) 0):=hb _ (j1 ge)
  have bit:=bitV b.toList hb i (by omega)
  rw[hX] at bit;rw[lE,ge,aa,jH .u8,aa,zR .u8 _ _ (i % 8) rfl (by show i % 8<=8;omega)]
  have pe:(2:Int) ^ (i % 8)=((2 ^ (i % 8):Nat):Int):=by rw[fo];rfl
  rw[pe]
  have pp:0 < ((2 ^ (i % 8):Nat):Int):=Int.natCast_pos.2 (f6 _)
  have b2:isB (b.toList.getD (i / 8) 0 / ((2 ^ (i % 8):Nat):Int)):=by
   unfold isB at *;exact⟨Int.ediv_nonneg be.1 (by omega),Int.lt_of_le_of_lt (Int.ediv_le_self _ be.1) be.2⟩
  rw[band1 b2,<- bit]
  have bn:((X:Int) / ((2 ^ i:Nat):Int) % 2)=((X / 2 ^ i % 2:Nat):Int):=by omega
  rw[bn,aB]
  have same:(∀j,dg X (min (i+1) 130) j=dg X (min i 130) j)->DgI X (i+1) s:=λh j hj=>by rw[hs j hj,h]
  by_cases c1:X / 2 ^ i % 2=1
  ·rw[c1,show(((1:Nat):Int)==1)=true from rfl,cond_true]
   by_cases c2:i < 130
   ·rw[dt,cond_true,bR,aa]
    have q5:i / 26 < 5:=by omega
    have g:=hs (i / 26) q5;have mi:min i 130=i:=by omega
    have mi1:min (i+1) 130=i+1:=by omega
    have tq:((i / 26:Nat):Int).toNat=i / 26:=rfl;obtain⟨w,hw,lw⟩:∃w:Nat,w=2 ^ (i % 26)/\w<=33554432:=⟨_,rfl,Nat.le_trans (fc (by decide) (show i % 26<=25 by omega)) (by decide)⟩
    have sh:shl .i64 1 ((i % 26:Nat):Int)=(w:Int):=by
     rw[shlI 1 (i % 26),o9]
     have:(2:Int) ^ (i % 26)=((2 ^ (i % 26):Nat):Int):=by rw[fo];rfl
     rw[this,<- hw]
     exact aT
    have dl:=aUo X i (i / 26)
    have dgw:=λj=>dg0 X i j (i / 26) rfl c1;rw[<- hw] at dgw;rw[tq,g,aa,uM .i64,aa,aa,aa,aa,sh,mi]
    have hI:I64 (((dg X i (i / 26):Nat):Int)+(w:Int))=((dg X i (i / 26):Nat):Int)+(w:Int):=by
     generalize dg X i (i / 26)=D at *;exact aT
    rw[hI]
    refine hk _ λj hj=>?_;rw[mi1,bo,cp,dgw]
    by_cases e:i / 26=j
    ·subst e;rw[if_pos rfl,if_pos (by simp;omega),if_pos rfl,Int.natCast_add]
    ·rw[if_neg e,if_neg (λh=>e h.symm),hs j hj,mi]
   ·rw[df,cond_false,aa]
    refine hk _ (same λj=>?_)
    rw[show min (i+1) 130=130 by omega,show min i 130=130 by omega]
  ·have c0:X / 2 ^ i % 2=0:=by omega
   rw[c0,show(((0:Nat):Int)==1)=false from rfl,cond_false,cond_false,aa]
   refine hk _ (same λj=>?_)
   by_cases c2:i < 130
   ·rw[show min (i+1) 130=i+1 by omega,show min i 130=i by omega,dg1 X i j c0]
   ·rw[show min (i+1) 130=130 by omega,show min i 130=130 by omega]
 ·have z:(ah 5 (0:Int)).toList=aj 5 0:=rfl;rw[z,cq,if_pos hj]
  unfold dg;rw[show min 0 130=0 from rfl,je,jt,Nat.zero_div,Nat.zero_mod]
  rfl
theorem T.loopG{σ ρ:Type}{n:Nat}(I:Nat->σ->Prop)(Q:ρ->Prop){F:Nat->σ->Int->Option ρ}
  (hstep:∀k s i,i < n->I i s->(∀s',I (i+1) s'->T (F k s' ((i+1:Nat):Int)) Q)->T (F (k+1) s (i:Int)) Q) (hend:∀k s,I n s->T (F (k+1) s (n:Int)) Q) :
  ∀(k i:Nat) (s:σ),I i s->i<=n->n - i < k->T (F k s (i:Int)) Q
 | 0,i,_,_,_,h=>by omega
 | k+1,i,s,hs,hi,hk=>by
  by_cases h:i < n
  ·exact hstep k s i h hs λs' h'=>T.loopG I Q hstep hend k (i+1) s' h' (by omega) (by omega)
  ·obtain rfl:i=n:=by omega
   exact hend _ _ hs
theorem T.loopG0{σ ρ:Type}{n:Nat}(I:Nat->σ->Prop)(Q:ρ->Prop){F:Nat->σ->Int->Option ρ}
  (hstep:∀k s i,i < n->I i s->(∀s',I (i+1) s'->T (F k s' ((i+1:Nat):Int)) Q)->T (F (k+1) s (i:Int)) Q) (hend:∀k s,I n s->T (F (k+1) s (n:Int)) Q) {N:Nat} (hN:n < N) {s:σ} (hs:I 0 s:=by simp):T (F N s 0) Q:=
 T.loopG I Q hstep hend N 0 s hs (by omega) (by omega)
theorem vec5(v:Vector Int 5){a b c d e:Int}(h0:v.toList[0]? = some a)(h1:v.toList[1]? = some b)(h2:v.toList[2]? = some c)(h3:v.toList[3]? = some d)(h4:v.toList[4]? = some e):v=#v[a,b,c,d,e]:=by
 apply fb.1;apply cz;intro j;have cc:j=0\/j=1\/j=2\/j=3\/j=4\/5<=j:=by omega
 rcases cc with rfl | rfl | rfl | rfl | rfl | h
 ·rw[h0];rfl
 ·rw[h1];rfl
 ·rw[h2];rfl
 ·rw[h3];rfl
 ·rw[h4];rfl
 ·rw[ar (by simp;omega),ar (by simp;omega)]
theorem aNH(N:Nat)(hN:200 < N){b:Vector Int 17}(hb:aS b.toList)(hl:leV b.toList < aDS):∃d0 d1 d2 d3 d4,kR N b=some #v[d0,d1,d2,d3,d4]/\Dok d0 d1 d2 d3 d4/\mQ d0 d1 d2 d3 d4=leV b.toList:=by
 have l0:=(aHS _ hb).1;obtain⟨X,hX⟩:=br l0;obtain⟨r,e,h⟩:=aTc N hN hb hX;have g:=λj (hj:j < 5)=>h j hj;have hv:=vec5 r (g 0 (by decide)) (g 1 (by decide)) (g 2 (by decide)) (g 3 (by decide)) (g 4 (by decide))
 rw[hv] at e;have lt:=λj=>aUo X (min 136 130) j;refine⟨_,_,_,_,_,e,⟨⟨by omega,by have:=lt 0;omega⟩,⟨by omega,by have:=lt 1;omega⟩,⟨by omega,by have:=lt 2;omega⟩,⟨by omega,by have:=lt 3;omega⟩,⟨by omega,by have:=lt 4;omega⟩⟩,?_⟩
 rw[hX]
 rw[hX] at hl;simp only[aDS] at hl;unfold mQ dg;have m:X % 2 ^ min 136 130=X:=jh (by show X < 1361129467683753853853498429727072845824;omega)
 rw[m]
 simp only[gg,fa,kx,je,Nat.div_one]
 omega
theorem addL4(N:Nat)(hN:10 < N){a b c d e a' b' c' d' e':Int}(h:Dok a b c d e)(h':Dok a' b' c' d' e'):cV N #v[a',b',c',d',e'] N #v[a,b,c,d,e] 0=some #v[a+a',b+b',c+c',d+d',e+e']/\(d27 (a+a')/\d27 (b+b')/\d27 (c+c')/\d27 (d+d')/\d27 (e+e'))/\mQ (a+a') (b+b') (c+c') (d+d') (e+e')=mQ a b c d e+mQ a' b' c' d' e':=by
 obtain⟨h1,h2,h3,h4,h5⟩:=h;obtain⟨g1,g2,g3,g4,g5⟩:=h';have sI:∀{x y:Int},d26 x->d26 y->I64 (x+y)=x+y/\d27 (x+y):=by
  intro x y hx hy;unfold d26 at hx hy;unfold d27;exact⟨aT,by omega,by omega⟩
 refine⟨?_,⟨(sI h1 g1).2,(sI h2 g2).2,(sI h3 g3).2,(sI h4 g4).2,(sI h5 g5).2⟩,?_⟩
 ·obtain⟨k,rfl⟩:∃j,N=j+6:=⟨N - 6,by omega⟩
  rw[cV,dt (by decide),cond_true,aCZ,aa,aG7,aa,aa,aG7,aa,aa,aa,(sI h1 g1).1,aIU,k01]
  rw[cV,dt (by decide),cond_true,aCf,aa,aH4,aa,aa,aH4,aa,aa,aa,(sI h2 g2).1,aIQ,k12]
  rw[cV,dt (by decide),cond_true,aCc,aa,aHT,aa,aa,aHT,aa,aa,aa,(sI h3 g3).1,aIN,k23]
  rw[cV,dt (by decide),cond_true,aCe,aa,aGo,aa,aa,aGo,aa,aa,aa,(sI h4 g4).1,aIX,k34]
  rw[cV,dt (by decide),cond_true,aCh,aa,aH6,aa,aa,aH6,aa,aa,aa,(sI h5 g5).1,aIV,k45]
  rw[cV,df (by decide),cond_false]
 ·unfold mQ;omega
theorem refL2(N:Nat)(hN:30 < N){l:List Int}(hl:l.length<=65536){n:Nat}(hn:16*n+16<=l.length):T (eN N ((16*n:Nat):Int) l N (ah 17 0) 0) (λr=>r.2=16/\r.1.toList=(l.drop (16*n)).take 16++[0]):=by
 refine T.loopG0 (n:=16) (λi (v:Vector Int 17)=>∀j,j < 17->v.toList[j]? = some (if j < i then l.getD (16*n+j) 0 else 0)) _ (F:=λk (v:Vector Int 17) i=>eN N ((16*n:Nat):Int) l k v i) (λk v i hi hv hk=>?_) (λk v hv=>?_) (by omega) (s:=ah 17 0) (λj hj=>?_)
 ·have e:I64 (((16*n:Nat):Int)+(i:Int))=((16*n+i:Nat):Int):=by rw[aT];omega
  have g:l[16*n+i]? = some (l.getD (16*n+i) 0):=by rw[ap,af (by omega)];rfl
  rw[eN,e,aB,dt (show(i:Int) < 16 by omega),cond_true,aB,dt,cond_true,lE,g,aa,bR,aa,cI]
  have ti:((i:Nat):Int).toNat=i:=rfl;rw[ti,hv i (by omega),aa]
  refine hk _ λj hj=>?_;rw[bo,cp]
  by_cases c:i=j
  ·subst c;rw[if_pos rfl,if_pos (by simp;omega),if_pos (by omega)]
  ·rw[if_neg c,hv j hj]
   by_cases c2:j < i
   ·rw[if_pos c2,if_pos (by omega)]
   ·rw[if_neg c2,if_neg (by omega)]
 ·rw[eN,aB,df (show ¬(((16:Nat):Int) < 16) by omega),cond_false,aB,cond_false]
  refine T.ret ⟨rfl,?_⟩
  apply cz;intro j;have tl:((l.drop (16*n)).take 16).length=16:=by rw[bj,cd];omega
  by_cases c:j < 17
  ·rw[hv j c]
   by_cases c2:j < 16
   ·rw[if_pos c2,bx (by omega),cw,if_pos c2,ff,ap,af (by omega)]
    rfl
   ·rw[if_neg c2,cf (by omega),tl,show j - 16=0 by omega]
    rfl
  ·rw[ar (by simp;omega),ar (by rw[ai,tl,cr];omega)]
 ·have z:(ah 17 (0:Int)).toList=aj 17 0:=rfl;rw[z,cq,if_pos hj,if_neg (by omega)]
def Blk(l:List Int)(bs:List (Vector Int 17))(m:Nat):Prop:=bs.length=m/\∀i,i < m->∃v,bs[i]? = some v/\v.toList=(l.drop (16*i)).take 16++[1]
theorem refL1(N:Nat)(hN:30 < N){l:List Int}(hl:l.length<=65536){m:Nat}(hm:l.length=16*m):∀(d k n:Nat) (acc:List (Vector Int 17)),n+d=m->d < k->Blk l acc n->∃bs,fX N l k acc ((16*n:Nat):Int)=some bs/\Blk l bs m:=by
 intro d
 induction d with
 | zero=>
  intro k n acc hn hk h;obtain⟨k,rfl⟩:∃j,k=j+1:=⟨k - 1,by omega⟩
  obtain rfl:n=m:=by omega
  exact⟨acc,by rw[fX,aB,df,cond_false],h⟩
 | succ d ih=>
  intro k n acc hn hk h;obtain⟨k,rfl⟩:∃j,k=j+1:=⟨k - 1,by omega⟩
  obtain⟨⟨v,w⟩,e,h16,hv⟩:=refL2 N hN hl (n:=n) (by omega)
  dsimp only at h16 hv;subst h16;have ge:v.toList[16]? = some 0:=by
   rw[hv,cf (by rw[bj,cd];omega),bj,cd,show 16 - min 16 (l.length - 16*n)=0 by omega]
   rfl
  have hs:(v.setIfInBounds 16 1).toList=(l.drop (16*n)).take 16++[1]:=by
   rw[bo,hv,gf _ _ (by rw[bj];omega)]
   rw[bj,cd,show 16 - min 16 (l.length - 16*n)=0 by omega]
   rfl
  obtain⟨hl2,hb⟩:=h;have nb:Blk l (acc++[v.setIfInBounds 16 1]) (n+1):=by
   refine⟨by rw[ai,hl2];rfl,λi hi=>?_⟩
   by_cases c:i < n
   ·obtain⟨u,h1,h2⟩:=hb i c;exact⟨u,by rw[bx (by omega)];exact h1,h2⟩
   ·obtain rfl:i=n:=by omega
    exact⟨_,by rw[cf (by omega),hl2,Nat.sub_self];rfl,hs⟩
  obtain⟨bs,e2,h2⟩:=ih k (n+1) _ (by omega) (by omega) nb;refine⟨bs,?_,h2⟩
  have i16:I64 (((16*n:Nat):Int)+16)=((16*(n+1):Nat):Int):=by rw[aT];omega
  have t16:(16:Int).toNat=16:=rfl;rw[fX,aB,dt,cond_true,e,aa]
  dsimp only;rw[show aO 16 17=some () from rfl,aa,t16,ge,aa,dG (by rw[hl2,cr];omega),aa,i16,e2]
theorem aO4(N:Nat)(hN:70000 < N){l:List Int}(hl:l.length<=65536){m:Nat}(hm:l.length=16*m):∃bs,pF N l=some bs/\Blk l bs m:=by
 obtain⟨bs,e,h⟩:=refL1 N (by omega) hl hm m N 0 [] (by omega) (by omega) ⟨rfl,λi hi=>absurd hi (by omega)⟩
 refine⟨bs,?_,h⟩
 unfold pF vC;rw[aB,df,cond_false,aa]
 have z:((16*0:Nat):Int)=0:=rfl;rw[z] at e;rw[e,aa]
theorem aQp{V V' c H1 H2 R b p:Int}(h1:c+PP*H1=b+V)(h2:V'+PP*H2=c*R)(hp:V % PP=p):V' % PP=((p+b)*R) % PP:=by
 refine aOS (H:=H2+H1*R) ?_ hp;have:c=b+V - PP*H1:=by omega
 subst this;generalize PP=q at *
 grind
theorem refL3(N:Nat)(hN:70000 < N){l:List Int}(hb:aS l)(hl:l.length<=65536){m:Nat}(hm:l.length=16*m){bs:List (Vector Int 17)}(hbs:Blk l bs m){r0 r1 r2 r3 r4:Int}(hr:Dok r0 r1 r2 r3 r4) :
  ∀(d k n:Nat) (a b c e f:Int),n+d=m->d < k->Dok a b c e f->mQ a b c e f % PP=aIm (mQ r0 r1 r2 r3 r4) l n ->
  ∃a' b' c' e' f',Dok a' b' c' e' f'/\mQ a' b' c' e' f' % PP=aIm (mQ r0 r1 r2 r3 r4) l m/\kM N bs #v[r0,r1,r2,r3,r4] k #v[a,b,c,e,f] (n:Int)=some #v[a',b',c',e',f']:=by
 obtain⟨bl,bg⟩:=hbs;intro d
 induction d with
 | zero=>
  intro k n a b c e f hn hk h hv;obtain⟨k,rfl⟩:∃j,k=j+1:=⟨k - 1,by omega⟩
  obtain rfl:n=m:=by omega
  refine⟨a,b,c,e,f,h,hv,?_⟩
  rw[kM,aB,df,cond_false]
 | succ d ih=>
  intro k n a b c e f hn hk h hv;obtain⟨k,rfl⟩:∃j,k=j+1:=⟨k - 1,by omega⟩
  obtain⟨v,gv,tv⟩:=bg n (by omega)
  have tl:((l.drop (16*n)).take 16).length=16:=by rw[bj,cd];omega
  have tb:aS ((l.drop (16*n)).take 16):=λx hx=>hb x (ct (ce hx))
  have vb:aS v.toList:=by
   rw[tv]
   intro x hx;rcases d9.1 hx with h' | h'
   ·exact tb x h'
   ·rw[hW.1 h'];exact⟨by decide,by decide⟩
  have lv:leV v.toList=leV ((l.drop (16*n)).take 16)+W2:=by
   rw[tv,aES,tl,o9];rfl
  have lb:=aHS _ tb;rw[tl] at lb;have lt:leV v.toList < aDS:=by
   rw[lv]
   have:((256 ^ 16:Nat):Int)=340282366920938463463374607431768211456:=by decide
   rw[this] at lb;simp only[aDS,W2]
   omega
  obtain⟨d0,d1,d2,d3,d4,E1,D1,V1⟩:=aNH N (by omega) vb lt;obtain⟨E2,⟨g0,g1,g2,g3,g4⟩,V2⟩:=addL4 N (by omega) D1 h;have n27:∀{x:Int},d27 x->ng x:=by intro x hx;unfold d27 at hx;unfold ng;omega
  obtain⟨c0,c1,c2,c3,c4,H1,E3,D3,V3⟩:=aLa N (by omega) (n27 g0) (n27 g1) (n27 g2) (n27 g3) (n27 g4)
  have n26:∀{x:Int},d26 x->d27 x:=by intro x hx;unfold d26 at hx;unfold d27;omega
  obtain⟨x0,x1,x2,x3,x4,H2,E4,D4,V4⟩:=aVm N (by omega) (n26 D3.a) (n26 D3.b) (n26 D3.c) (n26 D3.d) (n26 D3.e) hr;rw[V2,V1,lv] at V3;obtain⟨a',b',c',e',f',q1,q2,q3⟩:=ih k (n+1) x0 x1 x2 x3 x4 (by omega) (by omega) D4 (aQp V3 V4 hv)
  refine⟨a',b',c',e',f',q1,q2,?_⟩
  rw[kM,aB,dt,cond_true,lE,gv,aa,E1,aa,E2,aa,E3,aa,E4,aa,cI]
  exact q3
theorem aHB(N:Nat)(hN:10 < N){a b c d e:Int}(h:Dok a b c d e)(k i:Nat)(hi:i < 2:=by decide):∃a' b' c' d' e',Dok a' b' c' d' e'/\mQ a' b' c' d' e'=(if mQ a b c d e>=PP then mQ a b c d e - PP else mQ a b c d e)/\cU N (k+1) #v[a,b,c,d,e] (i:Int)=cU N k #v[a',b',c',d',e'] ((i+1:Nat):Int):=by
 have h0:=h;obtain⟨h1,h2,h3,h4,h5⟩:=h;unfold d26 at h1 h2 h3 h4 h5;obtain⟨j,hj⟩:∃j,N=j+6:=⟨N - 6,by omega⟩
 have L2:cT N N #v[a+5,b,c,d,e] 0=some #v[(a+5) % 67108864,(b+(a+5) / 67108864) % 67108864,(c+(b+(a+5) / 67108864) / 67108864) % 67108864,(d+(c+(b+(a+5) / 67108864) / 67108864) / 67108864) % 67108864,e+(d+(c+(b+(a+5) / 67108864) / 67108864) / 67108864) / 67108864]:=by
  subst hj;obtain⟨f1,g1⟩:=aDn (x:=a+5)
  have hI1:I64 (b+(a+5) / 67108864)=b+(a+5) / 67108864:=aT;obtain⟨f2,g2⟩:=aDn (x:=b+(a+5) / 67108864)
  have hI2:I64 (c+(b+(a+5) / 67108864) / 67108864)=c+(b+(a+5) / 67108864) / 67108864:=aT;obtain⟨f3,g3⟩:=aDn (x:=c+(b+(a+5) / 67108864) / 67108864)
  have hI3:I64 (d+(c+(b+(a+5) / 67108864) / 67108864) / 67108864)=d+(c+(b+(a+5) / 67108864) / 67108864) / 67108864:=aT;obtain⟨f4,g4⟩:=aDn (x:=d+(c+(b+(a+5) / 67108864) / 67108864) / 67108864)
  have hI4:I64 (e+(d+(c+(b+(a+5) / 67108864) / 67108864) / 67108864) / 67108864)=e+(d+(c+(b+(a+5) / 67108864) / 67108864) / 67108864) / 67108864:=aT;rw[cT,dt (by decide),cond_true,aCZ,aa,aG7,aa,aa,aa,g1,aB,aa,aa,f1,aIU,k01,aCf,aa,aH4,aa,aB,aa,aa,hI1,aIQ]
  rw[cT,dt (by decide),cond_true,aCf,aa,aH4,aa,aa,aa,g2,aB,aa,aa,f2,aIQ,k12,aCc,aa,aHT,aa,aB,aa,aa,hI2,aIN]
  rw[cT,dt (by decide),cond_true,aCc,aa,aHT,aa,aa,aa,g3,aB,aa,aa,f3,aIN,k23,aCe,aa,aGo,aa,aB,aa,aa,hI3,aIX]
  rw[cT,dt (by decide),cond_true,aCe,aa,aGo,aa,aa,aa,g4,aB,aa,aa,f4,aIX,k34,aCh,aa,aH6,aa,aB,aa,aa,hI4,aIV]
  rw[cT,df (by decide),cond_false]
 have a5:I64 (a+5)=a+5:=aT;rw[cU,dt,cond_true,aCZ,aa,aG7,aa,aa,aa,a5,aIU,L2,aa,aCh,aa,aH6,aa,aB,cI]
 have vv:mQ ((a+5) % 67108864) ((b+(a+5) / 67108864) % 67108864) ((c+(b+(a+5) / 67108864) / 67108864) % 67108864) ((d+(c+(b+(a+5) / 67108864) / 67108864) / 67108864) % 67108864) (e+(d+(c+(b+(a+5) / 67108864) / 67108864) / 67108864) / 67108864)=mQ a b c d e+5:=by
  unfold mQ;omega
 have m0:0<=(a+5) % 67108864/\(a+5) % 67108864 < 67108864:=by omega
 have m1:0<=(b+(a+5) / 67108864) % 67108864/\(b+(a+5) / 67108864) % 67108864 < 67108864:=by omega
 have m2:0<=(c+(b+(a+5) / 67108864) / 67108864) % 67108864/\(c+(b+(a+5) / 67108864) / 67108864) % 67108864 < 67108864:=by omega
 have m3:0<=(d+(c+(b+(a+5) / 67108864) / 67108864) / 67108864) % 67108864/\(d+(c+(b+(a+5) / 67108864) / 67108864) / 67108864) % 67108864 < 67108864:=by omega
 have m4:0<=e+(d+(c+(b+(a+5) / 67108864) / 67108864) / 67108864) / 67108864/\e+(d+(c+(b+(a+5) / 67108864) / 67108864) / 67108864) / 67108864<=67108864:=by omega
 clear L2;generalize (a+5) % 67108864=A at *;generalize (b+(a+5) / 67108864) % 67108864=B at *;generalize (c+(b+(a+5) / 67108864) / 67108864) % 67108864=C at *;generalize (d+(c+(b+(a+5) / 67108864) / 67108864) / 67108864) % 67108864=D at *;generalize e+(d+(c+(b+(a+5) / 67108864) / 67108864) / 67108864) / 67108864=E at *;by_cases g:E>=67108864
 ·have e5:I64 (E - 67108864)=E - 67108864:=aT;rw[dt g,cond_true,aa,aa,aa,aa,aa,e5,aIV]
  refine⟨A,B,C,D,E - 67108864,⟨m0,m1,m2,m3,by omega,by omega⟩,?_,rfl⟩
  unfold mQ at *;simp only[PP]
  rw[if_pos (by omega)]
  omega
 ·rw[df g,cond_false,aa]
  refine⟨a,b,c,d,e,h0,?_,rfl⟩
  unfold mQ at *;simp only[PP]
  rw[if_neg (by omega)]
theorem aXB(N:Nat)(hN:10 < N){a b c d e:Int}(h:Dok a b c d e):∃a' b' c' d' e',qG N #v[a,b,c,d,e]=some #v[a',b',c',d',e']/\Dok a' b' c' d' e'/\mQ a' b' c' d' e'=mQ a b c d e % PP:=by
 obtain⟨k,hk⟩:∃k,N=k+3:=⟨N - 3,by omega⟩
 obtain⟨a1,b1,c1,d1,e1,h1,v1,q1⟩:=aHB N hN h (k+2) 0;obtain⟨a2,b2,c2,d2,e2,h2,v2,q2⟩:=aHB N hN h1 (k+1) 1;refine⟨a2,b2,c2,d2,e2,?_,h2,?_⟩
 ·unfold qG;rw[show cU N N #v[a,b,c,d,e] 0=cU N (k+2+1) #v[a,b,c,d,e] ((0:Nat):Int) by rw[hk];rfl,q1,q2,cU,df (by decide),cond_false]
  rfl
 ·have lt:=h.lt;rw[v2,v1]
  generalize mQ a b c d e=V at *;simp only[PP,aDS] at *;split <;> (try split) <;> omega
theorem aVK{a:Int}(h:0<=a/\a < 4611686018427387904):cF .i64 a 1=a % 2:=by
 obtain⟨A,rfl⟩:=br h.1;have h3:cF .i64 (A:Int) 1=I64 ((bz 64 (A:Int) &&& bz 64 ((1:Nat):Int)).toNat:Int):=rfl;have e:(bz 64 (A:Int) &&& bz 64 ((1:Nat):Int)).toNat=A % 2:=by
  rw[BitVec.toNat_and,show(bz 64 (A:Int)).toNat=A from aBx A,show(bz 64 ((1:Nat):Int)).toNat=1 from aBx 1 (by decide)]
  exact Nat.and_one_is_mod A
 rw[h3,e,aT]
 omega
theorem aV3(x T r:Nat)(hr:r < 26):(x+67108864*T) / 2 ^ r % 2=x / 2 ^ r % 2:=by
 have e:67108864=2 ^ r*(2*2 ^ (25 - r)):=by
  rw[<- Nat.pow_succ',<- fq,show r+(25 - r).succ=26 by omega]
 rw[e,jp,fe _ _ (f6 r),jp,jv]
def dv(v:Vector Int 5)(j:Nat):Int:=v.toList.getD j 0
theorem bit5{a b c d e:Int}(h:Dok a b c d e){V:Nat}(hV:mQ a b c d e=(V:Int)){t:Nat}(ht:t < 130):∃x:Nat,dv #v[a,b,c,d,e] (t / 26)=(x:Int)/\x < 67108864/\x / 2 ^ (t % 26) % 2=V / 2 ^ t % 2:=by
 obtain⟨h0,h1,h2,h3,h4⟩:=h;unfold d26 at *;obtain⟨a,rfl⟩:=br h0.1;obtain⟨b,rfl⟩:=br h1.1;obtain⟨c,rfl⟩:=br h2.1;obtain⟨d,rfl⟩:=br h3.1;obtain⟨e,rfl⟩:=br h4.1;unfold mQ at hV;have hr:t % 26 < 26:=fu _ (by decide)
 have et:t=26*(t / 26)+t % 26:=by omega
 have key:∀(q x T:Nat),t / 26=q->V / 2 ^ (26*q)=x+67108864*T->x / 2 ^ (t % 26) % 2=V / 2 ^ t % 2:=by
  intro q x T hq hx;have:V / 2 ^ t=(x+67108864*T) / 2 ^ (t % 26):=by
   rw[<- hx,ig,<- fq,<- hq,<- et]
  rw[this,aV3 x T _ hr]
 have cc:t / 26=0\/t / 26=1\/t / 26=2\/t / 26=3\/t / 26=4:=by omega
 rcases cc with q | q | q | q | q
 ·refine⟨a,by rw[q];rfl,by omega,key 0 a (b+67108864*c+4503599627370496*d+302231454903657293676544*e) q ?_⟩
  simp only[gg,fa];omega
 ·refine⟨b,by rw[q];rfl,by omega,key 1 b (c+67108864*d+4503599627370496*e) q ?_⟩
  simp only[gg,fa];omega
 ·refine⟨c,by rw[q];rfl,by omega,key 2 c (d+67108864*e) q ?_⟩
  simp only[gg,fa];omega
 ·refine⟨d,by rw[q];rfl,by omega,key 3 d e q ?_⟩
  simp only[gg,fa];omega
 ·refine⟨e,by rw[q];rfl,by omega,key 4 e 0 q ?_⟩
  simp only[gg,fa];omega
theorem refL6(N:Nat)(hN:20 < N){a b c d e:Int}(h:Dok a b c d e){V:Nat}(hV:mQ a b c d e=(V:Int)){i:Nat}(hi:i < 16){y:Int}(hy:0<=y/\y < 100000):T (fB N (i:Int) #v[a,b,c,d,e] N y 0) (λr=>r=y+((V / 2 ^ (8*i) % 256:Nat):Int)):=by
 have main:T (fB N (i:Int) #v[a,b,c,d,e] N y 0) (λr=>r=y+((V / 2 ^ (8*i) % 2 ^ 8:Nat):Int)):=by
  refine T.loop0 (n:=8) (by decide) (λk r=>r=y+((V / 2 ^ (8*i) % 2 ^ k:Nat):Int)) (F:=fB N (i:Int) #v[a,b,c,d,e]) (λf s k hk hs Q hq=>?_) (λf s=>by rw[fB,df,cond_false]) (by omega) (by rw[je,jt];exact(nw y).symm)
  have t8:I64 (I64 (8*(i:Int))+(k:Int))=((8*i+k:Nat):Int):=by rw[aT (x:=8*(i:Int)),aT];omega
  have td:de ((8*i+k:Nat):Int) 26=(((8*i+k) / 26:Nat):Int):=by rw[da (by omega)];omega
  have tm:cj ((8*i+k:Nat):Int) 26=(((8*i+k) % 26:Nat):Int):=by rw[cv (by omega)];omega
  have ti:I64 (((8*i+k) / 26:Nat):Int)=(((8*i+k) / 26:Nat):Int):=aT;obtain⟨x,hx,xl,xb⟩:=bit5 h hV (t:=8*i+k) (by omega)
  have g:(#v[a,b,c,d,e]:Vector Int 5).toList[(8*i+k) / 26]? = some (x:Int):=by
   rw[<- hx]
   unfold dv;rw[ap,af (by simp;omega)]
   rfl
  have tn:(((8*i+k) / 26:Nat):Int).toNat=(8*i+k) / 26:=rfl;rw[fB,dt,cond_true,t8,aB,td,tm,ti,bR,aa,tn,g,aa,jH .i64,aa,uM .i64,aa,cI]
  refine hq _ ?_;have pe:(2:Int) ^ ((8*i+k) % 26)=((2 ^ ((8*i+k) % 26):Nat):Int):=by rw[fo];rfl
  have sx:shr .i64 (x:Int) (((8*i+k) % 26:Nat):Int)=((x / 2 ^ ((8*i+k) % 26):Nat):Int):=by
   rw[zR .i64 _ _ ((8*i+k) % 26) rfl (by show(8*i+k) % 26<=64;omega),pe];rfl
  have xs:x / 2 ^ ((8*i+k) % 26)<=x:=Nat.div_le_self _ _;rw[sx]
  generalize x / 2 ^ ((8*i+k) % 26)=w at *;rw[aVK ⟨by omega,by omega⟩]
  have bt:((w:Nat):Int) % 2=((V / 2 ^ (8*i) / 2 ^ k % 2:Nat):Int):=by
   have:V / 2 ^ (8*i) / 2 ^ k % 2=V / 2 ^ (8*i+k) % 2:=by rw[ig,<- fq]
   rw[this,<- xb]
   omega
  rw[bt,hs]
  generalize V / 2 ^ (8*i)=B;have mm:B % 2 ^ (k+1)=B % 2 ^ k+2 ^ k*(B / 2 ^ k % 2):=by rw[dq,iv]
  have p2:(2:Int) ^ k=((2 ^ k:Nat):Int):=by rw[fo];rfl
  have le:2 ^ k<=2 ^ 7:=fc (by decide) (by omega)
  have c7:2 ^ 7=128:=by decide
  have ml:B % 2 ^ k < 2 ^ k:=fu _ (f6 k)
  rw[mm,shlI _ k,p2]
  have b2:B / 2 ^ k % 2=0\/B / 2 ^ k % 2=1:=by omega
  generalize B % 2 ^ k=M at *;generalize B / 2 ^ k % 2=z at *;generalize 2 ^ k=p at *;rcases b2 with rfl | rfl
  ·rw[show(((0:Nat):Int)*(p:Int))=0 by omega,aT (x:=0) (by decide) (by decide),aT];omega
  ·rw[show(((1:Nat):Int)*(p:Int))=(p:Int) by omega,aT (x:=(p:Int)),aT];omega
 exact main
theorem aNC : ∀(l:List Int),aS l->∀i,i < l.length->l[i]? = some (leV l / ((256 ^ i:Nat):Int) % 256)
 | [],_,i,h=>by simp at h
 | x :: t,hb,0,_=>by
  have hx:=hb x (gu)
  unfold isB at hx;show some x=_;rw[leV,show((256 ^ 0:Nat):Int)=1 from rfl,ka]
  congr 1;omega
 | x :: t,hb,i+1,h=>by
  have hx:=hb x (gu)
  unfold isB at hx;rw[ij,aNC t (λy hy=>hb y (il _ hy)) i (by simpa using h),leV]
  have e3:((256 ^ (i+1):Nat):Int)=256*((256 ^ i:Nat):Int):=by rw[dq,f0,jc];rfl
  rw[e3,<- i7 (by decide)]
  congr 3;omega
def cyN(V S i:Nat):Nat:=(V % 256 ^ i+S % 256 ^ i) / 256 ^ i
theorem aWL(V S i:Nat):cyN V S i<=1:=by
 unfold cyN;have p:0 < 256 ^ i:=oc (by decide)
 have a:=fu V p;have b:=fu S p;have:(V % 256 ^ i+S % 256 ^ i) / 256 ^ i < 2:=by rw[ky p];omega
 omega
theorem cyS(V S i:Nat):cyN V S (i+1)=(S / 256 ^ i % 256+cyN V S i+V / 256 ^ i % 256) / 256/\(V+S) / 256 ^ i % 256=(S / 256 ^ i % 256+cyN V S i+V / 256 ^ i % 256) % 256:=by
 unfold cyN;have p:0 < 256 ^ i:=oc (by decide)
 have e1:V % 256 ^ (i+1)=V % 256 ^ i+256 ^ i*(V / 256 ^ i % 256):=by rw[dq,iv]
 have e2:S % 256 ^ (i+1)=S % 256 ^ i+256 ^ i*(S / 256 ^ i % 256):=by rw[dq,iv]
 have e3:V=V % 256 ^ i+256 ^ i*(V / 256 ^ i):=(nh _ _).symm;have e4:S=S % 256 ^ i+256 ^ i*(S / 256 ^ i):=(nh _ _).symm;constructor
 ·rw[e1,e2,dq,<- ig]
  have:V % 256 ^ i+256 ^ i*(V / 256 ^ i % 256)+(S % 256 ^ i+256 ^ i*(S / 256 ^ i % 256))=(V % 256 ^ i+S % 256 ^ i)+256 ^ i*(V / 256 ^ i % 256+S / 256 ^ i % 256):=by rw[od];omega
  rw[this,fe _ _ p]
  congr 1;omega
 ·have:(V+S) / 256 ^ i=(V % 256 ^ i+S % 256 ^ i) / 256 ^ i+(V / 256 ^ i+S / 256 ^ i):=by
   rw[<- fe _ _ p,od]
   congr 1;omega
  rw[this]
  omega
theorem refL5(N:Nat)(hN:30 < N){key:Vector Int 32}(hk:fJ key){a b c d e:Int}(h:Dok a b c d e){V S:Nat}(hV:mQ a b c d e=(V:Int))(hS:leV (key.toList.drop 16)=(S:Int)):T (iR N key #v[a,b,c,d,e] N (ah 16 0) 0 0) (λr=>∀j,j < 16->r.toList[j]? = some (((V+S) / 256 ^ j % 256:Nat):Int)):=by
 have kl:key.toList.length=32:=by simp
 have db:aS (key.toList.drop 16):=λx hx=>hk x (ct hx)
 refine T.loopG0 (n:=16) (λi (q:Vector Int 16×Int)=>q.2=((cyN V S i:Nat):Int)/\∀j,j < 16->q.1.toList[j]? = some (if j < i then(((V+S) / 256 ^ j % 256:Nat):Int) else 0)) _ (F:=λk (q:Vector Int 16×Int) i=>iR N key #v[a,b,c,d,e] k q.1 q.2 i) (λk q i hi hq hk'=>?_) (λk q hq=>?_) (by omega) (s:=(ah 16 0,0)) ⟨?_,λj hj=>?_⟩
 ·obtain⟨v,cy⟩:=q;obtain⟨h1,h2⟩:=hq;dsimp only at h1 h2;subst h1;have e16:I64 (16+(i:Int))=((16+i:Nat):Int):=by rw[aT];omega
  have g:=aNC _ db i (by rw[cd];omega)
  rw[ff,hS] at g;have gS:(S:Int) / ((256 ^ i:Nat):Int) % 256=((S / 256 ^ i % 256:Nat):Int):=by
   generalize 256 ^ i=p;rfl
  rw[gS] at g;have cl:=aWL V S i;obtain⟨c1,c2⟩:=cyS V S i;have sl:S / 256 ^ i % 256 < 256:=fu _ (by decide)
  have vl:V / 256 ^ i % 256 < 256:=fu _ (by decide)
  have pw:2 ^ (8*i)=256 ^ i:=by rw[o8]
  dsimp only;rw[iR,dt,cond_true,e16,lE,g,aa]
  have eb:I64 (I64 ((S / 256 ^ i % 256:Nat):Int)+((cyN V S i:Nat):Int))=((S / 256 ^ i % 256+cyN V S i:Nat):Int):=by
   generalize S / 256 ^ i % 256=s at *;generalize cyN V S i=y at *;rw[aT (x:=(s:Int)),aT];omega
  rw[eb]
  refine T.bind (refL6 N (by omega) h hV hi (y:=((S / 256 ^ i % 256+cyN V S i:Nat):Int)) ⟨by omega,by generalize S / 256 ^ i % 256=s at *;generalize cyN V S i=y at *;omega⟩) λr hr=>?_;rw[pw] at hr;have ti:((i:Nat):Int).toNat=i:=rfl;rw[bR,aa,ti,h2 i hi,aa,cI]
  have r8:shr .i64 r 8=((cyN V S (i+1):Nat):Int):=by
   rw[zR .i64 r 8 8 rfl,c1,hr]
   show _ / 256=_;omega
  have u8:U8 r=(((V+S) / 256 ^ i % 256:Nat):Int):=by
   rw[aDC,c2,hr]
   omega
  refine hk' (_,_) ⟨r8,λj hj=>?_⟩
  show(v.setIfInBounds i (U8 r)).toList[j]? = some (if j < i+1 then(((V+S) / 256 ^ j % 256:Nat):Int) else 0)
  rw[bo,cp,u8]
  by_cases c:i=j
  ·subst c;rw[if_pos rfl,if_pos (by simp;omega),if_pos (by omega)]
  ·rw[if_neg c,h2 j hj]
   by_cases c3:j < i
   ·rw[if_pos c3,if_pos (by omega)]
   ·rw[if_neg c3,if_neg (by omega)]
 ·rw[iR,df,cond_false]
  exact T.ret λj hj=>by rw[hq.2 j hj,if_pos hj]
 ·show(0:Int)=((cyN V S 0:Nat):Int)
  unfold cyN;rw[je,jt,jt]
  rfl
 ·have z:(ah 16 (0:Int)).toList=aj 16 0:=rfl;dsimp only;rw[z,cq,if_pos hj,if_neg (by omega)]
theorem refT1(N:Nat)(hN:30 < N)(key:Vector Int 32):T (iL N key N (ah 16 0) 0) (λv=>v.toList=key.toList.take 16):=by
 have kl:key.toList.length=32:=by simp
 refine T.mono (T.loop0 (n:=16) (by decide) (λi (v:Vector Int 16)=>∀j,j < 16->v.toList[j]? = some (if j < i then key.toList.getD j 0 else 0)) (F:=iL N key) (λk s i hi hs Q hk=>?_) (λk s=>by rw[iL,df,cond_false]) (by omega) (λj hj=>?_)) λv hv=>?_
 ·have g:key.toList[i]? = some (key.toList.getD i 0):=by rw[ap,af (by omega)];rfl
  have ti:((i:Nat):Int).toNat=i:=rfl;rw[iL,dt,cond_true,lE,g,aa,bR,aa,ti,hs i hi,aa,cI]
  refine hk _ λj hj=>?_;rw[bo,cp]
  by_cases c:i=j
  ·subst c;rw[if_pos rfl,if_pos (by simp;omega),if_pos (by omega)]
  ·rw[if_neg c,hs j hj]
   by_cases c3:j < i
   ·rw[if_pos c3,if_pos (by omega)]
   ·rw[if_neg c3,if_neg (by omega)]
 ·have z:(ah 16 (0:Int)).toList=aj 16 0:=rfl;rw[z,cq,if_pos hj,if_neg (by omega)]
 ·apply cz;intro j;by_cases c:j < 16
  ·rw[hv j c,if_pos c,cw,if_pos c,ap,af (by omega)]
   rfl
  ·rw[ar (by simp;omega),ar (by rw[bj];omega)]
theorem refT2(N:Nat)(hN:30 < N)(c:Vector Int 16):T (iP N c N (ah 17 0) 0) (λv=>v.toList=c.toList++[0]):=by
 have kl:c.toList.length=16:=by simp
 refine T.mono (T.loop0 (n:=16) (by decide) (λi (v:Vector Int 17)=>∀j,j < 17->v.toList[j]? = some (if j < i then c.toList.getD j 0 else 0)) (F:=iP N c) (λk s i hi hs Q hk=>?_) (λk s=>by rw[iP,df,cond_false]) (by omega) (λj hj=>?_)) λv hv=>?_
 ·have g:c.toList[i]? = some (c.toList.getD i 0):=by rw[ap,af (by omega)];rfl
  have ti:((i:Nat):Int).toNat=i:=rfl;rw[iP,dt,cond_true,bR (i:=(i:Int)) (n:=16),aa,ti,g,aa,bR,aa,hs i (by omega),aa,cI]
  refine hk _ λj hj=>?_;rw[bo,cp]
  by_cases c:i=j
  ·subst c;rw[if_pos rfl,if_pos (by simp;omega),if_pos (by omega)]
  ·rw[if_neg c,hs j hj]
   by_cases c3:j < i
   ·rw[if_pos c3,if_pos (by omega)]
   ·rw[if_neg c3,if_neg (by omega)]
 ·have z:(ah 17 (0:Int)).toList=aj 17 0:=rfl;rw[z,cq,if_pos hj,if_neg (by omega)]
 ·apply cz;intro j;by_cases c1:j < 16
  ·rw[hv j (by omega),if_pos c1,bx (by omega),ap,af (by omega)]
   rfl
  ·by_cases c2:j=16
   ·subst c2;rw[hv 16 (by decide),if_neg (by decide),cf (by omega),kl]
    rfl
   ·rw[ar (by simp;omega),ar (by rw[ai,kl,cr];omega)]
theorem tagE(N:Nat)(hN:70000 < N){key:Vector Int 32}(hk:fJ key){ms:List (List Int)}(hms:ms.length < 1000)(hb:aS ms.flatten){m:Nat}(hm:ms.flatten.length=16*m)(hl:ms.flatten.length<=65536):∃t,tT N key ms=some t/\sE N key ms.flatten=some t:=by
 obtain⟨v,c,t,hv,hc,hcb,et,ht⟩:=tagV N hN hk hms hb hm hl;refine⟨t,et,?_⟩
 obtain⟨v',e1,hv'⟩:=refT1 N (by omega) key;obtain rfl:v'=v:=fb.1 (hv'.trans hv.symm)
 obtain⟨w,e2,hw⟩:=refT2 N (by omega) c;have cl:c.toList.length=16:=by simp
 have wb:aS w.toList:=by
  rw[hw]
  intro x hx;rcases d9.1 hx with h' | h'
  ·exact hcb x h'
  ·rw[hW.1 h'];exact⟨by decide,by decide⟩
 have lw:leV w.toList=leV c.toList:=by rw[hw,aES,Int.zero_mul,nw]
 have lb:=aHS _ hcb;rw[cl] at lb;have c16:((256 ^ 16:Nat):Int)=340282366920938463463374607431768211456:=by decide
 rw[c16] at lb;obtain⟨r0,r1,r2,r3,r4,e3,hr,vr⟩:=aNH N (by omega) wb (by rw[lw];simp only[aDS];omega)
 obtain⟨bs,e4,hbs⟩:=aO4 N hN hl hm;have z0:Dok 0 0 0 0 0:=⟨⟨by decide,by decide⟩,⟨by decide,by decide⟩,⟨by decide,by decide⟩,⟨by decide,by decide⟩,⟨by decide,by decide⟩⟩
 obtain⟨a',b',c',d',f',hd,hp,e5⟩:=refL3 N hN hb hl hm hbs hr m N 0 0 0 0 0 0 (by omega) (by omega) z0 rfl;obtain⟨a2,b2,c2,d2,f2,e6,hd2,hv2⟩:=aXB N (by omega) hd;rw[hp,vr,lw] at hv2;have l2:=hd2.lt;obtain⟨V,hV⟩:=br l2.1;have kb:aS (key.toList.drop 16):=λx hx=>hk x (ct hx)
 obtain⟨S,hS⟩:=br (aHS _ kb).1;obtain⟨u,e7,hu⟩:=refL5 N (by omega) hk hd2 hV hS;have ut:u=t:=by
  apply fb.1;apply cz;intro j;by_cases hj:j < 16
  ·rw[hu j hj,ht,aJi 16 _ j hj,hS,<- hv2,hV]
   have p:256 ^ 16=256 ^ j*256 ^ (16 - j):=by rw[<- fq,show j+(16 - j)=16 by omega]
   have q:256 ∣ 256 ^ (16 - j):=by
    rw[show 16 - j=(15 - j)+1 by omega,dq]
    exact Nat.dvd_mul_left _ _
   have k:((V:Int)+(S:Int)) % W2=(((V+S) % 256 ^ 16:Nat):Int):=by
    have:(256 ^ 16:Nat)=340282366920938463463374607431768211456:=by decide
    rw[this]
    simp only[W2]
    omega
   have m2:((V+S) % 256 ^ 16) / 256 ^ j % 256=(V+S) / 256 ^ j % 256:=by
    rw[p,Nat.mod_mul_right_div_self,Nat.mod_mod_of_dvd _ q]
   rw[k,<- m2]
   generalize 256 ^ j=pj;rfl
  ·rw[ar (by simp;omega),ar (by simp;omega)]
 subst ut;have z5:(ah 5 (0:Int))=#v[0,0,0,0,0]:=rfl;unfold sE;rw[e1,aa,hc,aa,e2,aa,e3,aa,e4,aa,z5]
 have zi:((0:Nat):Int)=0:=rfl;rw[zi] at e5;rw[e5,aa,e6,aa,e7,aa]
end Go.UK
