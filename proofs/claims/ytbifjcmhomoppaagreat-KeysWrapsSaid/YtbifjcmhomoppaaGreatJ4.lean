/- A part of the proof: what the functions of the program compute. -/
import Derived.Test.YtbifjcmhomoppaaGreatJ3
open BitVec renaming ofInt→bz
open Int renaming mul_comm→mn,mul_emod→na,mul_le_mul→ki,mul_nonneg→mw,natCast_mul→fj,natCast_pow→gg,tmod_eq_emod_of_nonneg→cz,toNat_natCast→bx,toNat_of_nonneg→ed
open List renaming cons_append→fb,drop_drop→mo,drop_of_length_le→du,drop_zero→eu,ext_getElem?→dp,getD_eq_getElem?_getD→an,getElem?_append_right→cj,getElem?_eq_getElem→ah,getElem?_eq_none→bf,getElem?_set→cr,getElem_mem→ck,length_append→ai,length_cons→de,length_drop→ca,length_take→bp,mem_of_mem_drop→ct,mem_of_mem_take→ce,replicate→ak,take_append_drop→i9,take_append_of_le_length→iu,take_of_length_le→ar,take_succ_eq_append_getElem→dw
open Nat renaming le_refl→cg,pow_succ→dh
open Option renaming bind→ae,bind_some→aa
open Vector renaming replicate→ag,toList_setIfInBounds→bq
namespace Go.UK
open Go Go.Proofs
set_option maxRecDepth 20000
set_option maxHeartbeats 4000000
set_option linter.all false
abbrev W1 : Int:=18446744073709551616
abbrev W2 : Int:=340282366920938463463374607431768211456
abbrev W3 : Int:=6277101735386680763835789423207666416102355444464034512896
abbrev aDp : Int:=1361129467683753853853498429727072845824
abbrev PP : Int:=1361129467683753853853498429727072845819
def wW(a b c:Int):Int:=a+W1*b+W2*c
theorem mulX(h0 h1 h2 r0 r1:Int):wW h0 h1 h2*(r0+W1*r1)=h0*r0+W1*(h1*r0+h0*r1)+W2*(h1*r1+h2*r0)+W3*(h2*r1):=by unfold wW;grind
theorem aRh{l00 u00 l10 u10 l01 u01 l11 u11 p20 p21:Int}(b00:(0<=l00/\l00 < W1)/\0<=u00/\u00 < 1152921504606846976)(b10:(0<=l10/\l10 < W1)/\0<=u10/\u10 < 1152921504606846976)(b01:(0<=l01/\l01 < W1)/\0<=u01/\u01 < 1152921504606846976)(b11:(0<=l11/\l11 < W1)/\0<=u11/\u11 < 1152921504606846976)
  (q0:0<=p20/\p20<=9223372036854775808) (q1:0<=p21/\p21<=9223372036854775808)
  {m1 c1 m2 c2 m3 m4 c4 m5 m6 c6 m7 t1 d1 t2 d2 t3:Int}
  (e1:m1=(l10+l01+0) % W1/\c1=(l10+l01+0) / W1) (e2:m2=(u10+u01+c1) % W1/\c2=(u10+u01+c1) / W1) (e3:m3=(0+0+c2) % W1) (e4:m4=(m2+l11+0) % W1/\c4=(m2+l11+0) / W1) (e5:m5=(m3+u11+c4) % W1)
  (e6:m6=(m4+p20+0) % W1/\c6=(m4+p20+0) / W1) (e7:m7=(m5+p21+c6) % W1) (f1:t1=(m1+u00+0) % W1/\d1=(m1+u00+0) / W1) (f2:t2=(m6+0+d1) % W1/\d2=(m6+0+d1) / W1) (f3:t3=(m7+0+d2) % W1) :
  l00+W1*t1+W2*t2+W3*t3=(l00+W1*u00)+W1*((l10+W1*u10)+(l01+W1*u01))+W2*((l11+W1*u11)+p20)+W3*p21:=by
 simp only[W1,W2,W3] at *;omega
theorem addT{x y c:Int}(hx:0<=x)(hy:0<=y)(hc:0<=c)(hc':c<=1):dC x y c=some ((x+y+c) % 18446744073709551616,(x+y+c) / 18446744073709551616):=by
 unfold dC;rw[dt hx,dt hy,dt hc,dt hc']
 rfl
theorem mulV(N:Nat){a b:Int}(ha:0<=a)(ha':a < 18446744073709551616)(hb:0<=b)(hb':b < 18446744073709551616) :
  cA N a b=some (a*b / 18446744073709551616,a*b % 18446744073709551616):=by
 unfold cA;simp only[aC,aMq ha ha',aMq hb hb',aTy,aMq (aCP _) (aFk _)]
 simp only[aIG]
 generalize hA1:a / 4294967296=A1;generalize hA0:a % 4294967296=A0;generalize hB1:b / 4294967296=B1;generalize hB0:b % 4294967296=B0;have ea:a=A1*4294967296+A0:=by omega
 have eb:b=B1*4294967296+B0:=by omega
 have hp:a*b=(A1*B1)*18446744073709551616+(A1*B0+A0*B1)*4294967296+A0*B0:=by
  rw[ea,eb];grind
 rw[hp]
 obtain⟨x1,y1⟩:=aKY (a:=A1) (b:=B1) (by omega) (by omega) (by omega) (by omega)
 obtain⟨x2,y2⟩:=aKY (a:=A1) (b:=B0) (by omega) (by omega) (by omega) (by omega)
 obtain⟨x3,y3⟩:=aKY (a:=A0) (b:=B1) (by omega) (by omega) (by omega) (by omega)
 obtain⟨x4,y4⟩:=aKY (a:=A0) (b:=B0) (by omega) (by omega) (by omega) (by omega)
 clear hp ea eb;generalize A1*B1=p at *;generalize A1*B0=q at *;generalize A0*B1=r at *;generalize A0*B0=s at *;congr 2;omega
theorem aLQ(a b c:Int):(#v[a,b,c]:Vector Int 3).toList[((0:Int).toNat)]? = some a:=rfl
theorem aKj(a b c:Int):(#v[a,b,c]:Vector Int 3).toList[((1:Int).toNat)]? = some b:=rfl
theorem aMj(a b c:Int):(#v[a,b,c]:Vector Int 3).toList[((2:Int).toNat)]? = some c:=rfl
theorem aMi(a b c x:Int):(#v[a,b,c]:Vector Int 3).setIfInBounds ((0:Int).toNat) x=#v[x,b,c]:=rfl
theorem aMd(a b c x:Int):(#v[a,b,c]:Vector Int 3).setIfInBounds ((1:Int).toNat) x=#v[a,x,c]:=rfl
theorem aML(a b c x:Int):(#v[a,b,c]:Vector Int 3).setIfInBounds ((2:Int).toNat) x=#v[a,b,x]:=rfl
theorem aGJ : aP 0 3=some ():=rfl
theorem aFw : aP 1 3=some ():=rfl
theorem aHc : aP 2 3=some ():=rfl
def addW(h0 h1 h2 a b:Int):Vector Int 3:=#v[(h0+a+0) % 18446744073709551616,(h1+b+(h0+a+0) / 18446744073709551616) % 18446744073709551616,h2+(h1+b+(h0+a+0) / 18446744073709551616) / 18446744073709551616]
theorem aTB(N:Nat){h0 h1 h2 a b:Int}(b0:isU h0)(b1:isU h1)(b2:0<=h2/\h2 < 1000)(ba:isU a)(bb:isU b):bZ N a b (aJ.mk #v[h0,h1,h2])=some (addW h0 h1 h2 a b):=by
 unfold isU at *;unfold bZ addW;simp only[aGJ,aFw,aHc,aLQ,aKj,aMj,aMi,aMd,aML,aa]
 rw[addT b0.1 ba.1 (by decide) (by decide)]
 simp only[aGJ,aFw,aHc,aLQ,aKj,aMj,aMi,aMd,aML,aa]
 rw[addT b1.1 bb.1 (by omega) (by omega)]
 simp only[aGJ,aFw,aHc,aLQ,aKj,aMj,aMi,aMd,aML,aa]
 rw[eJ (by omega) (by omega)]
def leV : List Int->Int
 | []=>0
 | x :: l=>x+256*leV l
theorem aEr(l:List Int)(x:Int):leV (l++[x])=leV l+x*((256 ^ l.length:Nat):Int):=by
 induction l with
 | nil=>show x+256*0=0+x*1;omega
 | cons a l ih=>
  rw[fb,leV,ih,leV,de,dh,fj]
  generalize ((256 ^ l.length:Nat):Int)=p
  grind
theorem aIN : ∀(l:List Int),aQ l->0<=leV l/\leV l < ((256 ^ l.length:Nat):Int):=by
 intro l
 induction l with
 | nil=>intro _;exact⟨Int.le_refl _,by decide⟩
 | cons a l ih=>
  intro h;have ha:=h a (List.mem_cons_self)
  have hl:=ih λx hx=>h x (List.mem_cons_of_mem _ hx)
  unfold isB at ha;rw[leV,de,dh,fj]
  generalize ((256 ^ l.length:Nat):Int)=p at *;omega
theorem aM8{n:Nat}{x B C:Int}(h:n<=B.toNat)(h0:0<=B)(hx:0<=x)(hx':x<=C):0<=(n:Int)*x/\(n:Int)*x<=B*C:=
 ⟨mw (by omega) hx,ki (by omega) hx' hx h0⟩
theorem p2t(i:Nat):(256 ^ i:Nat)=2 ^ (8*i):=by rw[Nat.pow_mul]
theorem aCo(N:Nat)(hN:20 < N){b:List Int}(h:8<=b.length)(hb:aQ b):cV N b=some (leV (b.take 8)):=by
 have main:T (cV N b) (λr=>r=leV (b.take 8)):=by
  unfold cV;refine T.bind (T.loop0 (n:=8) (by decide) (λi x=>x=leV (b.take i)) (F:=jD N b) (λk s i hi hs Q hk=>?_) (λk s=>by rw[jD,df (by omega),cond_false]) (by omega) (by rfl)) λp1 h1=>T.ret h1;have hx:=hb _ (ck (show i < b.length by omega))
  unfold isB at hx;rw[jD,dt (by omega),cond_true,mX,ah (show i < b.length by omega),aa,show(8:Int)=((8:Nat):Int) from rfl,i4 (by omega),wU .u64 (by omega),aa,cZ (by omega)]
  refine hk _ ?_;have hb8:aQ (b.take i):=λx hx=>hb x (ce hx)
  obtain⟨l0,l1⟩:=aIN _ hb8;have ll:(b.take i).length=i:=by rw[bp];omega
  rw[ll,p2t] at l1;have le:((2 ^ (8*i):Nat):Int)<=((2 ^ 56:Nat):Int):=Int.ofNat_le.2 (Nat.pow_le_pow_right (by decide) (by omega))
  have c56:((2 ^ 56:Nat):Int)=72057594037927936:=by decide
  rw[eJ hx.1 (by omega),aNi _ _ (8*i) rfl (by omega),hs]
  have pe:(2:Int) ^ (8*i)=((2 ^ (8*i):Nat):Int):=by rw[gg];rfl
  rw[pe]
  have mb:=aM8 (n:=b[i].toNat) (B:=255) (C:=72057594037927936) (by omega) (by decide) (x:=((2 ^ (8*i):Nat):Int)) (by omega) (by omega)
  rw[ed hx.1] at mb;rw[Int.emod_eq_of_lt mb.1 (by omega),aLO,aN9 (8*i) mb.1 (by omega) l0 l1 (by omega) ⟨b[i].toNat,?_⟩]
  ·rw[dw (show i < b.length by omega),aEr,ll,p2t];omega
  ·have q:(b[i].toNat:Int)=b[i]:=ed hx.1;have q2:b[i]*((2 ^ (8*i):Nat):Int)=((2 ^ (8*i)*b[i].toNat:Nat):Int):=by rw[fj,q,mn]
   rw[q2,bx]
 obtain⟨r,e,rfl⟩:=main;exact e
set_option maxHeartbeats 8000000
theorem aCz{x y c:Int}(hx:isU x)(hy:isU y)(hc:0<=c/\c<=1):∃m d,dC x y c=some (m,d)/\isU m/\(0<=d/\d<=1)/\m=(x+y+c) % 18446744073709551616/\d=(x+y+c) / 18446744073709551616:=by
 unfold isU at *;exact⟨_,_,addT hx.1 hy.1 hc.1 hc.2,by omega,by omega,rfl,rfl⟩
theorem mulE(N:Nat){a b:Int}(ha:isU a)(hb:0<=b/\b < 1152921504606846976):∃u l,cA N a b=some (u,l)/\isU l/\(0<=u/\u < 1152921504606846976)/\a*b=l+18446744073709551616*u:=by
 unfold isU at *;have m:=mw ha.1 hb.1;have m2:a*b<=18446744073709551615*1152921504606846975:=ki (by omega) (by omega) hb.1 (by decide)
 refine⟨_,_,mulV N ha.1 ha.2 hb.1 (by omega),?_,?_,?_⟩
 ·omega
 ·generalize a*b=p at *;omega
 ·generalize a*b=p at *;omega
theorem aUF{a:Int}(h:isU a):aHi .u64 a 3=a - a % 4:=by
 have e:aHi .u64 a 3=((a.toNat / 4*4:Nat):Int):=by
  unfold isU at h;unfold aHi;have k:(bz IntKind.u64.bits a &&& ~~~ (bz IntKind.u64.bits 3)).toNat=a.toNat / 4*4:=by
   obtain⟨A,rfl⟩:=Int.eq_ofNat_of_zero_le h.1;have hA:A < 18446744073709551616:=by omega
   show((bz 64 (A:Int)) &&& ~~~ (bz 64 3)).toNat=_;rw[show(A:Int).toNat=A from rfl]
   have q:bz 64 (A:Int)=BitVec.ofNat 64 A:=by simp
   rw[q]
   have:(BitVec.ofNat 64 A &&& ~~~ (bz 64 3))=(BitVec.ofNat 64 A >>> 2) <<< 2:=by
    apply BitVec.eq_of_getLsbD_eq;intro i hi;have h3:(bz 64 3).getLsbD i=decide (i < 2):=by
     rcases i with _ | _ | i
     ·rfl
     ·rfl
     ·have:∀j:Fin 62,(bz 64 3).getLsbD (j.val+2)=false:=by decide
      rw[this ⟨i,by omega⟩]
      simp
    rw[BitVec.getLsbD_and,BitVec.getLsbD_not,h3,BitVec.getLsbD_shiftLeft,BitVec.getLsbD_ushiftRight]
    by_cases h2:i < 2
    ·simp[h2]
    ·rw[show 2+(i - 2)=i by omega]
     simp[h2,hi]
   rw[this]
   simp[BitVec.toNat_shiftLeft,BitVec.toNat_ushiftRight,Nat.shiftLeft_eq,Nat.shiftRight_eq_div_pow]
   omega
  rw[k]
  exact eJ (by omega) (by omega)
 rw[e]
 unfold isU at h;omega
set_option maxHeartbeats 16000000
def bnum(b:List Int):Int:=leV (b.take 8)+W1*leV ((b.take 16).drop 8)+W2*(b.getD 16 0)
theorem add2(N:Nat){t0 t1 t2 t3:Int}(b0:isU t0)(b1:isU t1)(b2:isU t2)(b3:isU t3):∃x y z,(ae (bZ N (aHi .u64 t2 3) t3 (aJ.mk (#v[t0,t1,cF .u64 t2 3]))) λr47=>
  aN (bor .u64 (shr .u64 t2 2) (shl .u64 t3 62)) λx48=>
  ae (bZ N x48 (shr .u64 t3 2) (aJ.mk r47)) λr49=>some r49)=some #v[x,y,z]/\isU x/\isU y/\(0<=z/\z<=5)/\wW x y z+PP*(t2 / 4+4611686018427387904*t3)=t0+W1*t1+W2*t2+W3*t3:=by
 have e3:cF .u64 t2 3=t2 % 4:=by
  unfold isU at b2;rw[aJ0 b2.1 b2.2 (by decide) (by decide)]
  have:t2.toNat &&& (3:Int).toNat=t2.toNat % 4:=Nat.and_two_pow_sub_one_eq_mod t2.toNat 2;rw[this];omega
 have s2:shr .u64 t2 2=t2 / 4:=by rw[aAg .u64 t2 2 2 rfl (by decide)];rfl
 have s3:shr .u64 t3 2=t3 / 4:=by rw[aAg .u64 t3 2 2 rfl (by decide)];rfl
 have l3:shl .u64 t3 62=4611686018427387904*(t3 % 4):=by
  rw[aNi t3 62 62 rfl (by decide)]
  have:(2:Int) ^ 62=4611686018427387904:=by decide
  rw[this];omega
 unfold isU at *;have bb:bor .u64 (t2 / 4) (4611686018427387904*(t3 % 4))=4611686018427387904*(t3 % 4)+t2 / 4:=by
  rw[aLO]
  refine aN9 62 (by omega) (by omega) (by omega) ?_ (by decide) ⟨(t3 % 4).toNat,?_⟩
  ·have:((2 ^ 62:Nat):Int)=4611686018427387904:=by decide
   rw[this];omega
  ·have:(2 ^ 62:Nat)=4611686018427387904:=by decide
   rw[this];omega
 rw[e3,aUF ⟨b2.1,b2.2⟩,s2,s3,l3,bb]
 rw[aTB N (by unfold isU;omega) (by unfold isU;omega) (by omega) (by unfold isU;omega) (by unfold isU;omega),aa]
 simp only[aC]
 unfold addW;rw[aTB N (by unfold isU;omega) (by unfold isU;omega) (by omega) (by unfold isU;omega) (by unfold isU;omega),aa]
 unfold addW;refine⟨_,_,_,rfl,by omega,by omega,by omega,?_⟩
 unfold wW;simp only[W1,W2,W3,PP]
 omega
structure Hok(h0 h1 h2:Int):Prop where
 a:isU h0
 b:isU h1
 c:0<=h2/\h2<=5
def Rok(r0 r1:Int):Prop:=(0<=r0/\r0 < 1152921504606846976)/\0<=r1/\r1 < 1152921504606846976
def Bok(b:Vector Int 17):Prop:=aQ b.toList/\0<=b.toList.getD 16 0/\b.toList.getD 16 0<=1
theorem leV8{l:List Int}(h:aQ l)(hl:l.length=8):isU (leV l):=by
 have:=aIN l h;rw[hl] at this;exact⟨this.1,this.2⟩
theorem aTZ(N:Nat)(hN:20 < N){h0 h1 h2 r0 r1:Int}(hh:Hok h0 h1 h2)(hr:Rok r0 r1){b:Vector Int 17}(hb:Bok b) :
  ∃x y z H,cP N b r0 r1 (aJ.mk #v[h0,h1,h2])=some #v[x,y,z]/\Hok x y z/\wW x y z+PP*H=(wW h0 h1 h2+bnum b.toList)*(r0+W1*r1):=by
 obtain⟨a0,a1,a2⟩:=hh;obtain⟨hb1,hb2⟩:=hb;have ll:b.toList.length=17:=by simp
 have n0:isU (leV (b.toList.take 8)):=leV8 (λx hx=>hb1 x (ce hx)) (by rw[bp,ll];rfl)
 have n1:isU (leV ((b.toList.take 16).drop 8)):=leV8 (λx hx=>hb1 x (ce (ct hx))) (by rw[ca,bp,ll];rfl)
 have s0:dU b.toList 0 8=some (b.toList.take 8):=sX (n:=8) (by rw[ll];decide)
 have s1:dU b.toList 8 16=some ((b.toList.take 16).drop 8):=rP (by decide) (by decide) (by rw[ll];decide)
 have i16:idx b.toList 16=some (b.toList.getD 16 0):=by
  rw[show(16:Int)=((16:Nat):Int) from rfl,mX,ah (by rw[ll];decide),an,ah (by rw[ll];decide)]
  rfl
 have p0:cV N (b.toList.take 8)=some (leV (b.toList.take 8)):=by
  rw[aCo N hN (by rw[bp,ll];decide) (λx hx=>hb1 x (ce hx)),List.take_take];rfl
 have p1:cV N ((b.toList.take 16).drop 8)=some (leV ((b.toList.take 16).drop 8)):=by
  rw[aCo N hN (by rw[ca,bp,ll];decide) (λx hx=>hb1 x (ce (ct hx))),ar (by rw[ca,bp,ll];decide)]
 unfold bnum;generalize leV (b.toList.take 8)=m0 at *;generalize leV ((b.toList.take 16).drop 8)=m1 at *;generalize b.toList.getD 16 0=m2 at *;unfold cP;simp only[s0,s1,i16,p0,p1,aGJ,aFw,aHc,aLQ,aKj,aMj,aMi,aMd,aML,aa]
 obtain⟨x0,c1,E1,bx0,bc1,f1⟩:=aCz a0 n0 (c:=0) ⟨by decide,by decide⟩
 rw[E1]
 simp only[aGJ,aFw,aHc,aLQ,aKj,aMj,aMi,aMd,aML,aa]
 obtain⟨x1,c2,E2,bx1,bc2,f2⟩:=aCz a1 n1 bc1;rw[E2]
 simp only[aGJ,aFw,aHc,aLQ,aKj,aMj,aMi,aMd,aML,aa]
 rw[aC]
 rw[eJ hb2.1 (by omega),eJ (x:=m2+c2) (by omega) (by omega),eJ (x:=h2+(m2+c2)) (by omega) (by omega)]
 have va:wW h0 h1 h2+(m0+W1*m1+W2*m2)=wW x0 x1 (h2+(m2+c2)):=by
  unfold isU at a0 a1 n0 n1;unfold wW;simp only[W1,W2]
  omega
 have cc:0<=h2+(m2+c2)/\h2+(m2+c2)<=7:=by omega
 clear f1 f2 E1 E2;generalize h2+(m2+c2)=hs2 at *;obtain⟨hr0,hr1⟩:=hr;obtain⟨u00,l00,M1,g1,g2,g3⟩:=mulE N bx0 hr0;obtain⟨u10,l10,M2,g4,g5,g6⟩:=mulE N bx1 hr0;obtain⟨u01,l01,M3,g7,g8,g9⟩:=mulE N bx0 hr1;obtain⟨u11,l11,M4,g10,g11,g12⟩:=mulE N bx1 hr1;rw[M1,aa,M2,aa,M3,aa,M4,aa]
 dsimp only;have q0:=aM8 (n:=hs2.toNat) (B:=7) (C:=1152921504606846975) (by omega) (by decide) (x:=r0) (by omega) (by omega)
 have q1:=aM8 (n:=hs2.toNat) (B:=7) (C:=1152921504606846975) (by omega) (by decide) (x:=r1) (by omega) (by omega)
 rw[ed (by omega)] at q0 q1;have q0':0<=hs2*r0/\hs2*r0<=9223372036854775808:=⟨q0.1,by omega⟩
 have q1':0<=hs2*r1/\hs2*r1<=9223372036854775808:=⟨q1.1,by omega⟩
 have uu:∀{u:Int},0<=u/\u < 1152921504606846976->isU u:=λh=>⟨h.1,by omega⟩
 have uq:∀{u:Int},0<=u/\u<=7*1152921504606846975->isU u:=λh=>⟨h.1,by omega⟩
 have z01:(0:Int)<=0/\(0:Int)<=1:=⟨by decide,by decide⟩
 rw[eJ q0.1 (by omega),eJ q1.1 (by omega)]
 obtain⟨y1,d1,F1,by1,bd1,k1⟩:=aCz g4 g7 z01;rw[F1,aa]
 obtain⟨y2,d2,F2,by2,bd2,k2⟩:=aCz (uu g5) (uu g8) bd1;rw[F2,aa]
 obtain⟨y3,d3,F3,by3,bd3,k3⟩:=aCz zP zP bd2;rw[F3,aa]
 dsimp only;obtain⟨y4,d4,F4,by4,bd4,k4⟩:=aCz by2 g10 z01;rw[F4,aa]
 obtain⟨y5,d5,F5,by5,bd5,k5⟩:=aCz by3 (uu g11) bd4;rw[F5,aa]
 dsimp only;obtain⟨y6,d6,F6,by6,bd6,k6⟩:=aCz by4 (uq q0) z01;rw[F6,aa]
 obtain⟨y7,d7,F7,by7,bd7,k7⟩:=aCz by5 (uq q1) bd6;rw[F7,aa]
 dsimp only;obtain⟨t1,e1,F8,bt1,be1,k8⟩:=aCz by1 (uu g2) z01;rw[F8,aa]
 obtain⟨t2,e2,F9,bt2,be2,k9⟩:=aCz by6 zP be1;rw[F9,aa]
 obtain⟨t3,e3,F10,bt3,be3,k10⟩:=aCz by7 zP be2;rw[F10,aa]
 dsimp only;obtain⟨x,y,z,e,hx,hy,hz,hv⟩:=add2 N g1 bt1 bt2 bt3;refine⟨x,y,z,_,e,⟨hx,hy,hz⟩,hv.trans ?_⟩
 have pm:=aRh ⟨g1,g2⟩ ⟨g4,g5⟩ ⟨g7,g8⟩ ⟨g10,g11⟩ (p20:=hs2*r0) (p21:=hs2*r1) q0' q1' k1 k2 k3.1 k4 k5.1 k6 k7.1 k8 k9 k10.1;rw[pm]
 rw[va,mulX,g3,g6,g9,g12]
theorem aUX(N:Nat)(a b:Int)(m:aO):fJ N a b m=bZ N a b m.gA2:=rfl
theorem aRq(N:Nat)(b:Vector Int 17)(r0 r1:Int)(m:aO):fQ N b r0 r1 m=ae (cP N b r0 r1 m.gA2) λr=>some (r,m.gC,m.gr0,m.gr1,m.gs0,m.gs1,m.gP,m.gR):=by
 unfold fQ cP;simp only[aUX,aC,Option.bind_assoc,aa]
theorem aKz(N:Nat){a b c:Int}(h:Hok a b c)(k i:Nat)(hi:i < 2):∃x y z,Hok x y z/\wW x y z=(if wW a b c>=PP then wW a b c - PP else wW a b c)/\dY N (k+1) #v[a,b,c] (i:Int)=dY N k #v[x,y,z] ((i+1:Nat):Int):=by
 obtain⟨ha,hb,hc⟩:=h;rw[dY,dt (by omega),cond_true]
 simp only[aGJ,aFw,aHc,aLQ,aKj,aMj,aMi,aMd,aML,aa,aC]
 obtain⟨m,d,E,bm,bd,e⟩:=aCz ha aE1 (c:=0) ⟨by decide,by decide⟩
 rw[E,aa]
 obtain⟨m2,d2,E2,bm2,bd2,e2⟩:=aCz hb zP bd;rw[E2,aa]
 dsimp only;rw[eJ (x:=c+d2) (by omega) (by omega)]
 unfold isU at *;have vv:wW a b c+5=m+W1*m2+W2*(c+d2):=by
  unfold wW;simp only[W1,W2];omega
 by_cases g:c+d2>=4
 ·rw[dt g,cond_true,aa,eJ (by omega) (by omega),cZ (by omega)]
  refine⟨m,m2,c+d2 - 4,⟨bm,bm2,by omega⟩,?_,rfl⟩
  unfold wW at *;simp only[W1,W2,PP] at *;rw[if_pos (by omega)]
  omega
 ·rw[df g,cond_false,aa,cZ (by omega)]
  refine⟨a,b,c,⟨ha,hb,hc⟩,?_,rfl⟩
  unfold wW at *;simp only[W1,W2,PP] at *;rw[if_neg (by omega)]
theorem endL1(N:Nat)(hN:10 < N){a b c:Int}(h:Hok a b c):∃x y z,Hok x y z/\wW x y z=wW a b c % PP/\dY N N #v[a,b,c] 0=some #v[x,y,z]:=by
 obtain⟨k,rfl⟩:∃k,N=k+3:=⟨N - 3,by omega⟩
 obtain⟨x1,y1,z1,h1,v1,e1⟩:=aKz (k+3) h (k+2) 0 (by decide)
 obtain⟨x2,y2,z2,h2,v2,e2⟩:=aKz (k+3) h1 (k+1) 1 (by decide)
 refine⟨x2,y2,z2,h2,?_,?_⟩
 ·have lo:0<=wW a b c/\wW a b c < 3*PP:=by
   obtain⟨ha,hb,hc⟩:=h;unfold isU at *;unfold wW;simp only[W1,W2,PP]
   omega
  rw[v2,v1]
  generalize wW a b c=V at *;simp only[PP] at *;split <;> (try split) <;> omega
 ·rw[show(0:Int)=((0:Nat):Int) from rfl,show k+3=k+2+1 from rfl,e1,show k+2=k+1+1 from rfl,e2,dY,df (by decide),cond_false]
def byN : Nat->Int->List Int
 | 0,_=>[]
 | n+1,x=>x % 256 :: byN n (x / 256)
theorem aTQ : ∀(n:Nat) (x:Int),(byN n x).length=n
 | 0,_=>rfl
 | n+1,x=>by rw[byN,de,aTQ n]
theorem aJp : ∀(n:Nat) (x:Int) (i:Nat),i < n->(byN n x)[i]? = some (x / ((256 ^ i:Nat):Int) % 256)
 | 0,_,i,h=>by omega
 | n+1,x,0,_=>by
  show some (x % 256)=_;rw[show((256 ^ 0:Nat):Int)=1 from rfl,Int.ediv_one]
 | n+1,x,i+1,h=>by
  rw[byN,List.getElem?_cons_succ,aJp n (x / 256) i (by omega),dh,fj,Int.ediv_ediv_of_nonneg (by decide),mn]
  rfl
def aMK(lo hi:Int)(i j:Nat):Int:=if j < 8 then(if j < i then lo / ((256 ^ j:Nat):Int) % 256 else 0) else if j - 8 < i then hi / ((256 ^ (j - 8):Nat):Int) % 256 else 0
theorem aUs(i:Nat):cH i=((256 ^ i:Nat):Int):=by unfold cH;rw[gg];rfl
theorem endL2(N:Nat)(hN:20 < N)(lo hi:Int×Int):T (fA N lo hi N (ag 16 0) 0) (λv=>∀j,j < 16->v.toList[j]? = some (aMK lo.1 hi.1 8 j)):=by
 refine T.loop0 (n:=8) (by decide) (λi (v:Vector Int 16)=>∀j,j < 16->v.toList[j]? = some (aMK lo.1 hi.1 i j)) (F:=fA N lo hi) (λk s i hi' hs Q hk=>?_) (λk s=>by rw[fA,df (by omega),cond_false]) (by omega) (λj hj=>?_)
 ·rw[fA,dt (by omega),cond_true,show(8:Int)=((8:Nat):Int) from rfl,i4 (by omega),ia (by omega),cZ (by omega)]
  rw[kS .u64 (by omega),aa,kS .u64 (by omega),aa]
  refine T.bind (T.inRO (by omega) (by omega)) λ_ _=>T.bind (T.vget (by omega)) λ_ _=>T.bind (T.inRO (by omega) (by omega)) λ_ _=>T.bind (T.vget (by omega)) λ_ _=>hk _ λj hj=>?_;rw[aHH lo.1 i (by omega),aHH hi.1 i (by omega),aAz,aAz,aUs]
  have t1:((i:Nat):Int).toNat=i:=rfl;have t2:((8+i:Nat):Int).toNat=8+i:=rfl;rw[t1,t2]
  simp only[bq,cr,List.length_set,Vector.length_toList]
  unfold aMK;by_cases c1:8+i=j
  ·subst c1;rw[if_pos rfl,if_pos (by omega),if_neg (by omega),if_pos (by omega),Nat.add_sub_cancel_left]
  ·rw[if_neg c1]
   by_cases c2:i=j
   ·subst c2;rw[if_pos rfl,if_pos (by omega),if_pos (by omega),if_pos (by omega)]
   ·rw[if_neg c2,hs j hj]
    unfold aMK;by_cases c3:j < 8
    ·rw[if_pos c3,if_pos c3]
     by_cases c4:j < i
     ·rw[if_pos c4,if_pos (by omega)]
     ·rw[if_neg c4,if_neg (by omega)]
    ·rw[if_neg c3,if_neg c3]
     by_cases c4:j - 8 < i
     ·rw[if_pos c4,if_pos (by omega)]
     ·rw[if_neg c4,if_neg (by omega)]
 ·have z:(ag 16 (0:Int)).toList=ak 16 0:=rfl;rw[z,List.getElem?_replicate,if_pos hj]
  unfold aMK;simp
theorem leAll(lo hi:Int)(h0:isU lo)(h1:isU hi):∀j,j < 16->aMK lo hi 8 j=(lo+W1*hi) / ((256 ^ j:Nat):Int) % 256:=by
 intro j hj;unfold isU at *;unfold aMK;simp only[W1]
 have c:j=0\/j=1\/j=2\/j=3\/j=4\/j=5\/j=6\/j=7\/j=8\/j=9\/j=10\/j=11\/j=12\/j=13\/j=14\/j=15:=by omega
 rcases c with rfl | rfl | rfl | rfl | rfl | rfl | rfl | rfl | rfl | rfl | rfl | rfl | rfl | rfl | rfl | rfl
 all_goals
  simp only[Nat.reducePow,Nat.reduceSub,Nat.reduceLT,↓reduceIte]
  omega
theorem endW(N:Nat)(hN:20 < N){a b c s0 s1:Int}(h:Hok a b c)(h0:isU s0)(h1:isU s1):∃r,pR N (aJ.mk #v[a,b,c]) s0 s1=some r/\r.toList=byN 16 ((wW a b c % PP+(s0+W1*s1)) % W2):=by
 obtain⟨x,y,z,hh,v,e⟩:=endL1 N (by omega) h;obtain⟨hx,hy,hz⟩:=hh;unfold pR;rw[e]
 simp only[aGJ,aFw,aLQ,aKj,aa]
 obtain⟨lo,d,E,bl,bd,f1⟩:=aCz hx h0 (c:=0) ⟨by decide,by decide⟩
 rw[E,aa]
 obtain⟨hi,d2,E2,bh,bd2,f2⟩:=aCz hy h1 bd;rw[E2,aa]
 obtain⟨r,er,hr⟩:=endL2 N hN (lo,d) (hi,d2)
 rw[er,aa]
 refine⟨r,rfl,?_⟩
 have X:(wW a b c % PP+(s0+W1*s1)) % W2=lo+W1*hi:=by
  rw[<- v]
  unfold isU at *;unfold wW;simp only[W1,W2]
  omega
 rw[X]
 apply dp;intro j;by_cases hj:j < 16
 ·rw[hr j hj,aJp 16 _ j hj,leAll lo hi bl bh j hj]
 ·rw[bf (by simp;omega),bf (by rw[aTQ];omega)]
theorem aNR(a b:List Int):leV (a++b)=leV a+((256 ^ a.length:Nat):Int)*leV b:=by
 induction a with
 | nil=>show leV b=0+1*leV b;omega
 | cons x a ih=>
  rw[fb,leV,ih,leV,de,dh,fj]
  generalize ((256 ^ a.length:Nat):Int)=p;generalize leV b=q
  grind
theorem aT8{s:List Int}(h:s.length=16):bnum (s++[1])=leV s+W2:=by
 unfold bnum;have e1:(s++[1]).take 8=s.take 8:=by rw[iu (by omega)]
 have e2:((s++[1]).take 16).drop 8=s.drop 8:=by rw[iu (by omega),ar (by omega)]
 have e3:(s++[1]).getD 16 0=1:=by
  rw[an,cj (by omega),h];rfl
 rw[e1,e2,e3,Int.mul_one]
 have:=aNR (s.take 8) (s.drop 8)
 rw[i9,bp,h] at this;rw[this]
 rfl
theorem aR2(N:Nat)(hN:20 < N){s:List Int}(h:s.length=16)(hb:aQ s):∃bv:Vector Int 17,kL N s=some [bv]/\Bok bv/\bv.toList=s++[1]:=by
 obtain⟨k,rfl⟩:∃k,N=k+2:=⟨N - 2,by omega⟩
 obtain⟨v8,c16,hv⟩:∃v8:Vector Int 17,cpV (ag 17 (0:Int)) s 0 16=some v8/\v8.toList=s++[0]:=by
  refine⟨⟨(s++[0]).toArray,by simp;omega⟩,?_,rfl⟩
  unfold cpV;rw[dif_pos (by decide)]
  congr 2;unfold cpy;have z:(ag 17 (0:Int)).toList=ak 17 0:=rfl;rw[z,h]
  simp[ar (show s.length<=16 by omega)]
 have key:kL (k+2) s=some [v8.setIfInBounds 16 1]:=by
  unfold kL;rw[aC,h,show mY ((16:Nat):Int) 65536=((16:Nat):Int) from by decide,sX (by omega),ar (by omega),aa]
  rw[lH,aC,h,dt (by decide),cond_true,show aEJ 17 0 16=some () from rfl,aa,c16,aa]
  simp only[aC,show min 16 16=16 from rfl]
  rw[show aP ((16:Nat):Int) 17=some () from rfl,aa]
  have t16:((16:Nat):Int).toNat=16:=rfl;rw[t16,ah (by simp),aa,eF (by simp),aa,rP (by decide) (by omega) (by omega),aa]
  have d0:(s.take ((16:Nat):Int).toNat).drop ((16:Nat):Int).toNat=[]:=by rw[t16];simp
  rw[d0,lH,aC,df (by decide),cond_false]
  rfl
 have hs:(v8.setIfInBounds 16 1).toList=s++[1]:=by
  rw[bq,hv,List.set_append_right _ _ (by omega),h]
  rfl
 refine⟨_,key,⟨?_,?_⟩,hs⟩
 ·rw[hs]
  intro x hx;rcases List.mem_append.1 hx with h' | h'
  ·exact hb x h'
  ·rw[List.mem_singleton.1 h'];exact⟨by decide,by decide⟩
 ·rw[hs,an,cj (by omega),h]
  exact⟨by decide,by decide⟩
def aJI(R:Int)(l:List Int):Nat->Int
 | 0=>0
 | n+1=>((aJI R l n+(leV ((l.drop (16*n)).take 16)+W2))*R) % PP
theorem aNA{V V' H R b p:Int}(h:V'+PP*H=(V+b)*R)(hp:V % PP=p):V' % PP=((p+b)*R) % PP:=by
 have e:V' % PP=((V+b)*R) % PP:=by rw[<- h,Int.add_mul_emod_self_left]
 rw[e,<- hp,na (V % PP+b),Int.emod_add_emod,<- na]
theorem aUV(N:Nat)(hN:30 < N){r0 r1 s0 s1 al:Int}(hr:Rok r0 r1){l:List Int}(hb:aQ l){m:Nat}(hm:l.length=16*m)(hl:l.length < 1000000) :
  ∀(d k n:Nat) (a b c:Int),n+d=m->d < k->Hok a b c->wW a b c % PP=aJI (r0+W1*r1) l n ->
  ∃x y z,Hok x y z/\wW x y z % PP=aJI (r0+W1*r1) l m/\fH N k #v[a,b,c] true r0 r1 s0 s1 (l.drop (16*n)) al=some (#v[x,y,z],true,r0,r1,s0,s1,[],al):=by
 intro d
 induction d with
 | zero=>
  intro k n a b c hn hk h hv;obtain⟨k,rfl⟩:∃j,k=j+1:=⟨k - 1,by omega⟩
  obtain rfl:n=m:=by omega
  have e:l.drop (16*n)=[]:=du (by omega)
  refine⟨a,b,c,h,hv,?_⟩
  rw[e,fH,aC,df (by decide),cond_false]
 | succ d ih=>
  intro k n a b c hn hk h hv;obtain⟨k,rfl⟩:∃j,k=j+1:=⟨k - 1,by omega⟩
  have dl:(l.drop (16*n)).length=16*m - 16*n:=by rw[ca,hm]
  have t16:((l.drop (16*n)).take 16).length=16:=by rw[bp,dl];omega
  have tb:aQ ((l.drop (16*n)).take 16):=λx hx=>hb x (ct (ce hx))
  obtain⟨bv,e1,e2,e3⟩:=aR2 N (by omega) t16 tb;obtain⟨x,y,z,H,e4,hh,e5⟩:=aTZ N (by omega) h hr e2;rw[e3,aT8 t16] at e5;have hv':=aNA e5 hv;obtain⟨x',y',z',g1,g2,g3⟩:=ih k (n+1) x y z (by omega) (by omega) hh hv';refine⟨x',y',z',g1,g2,?_⟩
  have s16:dU (l.drop (16*n)) 0 16=some ((l.drop (16*n)).take 16):=sX (n:=16) (by omega)
  rw[fH,aC,dt (by omega),cond_true,s16,aa,e1,aa]
  rw[show idx [bv] 0=some bv from rfl,aa,aRq,e4,aa,aa]
  dsimp only;rw[rP (by decide) (by omega) (by omega),aa]
  have e6:((l.drop (16*n)).take (((l.drop (16*n)).length:Nat):Int).toNat).drop (16:Int).toNat=l.drop (16*(n+1)):=by
   rw[bx,ar (cg _),mo]
   congr 1
  rw[e6]
  exact g3
def clB(j:Nat)(x:Int):Int:=if j % 4=3 then x % 16 else if j % 4=0/\0 < j then x / 4*4 else x
def vg(v:Vector Int 16)(j:Nat):Int:=v.toList.getD j 0
theorem yS(v:Vector Int 16){j:Nat}(h:j < 16):v.toList[j]? = some (vg v j):=by
 unfold vg;rw[an,ah (by simp;omega)]
 rfl
theorem aQZ{v:Vector Int 16}(hv:eH v){j:Nat}(h:j < 16):isB (vg v j):=hv _ (List.mem_of_getElem? (yS v h))
theorem aTV{x:Int}(h:isB x):cF .u8 x 15=x % 16:=by
 have key:∀y:Fin 256,cF .u8 (y.val:Int) 15=(y.val:Int) % 16:=by decide +kernel
 unfold isB at h;have:=key ⟨x.toNat,by omega⟩
 rwa[ed h.1] at this
theorem aRB{x:Int}(h:isB x):cF .u8 x 252=x / 4*4:=by
 have key:∀y:Fin 256,cF .u8 (y.val:Int) 252=(y.val:Int) / 4*4:=by decide +kernel
 unfold isB at h;have:=key ⟨x.toNat,by omega⟩
 rwa[ed h.1] at this
def ClI(v:Vector Int 16)(n:Nat)(s:Vector Int 16):Prop:=∀j,j < 16->s.toList[j]? = some (if j < n then clB j (vg v j) else vg v j)
theorem aUG(N:Nat)(hN:30 < N){v:Vector Int 16}(hv:eH v):T (qY N v) (ClI v 16):=by
 unfold qY;refine T.bind (T.loop0 (n:=4) (by decide) (λi s=>ClI v (4*i) s) (F:=kT N) (λk s i hi hs Q hk=>?_) (λk s=>by rw[kT,df (by omega),cond_false]) (by omega) (λj hj=>by rw[yS v hj,if_neg (by omega)])) λp1 h1=>T.ret h1;have i3:I64 (I64 (4*(i:Int))+3)=((4*i+3:Nat):Int):=by rw[aR (x:=4*(i:Int)) (by omega) (by omega),aR (by omega) (by omega)];omega
 have i0:I64 (4*(i:Int))=((4*i:Nat):Int):=by rw[aR (by omega) (by omega)];omega
 rw[kT,dt (by omega),cond_true,i3,i0,aC,cZ (by omega)]
 have g3:=hs (4*i+3) (by omega)
 rw[if_neg (by omega)] at g3;have t3:((4*i+3:Nat):Int).toNat=4*i+3:=rfl;have t0:((4*i:Nat):Int).toNat=4*i:=rfl;rw[cD (i:=((4*i+3:Nat):Int)) (by omega) (by omega),aa,t3,g3,aa,aa,aa,aTV (aQZ hv (by omega))]
 by_cases c:i=0
 ·subst c;rw[df (by decide),cond_false,aa]
  refine hk _ λj hj=>?_;rw[bq,cr]
  by_cases e:4*0+3=j
  ·subst e;rw[if_pos rfl,if_pos (by simp),if_pos (by decide)]
   rfl
  ·rw[if_neg e,hs j hj,if_neg (by omega)]
   by_cases e2:j < 4*(0+1)
   ·rw[if_pos e2]
    unfold clB;rw[if_neg (by omega),if_neg (by omega)]
   ·rw[if_neg e2]
 ·have g0:(s.setIfInBounds (4*i+3) (vg v (4*i+3) % 16)).toList[4*i]? = some (vg v (4*i)):=by
   rw[bq,cr,if_neg (by omega),hs (4*i) (by omega),if_neg (by omega)]
  rw[dt (by omega),cond_true,cD (i:=((4*i:Nat):Int)) (by omega) (by omega),aa,t0,g0,aa,aa,aa,aRB (aQZ hv (by omega)),aa]
  refine hk _ λj hj=>?_;rw[bq,bq,cr,cr]
  by_cases e:4*i=j
  ·subst e;rw[if_pos rfl,if_pos (by simp;omega),if_pos (by omega)]
   unfold clB;rw[if_neg (by omega),if_pos (by omega)]
  ·rw[if_neg e]
   by_cases e3:4*i+3=j
   ·subst e3;rw[if_pos rfl,if_pos (by simp;omega),if_pos (by omega)]
    unfold clB;rw[if_pos (by omega)]
   ·rw[if_neg e3,hs j hj]
    by_cases e2:j < 4*(i+1)
    ·rw[if_pos e2]
     by_cases e4:j < 4*i
     ·rw[if_pos e4]
     ·rw[if_neg e4]
      unfold clB;rw[if_neg (by omega),if_neg (by omega)]
    ·rw[if_neg e2,if_neg (by omega)]
theorem aTb(N:Nat)(hN:30 < N){v:Vector Int 16}(hv:eH v):T (iO N v) (ClI v 16):=by
 unfold iO;refine T.bind (T.loop0 (n:=16) (by decide) (λi s=>ClI v i s) (F:=kJ N) (λk s i hi hs Q hk=>?_) (λk s=>by rw[kJ,df (by omega),cond_false]) (by omega) (λj hj=>by rw[yS v hj,if_neg (by omega)])) λp1 h1=>T.ret h1;have ti:((i:Nat):Int).toNat=i:=rfl;have tm:Int.tmod (i:Int) 4=((i % 4:Nat):Int):=by rw[cz (by omega)];omega
 have gi:=hs i hi;rw[if_neg (by omega)] at gi;obtain⟨b0,b1⟩:=aQZ hv hi;have nx:∀x,x=clB i (vg v i)->ClI v (i+1) (s.setIfInBounds i x):=by
  intro x hx j hj;subst hx;rw[bq,cr]
  by_cases e:i=j
  ·subst e;rw[if_pos rfl,if_pos (by simp;omega),if_pos (by omega)]
  ·rw[if_neg e,hs j hj]
   by_cases e2:j < i
   ·rw[if_pos e2,if_pos (by omega)]
   ·rw[if_neg e2,if_neg (by omega)]
 have nx0:clB i (vg v i)=vg v i->ClI v (i+1) s:=by
  intro h j hj;rw[hs j hj]
  by_cases e:i=j
  ·subst e;rw[if_neg (by omega),if_pos (by omega),h]
  ·by_cases e2:j < i
   ·rw[if_pos e2,if_pos (by omega)]
   ·rw[if_neg e2,if_neg (by omega)]
 rw[kJ,dt (by omega),cond_true,tm,cZ (by omega),ti]
 by_cases c3:i % 4=3
 ·rw[c3,show(((3:Nat):Int)==3)=true from rfl,cond_true,cD (by omega) (by omega),aa,gi,aa,aa,aa,aa,aC,show(((3:Nat):Int)==0)=false from rfl,cond_false,cond_false,aa]
  refine hk _ (nx _ ?_)
  unfold clB;rw[if_pos c3,cz b0]
 ·rw[show(((i % 4:Nat):Int)==3)=false by simp;omega,cond_false,aa,aC]
  by_cases c0:i % 4=0/\0 < i
  ·rw[c0.1,show(((0:Nat):Int)==0)=true from rfl,cond_true,dt (by omega),cond_true,cD (by omega) (by omega),aa,gi,aa,aC,aa,aa,aa]
   refine hk _ (nx _ ?_)
   unfold clB;rw[if_neg c3,if_pos c0,Int.tdiv_eq_ediv_of_nonneg b0,aAz,aAz]
   omega
  ·have e:(cond (((i % 4:Nat):Int)==0) (decide ((i:Int) > 0)) false)=false:=by
    by_cases z:i % 4=0
    ·rw[z,show(((0:Nat):Int)==0)=true from rfl,cond_true,df (by omega)]
    ·rw[show(((i % 4:Nat):Int)==0)=false by simp;omega,cond_false]
   rw[e,cond_false,aa]
   refine hk _ (nx0 ?_)
   unfold clB;rw[if_neg c3,if_neg c0]
theorem aUg(N:Nat)(hN:30 < N){v:Vector Int 16}(hv:eH v):∃c,qY N v=some c/\iO N v=some c/\∀j,j < 16->c.toList[j]? = some (clB j (vg v j)):=by
 obtain⟨c,e,h⟩:=aUG N hN hv;obtain⟨d,e',h'⟩:=aTb N hN hv;have:c=d:=by
  apply Vector.toList_inj.1;apply dp;intro j;by_cases hj:j < 16
  ·rw[h j hj,h' j hj]
  ·rw[bf (by simp;omega),bf (by simp;omega)]
 subst this;exact⟨c,e,e',λj hj=>by rw[h j hj,if_pos hj]⟩
theorem vecE{m:Nat}{l:List Int}(h:l.length=m):∃v:Vector Int m,aGi m l=some v/\v.toList=l:=by
 unfold aGi;rw[dif_pos (by omega)]
 exact⟨_,rfl,ar (by omega)⟩
theorem aTN{l:List Int}(h:l.length=16):leV l=leV (l.take 8)+W1*leV ((l.take 16).drop 8):=by
 have:=aNR (l.take 8) (l.drop 8)
 rw[i9,bp,h] at this;rw[this,ar (show l.length<=16 by omega)]
 rfl
theorem aSy{l:List Int}(hb:aQ l)(hl:l.length=8)(h7:∀x,l[7]? = some x->x < 16):0<=leV l/\leV l < 1152921504606846976:=by
 have e:l=l.take 7++[l[7]'(by omega)]:=by
  rw[<- dw (show 7 < l.length by omega),ar (by omega)]
 have x0:=hb _ (ck (show 7 < l.length by omega))
 have x1:=h7 _ (ah (show 7 < l.length by omega))
 have b:=aIN (l.take 7) (λx hx=>hb x (ce hx))
 have l7:(l.take 7).length=7:=by rw[bp];omega
 rw[e,aEr,l7]
 rw[l7] at b;unfold isB at x0;generalize l[7]'(by omega)=x at *;have c:((256 ^ 7:Nat):Int)=72057594037927936:=by decide
 rw[c] at b ⊢;omega
structure KeyOk(key:Vector Int 32)(c:Vector Int 16)(r0 r1 s0 s1:Int):Prop where
 r:Rok r0 r1
 s:isU s0/\isU s1
 re:r0+W1*r1=leV c.toList
 se:s0+W1*s1=leV (key.toList.drop 16)
theorem newV(N:Nat)(hN:30 < N){key:Vector Int 32}(hk:eH key):∃(v c:Vector Int 16) (r0 r1 s0 s1:Int),v.toList=key.toList.take 16/\iO N v=some c/\aQ c.toList/\vX N key=some (r0,r1,s0,s1)/\KeyOk key c r0 r1 s0 s1:=by
 have kl:key.toList.length=32:=by simp
 obtain⟨v,ev,hv⟩:=vecE (m:=16) (l:=key.toList.take 16) (by rw[bp,kl];decide)
 have vb:eH v:=by intro x hx;rw[hv] at hx;exact hk x (ce hx)
 obtain⟨c,e1,e2,hc⟩:=aUg N hN vb;have cl:c.toList.length=16:=by simp
 have cb:aQ c.toList:=by
  intro x hx;obtain⟨j,hj,rfl⟩:=List.mem_iff_getElem.1 hx;have h:=hc j (by omega)
  rw[ah hj] at h;have b:=aQZ vb (show j < 16 by omega)
  unfold isB at b ⊢;rw[Option.some.inj h]
  unfold clB;split
  ·omega
  ·split <;> omega
 have c15:∀j,j < 16->j % 4=3->∀x,c.toList[j]? = some x->x < 16:=by
  intro j hj h3 x hx;rw[hc j hj] at hx;have b:=aQZ vb hj;unfold isB at b;rw[<- Option.some.inj hx]
  unfold clB;rw[if_pos h3]
  omega
 have s0:dU key.toList 0 16=some (key.toList.take 16):=sX (n:=16) (by omega)
 have s1:dU c.toList 0 16=some (c.toList.take 16):=sX (n:=16) (by omega)
 have s2:dU c.toList 8 16=some ((c.toList.take 16).drop 8):=rP (by decide) (by decide) (by omega)
 have s3:dU key.toList 16 32=some ((key.toList.take 32).drop 16):=rP (by decide) (by decide) (by omega)
 have s4:dU key.toList 24 32=some ((key.toList.take 32).drop 24):=rP (by decide) (by decide) (by omega)
 have t32:key.toList.take 32=key.toList:=ar (by omega)
 have t16:c.toList.take 16=c.toList:=ar (by omega)
 have sub:∀{l l':List Int},aQ l->(∀x∈l',x∈l)->aQ l':=λh g x hx=>h x (g x hx)
 have kb:aQ key.toList:=hk;rw[t32] at s3 s4;rw[t16] at s1;have n0:=aCo N (by omega) (b:=c.toList) (by omega) cb;have n1:=aCo N (by omega) (b:=(c.toList.take 16).drop 8) (by rw[ca,t16];omega) (sub cb λx hx=>ce (ct hx))
 have n2:=aCo N (by omega) (b:=key.toList.drop 16) (by rw[ca];omega) (sub kb λx hx=>ct hx)
 have n3:=aCo N (by omega) (b:=key.toList.drop 24) (by rw[ca];omega) (sub kb λx hx=>ct hx)
 have t8:((c.toList.take 16).drop 8).take 8=(c.toList.take 16).drop 8:=ar (by rw[ca,t16];omega)
 have t8':(key.toList.drop 24).take 8=key.toList.drop 24:=ar (by rw[ca];omega)
 rw[t8] at n1;rw[t8'] at n3;have k8:(key.toList.drop 16).drop 8=key.toList.drop 24:=by rw[mo]
 refine⟨v,c,leV (c.toList.take 8),leV ((c.toList.take 16).drop 8),leV ((key.toList.drop 16).take 8),leV (key.toList.drop 24),hv,e2,cb,?_,⟨⟨?_,?_⟩,⟨?_,?_⟩,?_,?_⟩⟩
 ·unfold vX;rw[s0,aa,ev,aa,e1,aa,s1,aa,n0,aa,s2,aa,n1,aa,s3,aa,n2,aa,s4,aa,n3,aa]
 ·refine aSy (sub cb λx hx=>ce hx) (by rw[bp];omega) λx hx=>?_;rw[List.getElem?_take,if_pos (by decide)] at hx;exact c15 7 (by decide) (by decide) x hx
 ·refine aSy (sub cb λx hx=>ce (ct hx)) (by rw[ca,t16];omega) λx hx=>?_;rw[t16,List.getElem?_drop] at hx;exact c15 15 (by decide) (by decide) x hx
 ·exact leV8 (sub kb λx hx=>ct (ce hx)) (by rw[bp,ca];omega)
 ·exact leV8 (sub kb λx hx=>ct hx) (by rw[ca];omega)
 ·exact(aTN cl).symm
 ·have:=aTN (l:=key.toList.drop 16) (by rw[ca];omega)
  rw[this,ar (i:=16) (by rw[ca];omega),k8]
theorem aT7(N:Nat)(hN:70000 < N){ms:List (List Int)}(hms:ms.length < 1000):∀(d k i:Nat) (s:List Int),i+d=ms.length->d < k->s.length+((ms.drop i).flatten).length<=65536->fI N ms k s (s.length:Int) (i:Int)=some (s++(ms.drop i).flatten,((s++(ms.drop i).flatten).length:Int)):=by
 intro d
 induction d with
 | zero=>
  intro k i s hi hk hl;obtain⟨k,rfl⟩:∃j,k=j+1:=⟨k - 1,by omega⟩
  rw[fI,aC,df (by omega),cond_false,du (show ms.length<=i by omega),List.flatten_nil,List.append_nil]
 | succ d ih=>
  intro k i s hi hk hl;obtain⟨k,rfl⟩:∃j,k=j+1:=⟨k - 1,by omega⟩
  have hlt:i < ms.length:=by omega
  have e:(ms.drop i).flatten=ms[i]++(ms.drop (i+1)).flatten:=by rw[List.drop_eq_getElem_cons hlt,List.flatten_cons]
  rw[e,ai] at hl;rw[fI,aC,dt (by omega),cond_true,mX,ah hlt,aa,aC]
  have f:I64 (65536 - (s.length:Int))=((65536 - s.length:Nat):Int):=by rw[aR (by omega) (by omega)];omega
  have g:mY ((ms[i].length:Nat):Int) (I64 (65536 - (s.length:Int)))=((ms[i].length:Nat):Int):=by rw[f];unfold mY;split <;> omega
  rw[g,sX (cg _),ar (cg _),aa,aC,eF (by omega),aa,cZ (by omega)]
  have h2:I64 ((s.length:Int)+(ms[i].length:Int))=((s++ms[i]).length:Int):=by rw[aR (by omega) (by omega),ai];rfl
  rw[h2,ih k (i+1) (s++ms[i]) (by omega) (by omega) (by rw[ai];omega),e,List.append_assoc]
theorem tagV(N:Nat)(hN:70000 < N){key:Vector Int 32}(hk:eH key){ms:List (List Int)}(hms:ms.length < 1000)(hb:aQ ms.flatten){m:Nat}(hm:ms.flatten.length=16*m)(hl:ms.flatten.length<=65536) :
  ∃(v c t:Vector Int 16),v.toList=key.toList.take 16/\iO N v=some c/\aQ c.toList/\uI N key ms=some t/\t.toList=byN 16 ((aJI (leV c.toList) ms.flatten m+leV (key.toList.drop 16)) % W2):=by
 obtain⟨v,c,r0,r1,s0,s1,hv,hc,hcb,e,kr,ks,kre,kse⟩:=newV N (by omega) hk;have a1:=aT7 N hN hms ms.length N 0 [] (by omega) (by omega) (by simpa using hl)
 rw[eu,List.nil_append] at a1;have z0:Hok 0 0 0:=⟨zP,zP,by decide,by decide⟩
 obtain⟨x,y,z,hh,hv2,a2⟩:=aUV N (by omega) kr hb hm (by omega) (s0:=s0) (s1:=s1) (al:=(ms.flatten.length:Int)) m N 0 0 0 0 (by omega) (by omega) z0 rfl;rw[Nat.mul_zero,eu] at a2;obtain⟨t,et,ht⟩:=endW N (by omega) hh ks.1 ks.2;rw[hv2,kre,kse] at ht;refine⟨v,c,t,hv,hc,hcb,?_,ht⟩
 unfold uI;rw[e,aa]
 unfold qW;dsimp only;rw[Bool.not_true,cond_false,show(0:Int)=(([]:List Int).length:Int) from rfl] at *;rw[show((([]:List Int).length:Nat):Int)=((0:Nat):Int) from rfl] at *;rw[a1,aa]
 dsimp only;rw[a2,aa,aa]
 unfold pJ;dsimp only;obtain⟨k,rfl⟩:∃j,N=j+1:=⟨N - 1,by omega⟩
 have b0:kL (k+1) []=some []:=by
  unfold kL;rw[aC,show mY ((([]:List Int).length:Nat):Int) 65536=((0:Nat):Int) from by decide,sX (by decide),aa,lH,aC,df (by decide),cond_false]
  rfl
 rw[Bool.not_true,cond_false,b0,aa,jT,aC,df (by decide),cond_false,aa,et]
 rfl
end Go.UK
