/- A part of the proof: what the functions of the program compute. -/
import Derived.Test.YtbifjcmhomoppaaGreatJ4
open BitVec renaming ofInt→bz
open Int renaming add_zero→ne,ediv_ediv_of_nonneg→je,eq_ofNat_of_zero_le→bw,mul_comm→mn,natCast_mul→fj,natCast_pow→gg,one_mul→ni,tdiv→cv,tdiv_eq_ediv_of_nonneg→dc,tmod→br,tmod_eq_emod_of_nonneg→cz
open List renaming ext_getElem?→dp,getD_eq_getElem?_getD→an,getElem?_append_left→cm,getElem?_append_right→cj,getElem?_drop→fm,getElem?_eq_getElem→ah,getElem?_eq_none→bf,getElem?_replicate→cw,getElem?_set→cr,getElem?_take→cu,length_append→ai,length_drop→ca,length_singleton→cn,length_take→bp,mem_append→dk,mem_cons_of_mem→ij,mem_cons_self→ig,mem_of_mem_drop→ct,mem_singleton→iy,replicate→ak
open Nat renaming add_mul_div_left→ew,add_mul_mod_self_left→j8,div_div_eq_div_mul→gr,div_eq_of_lt→mg,div_lt_iff_lt_mul→jt,mod_add_div→mq,mod_eq_of_lt→iw,mod_lt→ff,mod_mul→ic,mod_one→j6,mul_add→nk,mul_assoc→n6,mul_zero→nd,pow_add→fe,pow_le_pow_right→fo,pow_pos→nj,pow_succ→dh,pow_zero→iv,reduceMul→fu,reducePow→fa,two_pow_pos→eg
open Option renaming bind_some→aa
open Vector renaming replicate→ag,toList_inj→gj,toList_setIfInBounds→bq
namespace Go.UK
open Go Go.Proofs
set_option maxRecDepth 20000
set_option maxHeartbeats 16000000
set_option linter.all false
def oV(a b c d e:Int):Int:=a+67108864*b+4503599627370496*c+302231454903657293676544*d+20282409603651670423947251286016*e
theorem aH5(a b c d e:Int):(#v[a,b,c,d,e]:Vector Int 5).toList[((0:Int).toNat)]? = some a:=rfl
theorem aH6(a b c d e:Int):(#v[a,b,c,d,e]:Vector Int 5).toList[((1:Int).toNat)]? = some b:=rfl
theorem aH0(a b c d e:Int):(#v[a,b,c,d,e]:Vector Int 5).toList[((2:Int).toNat)]? = some c:=rfl
theorem aHZ(a b c d e:Int):(#v[a,b,c,d,e]:Vector Int 5).toList[((3:Int).toNat)]? = some d:=rfl
theorem aHJ(a b c d e:Int):(#v[a,b,c,d,e]:Vector Int 5).toList[((4:Int).toNat)]? = some e:=rfl
theorem aIu(a b c d e x:Int):(#v[a,b,c,d,e]:Vector Int 5).setIfInBounds ((0:Int).toNat) x=#v[x,b,c,d,e]:=rfl
theorem aIf(a b c d e x:Int):(#v[a,b,c,d,e]:Vector Int 5).setIfInBounds ((1:Int).toNat) x=#v[a,x,c,d,e]:=rfl
theorem aI4(a b c d e x:Int):(#v[a,b,c,d,e]:Vector Int 5).setIfInBounds ((2:Int).toNat) x=#v[a,b,x,d,e]:=rfl
theorem aIY(a b c d e x:Int):(#v[a,b,c,d,e]:Vector Int 5).setIfInBounds ((3:Int).toNat) x=#v[a,b,c,x,e]:=rfl
theorem aIo(a b c d e x:Int):(#v[a,b,c,d,e]:Vector Int 5).setIfInBounds ((4:Int).toNat) x=#v[a,b,c,d,x]:=rfl
theorem aDN : aP 0 5=some ():=rfl
theorem aDB : aP 1 5=some ():=rfl
theorem aDD : aP 2 5=some ():=rfl
theorem aDG : aP 3 5=some ():=rfl
theorem aDJ : aP 4 5=some ():=rfl
theorem k01 : I64 (0+1)=1:=by decide
theorem k12 : I64 (1+1)=2:=by decide
theorem k23 : I64 (2+1)=3:=by decide
theorem k34 : I64 (3+1)=4:=by decide
theorem k45 : I64 (4+1)=5:=by decide
def ng(x:Int):Prop:=0<=x/\x < 1152921504606846976
theorem aEV{x:Int}(h:0<=x/\x < 4611686018427387904):I64 (x - shl .i64 (x / 67108864) 26)=x % 67108864/\shr .i64 x 26=x / 67108864:=by
 have e:shr .i64 x 26=x / 67108864:=by rw[aAg .i64 x 26 26 rfl (by decide)];rfl
 have e2:shl .i64 (x / 67108864) 26=I64 (x / 67108864*67108864):=by
  rw[show(26:Int)=((26:Nat):Int) from rfl,shlI _ 26 (by decide)];rfl
 refine⟨?_,e⟩
 rw[e2,aR (x:=x / 67108864*67108864) (by omega) (by omega),aR (by omega) (by omega)]
 omega
theorem aMc(N:Nat)(hN:10 < N){a b c d e:Int}(ha:ng a)(hb:ng b)(hc:ng c)(hd:ng d)(he:ng e):∃a' b' c' d' e' q,cC N N #v[a,b,c,d,e] 0=some #v[a',b',c',d',e']/\(0<=q/\q<=(e+34359738368) / 67108864)/\(0<=a'/\a' < 67108864+5*q)/\(0<=b'/\b' < 67108864)/\(0<=c'/\c' < 67108864)/\(0<=d'/\d' < 67108864)/\(0<=e'/\e' < 67108864)/\oV a' b' c' d' e'+PP*q=oV a b c d e/\(∃a0,a'=a0+5*q/\a0+67108864*((a - a0) / 67108864)=a/\0<=a0/\a0 < 67108864):=by
 unfold ng at *;obtain⟨k,rfl⟩:∃j,N=j+6:=⟨N - 6,by omega⟩
 obtain⟨f1,g1⟩:=aEV (x:=a) (by omega)
 have hI1:I64 (b+a / 67108864)=b+a / 67108864:=aR (by omega) (by omega)
 rw[cC,dt (by decide),cond_true]
 simp only[aDN,aDB,aH5,aH6,aIu,aa,k01,aC,f1,g1,hI1]
 rw[dt (by decide),cond_true,aa,aIf]
 have hb1:0<=b+a / 67108864/\b+a / 67108864 < 2305843009213693952:=by omega
 clear hI1;generalize hB:b+a / 67108864=B at *;obtain⟨f2,g2⟩:=aEV (x:=B) (by omega)
 have hI2:I64 (c+B / 67108864)=c+B / 67108864:=aR (by omega) (by omega)
 rw[cC,dt (by decide),cond_true]
 simp only[aDB,aDD,aH6,aH0,aIf,aa,k12,aC,f2,g2,hI2]
 rw[dt (by decide),cond_true,aa,aI4]
 have hc1:0<=c+B / 67108864/\c+B / 67108864 < 2305843009213693952:=by omega
 clear hI2;generalize hC:c+B / 67108864=C at *;obtain⟨f3,g3⟩:=aEV (x:=C) (by omega)
 have hI3:I64 (d+C / 67108864)=d+C / 67108864:=aR (by omega) (by omega)
 rw[cC,dt (by decide),cond_true]
 simp only[aDD,aDG,aH0,aHZ,aI4,aa,k23,aC,f3,g3,hI3]
 rw[dt (by decide),cond_true,aa,aIY]
 have hd1:0<=d+C / 67108864/\d+C / 67108864 < 2305843009213693952:=by omega
 clear hI3;generalize hD:d+C / 67108864=D at *;obtain⟨f4,g4⟩:=aEV (x:=D) (by omega)
 have hI4:I64 (e+D / 67108864)=e+D / 67108864:=aR (by omega) (by omega)
 rw[cC,dt (by decide),cond_true]
 simp only[aDG,aDJ,aHZ,aHJ,aIY,aa,k34,aC,f4,g4,hI4]
 rw[dt (by decide),cond_true,aa,aIo]
 have he1:0<=e+D / 67108864/\e+D / 67108864 < 2305843009213693952:=by omega
 have he2:(e+D / 67108864) / 67108864<=(e+34359738368) / 67108864:=by omega
 clear hI4;generalize hE:e+D / 67108864=E at *;obtain⟨f5,g5⟩:=aEV (x:=E) (by omega)
 have hI5:I64 (5*(E / 67108864))=5*(E / 67108864):=aR (by omega) (by omega)
 have hI6:I64 (a % 67108864+5*(E / 67108864))=a % 67108864+5*(E / 67108864):=aR (by omega) (by omega)
 rw[cC,dt (by decide),cond_true]
 simp only[aDJ,aDN,aHJ,aH5,aIo,aa,k45,aC,f5,g5,hI5,hI6]
 rw[df (by decide),cond_false,aa,aIu]
 rw[cC,df (by decide),cond_false]
 refine⟨_,_,_,_,_,E / 67108864,rfl,⟨by omega,he2⟩,by omega,by omega,by omega,by omega,by omega,?_,a % 67108864,rfl,by omega,by omega,by omega⟩
 unfold oV;simp only[PP]
 omega
def d26(x:Int):Prop:=0<=x/\x < 67108864
structure Dok(a b c d e:Int):Prop where
 a:d26 a
 b:d26 b
 c:d26 c
 d:d26 d
 e:d26 e
theorem Dok.lt{a b c d e:Int}(h:Dok a b c d e):0<=oV a b c d e/\oV a b c d e < aDp:=by
 obtain⟨h1,h2,h3,h4,h5⟩:=h;unfold d26 at *;unfold oV;simp only[aDp]
 omega
theorem aMD(N:Nat)(hN:10 < N){a b c d e:Int}(ha:ng a)(hb:ng b)(hc:ng c)(hd:ng d)(he:ng e):∃a0 b' c' d' e' q,cC N N #v[a,b,c,d,e] 0=some #v[a0+5*q,b',c',d',e']/\0<=q/\Dok a0 b' c' d' e'/\oV a0 b' c' d' e'+aDp*q=oV a b c d e:=by
 obtain⟨a',b',c',d',e',q,e1,⟨q0,_⟩,_,hb',hc',hd',he',hv,a0,ea,_,h0,h1⟩:=aMc N hN ha hb hc hd he;subst ea;refine⟨a0,b',c',d',e',q,e1,q0,⟨⟨h0,h1⟩,hb',hc',hd',he'⟩,?_⟩
 unfold oV at *;simp only[PP,aDp] at *;omega
theorem aKm(N:Nat)(hN:10 < N){a b c d e:Int}(ha:ng a)(hb:ng b)(hc:ng c)(hd:ng d)(he:ng e):∃a' b' c' d' e' H,lL N #v[a,b,c,d,e]=some #v[a',b',c',d',e']/\Dok a' b' c' d' e'/\oV a' b' c' d' e'+PP*H=oV a b c d e:=by
 obtain⟨k,hk⟩:∃j,N=j+4:=⟨N - 4,by omega⟩
 obtain⟨a1,b1,c1,d1,e1,q1,E1,p1,D1,v1⟩:=aMD N hN ha hb hc hd he;have u1:q1<=68719476736:=by
  have:=D1.lt;unfold ng at *;unfold oV at *;simp only[aDp] at *;omega
 have L1:=D1;obtain⟨x1,x2,x3,x4,x5⟩:=D1;unfold d26 at x1 x2 x3 x4 x5;obtain⟨a2,b2,c2,d2,e2,q2,E2,p2,D2,v2⟩:=aMD N hN (a:=a1+5*q1) (b:=b1) (c:=c1) (d:=d1) (e:=e1) (by unfold ng;omega) (by unfold ng;omega) (by unfold ng;omega) (by unfold ng;omega) (by unfold ng;omega)
 have u2:q2<=1:=by
  have:=D2.lt;unfold oV at *;simp only[aDp] at *;omega
 have L2:=D2;obtain⟨y1,y2,y3,y4,y5⟩:=D2;unfold d26 at y1 y2 y3 y4 y5;obtain⟨a3,b3,c3,d3,e3,q3,E3,p3,D3,v3⟩:=aMD N hN (a:=a2+5*q2) (b:=b2) (c:=c2) (d:=d2) (e:=e2) (by unfold ng;omega) (by unfold ng;omega) (by unfold ng;omega) (by unfold ng;omega) (by unfold ng;omega)
 have L3:=D3.lt;obtain⟨z1,z2,z3,z4,z5⟩:=D3;have u3:a3+5*q3 < 67108864:=by
  unfold d26 at z1 z2 z3 z4 z5;have:q3<=1:=by
   unfold oV at *;simp only[aDp] at *;omega
  by_cases c:q3=0
  ·subst c;omega
  ·have c1:q3=1:=by omega
   subst c1;unfold oV at v3;simp only[aDp] at v3;omega
 refine⟨a3+5*q3,b3,c3,d3,e3,q1+q2+q3,?_,⟨⟨by have:=z1.1;omega,u3⟩,z2,z3,z4,z5⟩,?_⟩
 ·unfold lL;subst hk;rw[eV,dt (by decide),cond_true,E1,aa,k01,eV,dt (by decide),cond_true,E2,aa,k12,eV,dt (by decide),cond_true,E3,aa,k23,eV,df (by decide),cond_false]
  rfl
 ·unfold oV at *;simp only[PP,aDp] at *;omega
theorem aDM(a b c d e:Int):idx (#v[a,b,c,d,e]:Vector Int 5).toList 0=some a:=rfl
theorem aDC(a b c d e:Int):idx (#v[a,b,c,d,e]:Vector Int 5).toList 1=some b:=rfl
theorem aDH(a b c d e:Int):idx (#v[a,b,c,d,e]:Vector Int 5).toList 2=some c:=rfl
theorem aC9(a b c d e:Int):idx (#v[a,b,c,d,e]:Vector Int 5).toList 3=some d:=rfl
theorem aDI(a b c d e:Int):idx (#v[a,b,c,d,e]:Vector Int 5).toList 4=some e:=rfl
def pd(x:Int):Prop:=0<=x/\x < 18014398509481984
def sm(n x:Int):Prop:=0<=x/\x<=n*90071992547409920
theorem pdI{x:Int}(h:pd x):I64 x=x:=by unfold pd at h;exact aR (by omega) (by omega)
theorem pdJ{x:Int}(h:pd x):I64 (5*x)=5*x:=by unfold pd at h;exact aR (by omega) (by omega)
theorem smI{n s w:Int}(hn:0<=n/\n<=5)(h:sm n s)(hw:pd w):I64 (s+w)=s+w:=by unfold pd sm at *;exact aR (by omega) (by omega)
theorem smJ{n s w:Int}(hn:0<=n/\n<=5)(h:sm n s)(hw:pd w):I64 (s+5*w)=s+5*w:=by unfold pd sm at *;exact aR (by omega) (by omega)
theorem smS{n s w:Int}(hn:0<=n/\n<=5)(h:sm n s)(hw:pd w):sm (n+1) (s+w):=by unfold pd sm at *;omega
theorem smT{n s w:Int}(hn:0<=n/\n<=5)(h:sm n s)(hw:pd w):sm (n+1) (s+5*w):=by unfold pd sm at *;omega
theorem tm5_0 : br 0 5=0:=by decide
theorem aS4 : br 1 5=1:=by decide
theorem aPc : br 2 5=2:=by decide
theorem aN1 : br 3 5=3:=by decide
theorem aK9 : br 4 5=4:=by decide
theorem aNb : br 5 5=0:=by decide
theorem aPN : br 6 5=1:=by decide
theorem aTR : br 7 5=2:=by decide
theorem tm5_8 : br 8 5=3:=by decide
theorem ik00 : I64 (0+0)=0:=by decide
theorem ik01 : I64 (0+1)=1:=by decide
theorem ik02 : I64 (0+2)=2:=by decide
theorem ik03 : I64 (0+3)=3:=by decide
theorem ik04 : I64 (0+4)=4:=by decide
theorem ik10 : I64 (1+0)=1:=by decide
theorem ik11 : I64 (1+1)=2:=by decide
theorem ik12 : I64 (1+2)=3:=by decide
theorem ik13 : I64 (1+3)=4:=by decide
theorem ik14 : I64 (1+4)=5:=by decide
theorem ik20 : I64 (2+0)=2:=by decide
theorem ik21 : I64 (2+1)=3:=by decide
theorem ik22 : I64 (2+2)=4:=by decide
theorem ik23 : I64 (2+3)=5:=by decide
theorem ik24 : I64 (2+4)=6:=by decide
theorem ik30 : I64 (3+0)=3:=by decide
theorem ik31 : I64 (3+1)=4:=by decide
theorem ik32 : I64 (3+2)=5:=by decide
theorem ik33 : I64 (3+3)=6:=by decide
theorem ik34 : I64 (3+4)=7:=by decide
theorem ik40 : I64 (4+0)=4:=by decide
theorem ik41 : I64 (4+1)=5:=by decide
theorem ik42 : I64 (4+2)=6:=by decide
theorem ik43 : I64 (4+3)=7:=by decide
theorem ik44 : I64 (4+4)=8:=by decide
theorem row0(N:Nat)(hN:10 < N){n:Int}(hn:0<=n/\n<=5){a0 a1 a2 a3 a4 b0 b1 b2 b3 b4 s0 s1 s2 s3 s4:Int}(hp0:pd (a0*b0))(hp1:pd (a0*b1))(hp2:pd (a0*b2))(hp3:pd (a0*b3))(hp4:pd (a0*b4))(hs0:sm n s0)(hs1:sm n s1)(hs2:sm n s2)(hs3:sm n s3)(hs4:sm n s4):aM N #v[a0,a1,a2,a3,a4] 0 #v[b0,b1,b2,b3,b4] N #v[s0,s1,s2,s3,s4] 0=some #v[s0+a0*b0,s1+a0*b1,s2+a0*b2,s3+a0*b3,s4+a0*b4]/\sm (n+1) (s0+a0*b0)/\sm (n+1) (s1+a0*b1)/\sm (n+1) (s2+a0*b2)/\sm (n+1) (s3+a0*b3)/\sm (n+1) (s4+a0*b4):=by
 obtain⟨k,rfl⟩:∃j,N=j+6:=⟨N - 6,by omega⟩
 refine⟨?_,smS hn hs0 hp0,smS hn hs1 hp1,smS hn hs2 hp2,smS hn hs3 hp3,smS hn hs4 hp4⟩
 rw[aM,dt (by decide),cond_true,aDM,aa,aDM,aa,pdI hp0,aC]
 rw[ik00,df (by decide),cond_false,aa,aC,aC,tm5_0,aDN,aa,aH5,aa,aa,aa,smI hn hs0 hp0,aIu,k01]
 rw[aM,dt (by decide),cond_true,aDM,aa,aDC,aa,pdI hp1,aC]
 rw[ik01,df (by decide),cond_false,aa,aC,aC,aS4,aDB,aa,aH6,aa,aa,aa,smI hn hs1 hp1,aIf,k12]
 rw[aM,dt (by decide),cond_true,aDM,aa,aDH,aa,pdI hp2,aC]
 rw[ik02,df (by decide),cond_false,aa,aC,aC,aPc,aDD,aa,aH0,aa,aa,aa,smI hn hs2 hp2,aI4,k23]
 rw[aM,dt (by decide),cond_true,aDM,aa,aC9,aa,pdI hp3,aC]
 rw[ik03,df (by decide),cond_false,aa,aC,aC,aN1,aDG,aa,aHZ,aa,aa,aa,smI hn hs3 hp3,aIY,k34]
 rw[aM,dt (by decide),cond_true,aDM,aa,aDI,aa,pdI hp4,aC]
 rw[ik04,df (by decide),cond_false,aa,aC,aC,aK9,aDJ,aa,aHJ,aa,aa,aa,smI hn hs4 hp4,aIo,k45]
 rw[aM,df (by decide),cond_false]
theorem row1(N:Nat)(hN:10 < N){n:Int}(hn:0<=n/\n<=5){a0 a1 a2 a3 a4 b0 b1 b2 b3 b4 s0 s1 s2 s3 s4:Int}(hp0:pd (a1*b0))(hp1:pd (a1*b1))(hp2:pd (a1*b2))(hp3:pd (a1*b3))(hp4:pd (a1*b4))(hs0:sm n s0)(hs1:sm n s1)(hs2:sm n s2)(hs3:sm n s3)(hs4:sm n s4):aM N #v[a0,a1,a2,a3,a4] 1 #v[b0,b1,b2,b3,b4] N #v[s0,s1,s2,s3,s4] 0=some #v[s0+5*(a1*b4),s1+a1*b0,s2+a1*b1,s3+a1*b2,s4+a1*b3]/\sm (n+1) (s0+5*(a1*b4))/\sm (n+1) (s1+a1*b0)/\sm (n+1) (s2+a1*b1)/\sm (n+1) (s3+a1*b2)/\sm (n+1) (s4+a1*b3):=by
 obtain⟨k,rfl⟩:∃j,N=j+6:=⟨N - 6,by omega⟩
 refine⟨?_,smT hn hs0 hp4,smS hn hs1 hp0,smS hn hs2 hp1,smS hn hs3 hp2,smS hn hs4 hp3⟩
 rw[aM,dt (by decide),cond_true,aDC,aa,aDM,aa,pdI hp0,aC]
 rw[ik10,df (by decide),cond_false,aa,aC,aC,aS4,aDB,aa,aH6,aa,aa,aa,smI hn hs1 hp0,aIf,k01]
 rw[aM,dt (by decide),cond_true,aDC,aa,aDC,aa,pdI hp1,aC]
 rw[ik11,df (by decide),cond_false,aa,aC,aC,aPc,aDD,aa,aH0,aa,aa,aa,smI hn hs2 hp1,aI4]
 rw[aM,dt (by decide),cond_true,aDC,aa,aDH,aa,pdI hp2,aC]
 rw[ik12,df (by decide),cond_false,aa,aC,aC,aN1,aDG,aa,aHZ,aa,aa,aa,smI hn hs3 hp2,aIY,k23]
 rw[aM,dt (by decide),cond_true,aDC,aa,aC9,aa,pdI hp3,aC]
 rw[ik13,df (by decide),cond_false,aa,aC,aC,aK9,aDJ,aa,aHJ,aa,aa,aa,smI hn hs4 hp3,aIo,k34]
 rw[aM,dt (by decide),cond_true,aDC,aa,aDI,aa,pdI hp4,aC]
 rw[ik14,dt (by decide),cond_true,aC,pdJ hp4,aa,aC,aC,aNb,aDN,aa,aH5,aa,aa,aa,smJ hn hs0 hp4,aIu,k45]
 rw[aM,df (by decide),cond_false]
theorem row2(N:Nat)(hN:10 < N){n:Int}(hn:0<=n/\n<=5){a0 a1 a2 a3 a4 b0 b1 b2 b3 b4 s0 s1 s2 s3 s4:Int}(hp0:pd (a2*b0))(hp1:pd (a2*b1))(hp2:pd (a2*b2))(hp3:pd (a2*b3))(hp4:pd (a2*b4))(hs0:sm n s0)(hs1:sm n s1)(hs2:sm n s2)(hs3:sm n s3)(hs4:sm n s4):aM N #v[a0,a1,a2,a3,a4] 2 #v[b0,b1,b2,b3,b4] N #v[s0,s1,s2,s3,s4] 0=some #v[s0+5*(a2*b3),s1+5*(a2*b4),s2+a2*b0,s3+a2*b1,s4+a2*b2]/\sm (n+1) (s0+5*(a2*b3))/\sm (n+1) (s1+5*(a2*b4))/\sm (n+1) (s2+a2*b0)/\sm (n+1) (s3+a2*b1)/\sm (n+1) (s4+a2*b2):=by
 obtain⟨k,rfl⟩:∃j,N=j+6:=⟨N - 6,by omega⟩
 refine⟨?_,smT hn hs0 hp3,smT hn hs1 hp4,smS hn hs2 hp0,smS hn hs3 hp1,smS hn hs4 hp2⟩
 rw[aM,dt (by decide),cond_true,aDH,aa,aDM,aa,pdI hp0,aC]
 rw[ik20,df (by decide),cond_false,aa,aC,aC,aPc,aDD,aa,aH0,aa,aa,aa,smI hn hs2 hp0,aI4,k01]
 rw[aM,dt (by decide),cond_true,aDH,aa,aDC,aa,pdI hp1,aC]
 rw[ik21,df (by decide),cond_false,aa,aC,aC,aN1,aDG,aa,aHZ,aa,aa,aa,smI hn hs3 hp1,aIY,k12]
 rw[aM,dt (by decide),cond_true,aDH,aa,aDH,aa,pdI hp2,aC]
 rw[ik22,df (by decide),cond_false,aa,aC,aC,aK9,aDJ,aa,aHJ,aa,aa,aa,smI hn hs4 hp2,aIo,k23]
 rw[aM,dt (by decide),cond_true,aDH,aa,aC9,aa,pdI hp3,aC]
 rw[ik23,dt (by decide),cond_true,aC,pdJ hp3,aa,aC,aC,aNb,aDN,aa,aH5,aa,aa,aa,smJ hn hs0 hp3,aIu,k34]
 rw[aM,dt (by decide),cond_true,aDH,aa,aDI,aa,pdI hp4,aC]
 rw[ik24,dt (by decide),cond_true,aC,pdJ hp4,aa,aC,aC,aPN,aDB,aa,aH6,aa,aa,aa,smJ hn hs1 hp4,aIf,k45]
 rw[aM,df (by decide),cond_false]
theorem row3(N:Nat)(hN:10 < N){n:Int}(hn:0<=n/\n<=5){a0 a1 a2 a3 a4 b0 b1 b2 b3 b4 s0 s1 s2 s3 s4:Int}(hp0:pd (a3*b0))(hp1:pd (a3*b1))(hp2:pd (a3*b2))(hp3:pd (a3*b3))(hp4:pd (a3*b4))(hs0:sm n s0)(hs1:sm n s1)(hs2:sm n s2)(hs3:sm n s3)(hs4:sm n s4):aM N #v[a0,a1,a2,a3,a4] 3 #v[b0,b1,b2,b3,b4] N #v[s0,s1,s2,s3,s4] 0=some #v[s0+5*(a3*b2),s1+5*(a3*b3),s2+5*(a3*b4),s3+a3*b0,s4+a3*b1]/\sm (n+1) (s0+5*(a3*b2))/\sm (n+1) (s1+5*(a3*b3))/\sm (n+1) (s2+5*(a3*b4))/\sm (n+1) (s3+a3*b0)/\sm (n+1) (s4+a3*b1):=by
 obtain⟨k,rfl⟩:∃j,N=j+6:=⟨N - 6,by omega⟩
 refine⟨?_,smT hn hs0 hp2,smT hn hs1 hp3,smT hn hs2 hp4,smS hn hs3 hp0,smS hn hs4 hp1⟩
 rw[aM,dt (by decide),cond_true,aC9,aa,aDM,aa,pdI hp0,aC]
 rw[ik30,df (by decide),cond_false,aa,aC,aC,aN1,aDG,aa,aHZ,aa,aa,aa,smI hn hs3 hp0,aIY,k01]
 rw[aM,dt (by decide),cond_true,aC9,aa,aDC,aa,pdI hp1,aC]
 rw[ik31,df (by decide),cond_false,aa,aC,aC,aK9,aDJ,aa,aHJ,aa,aa,aa,smI hn hs4 hp1,aIo,k12]
 rw[aM,dt (by decide),cond_true,aC9,aa,aDH,aa,pdI hp2,aC]
 rw[ik32,dt (by decide),cond_true,aC,pdJ hp2,aa,aC,aC,aNb,aDN,aa,aH5,aa,aa,aa,smJ hn hs0 hp2,aIu,k23]
 rw[aM,dt (by decide),cond_true,aC9,aa,aC9,aa,pdI hp3,aC]
 rw[ik33,dt (by decide),cond_true,aC,pdJ hp3,aa,aC,aC,aPN,aDB,aa,aH6,aa,aa,aa,smJ hn hs1 hp3,aIf,k34]
 rw[aM,dt (by decide),cond_true,aC9,aa,aDI,aa,pdI hp4,aC]
 rw[ik34,dt (by decide),cond_true,aC,pdJ hp4,aa,aC,aC,aTR,aDD,aa,aH0,aa,aa,aa,smJ hn hs2 hp4,aI4,k45]
 rw[aM,df (by decide),cond_false]
theorem row4(N:Nat)(hN:10 < N){n:Int}(hn:0<=n/\n<=5){a0 a1 a2 a3 a4 b0 b1 b2 b3 b4 s0 s1 s2 s3 s4:Int}(hp0:pd (a4*b0))(hp1:pd (a4*b1))(hp2:pd (a4*b2))(hp3:pd (a4*b3))(hp4:pd (a4*b4))(hs0:sm n s0)(hs1:sm n s1)(hs2:sm n s2)(hs3:sm n s3)(hs4:sm n s4):aM N #v[a0,a1,a2,a3,a4] 4 #v[b0,b1,b2,b3,b4] N #v[s0,s1,s2,s3,s4] 0=some #v[s0+5*(a4*b1),s1+5*(a4*b2),s2+5*(a4*b3),s3+5*(a4*b4),s4+a4*b0]/\sm (n+1) (s0+5*(a4*b1))/\sm (n+1) (s1+5*(a4*b2))/\sm (n+1) (s2+5*(a4*b3))/\sm (n+1) (s3+5*(a4*b4))/\sm (n+1) (s4+a4*b0):=by
 obtain⟨k,rfl⟩:∃j,N=j+6:=⟨N - 6,by omega⟩
 refine⟨?_,smT hn hs0 hp1,smT hn hs1 hp2,smT hn hs2 hp3,smT hn hs3 hp4,smS hn hs4 hp0⟩
 rw[aM,dt (by decide),cond_true,aDI,aa,aDM,aa,pdI hp0,aC]
 rw[ik40,df (by decide),cond_false,aa,aC,aC,aK9,aDJ,aa,aHJ,aa,aa,aa,smI hn hs4 hp0,aIo,k01]
 rw[aM,dt (by decide),cond_true,aDI,aa,aDC,aa,pdI hp1,aC]
 rw[ik41,dt (by decide),cond_true,aC,pdJ hp1,aa,aC,aC,aNb,aDN,aa,aH5,aa,aa,aa,smJ hn hs0 hp1,aIu,k12]
 rw[aM,dt (by decide),cond_true,aDI,aa,aDH,aa,pdI hp2,aC]
 rw[ik42,dt (by decide),cond_true,aC,pdJ hp2,aa,aC,aC,aPN,aDB,aa,aH6,aa,aa,aa,smJ hn hs1 hp2,aIf,k23]
 rw[aM,dt (by decide),cond_true,aDI,aa,aC9,aa,pdI hp3,aC]
 rw[ik43,dt (by decide),cond_true,aC,pdJ hp3,aa,aC,aC,aTR,aDD,aa,aH0,aa,aa,aa,smJ hn hs2 hp3,aI4,k34]
 rw[aM,dt (by decide),cond_true,aDI,aa,aDI,aa,pdI hp4,aC]
 rw[ik44,dt (by decide),cond_true,aC,pdJ hp4,aa,aC,aC,tm5_8,aDG,aa,aHZ,aa,aa,aa,smJ hn hs3 hp4,aIY,k45]
 rw[aM,df (by decide),cond_false]
theorem prodV(a0 a1 a2 a3 a4 b0 b1 b2 b3 b4:Int):oV (0+a0*b0+5*(a1*b4)+5*(a2*b3)+5*(a3*b2)+5*(a4*b1)) (0+a0*b1+a1*b0+5*(a2*b4)+5*(a3*b3)+5*(a4*b2)) (0+a0*b2+a1*b1+a2*b0+5*(a3*b4)+5*(a4*b3)) (0+a0*b3+a1*b2+a2*b1+a3*b0+5*(a4*b4)) (0+a0*b4+a1*b3+a2*b2+a3*b1+a4*b0)+PP*(1*(a1*b4)+1*(a2*b3)+67108864*(a2*b4)+1*(a3*b2)+67108864*(a3*b3)+4503599627370496*(a3*b4)+1*(a4*b1)+67108864*(a4*b2)+4503599627370496*(a4*b3)+302231454903657293676544*(a4*b4))=oV a0 a1 a2 a3 a4*oV b0 b1 b2 b3 b4:=by
 unfold oV;simp only[PP]
 grind
def d27(x:Int):Prop:=0<=x/\x < 134217728
theorem pdM{a b:Int}(ha:d27 a)(hb:d26 b):pd (a*b):=by
 unfold d27 d26 at *;have h1:=Int.mul_nonneg ha.1 hb.1;have h2:a*b<=134217727*67108863:=Int.mul_le_mul (by omega) (by omega) hb.1 (by decide)
 unfold pd;exact⟨h1,by omega⟩
theorem smN{x:Int}(h:sm 5 x):ng x:=by unfold sm ng at *;omega
theorem aTg(N:Nat)(hN:10 < N){a0 a1 a2 a3 a4 b0 b1 b2 b3 b4:Int}(ha0:d27 a0)(ha1:d27 a1)(ha2:d27 a2)(ha3:d27 a3)(ha4:d27 a4)(hb:Dok b0 b1 b2 b3 b4):∃c0 c1 c2 c3 c4 H,pS N #v[a0,a1,a2,a3,a4] #v[b0,b1,b2,b3,b4]=some #v[c0,c1,c2,c3,c4]/\Dok c0 c1 c2 c3 c4/\oV c0 c1 c2 c3 c4+PP*H=oV a0 a1 a2 a3 a4*oV b0 b1 b2 b3 b4:=by
 obtain⟨h0,h1,h2,h3,h4⟩:=hb;have z:sm 0 0:=⟨by decide,by decide⟩
 obtain⟨r0,q00,q01,q02,q03,q04⟩:=row0 N hN (n:=0) ⟨by decide,by decide⟩ (a0:=a0) (a1:=a1) (a2:=a2) (a3:=a3) (a4:=a4) (pdM ha0 h0) (pdM ha0 h1) (pdM ha0 h2) (pdM ha0 h3) (pdM ha0 h4) z z z z z;obtain⟨r1,q10,q11,q12,q13,q14⟩:=row1 N hN (n:=1) ⟨by decide,by decide⟩ (a0:=a0) (a1:=a1) (a2:=a2) (a3:=a3) (a4:=a4) (pdM ha1 h0) (pdM ha1 h1) (pdM ha1 h2) (pdM ha1 h3) (pdM ha1 h4) q00 q01 q02 q03 q04;obtain⟨r2,q20,q21,q22,q23,q24⟩:=row2 N hN (n:=2) ⟨by decide,by decide⟩ (a0:=a0) (a1:=a1) (a2:=a2) (a3:=a3) (a4:=a4) (pdM ha2 h0) (pdM ha2 h1) (pdM ha2 h2) (pdM ha2 h3) (pdM ha2 h4) q10 q11 q12 q13 q14;obtain⟨r3,q30,q31,q32,q33,q34⟩:=row3 N hN (n:=3) ⟨by decide,by decide⟩ (a0:=a0) (a1:=a1) (a2:=a2) (a3:=a3) (a4:=a4) (pdM ha3 h0) (pdM ha3 h1) (pdM ha3 h2) (pdM ha3 h3) (pdM ha3 h4) q20 q21 q22 q23 q24;obtain⟨r4,q40,q41,q42,q43,q44⟩:=row4 N hN (n:=4) ⟨by decide,by decide⟩ (a0:=a0) (a1:=a1) (a2:=a2) (a3:=a3) (a4:=a4) (pdM ha4 h0) (pdM ha4 h1) (pdM ha4 h2) (pdM ha4 h3) (pdM ha4 h4) q30 q31 q32 q33 q34;obtain⟨c0,c1,c2,c3,c4,H,e,hd,hv⟩:=aKm N hN (smN q40) (smN q41) (smN q42) (smN q43) (smN q44)
 refine⟨c0,c1,c2,c3,c4,H+(1*(a1*b4)+1*(a2*b3)+67108864*(a2*b4)+1*(a3*b2)+67108864*(a3*b3)+4503599627370496*(a3*b4)+1*(a4*b1)+67108864*(a4*b2)+4503599627370496*(a4*b3)+302231454903657293676544*(a4*b4)),?_,hd,?_⟩
 ·obtain⟨k,hk⟩:∃j,N=j+6:=⟨N - 6,by omega⟩
  have zz:(ag 5 (0:Int))=#v[0,0,0,0,0]:=rfl;have l1:cU N #v[a0,a1,a2,a3,a4] #v[b0,b1,b2,b3,b4] (k+6) (ag 5 0) 0=some #v[0+a0*b0+5*(a1*b4)+5*(a2*b3)+5*(a3*b2)+5*(a4*b1),0+a0*b1+a1*b0+5*(a2*b4)+5*(a3*b3)+5*(a4*b2),0+a0*b2+a1*b1+a2*b0+5*(a3*b4)+5*(a4*b3),0+a0*b3+a1*b2+a2*b1+a3*b0+5*(a4*b4),0+a0*b4+a1*b3+a2*b2+a3*b1+a4*b0]:=by
   rw[zz,cU,dt (by decide),cond_true,r0,aa,k01,cU,dt (by decide),cond_true,r1,aa,k12,cU,dt (by decide),cond_true,r2,aa,k23,cU,dt (by decide),cond_true,r3,aa,k34,cU,dt (by decide),cond_true,r4,aa,k45,cU,df (by decide),cond_false]
  rw[<- hk] at l1;unfold pS;rw[l1,aa,e,aa]
 ·rw[<- prodV,<- hv,Int.mul_add]
  omega
theorem bitV : ∀(l:List Int),aQ l->∀i:Nat,i < 8*l.length->leV l / ((2 ^ i:Nat):Int) % 2=(l.getD (i / 8) 0) / ((2 ^ (i % 8):Nat):Int) % 2
 | [],_,i,h=>by simp at h
 | x :: t,hb,i,h=>by
  have hx:=hb x (ig)
  unfold isB at hx;rw[leV]
  by_cases c:i < 8
  ·have e1:i / 8=0:=by omega
   have e2:i % 8=i:=by omega
   rw[e1,e2]
   show _=x / _ % 2;have cc:i=0\/i=1\/i=2\/i=3\/i=4\/i=5\/i=6\/i=7:=by omega
   generalize leV t=T;rcases cc with rfl | rfl | rfl | rfl | rfl | rfl | rfl | rfl <;> simp only[fa] <;> omega
  ·obtain⟨k,rfl⟩:∃k,i=k+8:=⟨i - 8,by omega⟩
   have ih:=bitV t (λy hy=>hb y (ij _ hy)) k (by rw[List.length_cons] at h;omega)
   have e1:(k+8) / 8=k / 8+1:=by omega
   have e2:(k+8) % 8=k % 8:=by omega
   have e3:((2 ^ (k+8):Nat):Int)=256*((2 ^ k:Nat):Int):=by rw[fe,fj,mn];rfl
   rw[e1,e2,e3,List.getD_cons_succ,<- ih,<- je (by decide)]
   congr 2;omega
def dg(X i j:Nat):Nat:=X % 2 ^ i / 2 ^ (26*j) % 67108864
theorem dg0(X i j q:Nat)(hq:q=i / 26)(hb:X / 2 ^ i % 2=1):dg X (i+1) j=if j=q then dg X i j+2 ^ (i % 26) else dg X i j:=by
 have hm:X % 2 ^ (i+1)=X % 2 ^ i+2 ^ i:=by rw[dh,ic,hb,Nat.mul_one]
 have hlt:X % 2 ^ i < 2 ^ i:=ff _ (eg i)
 unfold dg;rw[hm]
 generalize X % 2 ^ i=M at *;have er:i=26*q+i % 26:=by omega
 have hr:i % 26 < 26:=ff _ (by decide)
 generalize i % 26=r at *;have ep:2 ^ i=2 ^ (26*q)*2 ^ r:=by rw[er,fe]
 have hr2:2 ^ r*2<=67108864:=by
  have:2 ^ (r+1)<=2 ^ 26:=fo (by decide) (by omega)
  rw[dh] at this;exact this
 by_cases c:j=q
 ·subst c;rw[if_pos rfl,ep,ew _ _ (eg _)]
  have hd:M / 2 ^ (26*j) < 2 ^ r:=by
   rw[jt (eg _),Nat.mul_comm,<- ep];exact hlt
  rw[iw (by omega),iw (by omega)]
 ·rw[if_neg c]
  by_cases c2:j < q
  ·have e2:2 ^ i=2 ^ (26*j)*(67108864*2 ^ (26*(q - j - 1)+r)):=by
    have:i=26*j+(26+(26*(q - j - 1)+r)):=by omega
    rw[this,fe,fe 2 26]
   rw[e2,ew _ _ (eg _),j8]
  ·have e3:2 ^ i*2<=2 ^ (26*j):=by
    rw[<- dh]
    exact fo (by decide) (by omega)
   rw[mg (by omega),mg (by omega)]
theorem dg1(X i j:Nat)(hb:X / 2 ^ i % 2=0):dg X (i+1) j=dg X i j:=by
 unfold dg;rw[dh,ic,hb,nd,Nat.add_zero]
theorem aTE(X i j:Nat):dg X i j < 67108864:=ff _ (by decide)
theorem band1{x:Int}(h:isB x):cF .u8 x 1=x % 2:=by
 have key:∀y:Fin 256,cF .u8 (y.val:Int) 1=(y.val:Int) % 2:=by decide +kernel
 unfold isB at h;have:=key ⟨x.toNat,by omega⟩
 rwa[Int.toNat_of_nonneg h.1] at this
def DgI(X i:Nat)(s:Vector Int 5):Prop:=∀j,j < 5->s.toList[j]? = some ((dg X (min i 130) j:Nat):Int)
theorem aRU(N:Nat)(hN:200 < N){b:Vector Int 17}(hb:aQ b.toList){X:Nat}(hX:leV b.toList=(X:Int)):T (jS N b) (DgI X 136):=by
 unfold jS;have bl:b.toList.length=17:=by simp
 refine T.bind (T.loop0 (n:=136) (by decide) (λi s=>DgI X i s) (F:=iW N b) (λk s i hi hs Q hk=>?_) (λk s=>by rw[iW,df (by omega),cond_false]) (by omega) (λj hj=>?_)) λp1 h1=>T.ret h1
 ·have t8:cv (i:Int) 8=((i / 8:Nat):Int):=by rw[dc (by omega)];omega
  have m8:br (i:Int) 8=((i % 8:Nat):Int):=by rw[cz (by omega)];omega
  have t26:cv (i:Int) 26=((i / 26:Nat):Int):=by rw[dc (by omega)];omega
  have m26:br (i:Int) 26=((i % 26:Nat):Int):=by rw[cz (by omega)];omega
  have i8:I64 (((i / 8:Nat):Int))=((i / 8:Nat):Int):=aR (by omega) (by omega)
  have i26:I64 (((i / 26:Nat):Int))=((i / 26:Nat):Int):=aR (by omega) (by omega)
  rw[iW,dt (by omega),cond_true,t8,m8,t26,m26,i8,i26,cZ (by omega)]
  have ge:b.toList[i / 8]? = some (b.toList.getD (i / 8) 0):=by rw[an,ah (by omega)];rfl
  have be:isB (b.toList.getD (i / 8) 0):=hb _ (List.mem_of_getElem? ge)
  have bit:=bitV b.toList hb i (by omega)
  rw[hX] at bit;rw[mX,ge,aa,kS .u8 (by omega),aa,aAg .u8 _ _ (i % 8) rfl (by show i % 8<=8;omega)]
  have pe:(2:Int) ^ (i % 8)=((2 ^ (i % 8):Nat):Int):=by rw[gg];rfl
  rw[pe]
  have pp:0 < ((2 ^ (i % 8):Nat):Int):=Int.natCast_pos.2 (eg _)
  have b2:isB (b.toList.getD (i / 8) 0 / ((2 ^ (i % 8):Nat):Int)):=by
   unfold isB at *;exact⟨Int.ediv_nonneg be.1 (by omega),Int.lt_of_le_of_lt (Int.ediv_le_self _ be.1) be.2⟩
  rw[band1 b2,<- bit]
  have bn:((X:Int) / ((2 ^ i:Nat):Int) % 2)=((X / 2 ^ i % 2:Nat):Int):=by omega
  rw[bn,aC]
  have same:(∀j,dg X (min (i+1) 130) j=dg X (min i 130) j)->DgI X (i+1) s:=λh j hj=>by rw[hs j hj,h]
  by_cases c1:X / 2 ^ i % 2=1
  ·rw[c1,show(((1:Nat):Int)==1)=true from rfl,cond_true]
   by_cases c2:i < 130
   ·rw[dt (by omega),cond_true,cD (by omega) (by omega),aa]
    have q5:i / 26 < 5:=by omega
    have g:=hs (i / 26) q5;have mi:min i 130=i:=by omega
    have mi1:min (i+1) 130=i+1:=by omega
    have tq:((i / 26:Nat):Int).toNat=i / 26:=rfl;obtain⟨w,hw,lw⟩:∃w:Nat,w=2 ^ (i % 26)/\w<=33554432:=⟨_,rfl,Nat.le_trans (fo (by decide) (show i % 26<=25 by omega)) (by decide)⟩
    have sh:shl .i64 1 ((i % 26:Nat):Int)=(w:Int):=by
     rw[shlI 1 (i % 26) (by omega),ni]
     have:(2:Int) ^ (i % 26)=((2 ^ (i % 26):Nat):Int):=by rw[gg];rfl
     rw[this,<- hw]
     exact aR (by omega) (by omega)
    have dl:=aTE X i (i / 26)
    have dgw:=λj=>dg0 X i j (i / 26) rfl c1;rw[<- hw] at dgw;rw[tq,g,aa,wU .i64 (by omega),aa,aa,aa,aa,sh,mi]
    have hI:I64 (((dg X i (i / 26):Nat):Int)+(w:Int))=((dg X i (i / 26):Nat):Int)+(w:Int):=by
     generalize dg X i (i / 26)=D at *;exact aR (by omega) (by omega)
    rw[hI]
    refine hk _ λj hj=>?_;rw[mi1,bq,cr,dgw]
    by_cases e:i / 26=j
    ·subst e;rw[if_pos rfl,if_pos (by simp;omega),if_pos rfl,Int.natCast_add]
    ·rw[if_neg e,if_neg (λh=>e h.symm),hs j hj,mi]
   ·rw[df (by omega),cond_false,aa]
    refine hk _ (same λj=>?_)
    rw[show min (i+1) 130=130 by omega,show min i 130=130 by omega]
  ·have c0:X / 2 ^ i % 2=0:=by omega
   rw[c0,show(((0:Nat):Int)==1)=false from rfl,cond_false,cond_false,aa]
   refine hk _ (same λj=>?_)
   by_cases c2:i < 130
   ·rw[show min (i+1) 130=i+1 by omega,show min i 130=i by omega,dg1 X i j c0]
   ·rw[show min (i+1) 130=130 by omega,show min i 130=130 by omega]
 ·have z:(ag 5 (0:Int)).toList=ak 5 0:=rfl;rw[z,cw,if_pos hj]
  unfold dg;rw[show min 0 130=0 from rfl,iv,j6,Nat.zero_div,Nat.zero_mod]
  rfl
theorem T.loopG{σ ρ:Type}{n:Nat}(I:Nat->σ->Prop)(Q:ρ->Prop){F:Nat->σ->Int->Option ρ}
  (hstep:∀k s i,i < n->I i s->(∀s',I (i+1) s'->T (F k s' ((i+1:Nat):Int)) Q)->T (F (k+1) s (i:Int)) Q) (hend:∀k s,I n s->T (F (k+1) s (n:Int)) Q) :
  ∀(k i:Nat) (s:σ),I i s->i<=n->n - i < k->T (F k s (i:Int)) Q
 | 0,i,_,_,_,h=>by omega
 | k+1,i,s,hs,hi,hk=>by
  by_cases h:i < n
  ·exact hstep k s i h hs λs' h'=>T.loopG I Q hstep hend k (i+1) s' h' (by omega) (by omega)
  ·obtain rfl:i=n:=by omega
   exact hend _ _ hs
theorem T.loopG0{σ ρ:Type}{n:Nat}(I:Nat->σ->Prop)(Q:ρ->Prop){F:Nat->σ->Int->Option ρ}
  (hstep:∀k s i,i < n->I i s->(∀s',I (i+1) s'->T (F k s' ((i+1:Nat):Int)) Q)->T (F (k+1) s (i:Int)) Q) (hend:∀k s,I n s->T (F (k+1) s (n:Int)) Q) {N:Nat} (hN:n < N) {s:σ} (hs:I 0 s):T (F N s 0) Q:=
 T.loopG I Q hstep hend N 0 s hs (by omega) (by omega)
theorem vec5(v:Vector Int 5){a b c d e:Int}(h0:v.toList[0]? = some a)(h1:v.toList[1]? = some b)(h2:v.toList[2]? = some c)(h3:v.toList[3]? = some d)(h4:v.toList[4]? = some e):v=#v[a,b,c,d,e]:=by
 apply gj.1;apply dp;intro j;have cc:j=0\/j=1\/j=2\/j=3\/j=4\/5<=j:=by omega
 rcases cc with rfl | rfl | rfl | rfl | rfl | h
 ·rw[h0];rfl
 ·rw[h1];rfl
 ·rw[h2];rfl
 ·rw[h3];rfl
 ·rw[h4];rfl
 ·rw[bf (by simp;omega),bf (by simp;omega)]
theorem aN3(N:Nat)(hN:200 < N){b:Vector Int 17}(hb:aQ b.toList)(hl:leV b.toList < aDp):∃d0 d1 d2 d3 d4,jS N b=some #v[d0,d1,d2,d3,d4]/\Dok d0 d1 d2 d3 d4/\oV d0 d1 d2 d3 d4=leV b.toList:=by
 have l0:=(aIN _ hb).1;obtain⟨X,hX⟩:=bw l0;obtain⟨r,e,h⟩:=aRU N hN hb hX;have g:=λj (hj:j < 5)=>h j hj;have hv:=vec5 r (g 0 (by decide)) (g 1 (by decide)) (g 2 (by decide)) (g 3 (by decide)) (g 4 (by decide))
 rw[hv] at e;have lt:=λj=>aTE X (min 136 130) j;refine⟨_,_,_,_,_,e,⟨⟨by omega,by have:=lt 0;omega⟩,⟨by omega,by have:=lt 1;omega⟩,⟨by omega,by have:=lt 2;omega⟩,⟨by omega,by have:=lt 3;omega⟩,⟨by omega,by have:=lt 4;omega⟩⟩,?_⟩
 rw[hX]
 rw[hX] at hl;simp only[aDp] at hl;unfold oV dg;have m:X % 2 ^ min 136 130=X:=iw (by show X < 1361129467683753853853498429727072845824;omega)
 rw[m]
 simp only[fu,fa,nd,iv,Nat.div_one]
 omega
theorem addL4(N:Nat)(hN:10 < N){a b c d e a' b' c' d' e':Int}(h:Dok a b c d e)(h':Dok a' b' c' d' e'):dQ N #v[a',b',c',d',e'] N #v[a,b,c,d,e] 0=some #v[a+a',b+b',c+c',d+d',e+e']/\(d27 (a+a')/\d27 (b+b')/\d27 (c+c')/\d27 (d+d')/\d27 (e+e'))/\oV (a+a') (b+b') (c+c') (d+d') (e+e')=oV a b c d e+oV a' b' c' d' e':=by
 obtain⟨h1,h2,h3,h4,h5⟩:=h;obtain⟨g1,g2,g3,g4,g5⟩:=h';have sI:∀{x y:Int},d26 x->d26 y->I64 (x+y)=x+y/\d27 (x+y):=by
  intro x y hx hy;unfold d26 at hx hy;unfold d27;exact⟨aR (by omega) (by omega),by omega,by omega⟩
 refine⟨?_,⟨(sI h1 g1).2,(sI h2 g2).2,(sI h3 g3).2,(sI h4 g4).2,(sI h5 g5).2⟩,?_⟩
 ·obtain⟨k,rfl⟩:∃j,N=j+6:=⟨N - 6,by omega⟩
  rw[dQ,dt (by decide),cond_true,aDN,aa,aH5,aa,aa,aH5,aa,aa,aa,(sI h1 g1).1,aIu,k01]
  rw[dQ,dt (by decide),cond_true,aDB,aa,aH6,aa,aa,aH6,aa,aa,aa,(sI h2 g2).1,aIf,k12]
  rw[dQ,dt (by decide),cond_true,aDD,aa,aH0,aa,aa,aH0,aa,aa,aa,(sI h3 g3).1,aI4,k23]
  rw[dQ,dt (by decide),cond_true,aDG,aa,aHZ,aa,aa,aHZ,aa,aa,aa,(sI h4 g4).1,aIY,k34]
  rw[dQ,dt (by decide),cond_true,aDJ,aa,aHJ,aa,aa,aHJ,aa,aa,aa,(sI h5 g5).1,aIo,k45]
  rw[dQ,df (by decide),cond_false]
 ·unfold oV;omega
theorem refL2(N:Nat)(hN:30 < N){l:List Int}(hl:l.length<=65536){n:Nat}(hn:16*n+16<=l.length):T (fS N ((16*n:Nat):Int) l N (ag 17 0) 0) (λr=>r.2=16/\r.1.toList=(l.drop (16*n)).take 16++[0]):=by
 refine T.loopG0 (n:=16) (λi (v:Vector Int 17)=>∀j,j < 17->v.toList[j]? = some (if j < i then l.getD (16*n+j) 0 else 0)) _ (F:=λk (v:Vector Int 17) i=>fS N ((16*n:Nat):Int) l k v i) (λk v i hi hv hk=>?_) (λk v hv=>?_) (by omega) (s:=ag 17 0) (λj hj=>?_)
 ·have e:I64 (((16*n:Nat):Int)+(i:Int))=((16*n+i:Nat):Int):=by rw[aR (by omega) (by omega)];omega
  have g:l[16*n+i]? = some (l.getD (16*n+i) 0):=by rw[an,ah (by omega)];rfl
  rw[fS,e,aC,dt (show(i:Int) < 16 by omega),cond_true,aC,dt (by omega),cond_true,mX,g,aa,cD (by omega) (by omega),aa,cZ (by omega)]
  have ti:((i:Nat):Int).toNat=i:=rfl;rw[ti,hv i (by omega),aa]
  refine hk _ λj hj=>?_;rw[bq,cr]
  by_cases c:i=j
  ·subst c;rw[if_pos rfl,if_pos (by simp;omega),if_pos (by omega)]
  ·rw[if_neg c,hv j hj]
   by_cases c2:j < i
   ·rw[if_pos c2,if_pos (by omega)]
   ·rw[if_neg c2,if_neg (by omega)]
 ·rw[fS,aC,df (show ¬(((16:Nat):Int) < 16) by omega),cond_false,aC,cond_false]
  refine T.ret ⟨rfl,?_⟩
  apply dp;intro j;have tl:((l.drop (16*n)).take 16).length=16:=by rw[bp,ca];omega
  by_cases c:j < 17
  ·rw[hv j c]
   by_cases c2:j < 16
   ·rw[if_pos c2,cm (by omega),cu,if_pos c2,fm,an,ah (by omega)]
    rfl
   ·rw[if_neg c2,cj (by omega),tl,show j - 16=0 by omega]
    rfl
  ·rw[bf (by simp;omega),bf (by rw[ai,tl,cn];omega)]
 ·have z:(ag 17 (0:Int)).toList=ak 17 0:=rfl;rw[z,cw,if_pos hj,if_neg (by omega)]
def Blk(l:List Int)(bs:List (Vector Int 17))(m:Nat):Prop:=bs.length=m/\∀i,i < m->∃v,bs[i]? = some v/\v.toList=(l.drop (16*i)).take 16++[1]
theorem refL1(N:Nat)(hN:30 < N){l:List Int}(hl:l.length<=65536){m:Nat}(hm:l.length=16*m):∀(d k n:Nat) (acc:List (Vector Int 17)),n+d=m->d < k->Blk l acc n->∃bs,jE N l k acc ((16*n:Nat):Int)=some bs/\Blk l bs m:=by
 intro d
 induction d with
 | zero=>
  intro k n acc hn hk h;obtain⟨k,rfl⟩:∃j,k=j+1:=⟨k - 1,by omega⟩
  obtain rfl:n=m:=by omega
  exact⟨acc,by rw[jE,aC,df (by omega),cond_false],h⟩
 | succ d ih=>
  intro k n acc hn hk h;obtain⟨k,rfl⟩:∃j,k=j+1:=⟨k - 1,by omega⟩
  obtain⟨⟨v,w⟩,e,h16,hv⟩:=refL2 N hN hl (n:=n) (by omega)
  dsimp only at h16 hv;subst h16;have ge:v.toList[16]? = some 0:=by
   rw[hv,cj (by rw[bp,ca];omega),bp,ca,show 16 - min 16 (l.length - 16*n)=0 by omega]
   rfl
  have hs:(v.setIfInBounds 16 1).toList=(l.drop (16*n)).take 16++[1]:=by
   rw[bq,hv,List.set_append_right _ _ (by rw[bp];omega)]
   rw[bp,ca,show 16 - min 16 (l.length - 16*n)=0 by omega]
   rfl
  obtain⟨hl2,hb⟩:=h;have nb:Blk l (acc++[v.setIfInBounds 16 1]) (n+1):=by
   refine⟨by rw[ai,hl2];rfl,λi hi=>?_⟩
   by_cases c:i < n
   ·obtain⟨u,h1,h2⟩:=hb i c;exact⟨u,by rw[cm (by omega)];exact h1,h2⟩
   ·obtain rfl:i=n:=by omega
    exact⟨_,by rw[cj (by omega),hl2,Nat.sub_self];rfl,hs⟩
  obtain⟨bs,e2,h2⟩:=ih k (n+1) _ (by omega) (by omega) nb;refine⟨bs,?_,h2⟩
  have i16:I64 (((16*n:Nat):Int)+16)=((16*(n+1):Nat):Int):=by rw[aR (by omega) (by omega)];omega
  have t16:(16:Int).toNat=16:=rfl;rw[jE,aC,dt (by omega),cond_true,e,aa]
  dsimp only;rw[show aP 16 17=some () from rfl,aa,t16,ge,aa,eF (by rw[hl2,cn];omega),aa,i16,e2]
theorem aOq(N:Nat)(hN:70000 < N){l:List Int}(hl:l.length<=65536){m:Nat}(hm:l.length=16*m):∃bs,oM N l=some bs/\Blk l bs m:=by
 obtain⟨bs,e,h⟩:=refL1 N (by omega) hl hm m N 0 [] (by omega) (by omega) ⟨rfl,λi hi=>absurd hi (by omega)⟩
 refine⟨bs,?_,h⟩
 unfold oM uT;rw[aC,df (by omega),cond_false,aa]
 have z:((16*0:Nat):Int)=0:=rfl;rw[z] at e;rw[e,aa]
theorem aPH{V V' c H1 H2 R b p:Int}(h1:c+PP*H1=b+V)(h2:V'+PP*H2=c*R)(hp:V % PP=p):V' % PP=((p+b)*R) % PP:=by
 refine aNA (H:=H2+H1*R) ?_ hp;have:c=b+V - PP*H1:=by omega
 subst this;generalize PP=q at *
 grind
theorem refL3(N:Nat)(hN:70000 < N){l:List Int}(hb:aQ l)(hl:l.length<=65536){m:Nat}(hm:l.length=16*m){bs:List (Vector Int 17)}(hbs:Blk l bs m){r0 r1 r2 r3 r4:Int}(hr:Dok r0 r1 r2 r3 r4) :
  ∀(d k n:Nat) (a b c e f:Int),n+d=m->d < k->Dok a b c e f->oV a b c e f % PP=aJI (oV r0 r1 r2 r3 r4) l n ->
  ∃a' b' c' e' f',Dok a' b' c' e' f'/\oV a' b' c' e' f' % PP=aJI (oV r0 r1 r2 r3 r4) l m/\mR N bs #v[r0,r1,r2,r3,r4] k #v[a,b,c,e,f] (n:Int)=some #v[a',b',c',e',f']:=by
 obtain⟨bl,bg⟩:=hbs;intro d
 induction d with
 | zero=>
  intro k n a b c e f hn hk h hv;obtain⟨k,rfl⟩:∃j,k=j+1:=⟨k - 1,by omega⟩
  obtain rfl:n=m:=by omega
  refine⟨a,b,c,e,f,h,hv,?_⟩
  rw[mR,aC,df (by omega),cond_false]
 | succ d ih=>
  intro k n a b c e f hn hk h hv;obtain⟨k,rfl⟩:∃j,k=j+1:=⟨k - 1,by omega⟩
  obtain⟨v,gv,tv⟩:=bg n (by omega)
  have tl:((l.drop (16*n)).take 16).length=16:=by rw[bp,ca];omega
  have tb:aQ ((l.drop (16*n)).take 16):=λx hx=>hb x (ct (List.mem_of_mem_take hx))
  have vb:aQ v.toList:=by
   rw[tv]
   intro x hx;rcases dk.1 hx with h' | h'
   ·exact tb x h'
   ·rw[iy.1 h'];exact⟨by decide,by decide⟩
  have lv:leV v.toList=leV ((l.drop (16*n)).take 16)+W2:=by
   rw[tv,aEr,tl,ni];rfl
  have lb:=aIN _ tb;rw[tl] at lb;have lt:leV v.toList < aDp:=by
   rw[lv]
   have:((256 ^ 16:Nat):Int)=340282366920938463463374607431768211456:=by decide
   rw[this] at lb;simp only[aDp,W2]
   omega
  obtain⟨d0,d1,d2,d3,d4,E1,D1,V1⟩:=aN3 N (by omega) vb lt;obtain⟨E2,⟨g0,g1,g2,g3,g4⟩,V2⟩:=addL4 N (by omega) D1 h;have n27:∀{x:Int},d27 x->ng x:=by intro x hx;unfold d27 at hx;unfold ng;omega
  obtain⟨c0,c1,c2,c3,c4,H1,E3,D3,V3⟩:=aKm N (by omega) (n27 g0) (n27 g1) (n27 g2) (n27 g3) (n27 g4)
  have n26:∀{x:Int},d26 x->d27 x:=by intro x hx;unfold d26 at hx;unfold d27;omega
  obtain⟨x0,x1,x2,x3,x4,H2,E4,D4,V4⟩:=aTg N (by omega) (n26 D3.a) (n26 D3.b) (n26 D3.c) (n26 D3.d) (n26 D3.e) hr;rw[V2,V1,lv] at V3;obtain⟨a',b',c',e',f',q1,q2,q3⟩:=ih k (n+1) x0 x1 x2 x3 x4 (by omega) (by omega) D4 (aPH V3 V4 hv)
  refine⟨a',b',c',e',f',q1,q2,?_⟩
  rw[mR,aC,dt (by omega),cond_true,mX,gv,aa,E1,aa,E2,aa,E3,aa,E4,aa,cZ (by omega)]
  exact q3
theorem aHW(N:Nat)(hN:10 < N){a b c d e:Int}(h:Dok a b c d e)(k i:Nat)(hi:i < 2):∃a' b' c' d' e',Dok a' b' c' d' e'/\oV a' b' c' d' e'=(if oV a b c d e>=PP then oV a b c d e - PP else oV a b c d e)/\dO N (k+1) #v[a,b,c,d,e] (i:Int)=dO N k #v[a',b',c',d',e'] ((i+1:Nat):Int):=by
 have h0:=h;obtain⟨h1,h2,h3,h4,h5⟩:=h;unfold d26 at h1 h2 h3 h4 h5;obtain⟨j,hj⟩:∃j,N=j+6:=⟨N - 6,by omega⟩
 have L2:dN N N #v[a+5,b,c,d,e] 0=some #v[(a+5) % 67108864,(b+(a+5) / 67108864) % 67108864,(c+(b+(a+5) / 67108864) / 67108864) % 67108864,(d+(c+(b+(a+5) / 67108864) / 67108864) / 67108864) % 67108864,e+(d+(c+(b+(a+5) / 67108864) / 67108864) / 67108864) / 67108864]:=by
  subst hj;obtain⟨f1,g1⟩:=aEV (x:=a+5) (by omega)
  have hI1:I64 (b+(a+5) / 67108864)=b+(a+5) / 67108864:=aR (by omega) (by omega)
  obtain⟨f2,g2⟩:=aEV (x:=b+(a+5) / 67108864) (by omega)
  have hI2:I64 (c+(b+(a+5) / 67108864) / 67108864)=c+(b+(a+5) / 67108864) / 67108864:=aR (by omega) (by omega)
  obtain⟨f3,g3⟩:=aEV (x:=c+(b+(a+5) / 67108864) / 67108864) (by omega)
  have hI3:I64 (d+(c+(b+(a+5) / 67108864) / 67108864) / 67108864)=d+(c+(b+(a+5) / 67108864) / 67108864) / 67108864:=aR (by omega) (by omega)
  obtain⟨f4,g4⟩:=aEV (x:=d+(c+(b+(a+5) / 67108864) / 67108864) / 67108864) (by omega)
  have hI4:I64 (e+(d+(c+(b+(a+5) / 67108864) / 67108864) / 67108864) / 67108864)=e+(d+(c+(b+(a+5) / 67108864) / 67108864) / 67108864) / 67108864:=aR (by omega) (by omega)
  rw[dN,dt (by decide),cond_true,aDN,aa,aH5,aa,aa,aa,g1,aC,aa,aa,f1,aIu,k01,aDB,aa,aH6,aa,aC,aa,aa,hI1,aIf]
  rw[dN,dt (by decide),cond_true,aDB,aa,aH6,aa,aa,aa,g2,aC,aa,aa,f2,aIf,k12,aDD,aa,aH0,aa,aC,aa,aa,hI2,aI4]
  rw[dN,dt (by decide),cond_true,aDD,aa,aH0,aa,aa,aa,g3,aC,aa,aa,f3,aI4,k23,aDG,aa,aHZ,aa,aC,aa,aa,hI3,aIY]
  rw[dN,dt (by decide),cond_true,aDG,aa,aHZ,aa,aa,aa,g4,aC,aa,aa,f4,aIY,k34,aDJ,aa,aHJ,aa,aC,aa,aa,hI4,aIo]
  rw[dN,df (by decide),cond_false]
 have a5:I64 (a+5)=a+5:=aR (by omega) (by omega)
 rw[dO,dt (by omega),cond_true,aDN,aa,aH5,aa,aa,aa,a5,aIu,L2,aa,aDJ,aa,aHJ,aa,aC,cZ (by omega)]
 have vv:oV ((a+5) % 67108864) ((b+(a+5) / 67108864) % 67108864) ((c+(b+(a+5) / 67108864) / 67108864) % 67108864) ((d+(c+(b+(a+5) / 67108864) / 67108864) / 67108864) % 67108864) (e+(d+(c+(b+(a+5) / 67108864) / 67108864) / 67108864) / 67108864)=oV a b c d e+5:=by
  unfold oV;omega
 have m0:0<=(a+5) % 67108864/\(a+5) % 67108864 < 67108864:=by omega
 have m1:0<=(b+(a+5) / 67108864) % 67108864/\(b+(a+5) / 67108864) % 67108864 < 67108864:=by omega
 have m2:0<=(c+(b+(a+5) / 67108864) / 67108864) % 67108864/\(c+(b+(a+5) / 67108864) / 67108864) % 67108864 < 67108864:=by omega
 have m3:0<=(d+(c+(b+(a+5) / 67108864) / 67108864) / 67108864) % 67108864/\(d+(c+(b+(a+5) / 67108864) / 67108864) / 67108864) % 67108864 < 67108864:=by omega
 have m4:0<=e+(d+(c+(b+(a+5) / 67108864) / 67108864) / 67108864) / 67108864/\e+(d+(c+(b+(a+5) / 67108864) / 67108864) / 67108864) / 67108864<=67108864:=by omega
 clear L2;generalize (a+5) % 67108864=A at *;generalize (b+(a+5) / 67108864) % 67108864=B at *;generalize (c+(b+(a+5) / 67108864) / 67108864) % 67108864=C at *;generalize (d+(c+(b+(a+5) / 67108864) / 67108864) / 67108864) % 67108864=D at *;generalize e+(d+(c+(b+(a+5) / 67108864) / 67108864) / 67108864) / 67108864=E at *;by_cases g:E>=67108864
 ·have e5:I64 (E - 67108864)=E - 67108864:=aR (by omega) (by omega)
  rw[dt g,cond_true,aa,aa,aa,aa,aa,e5,aIo]
  refine⟨A,B,C,D,E - 67108864,⟨m0,m1,m2,m3,by omega,by omega⟩,?_,rfl⟩
  unfold oV at *;simp only[PP]
  rw[if_pos (by omega)]
  omega
 ·rw[df g,cond_false,aa]
  refine⟨a,b,c,d,e,h0,?_,rfl⟩
  unfold oV at *;simp only[PP]
  rw[if_neg (by omega)]
theorem aTz(N:Nat)(hN:10 < N){a b c d e:Int}(h:Dok a b c d e):∃a' b' c' d' e',qE N #v[a,b,c,d,e]=some #v[a',b',c',d',e']/\Dok a' b' c' d' e'/\oV a' b' c' d' e'=oV a b c d e % PP:=by
 obtain⟨k,hk⟩:∃k,N=k+3:=⟨N - 3,by omega⟩
 obtain⟨a1,b1,c1,d1,e1,h1,v1,q1⟩:=aHW N hN h (k+2) 0 (by decide)
 obtain⟨a2,b2,c2,d2,e2,h2,v2,q2⟩:=aHW N hN h1 (k+1) 1 (by decide)
 refine⟨a2,b2,c2,d2,e2,?_,h2,?_⟩
 ·unfold qE;rw[show dO N N #v[a,b,c,d,e] 0=dO N (k+2+1) #v[a,b,c,d,e] ((0:Nat):Int) by rw[hk];rfl,q1,q2,dO,df (by decide),cond_false]
  rfl
 ·have lt:=h.lt;rw[v2,v1]
  generalize oV a b c d e=V at *;simp only[PP,aDp] at *;split <;> (try split) <;> omega
theorem aTT{a:Int}(h:0<=a/\a < 4611686018427387904):cF .i64 a 1=a % 2:=by
 obtain⟨A,rfl⟩:=bw h.1;have h3:cF .i64 (A:Int) 1=I64 ((bz 64 (A:Int) &&& bz 64 ((1:Nat):Int)).toNat:Int):=rfl;have e:(bz 64 (A:Int) &&& bz 64 ((1:Nat):Int)).toNat=A % 2:=by
  rw[BitVec.toNat_and,show(bz 64 (A:Int)).toNat=A from aCk A (by omega),show(bz 64 ((1:Nat):Int)).toNat=1 from aCk 1 (by decide)]
  exact Nat.and_one_is_mod A
 rw[h3,e,aR (by omega) (by omega)]
 omega
theorem aUe(x T r:Nat)(hr:r < 26):(x+67108864*T) / 2 ^ r % 2=x / 2 ^ r % 2:=by
 have e:67108864=2 ^ r*(2*2 ^ (25 - r)):=by
  rw[<- Nat.pow_succ',<- fe,show r+(25 - r).succ=26 by omega]
 rw[e,n6,ew _ _ (eg r),n6,j8]
def dv(v:Vector Int 5)(j:Nat):Int:=v.toList.getD j 0
theorem bit5{a b c d e:Int}(h:Dok a b c d e){V:Nat}(hV:oV a b c d e=(V:Int)){t:Nat}(ht:t < 130):∃x:Nat,dv #v[a,b,c,d,e] (t / 26)=(x:Int)/\x < 67108864/\x / 2 ^ (t % 26) % 2=V / 2 ^ t % 2:=by
 obtain⟨h0,h1,h2,h3,h4⟩:=h;unfold d26 at *;obtain⟨a,rfl⟩:=bw h0.1;obtain⟨b,rfl⟩:=bw h1.1;obtain⟨c,rfl⟩:=bw h2.1;obtain⟨d,rfl⟩:=bw h3.1;obtain⟨e,rfl⟩:=bw h4.1;unfold oV at hV;have hr:t % 26 < 26:=ff _ (by decide)
 have et:t=26*(t / 26)+t % 26:=by omega
 have key:∀(q x T:Nat),t / 26=q->V / 2 ^ (26*q)=x+67108864*T->x / 2 ^ (t % 26) % 2=V / 2 ^ t % 2:=by
  intro q x T hq hx;have:V / 2 ^ t=(x+67108864*T) / 2 ^ (t % 26):=by
   rw[<- hx,gr,<- fe,<- hq,<- et]
  rw[this,aUe x T _ hr]
 have cc:t / 26=0\/t / 26=1\/t / 26=2\/t / 26=3\/t / 26=4:=by omega
 rcases cc with q | q | q | q | q
 ·refine⟨a,by rw[q];rfl,by omega,key 0 a (b+67108864*c+4503599627370496*d+302231454903657293676544*e) q ?_⟩
  simp only[fu,fa];omega
 ·refine⟨b,by rw[q];rfl,by omega,key 1 b (c+67108864*d+4503599627370496*e) q ?_⟩
  simp only[fu,fa];omega
 ·refine⟨c,by rw[q];rfl,by omega,key 2 c (d+67108864*e) q ?_⟩
  simp only[fu,fa];omega
 ·refine⟨d,by rw[q];rfl,by omega,key 3 d e q ?_⟩
  simp only[fu,fa];omega
 ·refine⟨e,by rw[q];rfl,by omega,key 4 e 0 q ?_⟩
  simp only[fu,fa];omega
theorem refL6(N:Nat)(hN:20 < N){a b c d e:Int}(h:Dok a b c d e){V:Nat}(hV:oV a b c d e=(V:Int)){i:Nat}(hi:i < 16){y:Int}(hy:0<=y/\y < 100000):T (hJ N (i:Int) #v[a,b,c,d,e] N y 0) (λr=>r=y+((V / 2 ^ (8*i) % 256:Nat):Int)):=by
 have main:T (hJ N (i:Int) #v[a,b,c,d,e] N y 0) (λr=>r=y+((V / 2 ^ (8*i) % 2 ^ 8:Nat):Int)):=by
  refine T.loop0 (n:=8) (by decide) (λk r=>r=y+((V / 2 ^ (8*i) % 2 ^ k:Nat):Int)) (F:=hJ N (i:Int) #v[a,b,c,d,e]) (λf s k hk hs Q hq=>?_) (λf s=>by rw[hJ,df (by omega),cond_false]) (by omega) (by rw[iv,j6];exact(ne y).symm)
  have t8:I64 (I64 (8*(i:Int))+(k:Int))=((8*i+k:Nat):Int):=by rw[aR (x:=8*(i:Int)) (by omega) (by omega),aR (by omega) (by omega)];omega
  have td:cv ((8*i+k:Nat):Int) 26=(((8*i+k) / 26:Nat):Int):=by rw[dc (by omega)];omega
  have tm:br ((8*i+k:Nat):Int) 26=(((8*i+k) % 26:Nat):Int):=by rw[cz (by omega)];omega
  have ti:I64 (((8*i+k) / 26:Nat):Int)=(((8*i+k) / 26:Nat):Int):=aR (by omega) (by omega)
  obtain⟨x,hx,xl,xb⟩:=bit5 h hV (t:=8*i+k) (by omega)
  have g:(#v[a,b,c,d,e]:Vector Int 5).toList[(8*i+k) / 26]? = some (x:Int):=by
   rw[<- hx]
   unfold dv;rw[an,ah (by simp;omega)]
   rfl
  have tn:(((8*i+k) / 26:Nat):Int).toNat=(8*i+k) / 26:=rfl;rw[hJ,dt (by omega),cond_true,t8,aC,td,tm,ti,cD (by omega) (by omega),aa,tn,g,aa,kS .i64 (by omega),aa,wU .i64 (by omega),aa,cZ (by omega)]
  refine hq _ ?_;have pe:(2:Int) ^ ((8*i+k) % 26)=((2 ^ ((8*i+k) % 26):Nat):Int):=by rw[gg];rfl
  have sx:shr .i64 (x:Int) (((8*i+k) % 26:Nat):Int)=((x / 2 ^ ((8*i+k) % 26):Nat):Int):=by
   rw[aAg .i64 _ _ ((8*i+k) % 26) rfl (by show(8*i+k) % 26<=64;omega),pe];rfl
  have xs:x / 2 ^ ((8*i+k) % 26)<=x:=Nat.div_le_self _ _;rw[sx]
  generalize x / 2 ^ ((8*i+k) % 26)=w at *;rw[aTT ⟨by omega,by omega⟩]
  have bt:((w:Nat):Int) % 2=((V / 2 ^ (8*i) / 2 ^ k % 2:Nat):Int):=by
   have:V / 2 ^ (8*i) / 2 ^ k % 2=V / 2 ^ (8*i+k) % 2:=by rw[gr,<- fe]
   rw[this,<- xb]
   omega
  rw[bt,hs]
  generalize V / 2 ^ (8*i)=B;have mm:B % 2 ^ (k+1)=B % 2 ^ k+2 ^ k*(B / 2 ^ k % 2):=by rw[dh,ic]
  have p2:(2:Int) ^ k=((2 ^ k:Nat):Int):=by rw[gg];rfl
  have le:2 ^ k<=2 ^ 7:=fo (by decide) (by omega)
  have c7:2 ^ 7=128:=by decide
  have ml:B % 2 ^ k < 2 ^ k:=ff _ (eg k)
  rw[mm,shlI _ k (by omega),p2]
  have b2:B / 2 ^ k % 2=0\/B / 2 ^ k % 2=1:=by omega
  generalize B % 2 ^ k=M at *;generalize B / 2 ^ k % 2=z at *;generalize 2 ^ k=p at *;rcases b2 with rfl | rfl
  ·rw[show(((0:Nat):Int)*(p:Int))=0 by omega,aR (x:=0) (by decide) (by decide),aR (by omega) (by omega)];omega
  ·rw[show(((1:Nat):Int)*(p:Int))=(p:Int) by omega,aR (x:=(p:Int)) (by omega) (by omega),aR (by omega) (by omega)];omega
 exact main
theorem aNL : ∀(l:List Int),aQ l->∀i,i < l.length->l[i]? = some (leV l / ((256 ^ i:Nat):Int) % 256)
 | [],_,i,h=>by simp at h
 | x :: t,hb,0,_=>by
  have hx:=hb x (ig)
  unfold isB at hx;show some x=_;rw[leV,show((256 ^ 0:Nat):Int)=1 from rfl,Int.ediv_one]
  congr 1;omega
 | x :: t,hb,i+1,h=>by
  have hx:=hb x (ig)
  unfold isB at hx;rw[List.getElem?_cons_succ,aNL t (λy hy=>hb y (ij _ hy)) i (by simpa using h),leV]
  have e3:((256 ^ (i+1):Nat):Int)=256*((256 ^ i:Nat):Int):=by rw[dh,fj,mn];rfl
  rw[e3,<- je (by decide)]
  congr 3;omega
def cyN(V S i:Nat):Nat:=(V % 256 ^ i+S % 256 ^ i) / 256 ^ i
theorem aUz(V S i:Nat):cyN V S i<=1:=by
 unfold cyN;have p:0 < 256 ^ i:=nj (by decide)
 have a:=ff V p;have b:=ff S p;have:(V % 256 ^ i+S % 256 ^ i) / 256 ^ i < 2:=by rw[jt p];omega
 omega
theorem cyS(V S i:Nat):cyN V S (i+1)=(S / 256 ^ i % 256+cyN V S i+V / 256 ^ i % 256) / 256/\(V+S) / 256 ^ i % 256=(S / 256 ^ i % 256+cyN V S i+V / 256 ^ i % 256) % 256:=by
 unfold cyN;have p:0 < 256 ^ i:=nj (by decide)
 have e1:V % 256 ^ (i+1)=V % 256 ^ i+256 ^ i*(V / 256 ^ i % 256):=by rw[dh,ic]
 have e2:S % 256 ^ (i+1)=S % 256 ^ i+256 ^ i*(S / 256 ^ i % 256):=by rw[dh,ic]
 have e3:V=V % 256 ^ i+256 ^ i*(V / 256 ^ i):=(mq _ _).symm;have e4:S=S % 256 ^ i+256 ^ i*(S / 256 ^ i):=(mq _ _).symm;constructor
 ·rw[e1,e2,dh,<- gr]
  have:V % 256 ^ i+256 ^ i*(V / 256 ^ i % 256)+(S % 256 ^ i+256 ^ i*(S / 256 ^ i % 256))=(V % 256 ^ i+S % 256 ^ i)+256 ^ i*(V / 256 ^ i % 256+S / 256 ^ i % 256):=by rw[nk];omega
  rw[this,ew _ _ p]
  congr 1;omega
 ·have:(V+S) / 256 ^ i=(V % 256 ^ i+S % 256 ^ i) / 256 ^ i+(V / 256 ^ i+S / 256 ^ i):=by
   rw[<- ew _ _ p,nk]
   congr 1;omega
  rw[this]
  omega
theorem refL5(N:Nat)(hN:30 < N){key:Vector Int 32}(hk:eH key){a b c d e:Int}(h:Dok a b c d e){V S:Nat}(hV:oV a b c d e=(V:Int))(hS:leV (key.toList.drop 16)=(S:Int)):T (jN N key #v[a,b,c,d,e] N (ag 16 0) 0 0) (λr=>∀j,j < 16->r.toList[j]? = some (((V+S) / 256 ^ j % 256:Nat):Int)):=by
 have kl:key.toList.length=32:=by simp
 have db:aQ (key.toList.drop 16):=λx hx=>hk x (ct hx)
 refine T.loopG0 (n:=16) (λi (q:Vector Int 16×Int)=>q.2=((cyN V S i:Nat):Int)/\∀j,j < 16->q.1.toList[j]? = some (if j < i then(((V+S) / 256 ^ j % 256:Nat):Int) else 0)) _ (F:=λk (q:Vector Int 16×Int) i=>jN N key #v[a,b,c,d,e] k q.1 q.2 i) (λk q i hi hq hk'=>?_) (λk q hq=>?_) (by omega) (s:=(ag 16 0,0)) ⟨?_,λj hj=>?_⟩
 ·obtain⟨v,cy⟩:=q;obtain⟨h1,h2⟩:=hq;dsimp only at h1 h2;subst h1;have e16:I64 (16+(i:Int))=((16+i:Nat):Int):=by rw[aR (by omega) (by omega)];omega
  have g:=aNL _ db i (by rw[ca];omega)
  rw[fm,hS] at g;have gS:(S:Int) / ((256 ^ i:Nat):Int) % 256=((S / 256 ^ i % 256:Nat):Int):=by
   generalize 256 ^ i=p;rfl
  rw[gS] at g;have cl:=aUz V S i;obtain⟨c1,c2⟩:=cyS V S i;have sl:S / 256 ^ i % 256 < 256:=ff _ (by decide)
  have vl:V / 256 ^ i % 256 < 256:=ff _ (by decide)
  have pw:2 ^ (8*i)=256 ^ i:=by rw[Nat.pow_mul]
  dsimp only;rw[jN,dt (by omega),cond_true,e16,mX,g,aa]
  have eb:I64 (I64 ((S / 256 ^ i % 256:Nat):Int)+((cyN V S i:Nat):Int))=((S / 256 ^ i % 256+cyN V S i:Nat):Int):=by
   generalize S / 256 ^ i % 256=s at *;generalize cyN V S i=y at *;rw[aR (x:=(s:Int)) (by omega) (by omega),aR (by omega) (by omega)];omega
  rw[eb]
  refine T.bind (refL6 N (by omega) h hV hi (y:=((S / 256 ^ i % 256+cyN V S i:Nat):Int)) ⟨by omega,by generalize S / 256 ^ i % 256=s at *;generalize cyN V S i=y at *;omega⟩) λr hr=>?_;rw[pw] at hr;have ti:((i:Nat):Int).toNat=i:=rfl;rw[cD (by omega) (by omega),aa,ti,h2 i hi,aa,cZ (by omega)]
  have r8:shr .i64 r 8=((cyN V S (i+1):Nat):Int):=by
   rw[aAg .i64 r 8 8 rfl (by decide),c1,hr]
   show _ / 256=_;omega
  have u8:U8 r=(((V+S) / 256 ^ i % 256:Nat):Int):=by
   rw[aAz,c2,hr]
   omega
  refine hk' (_,_) ⟨r8,λj hj=>?_⟩
  show(v.setIfInBounds i (U8 r)).toList[j]? = some (if j < i+1 then(((V+S) / 256 ^ j % 256:Nat):Int) else 0)
  rw[bq,cr,u8]
  by_cases c:i=j
  ·subst c;rw[if_pos rfl,if_pos (by simp;omega),if_pos (by omega)]
  ·rw[if_neg c,h2 j hj]
   by_cases c3:j < i
   ·rw[if_pos c3,if_pos (by omega)]
   ·rw[if_neg c3,if_neg (by omega)]
 ·rw[jN,df (by omega),cond_false]
  exact T.ret λj hj=>by rw[hq.2 j hj,if_pos hj]
 ·show(0:Int)=((cyN V S 0:Nat):Int)
  unfold cyN;rw[iv,j6,j6]
  rfl
 ·have z:(ag 16 (0:Int)).toList=ak 16 0:=rfl;dsimp only;rw[z,cw,if_pos hj,if_neg (by omega)]
theorem refT1(N:Nat)(hN:30 < N)(key:Vector Int 32):T (jV N key N (ag 16 0) 0) (λv=>v.toList=key.toList.take 16):=by
 have kl:key.toList.length=32:=by simp
 refine T.mono (T.loop0 (n:=16) (by decide) (λi (v:Vector Int 16)=>∀j,j < 16->v.toList[j]? = some (if j < i then key.toList.getD j 0 else 0)) (F:=jV N key) (λk s i hi hs Q hk=>?_) (λk s=>by rw[jV,df (by omega),cond_false]) (by omega) (λj hj=>?_)) λv hv=>?_
 ·have g:key.toList[i]? = some (key.toList.getD i 0):=by rw[an,ah (by omega)];rfl
  have ti:((i:Nat):Int).toNat=i:=rfl;rw[jV,dt (by omega),cond_true,mX,g,aa,cD (by omega) (by omega),aa,ti,hs i hi,aa,cZ (by omega)]
  refine hk _ λj hj=>?_;rw[bq,cr]
  by_cases c:i=j
  ·subst c;rw[if_pos rfl,if_pos (by simp;omega),if_pos (by omega)]
  ·rw[if_neg c,hs j hj]
   by_cases c3:j < i
   ·rw[if_pos c3,if_pos (by omega)]
   ·rw[if_neg c3,if_neg (by omega)]
 ·have z:(ag 16 (0:Int)).toList=ak 16 0:=rfl;rw[z,cw,if_pos hj,if_neg (by omega)]
 ·apply dp;intro j;by_cases c:j < 16
  ·rw[hv j c,if_pos c,cu,if_pos c,an,ah (by omega)]
   rfl
  ·rw[bf (by simp;omega),bf (by rw[bp];omega)]
theorem refT2(N:Nat)(hN:30 < N)(c:Vector Int 16):T (jM N c N (ag 17 0) 0) (λv=>v.toList=c.toList++[0]):=by
 have kl:c.toList.length=16:=by simp
 refine T.mono (T.loop0 (n:=16) (by decide) (λi (v:Vector Int 17)=>∀j,j < 17->v.toList[j]? = some (if j < i then c.toList.getD j 0 else 0)) (F:=jM N c) (λk s i hi hs Q hk=>?_) (λk s=>by rw[jM,df (by omega),cond_false]) (by omega) (λj hj=>?_)) λv hv=>?_
 ·have g:c.toList[i]? = some (c.toList.getD i 0):=by rw[an,ah (by omega)];rfl
  have ti:((i:Nat):Int).toNat=i:=rfl;rw[jM,dt (by omega),cond_true,cD (i:=(i:Int)) (n:=16) (by omega) (by omega),aa,ti,g,aa,cD (by omega) (by omega),aa,hs i (by omega),aa,cZ (by omega)]
  refine hk _ λj hj=>?_;rw[bq,cr]
  by_cases c:i=j
  ·subst c;rw[if_pos rfl,if_pos (by simp;omega),if_pos (by omega)]
  ·rw[if_neg c,hs j hj]
   by_cases c3:j < i
   ·rw[if_pos c3,if_pos (by omega)]
   ·rw[if_neg c3,if_neg (by omega)]
 ·have z:(ag 17 (0:Int)).toList=ak 17 0:=rfl;rw[z,cw,if_pos hj,if_neg (by omega)]
 ·apply dp;intro j;by_cases c1:j < 16
  ·rw[hv j (by omega),if_pos c1,cm (by omega),an,ah (by omega)]
   rfl
  ·by_cases c2:j=16
   ·subst c2;rw[hv 16 (by decide),if_neg (by decide),cj (by omega),kl]
    rfl
   ·rw[bf (by simp;omega),bf (by rw[ai,kl,cn];omega)]
theorem tagE(N:Nat)(hN:70000 < N){key:Vector Int 32}(hk:eH key){ms:List (List Int)}(hms:ms.length < 1000)(hb:aQ ms.flatten){m:Nat}(hm:ms.flatten.length=16*m)(hl:ms.flatten.length<=65536):∃t,uI N key ms=some t/\rX N key ms.flatten=some t:=by
 obtain⟨v,c,t,hv,hc,hcb,et,ht⟩:=tagV N hN hk hms hb hm hl;refine⟨t,et,?_⟩
 obtain⟨v',e1,hv'⟩:=refT1 N (by omega) key;obtain rfl:v'=v:=gj.1 (hv'.trans hv.symm)
 obtain⟨w,e2,hw⟩:=refT2 N (by omega) c;have cl:c.toList.length=16:=by simp
 have wb:aQ w.toList:=by
  rw[hw]
  intro x hx;rcases dk.1 hx with h' | h'
  ·exact hcb x h'
  ·rw[iy.1 h'];exact⟨by decide,by decide⟩
 have lw:leV w.toList=leV c.toList:=by rw[hw,aEr,Int.zero_mul,ne]
 have lb:=aIN _ hcb;rw[cl] at lb;have c16:((256 ^ 16:Nat):Int)=340282366920938463463374607431768211456:=by decide
 rw[c16] at lb;obtain⟨r0,r1,r2,r3,r4,e3,hr,vr⟩:=aN3 N (by omega) wb (by rw[lw];simp only[aDp];omega)
 obtain⟨bs,e4,hbs⟩:=aOq N hN hl hm;have z0:Dok 0 0 0 0 0:=⟨⟨by decide,by decide⟩,⟨by decide,by decide⟩,⟨by decide,by decide⟩,⟨by decide,by decide⟩,⟨by decide,by decide⟩⟩
 obtain⟨a',b',c',d',f',hd,hp,e5⟩:=refL3 N hN hb hl hm hbs hr m N 0 0 0 0 0 0 (by omega) (by omega) z0 rfl;obtain⟨a2,b2,c2,d2,f2,e6,hd2,hv2⟩:=aTz N (by omega) hd;rw[hp,vr,lw] at hv2;have l2:=hd2.lt;obtain⟨V,hV⟩:=bw l2.1;have kb:aQ (key.toList.drop 16):=λx hx=>hk x (ct hx)
 obtain⟨S,hS⟩:=bw (aIN _ kb).1;obtain⟨u,e7,hu⟩:=refL5 N (by omega) hk hd2 hV hS;have ut:u=t:=by
  apply gj.1;apply dp;intro j;by_cases hj:j < 16
  ·rw[hu j hj,ht,aJp 16 _ j hj,hS,<- hv2,hV]
   have p:256 ^ 16=256 ^ j*256 ^ (16 - j):=by rw[<- fe,show j+(16 - j)=16 by omega]
   have q:256 ∣ 256 ^ (16 - j):=by
    rw[show 16 - j=(15 - j)+1 by omega,dh]
    exact Nat.dvd_mul_left _ _
   have k:((V:Int)+(S:Int)) % W2=(((V+S) % 256 ^ 16:Nat):Int):=by
    have:(256 ^ 16:Nat)=340282366920938463463374607431768211456:=by decide
    rw[this]
    simp only[W2]
    omega
   have m2:((V+S) % 256 ^ 16) / 256 ^ j % 256=(V+S) / 256 ^ j % 256:=by
    rw[p,Nat.mod_mul_right_div_self,Nat.mod_mod_of_dvd _ q]
   rw[k,<- m2]
   generalize 256 ^ j=pj;rfl
  ·rw[bf (by simp;omega),bf (by simp;omega)]
 subst ut;have z5:(ag 5 (0:Int))=#v[0,0,0,0,0]:=rfl;unfold rX;rw[e1,aa,hc,aa,e2,aa,e3,aa,e4,aa,z5]
 have zi:((0:Nat):Int)=0:=rfl;rw[zi] at e5;rw[e5,aa,e6,aa,e7,aa]
end Go.UK
