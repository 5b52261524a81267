/- A part of the proof: what the functions of the program compute. -/
import Derived.Test.YtljnaeghnleipaaGreatJ4
open BitVec renaming ofInt→ar
open Int renaming add_zero→nw,ediv_ediv_of_nonneg→kc,eq_ofNat_of_zero_le→bp,mul_comm→na,natCast_mul→fx,natCast_pow→ii,one_mul→o0,tdiv→du,tdiv_eq_ediv_of_nonneg→dz,tmod→cu,tmod_eq_emod_of_nonneg→ed
open List renaming ext_getElem?→dr,getD_eq_getElem?_getD→bf,getElem?_append_left→cn,getElem?_append_right→cr,getElem?_drop→eo,getElem?_eq_getElem→ag,getElem?_eq_none→au,getElem?_replicate→cz,getElem?_set→cv,getElem?_take→dq,length_append→ai,length_drop→br,length_singleton→cf,length_take→bw,mem_append→ek,mem_cons_of_mem→j7,mem_cons_self→j5,mem_of_mem_drop→dn,mem_singleton→lr,replicate→ap
open Nat renaming add_mul_div_left→fo,add_mul_mod_self_left→jp,div_div_eq_div_mul→io,div_eq_of_lt→n9,div_lt_iff_lt_mul→kt,mod_add_div→nd,mod_eq_of_lt→jf,mod_lt→gn,mod_mul→j4,mod_one→jl,mul_add→o6,mul_assoc→nj,mul_zero→nr,pow_add→gj,pow_le_pow_right→gu,pow_pos→o5,pow_succ→ee,pow_zero→je,reduceMul→i5,reducePow→fy,two_pow_pos→fj
open Option renaming bind_some→aa
open Vector renaming replicate→ah,toList_inj→dx,toList_setIfInBounds→bq
namespace Go.UK
open Go Go.Proofs
set_option maxRecDepth 20000
set_option maxHeartbeats 16000000
set_option linter.all false
def oQ(a b c d e:Int):Int:=a+67108864*b+4503599627370496*c+302231454903657293676544*d+20282409603651670423947251286016*e
theorem aGW(a b c d e:Int):(#v[a,b,c,d,e]:Vector Int 5).toList[((0:Int).toNat)]? = some a:=rfl
theorem aF8(a b c d e:Int):(#v[a,b,c,d,e]:Vector Int 5).toList[((1:Int).toNat)]? = some b:=rfl
theorem aFd(a b c d e:Int):(#v[a,b,c,d,e]:Vector Int 5).toList[((2:Int).toNat)]? = some c:=rfl
theorem aFV(a b c d e:Int):(#v[a,b,c,d,e]:Vector Int 5).toList[((3:Int).toNat)]? = some d:=rfl
theorem aGR(a b c d e:Int):(#v[a,b,c,d,e]:Vector Int 5).toList[((4:Int).toNat)]? = some e:=rfl
theorem aHA(a b c d e x:Int):(#v[a,b,c,d,e]:Vector Int 5).setIfInBounds ((0:Int).toNat) x=#v[x,b,c,d,e]:=rfl
theorem aG6(a b c d e x:Int):(#v[a,b,c,d,e]:Vector Int 5).setIfInBounds ((1:Int).toNat) x=#v[a,x,c,d,e]:=rfl
theorem aGy(a b c d e x:Int):(#v[a,b,c,d,e]:Vector Int 5).setIfInBounds ((2:Int).toNat) x=#v[a,b,x,d,e]:=rfl
theorem aGk(a b c d e x:Int):(#v[a,b,c,d,e]:Vector Int 5).setIfInBounds ((3:Int).toNat) x=#v[a,b,c,x,e]:=rfl
theorem aG2(a b c d e x:Int):(#v[a,b,c,d,e]:Vector Int 5).setIfInBounds ((4:Int).toNat) x=#v[a,b,c,d,x]:=rfl
theorem aBw : aW 0 5=some ():=rfl
theorem aBr : aW 1 5=some ():=rfl
theorem aBu : aW 2 5=some ():=rfl
theorem aBn : aW 3 5=some ():=rfl
theorem aBq : aW 4 5=some ():=rfl
theorem k01 : I64 (0+1)=1:=by decide
theorem k12 : I64 (1+1)=2:=by decide
theorem k23 : I64 (2+1)=3:=by decide
theorem k34 : I64 (3+1)=4:=by decide
theorem k45 : I64 (4+1)=5:=by decide
def ng(x:Int):Prop:=0<=x/\x < 1152921504606846976
theorem aDF{x:Int}(h:0<=x/\x < 4611686018427387904):I64 (x - shl .i64 (x / 67108864) 26)=x % 67108864/\shr .i64 x 26=x / 67108864:=by
 have e:shr .i64 x 26=x / 67108864:=by rw[wF .i64 x 26 26 rfl (by decide)];rfl
 have e2:shl .i64 (x / 67108864) 26=I64 (x / 67108864*67108864):=by
  rw[show(26:Int)=((26:Nat):Int) from rfl,aL1 _ 26 (by decide)];rfl
 refine⟨?_,e⟩
 rw[e2,aU (x:=x / 67108864*67108864) (by omega) (by omega),aU (by omega) (by omega)]
 omega
theorem aKI(N:Nat)(hN:10 < N){a b c d e:Int}(ha:ng a)(hb:ng b)(hc:ng c)(hd:ng d)(he:ng e):∃a' b' c' d' e' q,cD N N #v[a,b,c,d,e] 0=some #v[a',b',c',d',e']/\(0<=q/\q<=(e+34359738368) / 67108864)/\(0<=a'/\a' < 67108864+5*q)/\(0<=b'/\b' < 67108864)/\(0<=c'/\c' < 67108864)/\(0<=d'/\d' < 67108864)/\(0<=e'/\e' < 67108864)/\oQ a' b' c' d' e'+PP*q=oQ a b c d e/\(∃a0,a'=a0+5*q/\a0+67108864*((a - a0) / 67108864)=a/\0<=a0/\a0 < 67108864):=by
 unfold ng at *;obtain⟨k,rfl⟩:∃j,N=j+6:=⟨N - 6,by omega⟩
 obtain⟨f1,g1⟩:=aDF (x:=a) (by omega)
 have hI1:I64 (b+a / 67108864)=b+a / 67108864:=aU (by omega) (by omega)
 rw[cD,dt (by decide),cond_true]
 simp only[aBw,aBr,aGW,aF8,aHA,aa,k01,aC,f1,g1,hI1]
 rw[dt (by decide),cond_true,aa,aG6]
 have hb1:0<=b+a / 67108864/\b+a / 67108864 < 2305843009213693952:=by omega
 clear hI1;generalize hB:b+a / 67108864=B at *;obtain⟨f2,g2⟩:=aDF (x:=B) (by omega)
 have hI2:I64 (c+B / 67108864)=c+B / 67108864:=aU (by omega) (by omega)
 rw[cD,dt (by decide),cond_true]
 simp only[aBr,aBu,aF8,aFd,aG6,aa,k12,aC,f2,g2,hI2]
 rw[dt (by decide),cond_true,aa,aGy]
 have hc1:0<=c+B / 67108864/\c+B / 67108864 < 2305843009213693952:=by omega
 clear hI2;generalize hC:c+B / 67108864=C at *;obtain⟨f3,g3⟩:=aDF (x:=C) (by omega)
 have hI3:I64 (d+C / 67108864)=d+C / 67108864:=aU (by omega) (by omega)
 rw[cD,dt (by decide),cond_true]
 simp only[aBu,aBn,aFd,aFV,aGy,aa,k23,aC,f3,g3,hI3]
 rw[dt (by decide),cond_true,aa,aGk]
 have hd1:0<=d+C / 67108864/\d+C / 67108864 < 2305843009213693952:=by omega
 clear hI3;generalize hD:d+C / 67108864=D at *;obtain⟨f4,g4⟩:=aDF (x:=D) (by omega)
 have hI4:I64 (e+D / 67108864)=e+D / 67108864:=aU (by omega) (by omega)
 rw[cD,dt (by decide),cond_true]
 simp only[aBn,aBq,aFV,aGR,aGk,aa,k34,aC,f4,g4,hI4]
 rw[dt (by decide),cond_true,aa,aG2]
 have he1:0<=e+D / 67108864/\e+D / 67108864 < 2305843009213693952:=by omega
 have he2:(e+D / 67108864) / 67108864<=(e+34359738368) / 67108864:=by omega
 clear hI4;generalize hE:e+D / 67108864=E at *;obtain⟨f5,g5⟩:=aDF (x:=E) (by omega)
 have hI5:I64 (5*(E / 67108864))=5*(E / 67108864):=aU (by omega) (by omega)
 have hI6:I64 (a % 67108864+5*(E / 67108864))=a % 67108864+5*(E / 67108864):=aU (by omega) (by omega)
 rw[cD,dt (by decide),cond_true]
 simp only[aBq,aBw,aGR,aGW,aG2,aa,k45,aC,f5,g5,hI5,hI6]
 rw[df (by decide),cond_false,aa,aHA]
 rw[cD,df (by decide),cond_false]
 refine⟨_,_,_,_,_,E / 67108864,rfl,⟨by omega,he2⟩,by omega,by omega,by omega,by omega,by omega,?_,a % 67108864,rfl,by omega,by omega,by omega⟩
 unfold oQ;simp only[PP]
 omega
def d26(x:Int):Prop:=0<=x/\x < 67108864
structure Dok(a b c d e:Int):Prop where
 a:d26 a
 b:d26 b
 c:d26 c
 d:d26 d
 e:d26 e
theorem Dok.lt{a b c d e:Int}(h:Dok a b c d e):0<=oQ a b c d e/\oQ a b c d e < aB0:=by
 obtain⟨h1,h2,h3,h4,h5⟩:=h;unfold d26 at *;unfold oQ;simp only[aB0]
 omega
theorem aKV(N:Nat)(hN:10 < N){a b c d e:Int}(ha:ng a)(hb:ng b)(hc:ng c)(hd:ng d)(he:ng e):∃a0 b' c' d' e' q,cD N N #v[a,b,c,d,e] 0=some #v[a0+5*q,b',c',d',e']/\0<=q/\Dok a0 b' c' d' e'/\oQ a0 b' c' d' e'+aB0*q=oQ a b c d e:=by
 obtain⟨a',b',c',d',e',q,e1,⟨q0,_⟩,_,hb',hc',hd',he',hv,a0,ea,_,h0,h1⟩:=aKI N hN ha hb hc hd he;subst ea;refine⟨a0,b',c',d',e',q,e1,q0,⟨⟨h0,h1⟩,hb',hc',hd',he'⟩,?_⟩
 unfold oQ at *;simp only[PP,aB0] at *;omega
theorem aI2(N:Nat)(hN:10 < N){a b c d e:Int}(ha:ng a)(hb:ng b)(hc:ng c)(hd:ng d)(he:ng e):∃a' b' c' d' e' H,lQ N #v[a,b,c,d,e]=some #v[a',b',c',d',e']/\Dok a' b' c' d' e'/\oQ a' b' c' d' e'+PP*H=oQ a b c d e:=by
 obtain⟨k,hk⟩:∃j,N=j+4:=⟨N - 4,by omega⟩
 obtain⟨a1,b1,c1,d1,e1,q1,E1,p1,D1,v1⟩:=aKV N hN ha hb hc hd he;have u1:q1<=68719476736:=by
  have:=D1.lt;unfold ng at *;unfold oQ at *;simp only[aB0] at *;omega
 have L1:=D1;obtain⟨x1,x2,x3,x4,x5⟩:=D1;unfold d26 at x1 x2 x3 x4 x5;obtain⟨a2,b2,c2,d2,e2,q2,E2,p2,D2,v2⟩:=aKV N hN (a:=a1+5*q1) (b:=b1) (c:=c1) (d:=d1) (e:=e1) (by unfold ng;omega) (by unfold ng;omega) (by unfold ng;omega) (by unfold ng;omega) (by unfold ng;omega)
 have u2:q2<=1:=by
  have:=D2.lt;unfold oQ at *;simp only[aB0] at *;omega
 have L2:=D2;obtain⟨y1,y2,y3,y4,y5⟩:=D2;unfold d26 at y1 y2 y3 y4 y5;obtain⟨a3,b3,c3,d3,e3,q3,E3,p3,D3,v3⟩:=aKV N hN (a:=a2+5*q2) (b:=b2) (c:=c2) (d:=d2) (e:=e2) (by unfold ng;omega) (by unfold ng;omega) (by unfold ng;omega) (by unfold ng;omega) (by unfold ng;omega)
 have L3:=D3.lt;obtain⟨z1,z2,z3,z4,z5⟩:=D3;have u3:a3+5*q3 < 67108864:=by
  unfold d26 at z1 z2 z3 z4 z5;have:q3<=1:=by
   unfold oQ at *;simp only[aB0] at *;omega
  by_cases c:q3=0
  ·subst c;omega
  ·have c1:q3=1:=by omega
   subst c1;unfold oQ at v3;simp only[aB0] at v3;omega
 refine⟨a3+5*q3,b3,c3,d3,e3,q1+q2+q3,?_,⟨⟨by have:=z1.1;omega,u3⟩,z2,z3,z4,z5⟩,?_⟩
 ·unfold lQ;subst hk;rw[eZ,dt (by decide),cond_true,E1,aa,k01,eZ,dt (by decide),cond_true,E2,aa,k12,eZ,dt (by decide),cond_true,E3,aa,k23,eZ,df (by decide),cond_false]
  rfl
 ·unfold oQ at *;simp only[PP,aB0] at *;omega
theorem aBx(a b c d e:Int):idx (#v[a,b,c,d,e]:Vector Int 5).toList 0=some a:=rfl
theorem aBk(a b c d e:Int):idx (#v[a,b,c,d,e]:Vector Int 5).toList 1=some b:=rfl
theorem aBs(a b c d e:Int):idx (#v[a,b,c,d,e]:Vector Int 5).toList 2=some c:=rfl
theorem aBo(a b c d e:Int):idx (#v[a,b,c,d,e]:Vector Int 5).toList 3=some d:=rfl
theorem aBl(a b c d e:Int):idx (#v[a,b,c,d,e]:Vector Int 5).toList 4=some e:=rfl
def pd(x:Int):Prop:=0<=x/\x < 18014398509481984
def sm(n x:Int):Prop:=0<=x/\x<=n*90071992547409920
theorem pdI{x:Int}(h:pd x):I64 x=x:=by unfold pd at h;exact aU (by omega) (by omega)
theorem pdJ{x:Int}(h:pd x):I64 (5*x)=5*x:=by unfold pd at h;exact aU (by omega) (by omega)
theorem smI{n s w:Int}(hn:0<=n/\n<=5)(h:sm n s)(hw:pd w):I64 (s+w)=s+w:=by unfold pd sm at *;exact aU (by omega) (by omega)
theorem smJ{n s w:Int}(hn:0<=n/\n<=5)(h:sm n s)(hw:pd w):I64 (s+5*w)=s+5*w:=by unfold pd sm at *;exact aU (by omega) (by omega)
theorem smS{n s w:Int}(hn:0<=n/\n<=5)(h:sm n s)(hw:pd w):sm (n+1) (s+w):=by unfold pd sm at *;omega
theorem smT{n s w:Int}(hn:0<=n/\n<=5)(h:sm n s)(hw:pd w):sm (n+1) (s+5*w):=by unfold pd sm at *;omega
theorem tm5_0 : cu 0 5=0:=by decide
theorem aQF : cu 1 5=1:=by decide
theorem aNb : cu 2 5=2:=by decide
theorem aLr : cu 3 5=3:=by decide
theorem aJZ : cu 4 5=4:=by decide
theorem aLG : cu 5 5=0:=by decide
theorem aNT : cu 6 5=1:=by decide
theorem aQD : cu 7 5=2:=by decide
theorem tm5_8 : cu 8 5=3:=by decide
theorem ik00 : I64 (0+0)=0:=by decide
theorem ik01 : I64 (0+1)=1:=by decide
theorem ik02 : I64 (0+2)=2:=by decide
theorem ik03 : I64 (0+3)=3:=by decide
theorem ik04 : I64 (0+4)=4:=by decide
theorem ik10 : I64 (1+0)=1:=by decide
theorem ik11 : I64 (1+1)=2:=by decide
theorem ik12 : I64 (1+2)=3:=by decide
theorem ik13 : I64 (1+3)=4:=by decide
theorem ik14 : I64 (1+4)=5:=by decide
theorem ik20 : I64 (2+0)=2:=by decide
theorem ik21 : I64 (2+1)=3:=by decide
theorem ik22 : I64 (2+2)=4:=by decide
theorem ik23 : I64 (2+3)=5:=by decide
theorem ik24 : I64 (2+4)=6:=by decide
theorem ik30 : I64 (3+0)=3:=by decide
theorem ik31 : I64 (3+1)=4:=by decide
theorem ik32 : I64 (3+2)=5:=by decide
theorem ik33 : I64 (3+3)=6:=by decide
theorem ik34 : I64 (3+4)=7:=by decide
theorem ik40 : I64 (4+0)=4:=by decide
theorem ik41 : I64 (4+1)=5:=by decide
theorem ik42 : I64 (4+2)=6:=by decide
theorem ik43 : I64 (4+3)=7:=by decide
theorem ik44 : I64 (4+4)=8:=by decide
theorem row0(N:Nat)(hN:10 < N){n:Int}(hn:0<=n/\n<=5){a0 a1 a2 a3 a4 b0 b1 b2 b3 b4 s0 s1 s2 s3 s4:Int}(hp0:pd (a0*b0))(hp1:pd (a0*b1))(hp2:pd (a0*b2))(hp3:pd (a0*b3))(hp4:pd (a0*b4))(hs0:sm n s0)(hs1:sm n s1)(hs2:sm n s2)(hs3:sm n s3)(hs4:sm n s4):aO N #v[a0,a1,a2,a3,a4] 0 #v[b0,b1,b2,b3,b4] N #v[s0,s1,s2,s3,s4] 0=some #v[s0+a0*b0,s1+a0*b1,s2+a0*b2,s3+a0*b3,s4+a0*b4]/\sm (n+1) (s0+a0*b0)/\sm (n+1) (s1+a0*b1)/\sm (n+1) (s2+a0*b2)/\sm (n+1) (s3+a0*b3)/\sm (n+1) (s4+a0*b4):=by
 obtain⟨k,rfl⟩:∃j,N=j+6:=⟨N - 6,by omega⟩
 refine⟨?_,smS hn hs0 hp0,smS hn hs1 hp1,smS hn hs2 hp2,smS hn hs3 hp3,smS hn hs4 hp4⟩
 rw[aO,dt (by decide),cond_true,aBx,aa,aBx,aa,pdI hp0,aC]
 rw[ik00,df (by decide),cond_false,aa,aC,aC,tm5_0,aBw,aa,aGW,aa,aa,aa,smI hn hs0 hp0,aHA,k01]
 rw[aO,dt (by decide),cond_true,aBx,aa,aBk,aa,pdI hp1,aC]
 rw[ik01,df (by decide),cond_false,aa,aC,aC,aQF,aBr,aa,aF8,aa,aa,aa,smI hn hs1 hp1,aG6,k12]
 rw[aO,dt (by decide),cond_true,aBx,aa,aBs,aa,pdI hp2,aC]
 rw[ik02,df (by decide),cond_false,aa,aC,aC,aNb,aBu,aa,aFd,aa,aa,aa,smI hn hs2 hp2,aGy,k23]
 rw[aO,dt (by decide),cond_true,aBx,aa,aBo,aa,pdI hp3,aC]
 rw[ik03,df (by decide),cond_false,aa,aC,aC,aLr,aBn,aa,aFV,aa,aa,aa,smI hn hs3 hp3,aGk,k34]
 rw[aO,dt (by decide),cond_true,aBx,aa,aBl,aa,pdI hp4,aC]
 rw[ik04,df (by decide),cond_false,aa,aC,aC,aJZ,aBq,aa,aGR,aa,aa,aa,smI hn hs4 hp4,aG2,k45]
 rw[aO,df (by decide),cond_false]
theorem row1(N:Nat)(hN:10 < N){n:Int}(hn:0<=n/\n<=5){a0 a1 a2 a3 a4 b0 b1 b2 b3 b4 s0 s1 s2 s3 s4:Int}(hp0:pd (a1*b0))(hp1:pd (a1*b1))(hp2:pd (a1*b2))(hp3:pd (a1*b3))(hp4:pd (a1*b4))(hs0:sm n s0)(hs1:sm n s1)(hs2:sm n s2)(hs3:sm n s3)(hs4:sm n s4):aO N #v[a0,a1,a2,a3,a4] 1 #v[b0,b1,b2,b3,b4] N #v[s0,s1,s2,s3,s4] 0=some #v[s0+5*(a1*b4),s1+a1*b0,s2+a1*b1,s3+a1*b2,s4+a1*b3]/\sm (n+1) (s0+5*(a1*b4))/\sm (n+1) (s1+a1*b0)/\sm (n+1) (s2+a1*b1)/\sm (n+1) (s3+a1*b2)/\sm (n+1) (s4+a1*b3):=by
 obtain⟨k,rfl⟩:∃j,N=j+6:=⟨N - 6,by omega⟩
 refine⟨?_,smT hn hs0 hp4,smS hn hs1 hp0,smS hn hs2 hp1,smS hn hs3 hp2,smS hn hs4 hp3⟩
 rw[aO,dt (by decide),cond_true,aBk,aa,aBx,aa,pdI hp0,aC]
 rw[ik10,df (by decide),cond_false,aa,aC,aC,aQF,aBr,aa,aF8,aa,aa,aa,smI hn hs1 hp0,aG6,k01]
 rw[aO,dt (by decide),cond_true,aBk,aa,aBk,aa,pdI hp1,aC]
 rw[ik11,df (by decide),cond_false,aa,aC,aC,aNb,aBu,aa,aFd,aa,aa,aa,smI hn hs2 hp1,aGy]
 rw[aO,dt (by decide),cond_true,aBk,aa,aBs,aa,pdI hp2,aC]
 rw[ik12,df (by decide),cond_false,aa,aC,aC,aLr,aBn,aa,aFV,aa,aa,aa,smI hn hs3 hp2,aGk,k23]
 rw[aO,dt (by decide),cond_true,aBk,aa,aBo,aa,pdI hp3,aC]
 rw[ik13,df (by decide),cond_false,aa,aC,aC,aJZ,aBq,aa,aGR,aa,aa,aa,smI hn hs4 hp3,aG2,k34]
 rw[aO,dt (by decide),cond_true,aBk,aa,aBl,aa,pdI hp4,aC]
 rw[ik14,dt (by decide),cond_true,aC,pdJ hp4,aa,aC,aC,aLG,aBw,aa,aGW,aa,aa,aa,smJ hn hs0 hp4,aHA,k45]
 rw[aO,df (by decide),cond_false]
theorem row2(N:Nat)(hN:10 < N){n:Int}(hn:0<=n/\n<=5){a0 a1 a2 a3 a4 b0 b1 b2 b3 b4 s0 s1 s2 s3 s4:Int}(hp0:pd (a2*b0))(hp1:pd (a2*b1))(hp2:pd (a2*b2))(hp3:pd (a2*b3))(hp4:pd (a2*b4))(hs0:sm n s0)(hs1:sm n s1)(hs2:sm n s2)(hs3:sm n s3)(hs4:sm n s4):aO N #v[a0,a1,a2,a3,a4] 2 #v[b0,b1,b2,b3,b4] N #v[s0,s1,s2,s3,s4] 0=some #v[s0+5*(a2*b3),s1+5*(a2*b4),s2+a2*b0,s3+a2*b1,s4+a2*b2]/\sm (n+1) (s0+5*(a2*b3))/\sm (n+1) (s1+5*(a2*b4))/\sm (n+1) (s2+a2*b0)/\sm (n+1) (s3+a2*b1)/\sm (n+1) (s4+a2*b2):=by
 obtain⟨k,rfl⟩:∃j,N=j+6:=⟨N - 6,by omega⟩
 refine⟨?_,smT hn hs0 hp3,smT hn hs1 hp4,smS hn hs2 hp0,smS hn hs3 hp1,smS hn hs4 hp2⟩
 rw[aO,dt (by decide),cond_true,aBs,aa,aBx,aa,pdI hp0,aC]
 rw[ik20,df (by decide),cond_false,aa,aC,aC,aNb,aBu,aa,aFd,aa,aa,aa,smI hn hs2 hp0,aGy,k01]
 rw[aO,dt (by decide),cond_true,aBs,aa,aBk,aa,pdI hp1,aC]
 rw[ik21,df (by decide),cond_false,aa,aC,aC,aLr,aBn,aa,aFV,aa,aa,aa,smI hn hs3 hp1,aGk,k12]
 rw[aO,dt (by decide),cond_true,aBs,aa,aBs,aa,pdI hp2,aC]
 rw[ik22,df (by decide),cond_false,aa,aC,aC,aJZ,aBq,aa,aGR,aa,aa,aa,smI hn hs4 hp2,aG2,k23]
 rw[aO,dt (by decide),cond_true,aBs,aa,aBo,aa,pdI hp3,aC]
 rw[ik23,dt (by decide),cond_true,aC,pdJ hp3,aa,aC,aC,aLG,aBw,aa,aGW,aa,aa,aa,smJ hn hs0 hp3,aHA,k34]
 rw[aO,dt (by decide),cond_true,aBs,aa,aBl,aa,pdI hp4,aC]
 rw[ik24,dt (by decide),cond_true,aC,pdJ hp4,aa,aC,aC,aNT,aBr,aa,aF8,aa,aa,aa,smJ hn hs1 hp4,aG6,k45]
 rw[aO,df (by decide),cond_false]
theorem row3(N:Nat)(hN:10 < N){n:Int}(hn:0<=n/\n<=5){a0 a1 a2 a3 a4 b0 b1 b2 b3 b4 s0 s1 s2 s3 s4:Int}(hp0:pd (a3*b0))(hp1:pd (a3*b1))(hp2:pd (a3*b2))(hp3:pd (a3*b3))(hp4:pd (a3*b4))(hs0:sm n s0)(hs1:sm n s1)(hs2:sm n s2)(hs3:sm n s3)(hs4:sm n s4):aO N #v[a0,a1,a2,a3,a4] 3 #v[b0,b1,b2,b3,b4] N #v[s0,s1,s2,s3,s4] 0=some #v[s0+5*(a3*b2),s1+5*(a3*b3),s2+5*(a3*b4),s3+a3*b0,s4+a3*b1]/\sm (n+1) (s0+5*(a3*b2))/\sm (n+1) (s1+5*(a3*b3))/\sm (n+1) (s2+5*(a3*b4))/\sm (n+1) (s3+a3*b0)/\sm (n+1) (s4+a3*b1):=by
 obtain⟨k,rfl⟩:∃j,N=j+6:=⟨N - 6,by omega⟩
 refine⟨?_,smT hn hs0 hp2,smT hn hs1 hp3,smT hn hs2 hp4,smS hn hs3 hp0,smS hn hs4 hp1⟩
 rw[aO,dt (by decide),cond_true,aBo,aa,aBx,aa,pdI hp0,aC]
 rw[ik30,df (by decide),cond_false,aa,aC,aC,aLr,aBn,aa,aFV,aa,aa,aa,smI hn hs3 hp0,aGk,k01]
 rw[aO,dt (by decide),cond_true,aBo,aa,aBk,aa,pdI hp1,aC]
 rw[ik31,df (by decide),cond_false,aa,aC,aC,aJZ,aBq,aa,aGR,aa,aa,aa,smI hn hs4 hp1,aG2,k12]
 rw[aO,dt (by decide),cond_true,aBo,aa,aBs,aa,pdI hp2,aC]
 rw[ik32,dt (by decide),cond_true,aC,pdJ hp2,aa,aC,aC,aLG,aBw,aa,aGW,aa,aa,aa,smJ hn hs0 hp2,aHA,k23]
 rw[aO,dt (by decide),cond_true,aBo,aa,aBo,aa,pdI hp3,aC]
 rw[ik33,dt (by decide),cond_true,aC,pdJ hp3,aa,aC,aC,aNT,aBr,aa,aF8,aa,aa,aa,smJ hn hs1 hp3,aG6,k34]
 rw[aO,dt (by decide),cond_true,aBo,aa,aBl,aa,pdI hp4,aC]
 rw[ik34,dt (by decide),cond_true,aC,pdJ hp4,aa,aC,aC,aQD,aBu,aa,aFd,aa,aa,aa,smJ hn hs2 hp4,aGy,k45]
 rw[aO,df (by decide),cond_false]
theorem row4(N:Nat)(hN:10 < N){n:Int}(hn:0<=n/\n<=5){a0 a1 a2 a3 a4 b0 b1 b2 b3 b4 s0 s1 s2 s3 s4:Int}(hp0:pd (a4*b0))(hp1:pd (a4*b1))(hp2:pd (a4*b2))(hp3:pd (a4*b3))(hp4:pd (a4*b4))(hs0:sm n s0)(hs1:sm n s1)(hs2:sm n s2)(hs3:sm n s3)(hs4:sm n s4):aO N #v[a0,a1,a2,a3,a4] 4 #v[b0,b1,b2,b3,b4] N #v[s0,s1,s2,s3,s4] 0=some #v[s0+5*(a4*b1),s1+5*(a4*b2),s2+5*(a4*b3),s3+5*(a4*b4),s4+a4*b0]/\sm (n+1) (s0+5*(a4*b1))/\sm (n+1) (s1+5*(a4*b2))/\sm (n+1) (s2+5*(a4*b3))/\sm (n+1) (s3+5*(a4*b4))/\sm (n+1) (s4+a4*b0):=by
 obtain⟨k,rfl⟩:∃j,N=j+6:=⟨N - 6,by omega⟩
 refine⟨?_,smT hn hs0 hp1,smT hn hs1 hp2,smT hn hs2 hp3,smT hn hs3 hp4,smS hn hs4 hp0⟩
 rw[aO,dt (by decide),cond_true,aBl,aa,aBx,aa,pdI hp0,aC]
 rw[ik40,df (by decide),cond_false,aa,aC,aC,aJZ,aBq,aa,aGR,aa,aa,aa,smI hn hs4 hp0,aG2,k01]
 rw[aO,dt (by decide),cond_true,aBl,aa,aBk,aa,pdI hp1,aC]
 rw[ik41,dt (by decide),cond_true,aC,pdJ hp1,aa,aC,aC,aLG,aBw,aa,aGW,aa,aa,aa,smJ hn hs0 hp1,aHA,k12]
 rw[aO,dt (by decide),cond_true,aBl,aa,aBs,aa,pdI hp2,aC]
 rw[ik42,dt (by decide),cond_true,aC,pdJ hp2,aa,aC,aC,aNT,aBr,aa,aF8,aa,aa,aa,smJ hn hs1 hp2,aG6,k23]
 rw[aO,dt (by decide),cond_true,aBl,aa,aBo,aa,pdI hp3,aC]
 rw[ik43,dt (by decide),cond_true,aC,pdJ hp3,aa,aC,aC,aQD,aBu,aa,aFd,aa,aa,aa,smJ hn hs2 hp3,aGy,k34]
 rw[aO,dt (by decide),cond_true,aBl,aa,aBl,aa,pdI hp4,aC]
 rw[ik44,dt (by decide),cond_true,aC,pdJ hp4,aa,aC,aC,tm5_8,aBn,aa,aFV,aa,aa,aa,smJ hn hs3 hp4,aGk,k45]
 rw[aO,df (by decide),cond_false]
theorem prodV(a0 a1 a2 a3 a4 b0 b1 b2 b3 b4:Int):oQ (0+a0*b0+5*(a1*b4)+5*(a2*b3)+5*(a3*b2)+5*(a4*b1)) (0+a0*b1+a1*b0+5*(a2*b4)+5*(a3*b3)+5*(a4*b2)) (0+a0*b2+a1*b1+a2*b0+5*(a3*b4)+5*(a4*b3)) (0+a0*b3+a1*b2+a2*b1+a3*b0+5*(a4*b4)) (0+a0*b4+a1*b3+a2*b2+a3*b1+a4*b0)+PP*(1*(a1*b4)+1*(a2*b3)+67108864*(a2*b4)+1*(a3*b2)+67108864*(a3*b3)+4503599627370496*(a3*b4)+1*(a4*b1)+67108864*(a4*b2)+4503599627370496*(a4*b3)+302231454903657293676544*(a4*b4))=oQ a0 a1 a2 a3 a4*oQ b0 b1 b2 b3 b4:=by
 unfold oQ;simp only[PP]
 grind
def d27(x:Int):Prop:=0<=x/\x < 134217728
theorem pdM{a b:Int}(ha:d27 a)(hb:d26 b):pd (a*b):=by
 unfold d27 d26 at *;have h1:=Int.mul_nonneg ha.1 hb.1;have h2:a*b<=134217727*67108863:=Int.mul_le_mul (by omega) (by omega) hb.1 (by decide)
 unfold pd;exact⟨h1,by omega⟩
theorem smN{x:Int}(h:sm 5 x):ng x:=by unfold sm ng at *;omega
theorem aR5(N:Nat)(hN:10 < N){a0 a1 a2 a3 a4 b0 b1 b2 b3 b4:Int}(ha0:d27 a0)(ha1:d27 a1)(ha2:d27 a2)(ha3:d27 a3)(ha4:d27 a4)(hb:Dok b0 b1 b2 b3 b4):∃c0 c1 c2 c3 c4 H,pQ N #v[a0,a1,a2,a3,a4] #v[b0,b1,b2,b3,b4]=some #v[c0,c1,c2,c3,c4]/\Dok c0 c1 c2 c3 c4/\oQ c0 c1 c2 c3 c4+PP*H=oQ a0 a1 a2 a3 a4*oQ b0 b1 b2 b3 b4:=by
 obtain⟨h0,h1,h2,h3,h4⟩:=hb;have z:sm 0 0:=⟨by decide,by decide⟩
 obtain⟨r0,q00,q01,q02,q03,q04⟩:=row0 N hN (n:=0) ⟨by decide,by decide⟩ (a0:=a0) (a1:=a1) (a2:=a2) (a3:=a3) (a4:=a4) (pdM ha0 h0) (pdM ha0 h1) (pdM ha0 h2) (pdM ha0 h3) (pdM ha0 h4) z z z z z;obtain⟨r1,q10,q11,q12,q13,q14⟩:=row1 N hN (n:=1) ⟨by decide,by decide⟩ (a0:=a0) (a1:=a1) (a2:=a2) (a3:=a3) (a4:=a4) (pdM ha1 h0) (pdM ha1 h1) (pdM ha1 h2) (pdM ha1 h3) (pdM ha1 h4) q00 q01 q02 q03 q04;obtain⟨r2,q20,q21,q22,q23,q24⟩:=row2 N hN (n:=2) ⟨by decide,by decide⟩ (a0:=a0) (a1:=a1) (a2:=a2) (a3:=a3) (a4:=a4) (pdM ha2 h0) (pdM ha2 h1) (pdM ha2 h2) (pdM ha2 h3) (pdM ha2 h4) q10 q11 q12 q13 q14;obtain⟨r3,q30,q31,q32,q33,q34⟩:=row3 N hN (n:=3) ⟨by decide,by decide⟩ (a0:=a0) (a1:=a1) (a2:=a2) (a3:=a3) (a4:=a4) (pdM ha3 h0) (pdM ha3 h1) (pdM ha3 h2) (pdM ha3 h3) (pdM ha3 h4) q20 q21 q22 q23 q24;obtain⟨r4,q40,q41,q42,q43,q44⟩:=row4 N hN (n:=4) ⟨by decide,by decide⟩ (a0:=a0) (a1:=a1) (a2:=a2) (a3:=a3) (a4:=a4) (pdM ha4 h0) (pdM ha4 h1) (pdM ha4 h2) (pdM ha4 h3) (pdM ha4 h4) q30 q31 q32 q33 q34;obtain⟨c0,c1,c2,c3,c4,H,e,hd,hv⟩:=aI2 N hN (smN q40) (smN q41) (smN q42) (smN q43) (smN q44)
 refine⟨c0,c1,c2,c3,c4,H+(1*(a1*b4)+1*(a2*b3)+67108864*(a2*b4)+1*(a3*b2)+67108864*(a3*b3)+4503599627370496*(a3*b4)+1*(a4*b1)+67108864*(a4*b2)+4503599627370496*(a4*b3)+302231454903657293676544*(a4*b4)),?_,hd,?_⟩
 ·obtain⟨k,hk⟩:∃j,N=j+6:=⟨N - 6,by omega⟩
  have zz:(ah 5 (0:Int))=#v[0,0,0,0,0]:=rfl;have l1:cY N #v[a0,a1,a2,a3,a4] #v[b0,b1,b2,b3,b4] (k+6) (ah 5 0) 0=some #v[0+a0*b0+5*(a1*b4)+5*(a2*b3)+5*(a3*b2)+5*(a4*b1),0+a0*b1+a1*b0+5*(a2*b4)+5*(a3*b3)+5*(a4*b2),0+a0*b2+a1*b1+a2*b0+5*(a3*b4)+5*(a4*b3),0+a0*b3+a1*b2+a2*b1+a3*b0+5*(a4*b4),0+a0*b4+a1*b3+a2*b2+a3*b1+a4*b0]:=by
   rw[zz,cY,dt (by decide),cond_true,r0,aa,k01,cY,dt (by decide),cond_true,r1,aa,k12,cY,dt (by decide),cond_true,r2,aa,k23,cY,dt (by decide),cond_true,r3,aa,k34,cY,dt (by decide),cond_true,r4,aa,k45,cY,df (by decide),cond_false]
  rw[<- hk] at l1;unfold pQ;rw[l1,aa,e,aa]
 ·rw[<- prodV,<- hv,Int.mul_add]
  omega
theorem bitV : ∀(l:List Int),aR l->∀i:Nat,i < 8*l.length->leV l / ((2 ^ i:Nat):Int) % 2=(l.getD (i / 8) 0) / ((2 ^ (i % 8):Nat):Int) % 2
 | [],_,i,h=>by simp at h
 | x :: t,hb,i,h=>by
  have hx:=hb x (j5)
  unfold isB at hx;rw[leV]
  by_cases c:i < 8
  ·have e1:i / 8=0:=by omega
   have e2:i % 8=i:=by omega
   rw[e1,e2]
   show _=x / _ % 2;have cc:i=0\/i=1\/i=2\/i=3\/i=4\/i=5\/i=6\/i=7:=by omega
   generalize leV t=T;rcases cc with rfl | rfl | rfl | rfl | rfl | rfl | rfl | rfl <;> simp only[fy] <;> omega
  ·obtain⟨k,rfl⟩:∃k,i=k+8:=⟨i - 8,by omega⟩
   have ih:=bitV t (λy hy=>hb y (j7 _ hy)) k (by rw[List.length_cons] at h;omega)
   have e1:(k+8) / 8=k / 8+1:=by omega
   have e2:(k+8) % 8=k % 8:=by omega
   have e3:((2 ^ (k+8):Nat):Int)=256*((2 ^ k:Nat):Int):=by rw[gj,fx,na];rfl
   rw[e1,e2,e3,List.getD_cons_succ,<- ih,<- kc (by decide)]
   congr 2;omega
def dg(X i j:Nat):Nat:=X % 2 ^ i / 2 ^ (26*j) % 67108864
theorem dg0(X i j q:Nat)(hq:q=i / 26)(hb:X / 2 ^ i % 2=1):dg X (i+1) j=if j=q then dg X i j+2 ^ (i % 26) else dg X i j:=by
 have hm:X % 2 ^ (i+1)=X % 2 ^ i+2 ^ i:=by rw[ee,j4,hb,Nat.mul_one]
 have hlt:X % 2 ^ i < 2 ^ i:=gn _ (fj i)
 unfold dg;rw[hm]
 generalize X % 2 ^ i=M at *;have er:i=26*q+i % 26:=by omega
 have hr:i % 26 < 26:=gn _ (by decide)
 generalize i % 26=r at *;have ep:2 ^ i=2 ^ (26*q)*2 ^ r:=by rw[er,gj]
 have hr2:2 ^ r*2<=67108864:=by
  have:2 ^ (r+1)<=2 ^ 26:=gu (by decide) (by omega)
  rw[ee] at this;exact this
 by_cases c:j=q
 ·subst c;rw[if_pos rfl,ep,fo _ _ (fj _)]
  have hd:M / 2 ^ (26*j) < 2 ^ r:=by
   rw[kt (fj _),Nat.mul_comm,<- ep];exact hlt
  rw[jf (by omega),jf (by omega)]
 ·rw[if_neg c]
  by_cases c2:j < q
  ·have e2:2 ^ i=2 ^ (26*j)*(67108864*2 ^ (26*(q - j - 1)+r)):=by
    have:i=26*j+(26+(26*(q - j - 1)+r)):=by omega
    rw[this,gj,gj 2 26]
   rw[e2,fo _ _ (fj _),jp]
  ·have e3:2 ^ i*2<=2 ^ (26*j):=by
    rw[<- ee]
    exact gu (by decide) (by omega)
   rw[n9 (by omega),n9 (by omega)]
theorem dg1(X i j:Nat)(hb:X / 2 ^ i % 2=0):dg X (i+1) j=dg X i j:=by
 unfold dg;rw[ee,j4,hb,nr,Nat.add_zero]
theorem aQo(X i j:Nat):dg X i j < 67108864:=gn _ (by decide)
theorem band1{x:Int}(h:isB x):dV .u8 x 1=x % 2:=by
 have key:∀y:Fin 256,dV .u8 (y.val:Int) 1=(y.val:Int) % 2:=by decide +kernel
 unfold isB at h;have:=key ⟨x.toNat,by omega⟩
 rwa[Int.toNat_of_nonneg h.1] at this
def DgI(X i:Nat)(s:Vector Int 5):Prop:=∀j,j < 5->s.toList[j]? = some ((dg X (min i 130) j:Nat):Int)
theorem aPB(N:Nat)(hN:200 < N){b:Vector Int 17}(hb:aR b.toList){X:Nat}(hX:leV b.toList=(X:Int)):T (jZ N b) (DgI X 136):=by
 unfold jZ;have bl:b.toList.length=17:=by simp
 refine T.bind (T.loop0 (n:=136) (by decide) (λi s=>DgI X i s) (F:=jQ N b) (λk s i hi hs Q hk=>?_) (λk s=>by rw[jQ,df (by omega),cond_false]) (by omega) (λj hj=>?_)) λp1 h1=>T.ret h1
 ·have t8:du (i:Int) 8=((i / 8:Nat):Int):=by rw[dz (by omega)];omega
  have m8:cu (i:Int) 8=((i % 8:Nat):Int):=by rw[ed (by omega)];omega
  have t26:du (i:Int) 26=((i / 26:Nat):Int):=by rw[dz (by omega)];omega
  have m26:cu (i:Int) 26=((i % 26:Nat):Int):=by rw[ed (by omega)];omega
  have i8:I64 (((i / 8:Nat):Int))=((i / 8:Nat):Int):=aU (by omega) (by omega)
  have i26:I64 (((i / 26:Nat):Int))=((i / 26:Nat):Int):=aU (by omega) (by omega)
  rw[jQ,dt (by omega),cond_true,t8,m8,t26,m26,i8,i26,cV (by omega)]
  have ge:b.toList[i / 8]? = some (b.toList.getD (i / 8) 0):=by rw[bf,ag (by omega)];rfl
  have be:isB (b.toList.getD (i / 8) 0):=hb _ (List.mem_of_getElem? ge)
  have bit:=bitV b.toList hb i (by omega)
  rw[hX] at bit;rw[mK,ge,aa,lX .u8 (by omega),aa,wF .u8 _ _ (i % 8) rfl (by show i % 8<=8;omega)]
  have pe:(2:Int) ^ (i % 8)=((2 ^ (i % 8):Nat):Int):=by rw[ii];rfl
  rw[pe]
  have pp:0 < ((2 ^ (i % 8):Nat):Int):=Int.natCast_pos.2 (fj _)
  have b2:isB (b.toList.getD (i / 8) 0 / ((2 ^ (i % 8):Nat):Int)):=by
   unfold isB at *;exact⟨Int.ediv_nonneg be.1 (by omega),Int.lt_of_le_of_lt (Int.ediv_le_self _ be.1) be.2⟩
  rw[band1 b2,<- bit]
  have bn:((X:Int) / ((2 ^ i:Nat):Int) % 2)=((X / 2 ^ i % 2:Nat):Int):=by omega
  rw[bn,aC]
  have same:(∀j,dg X (min (i+1) 130) j=dg X (min i 130) j)->DgI X (i+1) s:=λh j hj=>by rw[hs j hj,h]
  by_cases c1:X / 2 ^ i % 2=1
  ·rw[c1,show(((1:Nat):Int)==1)=true from rfl,cond_true]
   by_cases c2:i < 130
   ·rw[dt (by omega),cond_true,dP (by omega) (by omega),aa]
    have q5:i / 26 < 5:=by omega
    have g:=hs (i / 26) q5;have mi:min i 130=i:=by omega
    have mi1:min (i+1) 130=i+1:=by omega
    have tq:((i / 26:Nat):Int).toNat=i / 26:=rfl;obtain⟨w,hw,lw⟩:∃w:Nat,w=2 ^ (i % 26)/\w<=33554432:=⟨_,rfl,Nat.le_trans (gu (by decide) (show i % 26<=25 by omega)) (by decide)⟩
    have sh:shl .i64 1 ((i % 26:Nat):Int)=(w:Int):=by
     rw[aL1 1 (i % 26) (by omega),o0]
     have:(2:Int) ^ (i % 26)=((2 ^ (i % 26):Nat):Int):=by rw[ii];rfl
     rw[this,<- hw]
     exact aU (by omega) (by omega)
    have dl:=aQo X i (i / 26)
    have dgw:=λj=>dg0 X i j (i / 26) rfl c1;rw[<- hw] at dgw;rw[tq,g,aa,uC .i64 (by omega),aa,aa,aa,aa,sh,mi]
    have hI:I64 (((dg X i (i / 26):Nat):Int)+(w:Int))=((dg X i (i / 26):Nat):Int)+(w:Int):=by
     generalize dg X i (i / 26)=D at *;exact aU (by omega) (by omega)
    rw[hI]
    refine hk _ λj hj=>?_;rw[mi1,bq,cv,dgw]
    by_cases e:i / 26=j
    ·subst e;rw[if_pos rfl,if_pos (by simp;omega),if_pos rfl,Int.natCast_add]
    ·rw[if_neg e,if_neg (λh=>e h.symm),hs j hj,mi]
   ·rw[df (by omega),cond_false,aa]
    refine hk _ (same λj=>?_)
    rw[show min (i+1) 130=130 by omega,show min i 130=130 by omega]
  ·have c0:X / 2 ^ i % 2=0:=by omega
   rw[c0,show(((0:Nat):Int)==1)=false from rfl,cond_false,cond_false,aa]
   refine hk _ (same λj=>?_)
   by_cases c2:i < 130
   ·rw[show min (i+1) 130=i+1 by omega,show min i 130=i by omega,dg1 X i j c0]
   ·rw[show min (i+1) 130=130 by omega,show min i 130=130 by omega]
 ·have z:(ah 5 (0:Int)).toList=ap 5 0:=rfl;rw[z,cz,if_pos hj]
  unfold dg;rw[show min 0 130=0 from rfl,je,jl,Nat.zero_div,Nat.zero_mod]
  rfl
theorem T.loopG{σ ρ:Type}{n:Nat}(I:Nat->σ->Prop)(Q:ρ->Prop){F:Nat->σ->Int->Option ρ}
  (hstep:∀k s i,i < n->I i s->(∀s',I (i+1) s'->T (F k s' ((i+1:Nat):Int)) Q)->T (F (k+1) s (i:Int)) Q) (hend:∀k s,I n s->T (F (k+1) s (n:Int)) Q) :
  ∀(k i:Nat) (s:σ),I i s->i<=n->n - i < k->T (F k s (i:Int)) Q
 | 0,i,_,_,_,h=>by omega
 | k+1,i,s,hs,hi,hk=>by
  by_cases h:i < n
  ·exact hstep k s i h hs λs' h'=>T.loopG I Q hstep hend k (i+1) s' h' (by omega) (by omega)
  ·obtain rfl:i=n:=by omega
   exact hend _ _ hs
theorem T.loopG0{σ ρ:Type}{n:Nat}(I:Nat->σ->Prop)(Q:ρ->Prop){F:Nat->σ->Int->Option ρ}
  (hstep:∀k s i,i < n->I i s->(∀s',I (i+1) s'->T (F k s' ((i+1:Nat):Int)) Q)->T (F (k+1) s (i:Int)) Q) (hend:∀k s,I n s->T (F (k+1) s (n:Int)) Q) {N:Nat} (hN:n < N) {s:σ} (hs:I 0 s):T (F N s 0) Q:=
 T.loopG I Q hstep hend N 0 s hs (by omega) (by omega)
theorem vec5(v:Vector Int 5){a b c d e:Int}(h0:v.toList[0]? = some a)(h1:v.toList[1]? = some b)(h2:v.toList[2]? = some c)(h3:v.toList[3]? = some d)(h4:v.toList[4]? = some e):v=#v[a,b,c,d,e]:=by
 apply dx.1;apply dr;intro j;have cc:j=0\/j=1\/j=2\/j=3\/j=4\/5<=j:=by omega
 rcases cc with rfl | rfl | rfl | rfl | rfl | h
 ·rw[h0];rfl
 ·rw[h1];rfl
 ·rw[h2];rfl
 ·rw[h3];rfl
 ·rw[h4];rfl
 ·rw[au (by simp;omega),au (by simp;omega)]
theorem aKw(N:Nat)(hN:200 < N){b:Vector Int 17}(hb:aR b.toList)(hl:leV b.toList < aB0):∃d0 d1 d2 d3 d4,jZ N b=some #v[d0,d1,d2,d3,d4]/\Dok d0 d1 d2 d3 d4/\oQ d0 d1 d2 d3 d4=leV b.toList:=by
 have l0:=(aFY _ hb).1;obtain⟨X,hX⟩:=bp l0;obtain⟨r,e,h⟩:=aPB N hN hb hX;have g:=λj (hj:j < 5)=>h j hj;have hv:=vec5 r (g 0 (by decide)) (g 1 (by decide)) (g 2 (by decide)) (g 3 (by decide)) (g 4 (by decide))
 rw[hv] at e;have lt:=λj=>aQo X (min 136 130) j;refine⟨_,_,_,_,_,e,⟨⟨by omega,by have:=lt 0;omega⟩,⟨by omega,by have:=lt 1;omega⟩,⟨by omega,by have:=lt 2;omega⟩,⟨by omega,by have:=lt 3;omega⟩,⟨by omega,by have:=lt 4;omega⟩⟩,?_⟩
 rw[hX]
 rw[hX] at hl;simp only[aB0] at hl;unfold oQ dg;have m:X % 2 ^ min 136 130=X:=jf (by show X < 1361129467683753853853498429727072845824;omega)
 rw[m]
 simp only[i5,fy,nr,je,Nat.div_one]
 omega
theorem addL4(N:Nat)(hN:10 < N){a b c d e a' b' c' d' e':Int}(h:Dok a b c d e)(h':Dok a' b' c' d' e'):dW N #v[a',b',c',d',e'] N #v[a,b,c,d,e] 0=some #v[a+a',b+b',c+c',d+d',e+e']/\(d27 (a+a')/\d27 (b+b')/\d27 (c+c')/\d27 (d+d')/\d27 (e+e'))/\oQ (a+a') (b+b') (c+c') (d+d') (e+e')=oQ a b c d e+oQ a' b' c' d' e':=by
 obtain⟨h1,h2,h3,h4,h5⟩:=h;obtain⟨g1,g2,g3,g4,g5⟩:=h';have sI:∀{x y:Int},d26 x->d26 y->I64 (x+y)=x+y/\d27 (x+y):=by
  intro x y hx hy;unfold d26 at hx hy;unfold d27;exact⟨aU (by omega) (by omega),by omega,by omega⟩
 refine⟨?_,⟨(sI h1 g1).2,(sI h2 g2).2,(sI h3 g3).2,(sI h4 g4).2,(sI h5 g5).2⟩,?_⟩
 ·obtain⟨k,rfl⟩:∃j,N=j+6:=⟨N - 6,by omega⟩
  rw[dW,dt (by decide),cond_true,aBw,aa,aGW,aa,aa,aGW,aa,aa,aa,(sI h1 g1).1,aHA,k01]
  rw[dW,dt (by decide),cond_true,aBr,aa,aF8,aa,aa,aF8,aa,aa,aa,(sI h2 g2).1,aG6,k12]
  rw[dW,dt (by decide),cond_true,aBu,aa,aFd,aa,aa,aFd,aa,aa,aa,(sI h3 g3).1,aGy,k23]
  rw[dW,dt (by decide),cond_true,aBn,aa,aFV,aa,aa,aFV,aa,aa,aa,(sI h4 g4).1,aGk,k34]
  rw[dW,dt (by decide),cond_true,aBq,aa,aGR,aa,aa,aGR,aa,aa,aa,(sI h5 g5).1,aG2,k45]
  rw[dW,df (by decide),cond_false]
 ·unfold oQ;omega
theorem refL2(N:Nat)(hN:30 < N){l:List Int}(hl:l.length<=65536){n:Nat}(hn:16*n+16<=l.length):T (fS N ((16*n:Nat):Int) l N (ah 17 0) 0) (λr=>r.2=16/\r.1.toList=(l.drop (16*n)).take 16++[0]):=by
 refine T.loopG0 (n:=16) (λi (v:Vector Int 17)=>∀j,j < 17->v.toList[j]? = some (if j < i then l.getD (16*n+j) 0 else 0)) _ (F:=λk (v:Vector Int 17) i=>fS N ((16*n:Nat):Int) l k v i) (λk v i hi hv hk=>?_) (λk v hv=>?_) (by omega) (s:=ah 17 0) (λj hj=>?_)
 ·have e:I64 (((16*n:Nat):Int)+(i:Int))=((16*n+i:Nat):Int):=by rw[aU (by omega) (by omega)];omega
  have g:l[16*n+i]? = some (l.getD (16*n+i) 0):=by rw[bf,ag (by omega)];rfl
  rw[fS,e,aC,dt (show(i:Int) < 16 by omega),cond_true,aC,dt (by omega),cond_true,mK,g,aa,dP (by omega) (by omega),aa,cV (by omega)]
  have ti:((i:Nat):Int).toNat=i:=rfl;rw[ti,hv i (by omega),aa]
  refine hk _ λj hj=>?_;rw[bq,cv]
  by_cases c:i=j
  ·subst c;rw[if_pos rfl,if_pos (by simp;omega),if_pos (by omega)]
  ·rw[if_neg c,hv j hj]
   by_cases c2:j < i
   ·rw[if_pos c2,if_pos (by omega)]
   ·rw[if_neg c2,if_neg (by omega)]
 ·rw[fS,aC,df (show ¬(((16:Nat):Int) < 16) by omega),cond_false,aC,cond_false]
  refine T.ret ⟨rfl,?_⟩
  apply dr;intro j;have tl:((l.drop (16*n)).take 16).length=16:=by rw[bw,br];omega
  by_cases c:j < 17
  ·rw[hv j c]
   by_cases c2:j < 16
   ·rw[if_pos c2,cn (by omega),dq,if_pos c2,eo,bf,ag (by omega)]
    rfl
   ·rw[if_neg c2,cr (by omega),tl,show j - 16=0 by omega]
    rfl
  ·rw[au (by simp;omega),au (by rw[ai,tl,cf];omega)]
 ·have z:(ah 17 (0:Int)).toList=ap 17 0:=rfl;rw[z,cz,if_pos hj,if_neg (by omega)]
def Blk(l:List Int)(bs:List (Vector Int 17))(m:Nat):Prop:=bs.length=m/\∀i,i < m->∃v,bs[i]? = some v/\v.toList=(l.drop (16*i)).take 16++[1]
theorem refL1(N:Nat)(hN:30 < N){l:List Int}(hl:l.length<=65536){m:Nat}(hm:l.length=16*m):∀(d k n:Nat) (acc:List (Vector Int 17)),n+d=m->d < k->Blk l acc n->∃bs,jT N l k acc ((16*n:Nat):Int)=some bs/\Blk l bs m:=by
 intro d
 induction d with
 | zero=>
  intro k n acc hn hk h;obtain⟨k,rfl⟩:∃j,k=j+1:=⟨k - 1,by omega⟩
  obtain rfl:n=m:=by omega
  exact⟨acc,by rw[jT,aC,df (by omega),cond_false],h⟩
 | succ d ih=>
  intro k n acc hn hk h;obtain⟨k,rfl⟩:∃j,k=j+1:=⟨k - 1,by omega⟩
  obtain⟨⟨v,w⟩,e,h16,hv⟩:=refL2 N hN hl (n:=n) (by omega)
  dsimp only at h16 hv;subst h16;have ge:v.toList[16]? = some 0:=by
   rw[hv,cr (by rw[bw,br];omega),bw,br,show 16 - min 16 (l.length - 16*n)=0 by omega]
   rfl
  have hs:(v.setIfInBounds 16 1).toList=(l.drop (16*n)).take 16++[1]:=by
   rw[bq,hv,List.set_append_right _ _ (by rw[bw];omega)]
   rw[bw,br,show 16 - min 16 (l.length - 16*n)=0 by omega]
   rfl
  obtain⟨hl2,hb⟩:=h;have nb:Blk l (acc++[v.setIfInBounds 16 1]) (n+1):=by
   refine⟨by rw[ai,hl2];rfl,λi hi=>?_⟩
   by_cases c:i < n
   ·obtain⟨u,h1,h2⟩:=hb i c;exact⟨u,by rw[cn (by omega)];exact h1,h2⟩
   ·obtain rfl:i=n:=by omega
    exact⟨_,by rw[cr (by omega),hl2,Nat.sub_self];rfl,hs⟩
  obtain⟨bs,e2,h2⟩:=ih k (n+1) _ (by omega) (by omega) nb;refine⟨bs,?_,h2⟩
  have i16:I64 (((16*n:Nat):Int)+16)=((16*(n+1):Nat):Int):=by rw[aU (by omega) (by omega)];omega
  have t16:(16:Int).toNat=16:=rfl;rw[jT,aC,dt (by omega),cond_true,e,aa]
  dsimp only;rw[show aW 16 17=some () from rfl,aa,t16,ge,aa,hJ (by rw[hl2,cf];omega),aa,i16,e2]
theorem aMI(N:Nat)(hN:70000 < N){l:List Int}(hl:l.length<=65536){m:Nat}(hm:l.length=16*m):∃bs,oK N l=some bs/\Blk l bs m:=by
 obtain⟨bs,e,h⟩:=refL1 N (by omega) hl hm m N 0 [] (by omega) (by omega) ⟨rfl,λi hi=>absurd hi (by omega)⟩
 refine⟨bs,?_,h⟩
 unfold oK tC;rw[aC,df (by omega),cond_false,aa]
 have z:((16*0:Nat):Int)=0:=rfl;rw[z] at e;rw[e,aa]
theorem aOi{V V' c H1 H2 R b p:Int}(h1:c+PP*H1=b+V)(h2:V'+PP*H2=c*R)(hp:V % PP=p):V' % PP=((p+b)*R) % PP:=by
 refine aLg (H:=H2+H1*R) ?_ hp;have:c=b+V - PP*H1:=by omega
 subst this;generalize PP=q at *
 grind
theorem refL3(N:Nat)(hN:70000 < N){l:List Int}(hb:aR l)(hl:l.length<=65536){m:Nat}(hm:l.length=16*m){bs:List (Vector Int 17)}(hbs:Blk l bs m){r0 r1 r2 r3 r4:Int}(hr:Dok r0 r1 r2 r3 r4) :
  ∀(d k n:Nat) (a b c e f:Int),n+d=m->d < k->Dok a b c e f->oQ a b c e f % PP=aHT (oQ r0 r1 r2 r3 r4) l n ->
  ∃a' b' c' e' f',Dok a' b' c' e' f'/\oQ a' b' c' e' f' % PP=aHT (oQ r0 r1 r2 r3 r4) l m/\mP N bs #v[r0,r1,r2,r3,r4] k #v[a,b,c,e,f] (n:Int)=some #v[a',b',c',e',f']:=by
 obtain⟨bl,bg⟩:=hbs;intro d
 induction d with
 | zero=>
  intro k n a b c e f hn hk h hv;obtain⟨k,rfl⟩:∃j,k=j+1:=⟨k - 1,by omega⟩
  obtain rfl:n=m:=by omega
  refine⟨a,b,c,e,f,h,hv,?_⟩
  rw[mP,aC,df (by omega),cond_false]
 | succ d ih=>
  intro k n a b c e f hn hk h hv;obtain⟨k,rfl⟩:∃j,k=j+1:=⟨k - 1,by omega⟩
  obtain⟨v,gv,tv⟩:=bg n (by omega)
  have tl:((l.drop (16*n)).take 16).length=16:=by rw[bw,br];omega
  have tb:aR ((l.drop (16*n)).take 16):=λx hx=>hb x (dn (List.mem_of_mem_take hx))
  have vb:aR v.toList:=by
   rw[tv]
   intro x hx;rcases ek.1 hx with h' | h'
   ·exact tb x h'
   ·rw[lr.1 h'];exact⟨by decide,by decide⟩
  have lv:leV v.toList=leV ((l.drop (16*n)).take 16)+W2:=by
   rw[tv,aCn,tl,o0];rfl
  have lb:=aFY _ tb;rw[tl] at lb;have lt:leV v.toList < aB0:=by
   rw[lv]
   have:((256 ^ 16:Nat):Int)=340282366920938463463374607431768211456:=by decide
   rw[this] at lb;simp only[aB0,W2]
   omega
  obtain⟨d0,d1,d2,d3,d4,E1,D1,V1⟩:=aKw N (by omega) vb lt;obtain⟨E2,⟨g0,g1,g2,g3,g4⟩,V2⟩:=addL4 N (by omega) D1 h;have n27:∀{x:Int},d27 x->ng x:=by intro x hx;unfold d27 at hx;unfold ng;omega
  obtain⟨c0,c1,c2,c3,c4,H1,E3,D3,V3⟩:=aI2 N (by omega) (n27 g0) (n27 g1) (n27 g2) (n27 g3) (n27 g4)
  have n26:∀{x:Int},d26 x->d27 x:=by intro x hx;unfold d26 at hx;unfold d27;omega
  obtain⟨x0,x1,x2,x3,x4,H2,E4,D4,V4⟩:=aR5 N (by omega) (n26 D3.a) (n26 D3.b) (n26 D3.c) (n26 D3.d) (n26 D3.e) hr;rw[V2,V1,lv] at V3;obtain⟨a',b',c',e',f',q1,q2,q3⟩:=ih k (n+1) x0 x1 x2 x3 x4 (by omega) (by omega) D4 (aOi V3 V4 hv)
  refine⟨a',b',c',e',f',q1,q2,?_⟩
  rw[mP,aC,dt (by omega),cond_true,mK,gv,aa,E1,aa,E2,aa,E3,aa,E4,aa,cV (by omega)]
  exact q3
theorem aFh(N:Nat)(hN:10 < N){a b c d e:Int}(h:Dok a b c d e)(k i:Nat)(hi:i < 2):∃a' b' c' d' e',Dok a' b' c' d' e'/\oQ a' b' c' d' e'=(if oQ a b c d e>=PP then oQ a b c d e - PP else oQ a b c d e)/\dQ N (k+1) #v[a,b,c,d,e] (i:Int)=dQ N k #v[a',b',c',d',e'] ((i+1:Nat):Int):=by
 have h0:=h;obtain⟨h1,h2,h3,h4,h5⟩:=h;unfold d26 at h1 h2 h3 h4 h5;obtain⟨j,hj⟩:∃j,N=j+6:=⟨N - 6,by omega⟩
 have L2:dS N N #v[a+5,b,c,d,e] 0=some #v[(a+5) % 67108864,(b+(a+5) / 67108864) % 67108864,(c+(b+(a+5) / 67108864) / 67108864) % 67108864,(d+(c+(b+(a+5) / 67108864) / 67108864) / 67108864) % 67108864,e+(d+(c+(b+(a+5) / 67108864) / 67108864) / 67108864) / 67108864]:=by
  subst hj;obtain⟨f1,g1⟩:=aDF (x:=a+5) (by omega)
  have hI1:I64 (b+(a+5) / 67108864)=b+(a+5) / 67108864:=aU (by omega) (by omega)
  obtain⟨f2,g2⟩:=aDF (x:=b+(a+5) / 67108864) (by omega)
  have hI2:I64 (c+(b+(a+5) / 67108864) / 67108864)=c+(b+(a+5) / 67108864) / 67108864:=aU (by omega) (by omega)
  obtain⟨f3,g3⟩:=aDF (x:=c+(b+(a+5) / 67108864) / 67108864) (by omega)
  have hI3:I64 (d+(c+(b+(a+5) / 67108864) / 67108864) / 67108864)=d+(c+(b+(a+5) / 67108864) / 67108864) / 67108864:=aU (by omega) (by omega)
  obtain⟨f4,g4⟩:=aDF (x:=d+(c+(b+(a+5) / 67108864) / 67108864) / 67108864) (by omega)
  have hI4:I64 (e+(d+(c+(b+(a+5) / 67108864) / 67108864) / 67108864) / 67108864)=e+(d+(c+(b+(a+5) / 67108864) / 67108864) / 67108864) / 67108864:=aU (by omega) (by omega)
  rw[dS,dt (by decide),cond_true,aBw,aa,aGW,aa,aa,aa,g1,aC,aa,aa,f1,aHA,k01,aBr,aa,aF8,aa,aC,aa,aa,hI1,aG6]
  rw[dS,dt (by decide),cond_true,aBr,aa,aF8,aa,aa,aa,g2,aC,aa,aa,f2,aG6,k12,aBu,aa,aFd,aa,aC,aa,aa,hI2,aGy]
  rw[dS,dt (by decide),cond_true,aBu,aa,aFd,aa,aa,aa,g3,aC,aa,aa,f3,aGy,k23,aBn,aa,aFV,aa,aC,aa,aa,hI3,aGk]
  rw[dS,dt (by decide),cond_true,aBn,aa,aFV,aa,aa,aa,g4,aC,aa,aa,f4,aGk,k34,aBq,aa,aGR,aa,aC,aa,aa,hI4,aG2]
  rw[dS,df (by decide),cond_false]
 have a5:I64 (a+5)=a+5:=aU (by omega) (by omega)
 rw[dQ,dt (by omega),cond_true,aBw,aa,aGW,aa,aa,aa,a5,aHA,L2,aa,aBq,aa,aGR,aa,aC,cV (by omega)]
 have vv:oQ ((a+5) % 67108864) ((b+(a+5) / 67108864) % 67108864) ((c+(b+(a+5) / 67108864) / 67108864) % 67108864) ((d+(c+(b+(a+5) / 67108864) / 67108864) / 67108864) % 67108864) (e+(d+(c+(b+(a+5) / 67108864) / 67108864) / 67108864) / 67108864)=oQ a b c d e+5:=by
  unfold oQ;omega
 have m0:0<=(a+5) % 67108864/\(a+5) % 67108864 < 67108864:=by omega
 have m1:0<=(b+(a+5) / 67108864) % 67108864/\(b+(a+5) / 67108864) % 67108864 < 67108864:=by omega
 have m2:0<=(c+(b+(a+5) / 67108864) / 67108864) % 67108864/\(c+(b+(a+5) / 67108864) / 67108864) % 67108864 < 67108864:=by omega
 have m3:0<=(d+(c+(b+(a+5) / 67108864) / 67108864) / 67108864) % 67108864/\(d+(c+(b+(a+5) / 67108864) / 67108864) / 67108864) % 67108864 < 67108864:=by omega
 have m4:0<=e+(d+(c+(b+(a+5) / 67108864) / 67108864) / 67108864) / 67108864/\e+(d+(c+(b+(a+5) / 67108864) / 67108864) / 67108864) / 67108864<=67108864:=by omega
 clear L2;generalize (a+5) % 67108864=A at *;generalize (b+(a+5) / 67108864) % 67108864=B at *;generalize (c+(b+(a+5) / 67108864) / 67108864) % 67108864=C at *;generalize (d+(c+(b+(a+5) / 67108864) / 67108864) / 67108864) % 67108864=D at *;generalize e+(d+(c+(b+(a+5) / 67108864) / 67108864) / 67108864) / 67108864=E at *;by_cases g:E>=67108864
 ·have e5:I64 (E - 67108864)=E - 67108864:=aU (by omega) (by omega)
  rw[dt g,cond_true,aa,aa,aa,aa,aa,e5,aG2]
  refine⟨A,B,C,D,E - 67108864,⟨m0,m1,m2,m3,by omega,by omega⟩,?_,rfl⟩
  unfold oQ at *;simp only[PP]
  rw[if_pos (by omega)]
  omega
 ·rw[df g,cond_false,aa]
  refine⟨a,b,c,d,e,h0,?_,rfl⟩
  unfold oQ at *;simp only[PP]
  rw[if_neg (by omega)]
theorem aSW(N:Nat)(hN:10 < N){a b c d e:Int}(h:Dok a b c d e):∃a' b' c' d' e',qA N #v[a,b,c,d,e]=some #v[a',b',c',d',e']/\Dok a' b' c' d' e'/\oQ a' b' c' d' e'=oQ a b c d e % PP:=by
 obtain⟨k,hk⟩:∃k,N=k+3:=⟨N - 3,by omega⟩
 obtain⟨a1,b1,c1,d1,e1,h1,v1,q1⟩:=aFh N hN h (k+2) 0 (by decide)
 obtain⟨a2,b2,c2,d2,e2,h2,v2,q2⟩:=aFh N hN h1 (k+1) 1 (by decide)
 refine⟨a2,b2,c2,d2,e2,?_,h2,?_⟩
 ·unfold qA;rw[show dQ N N #v[a,b,c,d,e] 0=dQ N (k+2+1) #v[a,b,c,d,e] ((0:Nat):Int) by rw[hk];rfl,q1,q2,dQ,df (by decide),cond_false]
  rfl
 ·have lt:=h.lt;rw[v2,v1]
  generalize oQ a b c d e=V at *;simp only[PP,aB0] at *;split <;> (try split) <;> omega
theorem aR1{a:Int}(h:0<=a/\a < 4611686018427387904):dV .i64 a 1=a % 2:=by
 obtain⟨A,rfl⟩:=bp h.1;have h3:dV .i64 (A:Int) 1=I64 ((ar 64 (A:Int) &&& ar 64 ((1:Nat):Int)).toNat:Int):=rfl;have e:(ar 64 (A:Int) &&& ar 64 ((1:Nat):Int)).toNat=A % 2:=by
  rw[BitVec.toNat_and,show(ar 64 (A:Int)).toNat=A from aBP A (by omega),show(ar 64 ((1:Nat):Int)).toNat=1 from aBP 1 (by decide)]
  exact Nat.and_one_is_mod A
 rw[h3,e,aU (by omega) (by omega)]
 omega
theorem aRj(x T r:Nat)(hr:r < 26):(x+67108864*T) / 2 ^ r % 2=x / 2 ^ r % 2:=by
 have e:67108864=2 ^ r*(2*2 ^ (25 - r)):=by
  rw[<- Nat.pow_succ',<- gj,show r+(25 - r).succ=26 by omega]
 rw[e,nj,fo _ _ (fj r),nj,jp]
def dv(v:Vector Int 5)(j:Nat):Int:=v.toList.getD j 0
theorem bit5{a b c d e:Int}(h:Dok a b c d e){V:Nat}(hV:oQ a b c d e=(V:Int)){t:Nat}(ht:t < 130):∃x:Nat,dv #v[a,b,c,d,e] (t / 26)=(x:Int)/\x < 67108864/\x / 2 ^ (t % 26) % 2=V / 2 ^ t % 2:=by
 obtain⟨h0,h1,h2,h3,h4⟩:=h;unfold d26 at *;obtain⟨a,rfl⟩:=bp h0.1;obtain⟨b,rfl⟩:=bp h1.1;obtain⟨c,rfl⟩:=bp h2.1;obtain⟨d,rfl⟩:=bp h3.1;obtain⟨e,rfl⟩:=bp h4.1;unfold oQ at hV;have hr:t % 26 < 26:=gn _ (by decide)
 have et:t=26*(t / 26)+t % 26:=by omega
 have key:∀(q x T:Nat),t / 26=q->V / 2 ^ (26*q)=x+67108864*T->x / 2 ^ (t % 26) % 2=V / 2 ^ t % 2:=by
  intro q x T hq hx;have:V / 2 ^ t=(x+67108864*T) / 2 ^ (t % 26):=by
   rw[<- hx,io,<- gj,<- hq,<- et]
  rw[this,aRj x T _ hr]
 have cc:t / 26=0\/t / 26=1\/t / 26=2\/t / 26=3\/t / 26=4:=by omega
 rcases cc with q | q | q | q | q
 ·refine⟨a,by rw[q];rfl,by omega,key 0 a (b+67108864*c+4503599627370496*d+302231454903657293676544*e) q ?_⟩
  simp only[i5,fy];omega
 ·refine⟨b,by rw[q];rfl,by omega,key 1 b (c+67108864*d+4503599627370496*e) q ?_⟩
  simp only[i5,fy];omega
 ·refine⟨c,by rw[q];rfl,by omega,key 2 c (d+67108864*e) q ?_⟩
  simp only[i5,fy];omega
 ·refine⟨d,by rw[q];rfl,by omega,key 3 d e q ?_⟩
  simp only[i5,fy];omega
 ·refine⟨e,by rw[q];rfl,by omega,key 4 e 0 q ?_⟩
  simp only[i5,fy];omega
theorem refL6(N:Nat)(hN:20 < N){a b c d e:Int}(h:Dok a b c d e){V:Nat}(hV:oQ a b c d e=(V:Int)){i:Nat}(hi:i < 16){y:Int}(hy:0<=y/\y < 100000):T (iI N (i:Int) #v[a,b,c,d,e] N y 0) (λr=>r=y+((V / 2 ^ (8*i) % 256:Nat):Int)):=by
 have main:T (iI N (i:Int) #v[a,b,c,d,e] N y 0) (λr=>r=y+((V / 2 ^ (8*i) % 2 ^ 8:Nat):Int)):=by
  refine T.loop0 (n:=8) (by decide) (λk r=>r=y+((V / 2 ^ (8*i) % 2 ^ k:Nat):Int)) (F:=iI N (i:Int) #v[a,b,c,d,e]) (λf s k hk hs Q hq=>?_) (λf s=>by rw[iI,df (by omega),cond_false]) (by omega) (by rw[je,jl];exact(nw y).symm)
  have t8:I64 (I64 (8*(i:Int))+(k:Int))=((8*i+k:Nat):Int):=by rw[aU (x:=8*(i:Int)) (by omega) (by omega),aU (by omega) (by omega)];omega
  have td:du ((8*i+k:Nat):Int) 26=(((8*i+k) / 26:Nat):Int):=by rw[dz (by omega)];omega
  have tm:cu ((8*i+k:Nat):Int) 26=(((8*i+k) % 26:Nat):Int):=by rw[ed (by omega)];omega
  have ti:I64 (((8*i+k) / 26:Nat):Int)=(((8*i+k) / 26:Nat):Int):=aU (by omega) (by omega)
  obtain⟨x,hx,xl,xb⟩:=bit5 h hV (t:=8*i+k) (by omega)
  have g:(#v[a,b,c,d,e]:Vector Int 5).toList[(8*i+k) / 26]? = some (x:Int):=by
   rw[<- hx]
   unfold dv;rw[bf,ag (by simp;omega)]
   rfl
  have tn:(((8*i+k) / 26:Nat):Int).toNat=(8*i+k) / 26:=rfl;rw[iI,dt (by omega),cond_true,t8,aC,td,tm,ti,dP (by omega) (by omega),aa,tn,g,aa,lX .i64 (by omega),aa,uC .i64 (by omega),aa,cV (by omega)]
  refine hq _ ?_;have pe:(2:Int) ^ ((8*i+k) % 26)=((2 ^ ((8*i+k) % 26):Nat):Int):=by rw[ii];rfl
  have sx:shr .i64 (x:Int) (((8*i+k) % 26:Nat):Int)=((x / 2 ^ ((8*i+k) % 26):Nat):Int):=by
   rw[wF .i64 _ _ ((8*i+k) % 26) rfl (by show(8*i+k) % 26<=64;omega),pe];rfl
  have xs:x / 2 ^ ((8*i+k) % 26)<=x:=Nat.div_le_self _ _;rw[sx]
  generalize x / 2 ^ ((8*i+k) % 26)=w at *;rw[aR1 ⟨by omega,by omega⟩]
  have bt:((w:Nat):Int) % 2=((V / 2 ^ (8*i) / 2 ^ k % 2:Nat):Int):=by
   have:V / 2 ^ (8*i) / 2 ^ k % 2=V / 2 ^ (8*i+k) % 2:=by rw[io,<- gj]
   rw[this,<- xb]
   omega
  rw[bt,hs]
  generalize V / 2 ^ (8*i)=B;have mm:B % 2 ^ (k+1)=B % 2 ^ k+2 ^ k*(B / 2 ^ k % 2):=by rw[ee,j4]
  have p2:(2:Int) ^ k=((2 ^ k:Nat):Int):=by rw[ii];rfl
  have le:2 ^ k<=2 ^ 7:=gu (by decide) (by omega)
  have c7:2 ^ 7=128:=by decide
  have ml:B % 2 ^ k < 2 ^ k:=gn _ (fj k)
  rw[mm,aL1 _ k (by omega),p2]
  have b2:B / 2 ^ k % 2=0\/B / 2 ^ k % 2=1:=by omega
  generalize B % 2 ^ k=M at *;generalize B / 2 ^ k % 2=z at *;generalize 2 ^ k=p at *;rcases b2 with rfl | rfl
  ·rw[show(((0:Nat):Int)*(p:Int))=0 by omega,aU (x:=0) (by decide) (by decide),aU (by omega) (by omega)];omega
  ·rw[show(((1:Nat):Int)*(p:Int))=(p:Int) by omega,aU (x:=(p:Int)) (by omega) (by omega),aU (by omega) (by omega)];omega
 exact main
theorem aKx : ∀(l:List Int),aR l->∀i,i < l.length->l[i]? = some (leV l / ((256 ^ i:Nat):Int) % 256)
 | [],_,i,h=>by simp at h
 | x :: t,hb,0,_=>by
  have hx:=hb x (j5)
  unfold isB at hx;show some x=_;rw[leV,show((256 ^ 0:Nat):Int)=1 from rfl,Int.ediv_one]
  congr 1;omega
 | x :: t,hb,i+1,h=>by
  have hx:=hb x (j5)
  unfold isB at hx;rw[List.getElem?_cons_succ,aKx t (λy hy=>hb y (j7 _ hy)) i (by simpa using h),leV]
  have e3:((256 ^ (i+1):Nat):Int)=256*((256 ^ i:Nat):Int):=by rw[ee,fx,na];rfl
  rw[e3,<- kc (by decide)]
  congr 3;omega
def cyN(V S i:Nat):Nat:=(V % 256 ^ i+S % 256 ^ i) / 256 ^ i
theorem aSF(V S i:Nat):cyN V S i<=1:=by
 unfold cyN;have p:0 < 256 ^ i:=o5 (by decide)
 have a:=gn V p;have b:=gn S p;have:(V % 256 ^ i+S % 256 ^ i) / 256 ^ i < 2:=by rw[kt p];omega
 omega
theorem cyS(V S i:Nat):cyN V S (i+1)=(S / 256 ^ i % 256+cyN V S i+V / 256 ^ i % 256) / 256/\(V+S) / 256 ^ i % 256=(S / 256 ^ i % 256+cyN V S i+V / 256 ^ i % 256) % 256:=by
 unfold cyN;have p:0 < 256 ^ i:=o5 (by decide)
 have e1:V % 256 ^ (i+1)=V % 256 ^ i+256 ^ i*(V / 256 ^ i % 256):=by rw[ee,j4]
 have e2:S % 256 ^ (i+1)=S % 256 ^ i+256 ^ i*(S / 256 ^ i % 256):=by rw[ee,j4]
 have e3:V=V % 256 ^ i+256 ^ i*(V / 256 ^ i):=(nd _ _).symm;have e4:S=S % 256 ^ i+256 ^ i*(S / 256 ^ i):=(nd _ _).symm;constructor
 ·rw[e1,e2,ee,<- io]
  have:V % 256 ^ i+256 ^ i*(V / 256 ^ i % 256)+(S % 256 ^ i+256 ^ i*(S / 256 ^ i % 256))=(V % 256 ^ i+S % 256 ^ i)+256 ^ i*(V / 256 ^ i % 256+S / 256 ^ i % 256):=by rw[o6];omega
  rw[this,fo _ _ p]
  congr 1;omega
 ·have:(V+S) / 256 ^ i=(V % 256 ^ i+S % 256 ^ i) / 256 ^ i+(V / 256 ^ i+S / 256 ^ i):=by
   rw[<- fo _ _ p,o6]
   congr 1;omega
  rw[this]
  omega
theorem refL5(N:Nat)(hN:30 < N){key:Vector Int 32}(hk:jD key){a b c d e:Int}(h:Dok a b c d e){V S:Nat}(hV:oQ a b c d e=(V:Int))(hS:leV (key.toList.drop 16)=(S:Int)):T (jX N key #v[a,b,c,d,e] N (ah 16 0) 0 0) (λr=>∀j,j < 16->r.toList[j]? = some (((V+S) / 256 ^ j % 256:Nat):Int)):=by
 have kl:key.toList.length=32:=by simp
 have db:aR (key.toList.drop 16):=λx hx=>hk x (dn hx)
 refine T.loopG0 (n:=16) (λi (q:Vector Int 16×Int)=>q.2=((cyN V S i:Nat):Int)/\∀j,j < 16->q.1.toList[j]? = some (if j < i then(((V+S) / 256 ^ j % 256:Nat):Int) else 0)) _ (F:=λk (q:Vector Int 16×Int) i=>jX N key #v[a,b,c,d,e] k q.1 q.2 i) (λk q i hi hq hk'=>?_) (λk q hq=>?_) (by omega) (s:=(ah 16 0,0)) ⟨?_,λj hj=>?_⟩
 ·obtain⟨v,cy⟩:=q;obtain⟨h1,h2⟩:=hq;dsimp only at h1 h2;subst h1;have e16:I64 (16+(i:Int))=((16+i:Nat):Int):=by rw[aU (by omega) (by omega)];omega
  have g:=aKx _ db i (by rw[br];omega)
  rw[eo,hS] at g;have gS:(S:Int) / ((256 ^ i:Nat):Int) % 256=((S / 256 ^ i % 256:Nat):Int):=by
   generalize 256 ^ i=p;rfl
  rw[gS] at g;have cl:=aSF V S i;obtain⟨c1,c2⟩:=cyS V S i;have sl:S / 256 ^ i % 256 < 256:=gn _ (by decide)
  have vl:V / 256 ^ i % 256 < 256:=gn _ (by decide)
  have pw:2 ^ (8*i)=256 ^ i:=by rw[Nat.pow_mul]
  dsimp only;rw[jX,dt (by omega),cond_true,e16,mK,g,aa]
  have eb:I64 (I64 ((S / 256 ^ i % 256:Nat):Int)+((cyN V S i:Nat):Int))=((S / 256 ^ i % 256+cyN V S i:Nat):Int):=by
   generalize S / 256 ^ i % 256=s at *;generalize cyN V S i=y at *;rw[aU (x:=(s:Int)) (by omega) (by omega),aU (by omega) (by omega)];omega
  rw[eb]
  refine T.bind (refL6 N (by omega) h hV hi (y:=((S / 256 ^ i % 256+cyN V S i:Nat):Int)) ⟨by omega,by generalize S / 256 ^ i % 256=s at *;generalize cyN V S i=y at *;omega⟩) λr hr=>?_;rw[pw] at hr;have ti:((i:Nat):Int).toNat=i:=rfl;rw[dP (by omega) (by omega),aa,ti,h2 i hi,aa,cV (by omega)]
  have r8:shr .i64 r 8=((cyN V S (i+1):Nat):Int):=by
   rw[wF .i64 r 8 8 rfl (by decide),c1,hr]
   show _ / 256=_;omega
  have u8:U8 r=(((V+S) / 256 ^ i % 256:Nat):Int):=by
   rw[aAP,c2,hr]
   omega
  refine hk' (_,_) ⟨r8,λj hj=>?_⟩
  show(v.setIfInBounds i (U8 r)).toList[j]? = some (if j < i+1 then(((V+S) / 256 ^ j % 256:Nat):Int) else 0)
  rw[bq,cv,u8]
  by_cases c:i=j
  ·subst c;rw[if_pos rfl,if_pos (by simp;omega),if_pos (by omega)]
  ·rw[if_neg c,h2 j hj]
   by_cases c3:j < i
   ·rw[if_pos c3,if_pos (by omega)]
   ·rw[if_neg c3,if_neg (by omega)]
 ·rw[jX,df (by omega),cond_false]
  exact T.ret λj hj=>by rw[hq.2 j hj,if_pos hj]
 ·show(0:Int)=((cyN V S 0:Nat):Int)
  unfold cyN;rw[je,jl,jl]
  rfl
 ·have z:(ah 16 (0:Int)).toList=ap 16 0:=rfl;dsimp only;rw[z,cz,if_pos hj,if_neg (by omega)]
theorem refT1(N:Nat)(hN:30 < N)(key:Vector Int 32):T (jY N key N (ah 16 0) 0) (λv=>v.toList=key.toList.take 16):=by
 have kl:key.toList.length=32:=by simp
 refine T.mono (T.loop0 (n:=16) (by decide) (λi (v:Vector Int 16)=>∀j,j < 16->v.toList[j]? = some (if j < i then key.toList.getD j 0 else 0)) (F:=jY N key) (λk s i hi hs Q hk=>?_) (λk s=>by rw[jY,df (by omega),cond_false]) (by omega) (λj hj=>?_)) λv hv=>?_
 ·have g:key.toList[i]? = some (key.toList.getD i 0):=by rw[bf,ag (by omega)];rfl
  have ti:((i:Nat):Int).toNat=i:=rfl;rw[jY,dt (by omega),cond_true,mK,g,aa,dP (by omega) (by omega),aa,ti,hs i hi,aa,cV (by omega)]
  refine hk _ λj hj=>?_;rw[bq,cv]
  by_cases c:i=j
  ·subst c;rw[if_pos rfl,if_pos (by simp;omega),if_pos (by omega)]
  ·rw[if_neg c,hs j hj]
   by_cases c3:j < i
   ·rw[if_pos c3,if_pos (by omega)]
   ·rw[if_neg c3,if_neg (by omega)]
 ·have z:(ah 16 (0:Int)).toList=ap 16 0:=rfl;rw[z,cz,if_pos hj,if_neg (by omega)]
 ·apply dr;intro j;by_cases c:j < 16
  ·rw[hv j c,if_pos c,dq,if_pos c,bf,ag (by omega)]
   rfl
  ·rw[au (by simp;omega),au (by rw[bw];omega)]
theorem refT2(N:Nat)(hN:30 < N)(c:Vector Int 16):T (kC N c N (ah 17 0) 0) (λv=>v.toList=c.toList++[0]):=by
 have kl:c.toList.length=16:=by simp
 refine T.mono (T.loop0 (n:=16) (by decide) (λi (v:Vector Int 17)=>∀j,j < 17->v.toList[j]? = some (if j < i then c.toList.getD j 0 else 0)) (F:=kC N c) (λk s i hi hs Q hk=>?_) (λk s=>by rw[kC,df (by omega),cond_false]) (by omega) (λj hj=>?_)) λv hv=>?_
 ·have g:c.toList[i]? = some (c.toList.getD i 0):=by rw[bf,ag (by omega)];rfl
  have ti:((i:Nat):Int).toNat=i:=rfl;rw[kC,dt (by omega),cond_true,dP (i:=(i:Int)) (n:=16) (by omega) (by omega),aa,ti,g,aa,dP (by omega) (by omega),aa,hs i (by omega),aa,cV (by omega)]
  refine hk _ λj hj=>?_;rw[bq,cv]
  by_cases c:i=j
  ·subst c;rw[if_pos rfl,if_pos (by simp;omega),if_pos (by omega)]
  ·rw[if_neg c,hs j hj]
   by_cases c3:j < i
   ·rw[if_pos c3,if_pos (by omega)]
   ·rw[if_neg c3,if_neg (by omega)]
 ·have z:(ah 17 (0:Int)).toList=ap 17 0:=rfl;rw[z,cz,if_pos hj,if_neg (by omega)]
 ·apply dr;intro j;by_cases c1:j < 16
  ·rw[hv j (by omega),if_pos c1,cn (by omega),bf,ag (by omega)]
   rfl
  ·by_cases c2:j=16
   ·subst c2;rw[hv 16 (by decide),if_neg (by decide),cr (by omega),kl]
    rfl
   ·rw[au (by simp;omega),au (by rw[ai,kl,cf];omega)]
theorem tagE(N:Nat)(hN:70000 < N){key:Vector Int 32}(hk:jD key){ms:List (List Int)}(hms:ms.length < 1000)(hb:aR ms.flatten){m:Nat}(hm:ms.flatten.length=16*m)(hl:ms.flatten.length<=65536):∃t,sX N key ms=some t/\rL N key ms.flatten=some t:=by
 obtain⟨v,c,t,hv,hc,hcb,et,ht⟩:=tagV N hN hk hms hb hm hl;refine⟨t,et,?_⟩
 obtain⟨v',e1,hv'⟩:=refT1 N (by omega) key;obtain rfl:v'=v:=dx.1 (hv'.trans hv.symm)
 obtain⟨w,e2,hw⟩:=refT2 N (by omega) c;have cl:c.toList.length=16:=by simp
 have wb:aR w.toList:=by
  rw[hw]
  intro x hx;rcases ek.1 hx with h' | h'
  ·exact hcb x h'
  ·rw[lr.1 h'];exact⟨by decide,by decide⟩
 have lw:leV w.toList=leV c.toList:=by rw[hw,aCn,Int.zero_mul,nw]
 have lb:=aFY _ hcb;rw[cl] at lb;have c16:((256 ^ 16:Nat):Int)=340282366920938463463374607431768211456:=by decide
 rw[c16] at lb;obtain⟨r0,r1,r2,r3,r4,e3,hr,vr⟩:=aKw N (by omega) wb (by rw[lw];simp only[aB0];omega)
 obtain⟨bs,e4,hbs⟩:=aMI N hN hl hm;have z0:Dok 0 0 0 0 0:=⟨⟨by decide,by decide⟩,⟨by decide,by decide⟩,⟨by decide,by decide⟩,⟨by decide,by decide⟩,⟨by decide,by decide⟩⟩
 obtain⟨a',b',c',d',f',hd,hp,e5⟩:=refL3 N hN hb hl hm hbs hr m N 0 0 0 0 0 0 (by omega) (by omega) z0 rfl;obtain⟨a2,b2,c2,d2,f2,e6,hd2,hv2⟩:=aSW N (by omega) hd;rw[hp,vr,lw] at hv2;have l2:=hd2.lt;obtain⟨V,hV⟩:=bp l2.1;have kb:aR (key.toList.drop 16):=λx hx=>hk x (dn hx)
 obtain⟨S,hS⟩:=bp (aFY _ kb).1;obtain⟨u,e7,hu⟩:=refL5 N (by omega) hk hd2 hV hS;have ut:u=t:=by
  apply dx.1;apply dr;intro j;by_cases hj:j < 16
  ·rw[hu j hj,ht,aHo 16 _ j hj,hS,<- hv2,hV]
   have p:256 ^ 16=256 ^ j*256 ^ (16 - j):=by rw[<- gj,show j+(16 - j)=16 by omega]
   have q:256 ∣ 256 ^ (16 - j):=by
    rw[show 16 - j=(15 - j)+1 by omega,ee]
    exact Nat.dvd_mul_left _ _
   have k:((V:Int)+(S:Int)) % W2=(((V+S) % 256 ^ 16:Nat):Int):=by
    have:(256 ^ 16:Nat)=340282366920938463463374607431768211456:=by decide
    rw[this]
    simp only[W2]
    omega
   have m2:((V+S) % 256 ^ 16) / 256 ^ j % 256=(V+S) / 256 ^ j % 256:=by
    rw[p,Nat.mod_mul_right_div_self,Nat.mod_mod_of_dvd _ q]
   rw[k,<- m2]
   generalize 256 ^ j=pj;rfl
  ·rw[au (by simp;omega),au (by simp;omega)]
 subst ut;have z5:(ah 5 (0:Int))=#v[0,0,0,0,0]:=rfl;unfold rL;rw[e1,aa,hc,aa,e2,aa,e3,aa,e4,aa,z5]
 have zi:((0:Nat):Int)=0:=rfl;rw[zi] at e5;rw[e5,aa,e6,aa,e7,aa]
end Go.UK
