/- A part of the proof: what the functions of the program compute. -/
import Derived.Test.YtfndgielkmppbaaDoorJ2
open BitVec renaming ofInt→br,ofInt_natCast→fb,toNat_ofNat→fp
open Int renaming eq_ofNat_of_zero_le→cl,le_refl→ga,toNat_natCast→gm
open List renaming append_assoc→ax,cons_append→bu,cons_ne_nil→cp,drop_eq_getElem_cons→bj,drop_eq_nil_of_le→bt,drop_zero→cm,getElem?_eq_getElem→af,getElem?_eq_none→cb,getElem?_set_ne→dk,getElem?_set_self→dq,length_cons→aj,map_append→cf,map_cons→bv,map_nil→db,mem_cons→au,mem_cons_of_mem→cw,mem_cons_self→ea,nil_append→cg,not_mem_nil→aq
open Nat renaming lt_or_ge→ca,mod_eq_of_lt→gr
open Option renaming bind_some→aa
open Vector renaming length_toList→cy,replicate→av
namespace Go.UK
open Go Go.Proofs
set_option maxRecDepth 20000
set_option maxHeartbeats 4000000
set_option linter.all false
def wd(n:Int):ByteArray:=txt (Lib.itoa n)
def bN(n:Int):Prop := -4611686018427387904<=n/\n<=4611686018427387904
theorem aCu{l:List UInt8}{v:Int}(h:Lib.parseIntB 64 l = .ok v) : -9223372036854775808<=v/\v<=9223372036854775807:=by
 unfold Lib.parseIntB at h;cases l with
 | nil=>cases h
 | cons c r=>
  dsimp only at h;split at h
  ·cases h
  ·cases h
  ·next u _=>
   split at h
   ·cases h
   ·next h1=>
    split at h
    ·cases h
    ·next h2=>
     have e:=Lib.NumEnd.ok.inj h;rw[<- e]
     by_cases g:c.toNat=45
     ·rw[if_pos g]
      have:u<=2 ^ (64 - 1):=by
       rcases ca (2 ^ (64 - 1)) u with q | q
       ·exact absurd ⟨g,q⟩ h2
       ·exact q
      rw[show(2:Nat) ^ (64 - 1)=9223372036854775808 from by decide] at this;omega
     ·rw[if_neg g]
      have:u < 2 ^ (64 - 1):=by
       rcases ca u (2 ^ (64 - 1)) with q | q
       ·exact q
       ·exact absurd ⟨g,q⟩ h1
      rw[show(2:Nat) ^ (64 - 1)=9223372036854775808 from by decide] at this;omega
theorem aBv{s:ByteArray}(h:s.size<=1600):(∃v,kL s=some (.inl v) /\ -9223372036854775808<=v/\v<=9223372036854775807)\/∃v,kL s=some (.inr v):=by
 unfold kL lC nJ;rw[decide_eq_true (show s.size<=140737488355328 by omega),decide_eq_true (show s.size<=281474976710656 by omega),cond_true,cond_true]
 rcases hp:Lib.parseIntB 64 s.data.toList with v | _ | _
 ·exact .inl ⟨v,rfl,aCu hp⟩
 ·exact .inr ⟨_,rfl⟩
 ·exact .inr ⟨_,rfl⟩
theorem aEb{v:Int}(h0:-9223372036854775808<=v)(h1:v<=9223372036854775807):aAA v=some (wd v):=by
 unfold aAA;rw[decide_eq_true h0,decide_eq_true h1]
 rfl
theorem qD{n:Int}(h:bN n):kL (wd n)=some (.inl n):=by
 have hp:=aCa (n:=n) (by have:=h.1;omega) (by have:=h.2;omega)
 have hs:(wd n).size<=140737488355328:=by
  show(txt _).size<=_;rw[iA]
  have:=pC n (by have:=h.1;omega) (by have:=h.2;omega)
  omega
 unfold kL lC;rw[decide_eq_true hs,cond_true,show(wd n).data.toList=Lib.itoa n from rfl,hp]
theorem wF(N:Nat)(s:ByteArray)(hs:s.size<=1600):∃r,fS N s=some r/\(r.2=true->s=wd r.1/\bN r.1)/\∀n,bN n->s=wd n->r=(n,true):=by
 unfold fS;rcases aBv hs with ⟨v,e,h0,h1⟩ | ⟨v,e⟩
 ·rw[e,aa,sumL,aEb h0 h1,aa,aM,aM,aM,aM,xY]
  by_cases c:wd v=s/\bN v
  ·have c2:=c.2;unfold bN at c2;rw[decide_eq_true c.1,df (show ¬v > 4611686018427387904 by omega),df (show ¬v < (-4611686018427387904) by omega)]
   refine⟨_,rfl,λ_=>⟨c.1.symm,c.2⟩,λn hn q=>?_⟩
   have:=qD hn;rw[<- q,e] at this;have:=Sum.inl.inj (Option.some.inj this)
   rw[this]
  ·have cc:(cond (cond (!(decide (wd v=s))) true (decide (v > 4611686018427387904))) true (decide (v < (-4611686018427387904))))=true:=by
    by_cases d:wd v=s
    ·have:¬bN v:=λq=>c ⟨d,q⟩
     unfold bN at this;by_cases g:v > 4611686018427387904
     ·rw[dt g,show ∀b:Bool,cond b true true=true from λb=>by cases b <;> rfl];rfl
     ·rw[dt (show v < (-4611686018427387904) by omega),show ∀b:Bool,cond b true true=true from λb=>by cases b <;> rfl]
    ·rw[decide_eq_false d];rfl
   rw[cc,cond_true]
   refine⟨_,rfl,λq=>absurd q (show ¬false=true by decide),λn hn q=>?_⟩
   have:=qD hn;rw[<- q,e] at this;have:=Sum.inl.inj (Option.some.inj this)
   exact absurd ⟨by rw[this,q],by rw[this];exact hn⟩ c
 ·rw[e,aa]
  refine⟨(0,false),rfl,λq=>absurd q (show ¬false=true by decide),λn hn q=>?_⟩
  have:=qD hn;rw[<- q,e] at this;cases this
structure Tk{α:Type}(g:α->List Int)(V:α->Prop)(F:aF->Option (aF×α)):Prop where
 tot:∀t,(∀w∈t.gl,w.size<=1600)->∃t' a,F t=some (t',a)/\(∀w∈t'.gl,w.size<=1600)/\(t'.gA9=false->t.gA9=false/\t.gl=(g a).map wd++t'.gl/\V a)
 hit:∀a r,V a->F ⟨(g a).map wd++r,false⟩=some (⟨r,false⟩,a)
theorem qT(N:Nat){lo hi:Int}(hl:-4611686018427387904<=lo)(hh:hi<=4611686018427387904):Tk (λn=>[n]) (λn=>lo<=n/\n<=hi) (λt=>aI N lo hi t) where
 tot t ht:=by
  unfold aI bF;rw[aM]
  cases e:t.gl with
  | nil=>
   obtain⟨r,h1,h2,_⟩:=wF N (ByteArray.mk #[]) (by decide)
   have hr:r.2=false:=by
    cases hr:r.2 with
    | false=>rfl
    | true=>
     have:=(h2 hr).1;have hs:(ByteArray.mk #[]).size=(Lib.itoa r.1).length:=by rw[this];exact iA _
     have hn:Lib.itoa r.1≠[]:=by
      unfold Lib.itoa;split
      ·exact cp _ _
      ·obtain⟨k,q,_,e⟩:=xH r.1.toNat;rw[e];exact cp _ _
     have:(Lib.itoa r.1).length=0:=by rw[<- hs];rfl
     exact absurd (List.eq_nil_of_length_eq_zero this) hn
   rw[show((([]:List ByteArray).length:Int)==0)=true from rfl,cond_true,aa]
   dsimp only;rw[h1,aa,hr,aM,aM]
   exact⟨_,_,rfl,λw hw=>by simp at hw,λq=>absurd q (show ¬true=false by decide)⟩
  | cons w ws=>
   rw[e] at ht;obtain⟨r,h1,h2,h3⟩:=wF N w (ht w ea)
   rw[show(((w :: ws:List ByteArray).length:Int)==0)=false by rw[beq_eq_false_iff_ne];simp;omega,cond_false,show idx (w :: ws) 0=some w from rfl,aa,show qH (w :: ws) 1 (((w :: ws:List ByteArray).length:Nat):Int)=some ws by
    rw[rV (by decide) (by simp;omega) (ga _)];simp,aa,aa]
   dsimp only;rw[h1,aa,aM,aM]
   by_cases c:r.2=true/\lo<=r.1/\r.1<=hi
   ·rw[c.1,df (show ¬r.1 < lo by omega),df (show ¬r.1 > hi by omega)]
    exact⟨_,_,rfl,λx hx=>ht x (cw _ hx),λq=>⟨q,by rw[(h2 c.1).1];rfl,c.2⟩⟩
   ·have cc:(cond (cond (!r.2) true (decide (r.1 < lo))) true (decide (r.1 > hi)))=true:=by
     cases hr:r.2 with
     | false=>rfl
     | true=>
      by_cases d:r.1 < lo
      ·rw[dt d];rfl
      ·rw[df d,dt (show r.1 > hi from Decidable.byContradiction λq=>c ⟨hr,by omega,by omega⟩)];rfl
    rw[cc,cond_true]
    exact⟨_,_,rfl,λx hx=>ht x (cw _ hx),λq=>absurd q (show ¬true=false by decide)⟩
 hit a r h:=by
  have hb:bN a:=⟨by omega,by omega⟩
  have hs:(wd a).size<=1600:=by
   show(txt _).size<=_;rw[iA]
   have:=pC a (by have:=hb.1;omega) (by have:=hb.2;omega)
   omega
  obtain⟨q,h1,_,h3⟩:=wF N (wd a) hs;have:=h3 a hb rfl;subst this;show aI N lo hi ⟨wd a :: r,false⟩=_;unfold aI bF;rw[aM]
  rw[show(((wd a :: r:List ByteArray).length:Int)==0)=false by rw[beq_eq_false_iff_ne];simp;omega,cond_false,show idx (wd a :: r) 0=some (wd a) from rfl,aa,show qH (wd a :: r) 1 (((wd a :: r:List ByteArray).length:Nat):Int)=some r by
    rw[rV (by decide) (by simp;omega) (ga _)];simp,aa,aa]
  dsimp only;rw[h1,aa,aM,aM,df (show ¬a < lo by omega),df (show ¬a > hi by omega)]
  rfl
def rg(lo hi x:Int):Prop:=lo<=x/\x<=hi
theorem dV(N:Nat):Tk (λn=>[n]) (rg 0 255) (aE N):=by
 have h:=qT N (lo:=0) (hi:=255) (by decide) (by decide)
 have e:aE N=λt=>aI N 0 255 t:=by
  funext t;unfold aE;cases aI N 0 255 t <;> rfl
 rw[e];exact h
theorem dN(N:Nat):Tk (λn=>[n]) (rg 0 4294967295) (aC N):=by
 have h:=qT N (lo:=0) (hi:=4294967295) (by decide) (by decide)
 have e:aC N=λt=>aI N 0 4294967295 t:=by
  funext t;unfold aC;cases aI N 0 4294967295 t <;> rfl
 rw[e];exact h
theorem qI(N:Nat):Tk (λn=>[n]) (rg (-2147483648) 2147483647) (aV N):=by
 have h:=qT N (lo := -2147483648) (hi:=2147483647) (by decide) (by decide)
 have e:aV N=λt=>aI N (-2147483648) 2147483647 t:=by
  funext t;unfold aV;cases aI N (-2147483648) 2147483647 t <;> rfl
 rw[e];exact h
theorem rI(N:Nat):Tk (λn=>[n]) bN (aW N):=by
 have h:=qT N (lo := -4611686018427387904) (hi:=4611686018427387904) (by decide) (by decide)
 have e:aW N=λt=>aI N (-4611686018427387904) 4611686018427387904 t:=by
  funext t;unfold aW;cases aI N (-4611686018427387904) 4611686018427387904 t <;> rfl
 rw[e];exact h
def yP(p:aA):List Int:=[p.gX,p.gY,p.gZ]
def ptV(p:aA):Prop:=rg (-2147483648) 2147483647 p.gX/\rg (-2147483648) 2147483647 p.gY/\rg (-2147483648) 2147483647 p.gZ
def zAf : aK:=aK.mk (av 9 0) (bG.mk 0 0 0)
def inL(i:aL):List Int:=[i.gA0,i.gV,i.gR,i.gN]
def inV(i:aL):Prop:=rg 0 4294967295 i.gA0/\rg 0 4294967295 i.gV/\rg 0 4294967295 i.gR/\rg 0 4294967295 i.gN
def inV0(i:aL):Prop:=inV i/\i.gT=zAf
theorem aDb{a b:Int}(ha:rg 0 4294967295 a)(hb:rg 0 4294967295 b):bor .u64 (shl .u64 (U64 a) 32) (U64 b)=a*4294967296+b:=by
 obtain⟨x,rfl⟩:=cl ha.1;obtain⟨y,rfl⟩:=cl hb.1;have hx:=ha.2;have hy:=hb.2;rw[qB (by omega) (by omega),qB (by omega) (by omega)]
 have e1:shl .u64 (x:Int) 32=((x*4294967296:Nat):Int):=by
  unfold shl;show U64 _=_;rw[show((x:Int)*2 ^ (min (32:Int).toNat IntKind.u64.bits))=((x*4294967296:Nat):Int) by rw[show(2:Int) ^ (min (32:Int).toNat IntKind.u64.bits)=4294967296 from rfl];omega,qB (by omega) (by omega)]
 rw[e1]
 unfold bor;have:(br IntKind.u64.bits ((x*4294967296:Nat):Int) ||| br IntKind.u64.bits (y:Int)).toNat=x*4294967296+y:=by
  rw[BitVec.toNat_or,fb,fb,fp,fp]
  show x*4294967296 % 2 ^ 64 ||| y % 2 ^ 64=_;rw[gr (show x*4294967296 < 2 ^ 64 by omega),gr (show y < 2 ^ 64 by omega),Nat.mul_comm x,show(4294967296:Nat)=2 ^ 32 from rfl,<- Nat.two_pow_add_eq_or_of_lt (show y < 2 ^ 32 by omega)]
 rw[this]
 show U64 _=_;rw[qB (by omega) (by omega)]
 omega
def vwL(v:aP):List Int:=[v.gW,v.gH,v.gA7,v.gA6,v.gA5,cond v.gA2 1 0,v.gK / 4294967296,v.gK % 4294967296]++(yP v.gA.gJ++(yP v.gA.gG++(yP v.gA.gUp++(yP v.gA.gE++[v.gA.gQ,v.gA.gP]))))
structure VwV(v:aP):Prop where
 w:rg 0 255 v.gW
 h:rg 0 255 v.gH
 s:rg 0 255 v.gA7
 d:rg 0 255 v.gA6
 c:rg 0 255 v.gA5
 seed:0<=v.gK/\v.gK < 18446744073709551616
 e:ptV v.gA.gJ
 r:ptV v.gA.gG
 u:ptV v.gA.gUp
 a:ptV v.gA.gE
 l:rg 0 4294967295 v.gA.gQ
 f:rg 0 4294967295 v.gA.gP
theorem kZ(N:Nat):Tk yP ptV (aQ N) where
 tot t ht:=by
  obtain⟨t0,a0,e0,s0,f0⟩:=(qI N).tot t ht;obtain⟨t1,a1,e1,s1,f1⟩:=(qI N).tot t0 s0;obtain⟨t2,a2,e2,s2,f2⟩:=(qI N).tot t1 s1;unfold aQ;rw[show aV N t=_ from e0,aa,show aV N t0=_ from e1,aa,show aV N t1=_ from e2,aa]
  refine⟨_,_,rfl,s2,λq2=>?_⟩
  obtain⟨q1,g2,v2⟩:=f2 q2;obtain⟨q0,g1,v1⟩:=f1 q1;obtain⟨qz,g0,v0⟩:=f0 q0;refine⟨qz,?_,⟨v0,v1,v2⟩⟩
  rw[g0,g1,g2]
  simp only[yP,cf,bv,db,ax,bu,cg]
 hit a r h:=by
  show aQ N ⟨wd a.gX :: wd a.gY :: wd a.gZ :: r,false⟩=_;unfold aQ;rw[show aV N ⟨wd a.gX :: wd a.gY :: wd a.gZ :: r,false⟩=some (⟨wd a.gY :: wd a.gZ :: r,false⟩,a.gX) from(qI N).hit a.gX _ (h.1),aa,show aV N ⟨wd a.gY :: wd a.gZ :: r,false⟩=some (⟨wd a.gZ :: r,false⟩,a.gY) from(qI N).hit a.gY _ (h.2.1),aa,show aV N ⟨wd a.gZ :: r,false⟩=some (⟨r,false⟩,a.gZ) from(qI N).hit a.gZ _ (h.2.2),aa]
theorem xF(N:Nat):Tk inL inV0 (bK N) where
 tot t ht:=by
  obtain⟨t0,a0,e0,s0,f0⟩:=(dN N).tot t ht;obtain⟨t1,a1,e1,s1,f1⟩:=(dN N).tot t0 s0;obtain⟨t2,a2,e2,s2,f2⟩:=(dN N).tot t1 s1;obtain⟨t3,a3,e3,s3,f3⟩:=(dN N).tot t2 s2;unfold bK;rw[show aC N t=_ from e0,aa,show aC N t0=_ from e1,aa,show aC N t1=_ from e2,aa,show aC N t2=_ from e3,aa]
  refine⟨_,_,rfl,s3,λq3=>?_⟩
  obtain⟨q2,g3,v3⟩:=f3 q3;obtain⟨q1,g2,v2⟩:=f2 q2;obtain⟨q0,g1,v1⟩:=f1 q1;obtain⟨qz,g0,v0⟩:=f0 q0;refine⟨qz,?_,⟨⟨v0,v1,v2,v3⟩,rfl⟩⟩
  rw[g0,g1,g2,g3]
  simp only[inL,cf,bv,db,ax,bu,cg]
 hit a r h:=by
  show bK N ⟨wd a.gA0 :: wd a.gV :: wd a.gR :: wd a.gN :: r,false⟩=_;unfold bK;rw[show aC N ⟨wd a.gA0 :: wd a.gV :: wd a.gR :: wd a.gN :: r,false⟩=some (⟨wd a.gV :: wd a.gR :: wd a.gN :: r,false⟩,a.gA0) from(dN N).hit a.gA0 _ (h.1.1),aa,show aC N ⟨wd a.gV :: wd a.gR :: wd a.gN :: r,false⟩=some (⟨wd a.gR :: wd a.gN :: r,false⟩,a.gV) from(dN N).hit a.gV _ (h.1.2.1),aa,show aC N ⟨wd a.gR :: wd a.gN :: r,false⟩=some (⟨wd a.gN :: r,false⟩,a.gR) from(dN N).hit a.gR _ (h.1.2.2.1),aa,show aC N ⟨wd a.gN :: r,false⟩=some (⟨r,false⟩,a.gN) from(dN N).hit a.gN _ (h.1.2.2.2),aa]
  obtain⟨a1,a2,a3,a4,a5⟩:=a;obtain rfl:a5=zAf:=h.2;rfl
theorem aDz(N:Nat):Tk vwL VwV (bY N) where
 tot t ht:=by
  obtain⟨t0,a0,e0,s0,f0⟩:=(dV N).tot t ht;obtain⟨t1,a1,e1,s1,f1⟩:=(dV N).tot t0 s0;obtain⟨t2,a2,e2,s2,f2⟩:=(dV N).tot t1 s1;obtain⟨t3,a3,e3,s3,f3⟩:=(dV N).tot t2 s2;obtain⟨t4,a4,e4,s4,f4⟩:=(dV N).tot t3 s3;obtain⟨t5,a5,e5,s5,f5⟩:=(qT N (lo:=0) (hi:=1) (by decide) (by decide)).tot t4 s4;obtain⟨t6,a6,e6,s6,f6⟩:=(dN N).tot t5 s5;obtain⟨t7,a7,e7,s7,f7⟩:=(dN N).tot t6 s6;obtain⟨t8,a8,e8,s8,f8⟩:=(kZ N).tot t7 s7;obtain⟨t9,a9,e9,s9,f9⟩:=(kZ N).tot t8 s8;obtain⟨t10,a10,e10,s10,f10⟩:=(kZ N).tot t9 s9;obtain⟨t11,a11,e11,s11,f11⟩:=(kZ N).tot t10 s10;obtain⟨t12,a12,e12,s12,f12⟩:=(dN N).tot t11 s11;obtain⟨t13,a13,e13,s13,f13⟩:=(dN N).tot t12 s12;unfold bY;rw[show aE N t=_ from e0,aa,show aE N t0=_ from e1,aa,show aE N t1=_ from e2,aa,show aE N t2=_ from e3,aa,show aE N t3=_ from e4,aa,show aI N 0 1 t4=_ from e5,aa,show aC N t5=_ from e6,aa,show aC N t6=_ from e7,aa,aM,show aQ N t7=_ from e8,aa,show aQ N t8=_ from e9,aa,show aQ N t9=_ from e10,aa,show aQ N t10=_ from e11,aa,show aC N t11=_ from e12,aa,show aC N t12=_ from e13,aa]
  refine⟨_,_,rfl,s13,λq13=>?_⟩
  obtain⟨q12,g13,v13⟩:=f13 q13;obtain⟨q11,g12,v12⟩:=f12 q12;obtain⟨q10,g11,v11⟩:=f11 q11;obtain⟨q9,g10,v10⟩:=f10 q10;obtain⟨q8,g9,v9⟩:=f9 q9;obtain⟨q7,g8,v8⟩:=f8 q8;obtain⟨q6,g7,v7⟩:=f7 q7;obtain⟨q5,g6,v6⟩:=f6 q6;obtain⟨q4,g5,v5⟩:=f5 q5;obtain⟨q3,g4,v4⟩:=f4 q4;obtain⟨q2,g3,v3⟩:=f3 q3;obtain⟨q1,g2,v2⟩:=f2 q2;obtain⟨q0,g1,v1⟩:=f1 q1;obtain⟨qz,g0,v0⟩:=f0 q0;refine⟨qz,?_,⟨v0,v1,v2,v3,v4,(by dsimp only;rw[aDb v6 v7];have:=v6.1;have:=v6.2;have:=v7.1;have:=v7.2;omega),v8,v9,v10,v11,v12,v13⟩⟩
  have hb:=aDb v6 v7;have k6:(a6*4294967296+a7) / 4294967296=a6:=by have:=v7.1;have:=v7.2;omega
  have k7:(a6*4294967296+a7) % 4294967296=a7:=by have:=v7.1;have:=v7.2;omega
  have k5:(cond (a5==1) 1 0:Int)=a5:=by
   obtain⟨h1,h2⟩:=v5;rcases(show a5=0\/a5=1 by omega) with rfl | rfl <;> rfl
  show t.gl=(vwL _).map wd++_;unfold vwL;dsimp only;rw[hb,k6,k7,k5]
  rw[g0,g1,g2,g3,g4,g5,g6,g7,g8,g9,g10,g11,g12,g13]
  simp only[vwL,yP,cf,bv,db,ax,bu,cg]
 hit a r h:=by
  have hs:=h.seed;have hc:0<=(cond a.gA2 1 0:Int)/\(cond a.gA2 1 0:Int)<=1:=by cases a.gA2 <;> exact⟨by decide,by decide⟩
  have hh:rg 0 4294967295 (a.gK / 4294967296):=⟨by omega,by omega⟩
  have hl:rg 0 4294967295 (a.gK % 4294967296):=⟨by omega,by omega⟩
  show bY N ⟨wd a.gW :: wd a.gH :: wd a.gA7 :: wd a.gA6 :: wd a.gA5 :: wd (cond a.gA2 1 0) :: wd (a.gK / 4294967296) :: wd (a.gK % 4294967296) :: wd a.gA.gJ.gX :: wd a.gA.gJ.gY :: wd a.gA.gJ.gZ :: wd a.gA.gG.gX :: wd a.gA.gG.gY :: wd a.gA.gG.gZ :: wd a.gA.gUp.gX :: wd a.gA.gUp.gY :: wd a.gA.gUp.gZ :: wd a.gA.gE.gX :: wd a.gA.gE.gY :: wd a.gA.gE.gZ :: wd a.gA.gQ :: wd a.gA.gP :: r,false⟩=_;unfold bY;rw[show aE N ⟨wd a.gW :: wd a.gH :: wd a.gA7 :: wd a.gA6 :: wd a.gA5 :: wd (cond a.gA2 1 0) :: wd (a.gK / 4294967296) :: wd (a.gK % 4294967296) :: wd a.gA.gJ.gX :: wd a.gA.gJ.gY :: wd a.gA.gJ.gZ :: wd a.gA.gG.gX :: wd a.gA.gG.gY :: wd a.gA.gG.gZ :: wd a.gA.gUp.gX :: wd a.gA.gUp.gY :: wd a.gA.gUp.gZ :: wd a.gA.gE.gX :: wd a.gA.gE.gY :: wd a.gA.gE.gZ :: wd a.gA.gQ :: wd a.gA.gP :: r,false⟩=some (⟨wd a.gH :: wd a.gA7 :: wd a.gA6 :: wd a.gA5 :: wd (cond a.gA2 1 0) :: wd (a.gK / 4294967296) :: wd (a.gK % 4294967296) :: wd a.gA.gJ.gX :: wd a.gA.gJ.gY :: wd a.gA.gJ.gZ :: wd a.gA.gG.gX :: wd a.gA.gG.gY :: wd a.gA.gG.gZ :: wd a.gA.gUp.gX :: wd a.gA.gUp.gY :: wd a.gA.gUp.gZ :: wd a.gA.gE.gX :: wd a.gA.gE.gY :: wd a.gA.gE.gZ :: wd a.gA.gQ :: wd a.gA.gP :: r,false⟩,a.gW) from(dV N).hit a.gW _ (h.w),aa,show aE N ⟨wd a.gH :: wd a.gA7 :: wd a.gA6 :: wd a.gA5 :: wd (cond a.gA2 1 0) :: wd (a.gK / 4294967296) :: wd (a.gK % 4294967296) :: wd a.gA.gJ.gX :: wd a.gA.gJ.gY :: wd a.gA.gJ.gZ :: wd a.gA.gG.gX :: wd a.gA.gG.gY :: wd a.gA.gG.gZ :: wd a.gA.gUp.gX :: wd a.gA.gUp.gY :: wd a.gA.gUp.gZ :: wd a.gA.gE.gX :: wd a.gA.gE.gY :: wd a.gA.gE.gZ :: wd a.gA.gQ :: wd a.gA.gP :: r,false⟩=some (⟨wd a.gA7 :: wd a.gA6 :: wd a.gA5 :: wd (cond a.gA2 1 0) :: wd (a.gK / 4294967296) :: wd (a.gK % 4294967296) :: wd a.gA.gJ.gX :: wd a.gA.gJ.gY :: wd a.gA.gJ.gZ :: wd a.gA.gG.gX :: wd a.gA.gG.gY :: wd a.gA.gG.gZ :: wd a.gA.gUp.gX :: wd a.gA.gUp.gY :: wd a.gA.gUp.gZ :: wd a.gA.gE.gX :: wd a.gA.gE.gY :: wd a.gA.gE.gZ :: wd a.gA.gQ :: wd a.gA.gP :: r,false⟩,a.gH) from(dV N).hit a.gH _ (h.h),aa,show aE N ⟨wd a.gA7 :: wd a.gA6 :: wd a.gA5 :: wd (cond a.gA2 1 0) :: wd (a.gK / 4294967296) :: wd (a.gK % 4294967296) :: wd a.gA.gJ.gX :: wd a.gA.gJ.gY :: wd a.gA.gJ.gZ :: wd a.gA.gG.gX :: wd a.gA.gG.gY :: wd a.gA.gG.gZ :: wd a.gA.gUp.gX :: wd a.gA.gUp.gY :: wd a.gA.gUp.gZ :: wd a.gA.gE.gX :: wd a.gA.gE.gY :: wd a.gA.gE.gZ :: wd a.gA.gQ :: wd a.gA.gP :: r,false⟩=some (⟨wd a.gA6 :: wd a.gA5 :: wd (cond a.gA2 1 0) :: wd (a.gK / 4294967296) :: wd (a.gK % 4294967296) :: wd a.gA.gJ.gX :: wd a.gA.gJ.gY :: wd a.gA.gJ.gZ :: wd a.gA.gG.gX :: wd a.gA.gG.gY :: wd a.gA.gG.gZ :: wd a.gA.gUp.gX :: wd a.gA.gUp.gY :: wd a.gA.gUp.gZ :: wd a.gA.gE.gX :: wd a.gA.gE.gY :: wd a.gA.gE.gZ :: wd a.gA.gQ :: wd a.gA.gP :: r,false⟩,a.gA7) from(dV N).hit a.gA7 _ (h.s),aa,show aE N ⟨wd a.gA6 :: wd a.gA5 :: wd (cond a.gA2 1 0) :: wd (a.gK / 4294967296) :: wd (a.gK % 4294967296) :: wd a.gA.gJ.gX :: wd a.gA.gJ.gY :: wd a.gA.gJ.gZ :: wd a.gA.gG.gX :: wd a.gA.gG.gY :: wd a.gA.gG.gZ :: wd a.gA.gUp.gX :: wd a.gA.gUp.gY :: wd a.gA.gUp.gZ :: wd a.gA.gE.gX :: wd a.gA.gE.gY :: wd a.gA.gE.gZ :: wd a.gA.gQ :: wd a.gA.gP :: r,false⟩=some (⟨wd a.gA5 :: wd (cond a.gA2 1 0) :: wd (a.gK / 4294967296) :: wd (a.gK % 4294967296) :: wd a.gA.gJ.gX :: wd a.gA.gJ.gY :: wd a.gA.gJ.gZ :: wd a.gA.gG.gX :: wd a.gA.gG.gY :: wd a.gA.gG.gZ :: wd a.gA.gUp.gX :: wd a.gA.gUp.gY :: wd a.gA.gUp.gZ :: wd a.gA.gE.gX :: wd a.gA.gE.gY :: wd a.gA.gE.gZ :: wd a.gA.gQ :: wd a.gA.gP :: r,false⟩,a.gA6) from(dV N).hit a.gA6 _ (h.d),aa,show aE N ⟨wd a.gA5 :: wd (cond a.gA2 1 0) :: wd (a.gK / 4294967296) :: wd (a.gK % 4294967296) :: wd a.gA.gJ.gX :: wd a.gA.gJ.gY :: wd a.gA.gJ.gZ :: wd a.gA.gG.gX :: wd a.gA.gG.gY :: wd a.gA.gG.gZ :: wd a.gA.gUp.gX :: wd a.gA.gUp.gY :: wd a.gA.gUp.gZ :: wd a.gA.gE.gX :: wd a.gA.gE.gY :: wd a.gA.gE.gZ :: wd a.gA.gQ :: wd a.gA.gP :: r,false⟩=some (⟨wd (cond a.gA2 1 0) :: wd (a.gK / 4294967296) :: wd (a.gK % 4294967296) :: wd a.gA.gJ.gX :: wd a.gA.gJ.gY :: wd a.gA.gJ.gZ :: wd a.gA.gG.gX :: wd a.gA.gG.gY :: wd a.gA.gG.gZ :: wd a.gA.gUp.gX :: wd a.gA.gUp.gY :: wd a.gA.gUp.gZ :: wd a.gA.gE.gX :: wd a.gA.gE.gY :: wd a.gA.gE.gZ :: wd a.gA.gQ :: wd a.gA.gP :: r,false⟩,a.gA5) from(dV N).hit a.gA5 _ (h.c),aa,show aI N 0 1 ⟨wd (cond a.gA2 1 0) :: wd (a.gK / 4294967296) :: wd (a.gK % 4294967296) :: wd a.gA.gJ.gX :: wd a.gA.gJ.gY :: wd a.gA.gJ.gZ :: wd a.gA.gG.gX :: wd a.gA.gG.gY :: wd a.gA.gG.gZ :: wd a.gA.gUp.gX :: wd a.gA.gUp.gY :: wd a.gA.gUp.gZ :: wd a.gA.gE.gX :: wd a.gA.gE.gY :: wd a.gA.gE.gZ :: wd a.gA.gQ :: wd a.gA.gP :: r,false⟩=some (⟨wd (a.gK / 4294967296) :: wd (a.gK % 4294967296) :: wd a.gA.gJ.gX :: wd a.gA.gJ.gY :: wd a.gA.gJ.gZ :: wd a.gA.gG.gX :: wd a.gA.gG.gY :: wd a.gA.gG.gZ :: wd a.gA.gUp.gX :: wd a.gA.gUp.gY :: wd a.gA.gUp.gZ :: wd a.gA.gE.gX :: wd a.gA.gE.gY :: wd a.gA.gE.gZ :: wd a.gA.gQ :: wd a.gA.gP :: r,false⟩,(cond a.gA2 1 0)) from(qT N (lo:=0) (hi:=1) (by decide) (by decide)).hit (cond a.gA2 1 0) _ (hc),aa,show aC N ⟨wd (a.gK / 4294967296) :: wd (a.gK % 4294967296) :: wd a.gA.gJ.gX :: wd a.gA.gJ.gY :: wd a.gA.gJ.gZ :: wd a.gA.gG.gX :: wd a.gA.gG.gY :: wd a.gA.gG.gZ :: wd a.gA.gUp.gX :: wd a.gA.gUp.gY :: wd a.gA.gUp.gZ :: wd a.gA.gE.gX :: wd a.gA.gE.gY :: wd a.gA.gE.gZ :: wd a.gA.gQ :: wd a.gA.gP :: r,false⟩=some (⟨wd (a.gK % 4294967296) :: wd a.gA.gJ.gX :: wd a.gA.gJ.gY :: wd a.gA.gJ.gZ :: wd a.gA.gG.gX :: wd a.gA.gG.gY :: wd a.gA.gG.gZ :: wd a.gA.gUp.gX :: wd a.gA.gUp.gY :: wd a.gA.gUp.gZ :: wd a.gA.gE.gX :: wd a.gA.gE.gY :: wd a.gA.gE.gZ :: wd a.gA.gQ :: wd a.gA.gP :: r,false⟩,(a.gK / 4294967296)) from(dN N).hit (a.gK / 4294967296) _ (hh),aa,show aC N ⟨wd (a.gK % 4294967296) :: wd a.gA.gJ.gX :: wd a.gA.gJ.gY :: wd a.gA.gJ.gZ :: wd a.gA.gG.gX :: wd a.gA.gG.gY :: wd a.gA.gG.gZ :: wd a.gA.gUp.gX :: wd a.gA.gUp.gY :: wd a.gA.gUp.gZ :: wd a.gA.gE.gX :: wd a.gA.gE.gY :: wd a.gA.gE.gZ :: wd a.gA.gQ :: wd a.gA.gP :: r,false⟩=some (⟨wd a.gA.gJ.gX :: wd a.gA.gJ.gY :: wd a.gA.gJ.gZ :: wd a.gA.gG.gX :: wd a.gA.gG.gY :: wd a.gA.gG.gZ :: wd a.gA.gUp.gX :: wd a.gA.gUp.gY :: wd a.gA.gUp.gZ :: wd a.gA.gE.gX :: wd a.gA.gE.gY :: wd a.gA.gE.gZ :: wd a.gA.gQ :: wd a.gA.gP :: r,false⟩,(a.gK % 4294967296)) from(dN N).hit (a.gK % 4294967296) _ (hl),aa,aM,show aQ N ⟨wd a.gA.gJ.gX :: wd a.gA.gJ.gY :: wd a.gA.gJ.gZ :: wd a.gA.gG.gX :: wd a.gA.gG.gY :: wd a.gA.gG.gZ :: wd a.gA.gUp.gX :: wd a.gA.gUp.gY :: wd a.gA.gUp.gZ :: wd a.gA.gE.gX :: wd a.gA.gE.gY :: wd a.gA.gE.gZ :: wd a.gA.gQ :: wd a.gA.gP :: r,false⟩=some (⟨wd a.gA.gG.gX :: wd a.gA.gG.gY :: wd a.gA.gG.gZ :: wd a.gA.gUp.gX :: wd a.gA.gUp.gY :: wd a.gA.gUp.gZ :: wd a.gA.gE.gX :: wd a.gA.gE.gY :: wd a.gA.gE.gZ :: wd a.gA.gQ :: wd a.gA.gP :: r,false⟩,a.gA.gJ) from(kZ N).hit a.gA.gJ _ (h.e),aa,show aQ N ⟨wd a.gA.gG.gX :: wd a.gA.gG.gY :: wd a.gA.gG.gZ :: wd a.gA.gUp.gX :: wd a.gA.gUp.gY :: wd a.gA.gUp.gZ :: wd a.gA.gE.gX :: wd a.gA.gE.gY :: wd a.gA.gE.gZ :: wd a.gA.gQ :: wd a.gA.gP :: r,false⟩=some (⟨wd a.gA.gUp.gX :: wd a.gA.gUp.gY :: wd a.gA.gUp.gZ :: wd a.gA.gE.gX :: wd a.gA.gE.gY :: wd a.gA.gE.gZ :: wd a.gA.gQ :: wd a.gA.gP :: r,false⟩,a.gA.gG) from(kZ N).hit a.gA.gG _ (h.r),aa,show aQ N ⟨wd a.gA.gUp.gX :: wd a.gA.gUp.gY :: wd a.gA.gUp.gZ :: wd a.gA.gE.gX :: wd a.gA.gE.gY :: wd a.gA.gE.gZ :: wd a.gA.gQ :: wd a.gA.gP :: r,false⟩=some (⟨wd a.gA.gE.gX :: wd a.gA.gE.gY :: wd a.gA.gE.gZ :: wd a.gA.gQ :: wd a.gA.gP :: r,false⟩,a.gA.gUp) from(kZ N).hit a.gA.gUp _ (h.u),aa,show aQ N ⟨wd a.gA.gE.gX :: wd a.gA.gE.gY :: wd a.gA.gE.gZ :: wd a.gA.gQ :: wd a.gA.gP :: r,false⟩=some (⟨wd a.gA.gQ :: wd a.gA.gP :: r,false⟩,a.gA.gE) from(kZ N).hit a.gA.gE _ (h.a),aa,show aC N ⟨wd a.gA.gQ :: wd a.gA.gP :: r,false⟩=some (⟨wd a.gA.gP :: r,false⟩,a.gA.gQ) from(dN N).hit a.gA.gQ _ (h.l),aa,show aC N ⟨wd a.gA.gP :: r,false⟩=some (⟨r,false⟩,a.gA.gP) from(dN N).hit a.gA.gP _ (h.f),aa]
  rw[aDb hh hl,show a.gK / 4294967296*4294967296+a.gK % 4294967296=a.gK by omega,show((cond a.gA2 1 0:Int)==1)=a.gA2 by cases a.gA2 <;> rfl]
theorem set9(v:Vector Int 9)(i:Nat)(x:Int):(v.setIfInBounds i x).toList=v.toList.set i x:=by
 simp[<- Vector.toList_toArray]
def afL(a:aK):List Int:=a.gM.toList++[a.gT.gX,a.gT.gY,a.gT.gZ]
def afV(a:aK):Prop:=(∀x∈a.gM.toList,bN x)/\bN a.gT.gX/\bN a.gT.gY/\bN a.gT.gZ
theorem inR9{i:Nat}(c:i < 9):aCF (i:Int) 9=some ():=by unfold aCF inR;rw[dt (by omega),dt (by omega)];rfl
theorem aFd(N:Nat):∀(k i:Nat) (t:aF) (v:Vector Int 9),i<=9->9 - i < k->(∀w∈t.gl,w.size<=1600)->∃t' v',bL N k t v (i:Int)=some (t',v')/\(∀w∈t'.gl,w.size<=1600)/\(t'.gA9=false->t.gA9=false/\t.gl=(v'.toList.drop i).map wd++t'.gl/\∀x∈v'.toList.drop i,bN x)/\∀j,j < i->v'.toList[j]? = v.toList[j]?
 | 0,_,_,_,_,h,_=>by omega
 | k+1,i,t,v,hi,hk,ht=>by
  rw[bL]
  have hl:v.toList.length=9:=cy;by_cases c:i < 9
  ·obtain⟨t1,a1,e1,s1,f1⟩:=(rI N).tot t ht;obtain⟨t',v',e2,s2,f2,p2⟩:=aFd N k (i+1) t1 (v.setIfInBounds i a1) (by omega) (by omega) s1;rw[dt (by omega),cond_true,e1,aa,inR9 c,aa,gm,af (by omega),aa,mQ (by omega)]
   refine⟨t',v',e2,s2,λq=>?_,λj hj=>?_⟩
   ·obtain⟨q1,g2,w2⟩:=f2 q;obtain⟨q0,g1,w1⟩:=f1 q1;have hl':v'.toList.length=9:=cy;have hh:=p2 i (by omega)
    rw[set9,dq (by omega),af (by omega)] at hh;have hd:v'.toList.drop i=a1 :: v'.toList.drop (i+1):=by rw[bj (by omega),Option.some.inj hh]
    refine⟨q0,by rw[g1,g2,hd];rfl,λx hx=>?_⟩
    rw[hd,au] at hx;rcases hx with rfl | hx
    ·exact w1
    ·exact w2 x hx
   ·rw[p2 j (by omega),set9,dk (by omega)]
  ·rw[df (by omega),cond_false]
   refine⟨t,v,rfl,ht,λq=>⟨q,by rw[bt (by omega)];rfl,λx hx=>by rw[bt (by omega)] at hx;exact absurd hx aq⟩,λ_ _=>rfl⟩
theorem aFW(N:Nat)(v':Vector Int 9)(r:List ByteArray)(hv:∀x∈v'.toList,bN x):∀(k i:Nat) (v:Vector Int 9),i<=9->9 - i < k->(∀j,j < i->v.toList[j]? = v'.toList[j]?)->bL N k ⟨(v'.toList.drop i).map wd++r,false⟩ v (i:Int)=some (⟨r,false⟩,v')
 | 0,_,_,_,h,_=>by omega
 | k+1,i,v,hi,hk,hp=>by
  rw[bL]
  have hl:v.toList.length=9:=cy;have hl':v'.toList.length=9:=cy;by_cases c:i < 9
  ·have hd:v'.toList.drop i=v'.toList[i] :: v'.toList.drop (i+1):=bj (by omega)
   rw[dt (by omega),cond_true,hd,show aW N ⟨(v'.toList[i] :: v'.toList.drop (i+1)).map wd++r,false⟩=some (⟨(v'.toList.drop (i+1)).map wd++r,false⟩,v'.toList[i]) from(rI N).hit (v'.toList[i]) ((v'.toList.drop (i+1)).map wd++r) (hv _ (List.getElem_mem _)),aa,inR9 c,aa,gm,af (by omega),aa,mQ (by omega)]
   refine aFW N v' r hv k (i+1) _ (by omega) (by omega) λj hj=>?_;rw[set9]
   by_cases d:j=i
   ·subst d;rw[dq (by omega),af (by omega)]
   ·rw[dk (by omega),hp j (by omega)]
  ·rw[df (by omega),cond_false,bt (by omega)]
   have:v=v':=by
    apply Vector.toList_inj.1;refine List.ext_getElem? λj=>?_;rcases ca j 9 with q | q
    ·exact hp j (by omega)
    ·rw[cb (by omega),cb (by omega)]
   rw[this];rfl
theorem aFf(N:Nat)(hN:100 < N):Tk afL afV (bX N) where
 tot t ht:=by
  obtain⟨t0,v,e0,s0,f0,_⟩:=aFd N N 0 t (av 9 0) (by omega) (by omega) ht;obtain⟨t1,a1,e1,s1,f1⟩:=(rI N).tot t0 s0;obtain⟨t2,a2,e2,s2,f2⟩:=(rI N).tot t1 s1;obtain⟨t3,a3,e3,s3,f3⟩:=(rI N).tot t2 s2;unfold bX;rw[show bL N N t (av 9 0) 0=_ from e0,aa,e1,aa,e2,aa,e3,aa]
  refine⟨_,_,rfl,s3,λq3=>?_⟩
  obtain⟨q2,g3,v3⟩:=f3 q3;obtain⟨q1,g2,v2⟩:=f2 q2;obtain⟨q0,g1,v1⟩:=f1 q1;obtain⟨qz,g0,v0⟩:=f0 q0;rw[cm] at g0 v0;refine⟨qz,?_,v0,v1,v2,v3⟩
  rw[g0,g1,g2,g3]
  simp only[afL,cf,bv,db,ax,bu,cg]
 hit a r h:=by
  obtain⟨v,⟨x,y,z⟩⟩:=a;have e0:=aFW N v (wd x :: wd y :: wd z :: r) h.1 N 0 (av 9 0) (by omega) (by omega) (λj hj=>by omega)
  rw[cm] at e0;unfold bX afL;rw[cf,ax,show bL N N ⟨v.toList.map wd++(([x,y,z]:List Int).map wd++r),false⟩ (av 9 0) 0=_ from e0,aa,show aW N ⟨wd x :: wd y :: wd z :: r,false⟩=some (⟨wd y :: wd z :: r,false⟩,x) from(rI N).hit x _ h.2.1,aa,show aW N ⟨wd y :: wd z :: r,false⟩=some (⟨wd z :: r,false⟩,y) from(rI N).hit y _ h.2.2.1,aa,show aW N ⟨wd z :: r,false⟩=some (⟨r,false⟩,z) from(rI N).hit z _ h.2.2.2,aa]
theorem aDx(c:UInt8):∀(ws:List (List UInt8)),∀w∈ws,w.length<=(jnL c ws).length
 | [],_,h=>absurd h aq
 | [v],w,h=>by rw[List.mem_singleton] at h;rw[h];exact Nat.le_refl _
 | v :: u :: ws,w,h=>by
  rw[aBJ c v (cp _ _),List.length_append,aj]
  rw[au] at h;rcases h with rfl | h
  ·omega
  ·have:=aDx c (u :: ws) w h;omega
theorem wZ : ∀ws:List ByteArray,(ws.map (·.data.toList)).map txt=ws
 | []=>rfl
 | w :: ws=>by
  rw[bv,bv,wZ ws]
  exact congrArg (· :: ws) (sN rfl)
theorem cutP(N:Nat){s:ByteArray}(hs:s.size<=1600):∃ws:List ByteArray,aN N s (ByteArray.mk #[32])=some ws/\ws≠[]/\s=txt (jnL 32 (ws.map (·.data.toList)))/\∀w∈ws,w.size<=1600:=by
 have hd:=Lib.splitB_data (ByteArray.mk #[32]) 0 (Lib.countB s (ByteArray.mk #[32])) s;have hj:=aCT 32 (Lib.countB s (ByteArray.mk #[32])) s.data.toList;have hd':(Lib.splitB (ByteArray.mk #[32]) 0 (Lib.countB s (ByteArray.mk #[32])) s).map (·.data.toList)=Lib.splitK [32] 0 (Lib.countB s (ByteArray.mk #[32])) s.data.toList:=hd;refine⟨Lib.splitB (ByteArray.mk #[32]) 0 (Lib.countB s (ByteArray.mk #[32])) s,?_,?_,?_,?_⟩
 ·unfold aN oM;rw[decide_eq_true (show s.size < 4294967281 by omega)]
  rfl
 ·intro e;rw[e] at hd';exact aBU 32 _ _ hd'.symm
 ·rw[hd',hj]
  exact sN rfl
 ·intro w hw;have h1:w.data.toList∈Lib.splitK [32] 0 (Lib.countB s (ByteArray.mk #[32])) s.data.toList:=by
   rw[<- hd'];exact List.mem_map.2 ⟨w,hw,rfl⟩
  have:=aDx 32 _ _ h1;rw[hj] at this;rw[fZ,fZ] at this;omega
theorem cutH(N:Nat){ws:List (List UInt8)}(hne:ws≠[])(h32:∀w∈ws,(32:UInt8)∉w)(hl:(jnL 32 ws).length<=1600):aN N (txt (jnL 32 ws)) (ByteArray.mk #[32])=some (ws.map txt):=by
 obtain⟨us,h1,h2,h3,_⟩:=cutP N (s:=txt (jnL 32 ws)) (by rw[iA];exact hl)
 have hd:(Lib.splitB (ByteArray.mk #[32]) 0 (Lib.countB (txt (jnL 32 ws)) (ByteArray.mk #[32])) (txt (jnL 32 ws))).map (·.data.toList)=Lib.splitK [32] 0 (Lib.count (jnL 32 ws) [32]) (jnL 32 ws):=Lib.splitB_data (ByteArray.mk #[32]) 0 _ _;rw[aCG 32 ws hne h32] at hd;have hs:aN N (txt (jnL 32 ws)) (ByteArray.mk #[32])=some (Lib.splitB (ByteArray.mk #[32]) 0 (Lib.countB (txt (jnL 32 ws)) (ByteArray.mk #[32])) (txt (jnL 32 ws))):=by
  unfold aN oM;rw[decide_eq_true (show(txt (jnL 32 ws)).size < 4294967281 by rw[iA];omega)]
  rfl
 rw[hs,<- wZ (Lib.splitB _ _ _ _),hd]
def aAI(w:ByteArray):List ByteArray->Nat->Int->Int
 | [],_,c=>c
 | e :: es,i,c=>aAI w es (i+1) (if e=w/\e≠ByteArray.mk #[] then(i:Int) else c)
theorem aBe(N:Nat)(l:List ByteArray)(hl:l.length<=100)(r3:aF×ByteArray):∀(k i:Nat) (c:Int),i<=l.length->l.length - i < k->aJ N l r3 k c (i:Int)=some (aAI r3.2 (l.drop i) i c)
 | 0,_,_,_,h=>by omega
 | k+1,i,c,hi,hk=>by
  rw[aJ]
  by_cases d:i < l.length
  ·rw[dt (by omega),aM,cond_true,mJ d,aa,aM,aM,xY,xY,bj d,aAI]
   by_cases g:l[i]=r3.2/\l[i]≠ByteArray.mk #[]
   ·rw[if_pos g,decide_eq_true g.1,decide_eq_false g.2]
    show Option.bind (some (i:Int)) _=_;rw[aa,mQ (by omega),aBe N l hl r3 k (i+1) _ (by omega) (by omega)]
   ·rw[if_neg g,show(cond (decide (l[i]=r3.2)) (!(decide (l[i]=ByteArray.mk #[]))) false)=false by
     by_cases g1:l[i]=r3.2
     ·have g2:l[i]=ByteArray.mk #[]:=Decidable.byContradiction λq=>g ⟨g1,q⟩
      rw[decide_eq_true g1,decide_eq_true g2];rfl
     ·rw[decide_eq_false g1];rfl,cond_false,aa,mQ (by omega),aBe N l hl r3 k (i+1) _ (by omega) (by omega)]
  ·rw[df (by omega),aM,cond_false,bt (by omega)]
   rfl
theorem vS(w:ByteArray):∀(l:List ByteArray) (i:Nat) (c:Int),aAI w l i c=c\/∃j,aAI w l i c=((i+j:Nat):Int)/\l[j]? = some w/\w≠ByteArray.mk #[]
 | [],_,_ => .inl rfl
 | e :: es,i,c=>by
  rw[aAI]
  rcases vS w es (i+1) (if e=w/\e≠ByteArray.mk #[] then(i:Int) else c) with h | ⟨j,h1,h2,h3⟩
  ·by_cases g:e=w/\e≠ByteArray.mk #[]
   ·rw[if_pos g] at h ⊢;exact .inr ⟨0,by rw[h];rfl,by rw[g.1];rfl,by rw[<- g.1];exact g.2⟩
   ·rw[if_neg g] at h ⊢;exact .inl h
  ·exact .inr ⟨j+1,by rw[h1];congr 1;omega,h2,h3⟩
theorem pickT(N:Nat)(hN:100 < N)(t:aF)(w:ByteArray):(aJ N bZ (t,w) N 0 0=some 0)\/∃k:Nat,1<=k/\k<=10/\aJ N bZ (t,w) N 0 0=some (k:Int)/\w=txt (nm k):=by
 have hp:=aBe N bZ (by decide) (t,w) N 0 0 (by omega) (show 11 - 0 < N by omega)
 rw[cm] at hp;rw[show aJ N bZ (t,w) N 0 0=_ from hp]
 rcases vS w bZ 0 0 with h | ⟨j,h1,h2,h3⟩
 ·rw[h];exact .inl rfl
 ·rw[h1,Nat.zero_add]
  have hj:j < 11:=by
   rcases ca j 11 with q | q
   ·exact q
   ·rw[cb (show bZ.length<=j from q)] at h2;cases h2
  rcases(show j=0\/j=1\/j=2\/j=3\/j=4\/j=5\/j=6\/j=7\/j=8\/j=9\/j=10 by omega) with rfl | rfl | rfl | rfl | rfl | rfl | rfl | rfl | rfl | rfl | rfl
  ·exact absurd (Option.some.inj h2).symm h3
  all_goals exact .inr ⟨_,by decide,by decide,rfl,(Option.some.inj h2).symm⟩
theorem iL(N:Nat)(hN:100 < N)(t:aF){k:Nat}(h1:1<=k)(h2:k<=10):aJ N bZ (t,txt (nm k)) N 0 0=some (k:Int):=by
 have hp:=aBe N bZ (by decide) (t,txt (nm k)) N 0 0 (by omega) (show 11 - 0 < N by omega)
 rw[cm] at hp;rw[show aJ N bZ (t,txt (nm k)) N 0 0=_ from hp]
 show some (aAI (txt (nm k)) bZ 0 0)=some (k:Int)
 clear hp;rcases oB h1 h2 with rfl | rfl | rfl | rfl | rfl | rfl | rfl | rfl | rfl | rfl <;> decide +kernel
def zOp : aD:=(aD.mk 0 0 [] (aL.mk 0 0 0 0 (aK.mk (av 9 0) (bG.mk 0 0 0))) 0 (aP.mk 0 0 0 0 0 0 (aR.mk (aA.mk 0 0 0) (aA.mk 0 0 0) (aA.mk 0 0 0) (aA.mk 0 0 0) 0 0) false) 0 0 0 0 0)
def jQ(o:aD):Nat->aD
 | 1=>aD.mk 1 o.gS o.gL (aL.mk 0 0 0 0 (aK.mk (av 9 0) (bG.mk 0 0 0))) 0 (aP.mk 0 0 0 0 0 0 (aR.mk (aA.mk 0 0 0) (aA.mk 0 0 0) (aA.mk 0 0 0) (aA.mk 0 0 0) 0 0) false) 0 0 0 0 0
 | 2=>aD.mk 2 o.gS [] (aL.mk 0 0 0 0 (aK.mk (av 9 0) (bG.mk 0 0 0))) 0 (aP.mk 0 0 0 0 0 0 (aR.mk (aA.mk 0 0 0) (aA.mk 0 0 0) (aA.mk 0 0 0) (aA.mk 0 0 0) 0 0) false) 0 0 0 0 0
 | 3=>aD.mk 3 0 [] o.gC 0 (aP.mk 0 0 0 0 0 0 (aR.mk (aA.mk 0 0 0) (aA.mk 0 0 0) (aA.mk 0 0 0) (aA.mk 0 0 0) 0 0) false) 0 0 0 0 0
 | 4=>aD.mk 4 0 [] (aL.mk o.gC.gA0 o.gC.gV o.gC.gR o.gC.gN zAf) 0 (aP.mk 0 0 0 0 0 0 (aR.mk (aA.mk 0 0 0) (aA.mk 0 0 0) (aA.mk 0 0 0) (aA.mk 0 0 0) 0 0) false) 0 0 0 0 0
 | 5=>aD.mk 5 0 [] (aL.mk 0 0 0 0 (aK.mk (av 9 0) (bG.mk 0 0 0))) o.gF o.gI o.gA4 0 0 0 0
 | 6=>aD.mk 6 0 [] (aL.mk 0 0 0 0 (aK.mk (av 9 0) (bG.mk 0 0 0))) o.gF (aP.mk 0 0 0 0 0 0 (aR.mk (aA.mk 0 0 0) (aA.mk 0 0 0) (aA.mk 0 0 0) (aA.mk 0 0 0) 0 0) false) 0 0 0 0 0
 | 7=>aD.mk 7 0 [] (aL.mk 0 0 0 0 (aK.mk (av 9 0) (bG.mk 0 0 0))) o.gF (aP.mk 0 0 0 0 0 0 (aR.mk (aA.mk 0 0 0) (aA.mk 0 0 0) (aA.mk 0 0 0) (aA.mk 0 0 0) 0 0) false) 0 o.gU o.gA1 o.gA3 0
 | 8=>aD.mk 8 0 [] (aL.mk 0 0 0 0 (aK.mk (av 9 0) (bG.mk 0 0 0))) o.gF (aP.mk 0 0 0 0 0 0 (aR.mk (aA.mk 0 0 0) (aA.mk 0 0 0) (aA.mk 0 0 0) (aA.mk 0 0 0) 0 0) false) 0 o.gU 0 0 0
 | 9=>aD.mk 9 0 [] (aL.mk 0 0 0 0 (aK.mk (av 9 0) (bG.mk 0 0 0))) o.gF (aP.mk 0 0 0 0 0 0 (aR.mk (aA.mk 0 0 0) (aA.mk 0 0 0) (aA.mk 0 0 0) (aA.mk 0 0 0) 0 0) false) 0 0 0 0 0
 | 10=>aD.mk 10 0 [] (aL.mk 0 0 0 0 (aK.mk (av 9 0) (bG.mk 0 0 0))) 0 (aP.mk 0 0 0 0 0 0 (aR.mk (aA.mk 0 0 0) (aA.mk 0 0 0) (aA.mk 0 0 0) (aA.mk 0 0 0) 0 0) false) 0 0 0 0 o.gA8
 | _=>zOp
def VO(o:aD):Nat->Prop
 | 1=>rg 0 4294967295 o.gS/\fF o.gL/\o.gL.length<=65535
 | 2=>rg 0 4294967295 o.gS
 | 3=>inV o.gC/\afV o.gC.gT
 | 4=>inV o.gC
 | 5=>rg 0 255 o.gF/\VwV o.gI/\rg 0 65535 o.gA4
 | 6=>rg 0 255 o.gF
 | 7=>rg 0 255 o.gF/\rg 0 255 o.gU/\rg 0 4294967295 o.gA1/\rg 0 4294967295 o.gA3
 | 8=>rg 0 255 o.gF/\rg 0 255 o.gU
 | 9=>rg 0 255 o.gF
 | 10=>rg 0 4294967295 o.gA8
 | _=>False
def gO(o:aD):Nat->List Int
 | 1=>[o.gS]
 | 2=>[o.gS]
 | 3=>inL o.gC++afL o.gC.gT
 | 4=>inL o.gC
 | 5=>[o.gF]++(vwL o.gI++[o.gA4])
 | 6=>[o.gF]
 | 7=>[o.gF,o.gU,o.gA1,o.gA3]
 | 8=>[o.gF,o.gU]
 | 9=>[o.gF]
 | 10=>[o.gA8]
 | _=>[]
def hO(o:aD):Nat->List ByteArray
 | 1=>[iO o.gL]
 | _=>[]
def cK(o:aD)(k:Nat):List ByteArray:=(gO o k).map wd++hO o k
def PR(k:Nat)(ws:List ByteArray)(r:aD×Int):Prop:=r=(zOp,5)\/(r.2=0/\r.1=jQ r.1 k/\VO r.1 k/\ws=cK r.1 k)
theorem u32i{x:Int}(h:rg 0 4294967295 x):U32 x=x:=by
 have h1:=h.1;have h2:=h.2;rw[show U32 x=x % 4294967296 from IntKind.wrap_u32 x]
 omega
theorem fP(N:Nat)(w:ByteArray)(ws:List ByteArray)(b:Bool):bF N ⟨w :: ws,b⟩=some (⟨ws,b⟩,w):=by
 unfold bF;rw[aM,show(((w :: ws:List ByteArray).length:Int)==0)=false by rw[beq_eq_false_iff_ne];simp;omega,cond_false,show idx (w :: ws) 0=some w from rfl,aa,show qH (w :: ws) 1 (((w :: ws:List ByteArray).length:Nat):Int)=some ws by
  rw[rV (by decide) (by simp;omega) (ga _)];simp,aa]
theorem wordN(N:Nat)(b:Bool):bF N ⟨[],b⟩=some (⟨[],true⟩,ByteArray.mk #[]):=rfl
theorem kN(p:aD×aF):(cG ((p.2.gl.length:Int)) λx35=>cG (cond p.2.gA9 true (decide (x35 > 0))) λx36=>cond x36 (some (((aD.mk 0 0 [] (aL.mk 0 0 0 0 (aK.mk (av 9 0) (bG.mk 0 0 0))) 0 (aP.mk 0 0 0 0 0 0 (aR.mk (aA.mk 0 0 0) (aA.mk 0 0 0) (aA.mk 0 0 0) (aA.mk 0 0 0) 0 0) false) 0 0 0 0 0),(5:Int)))) (some ((p.1,(0:Int)))))=if p.2.gA9=false/\p.2.gl=[] then some (p.1,(0:Int)) else some (zOp,5):=by
 rw[aM,aM]
 obtain⟨o,⟨l,b⟩⟩:=p;cases b with
 | true=>rw[if_neg (λq=>absurd q.1 (show ¬true=false by decide))];rfl
 | false=>
  cases l with
  | nil=>rw[if_pos ⟨rfl,rfl⟩];rfl
  | cons w ws=>rw[if_neg (λq=>absurd q.2 (cp _ _)),dt (show((w :: ws:List ByteArray).length:Int) > 0 by rw[aj];omega)];rfl
theorem psT2(N:Nat)(hN:2000 < N){s:ByteArray}(hs:s.size<=1600){ws:List ByteArray}(hw:∀w∈ws,w.size<=1600)(hc:aN N s (ByteArray.mk #[32])=some (txt (nm 2) :: ws)):∃r,aG N s=some r/\PR 2 ws r:=by
 obtain⟨t0,a0,e0,s0,f0⟩:=(dN N).tot ⟨ws,false⟩ hw;unfold aG;rw[aM,df (show ¬(s.size:Int) > 262144 by omega),cond_false,hc,aa,fP,aa,cS,aa,show aJ N bZ (⟨ws,false⟩,txt (nm 2)) N 0 0=some 2 from iL N (by omega) _ (k:=2) (by decide) (by decide),aa,show((2:Int)==1)=false from rfl,cond_false,show((2:Int)==2)=true from rfl,cond_true,show aC N ⟨ws,false⟩=_ from e0,aa,aa,kN]
 by_cases c:t0.gA9=false/\t0.gl=[]
 ·rw[if_pos c]
  have q0:=c.1;obtain⟨qz,g0,v0⟩:=f0 q0;refine⟨_,rfl,.inr ⟨rfl,rfl,v0,?_⟩⟩
  rw[show ws=_ from g0,c.2]
  simp[cK,gO,hO,inL]
 ·rw[if_neg c]
  exact⟨_,rfl,.inl rfl⟩
theorem psH2(N:Nat)(hN:2000 < N){s:ByteArray}(hs:s.size<=1600){o:aD}(h:VO o 2)(hc:aN N s (ByteArray.mk #[32])=some (txt (nm 2) :: cK o 2)):aG N s=some (jQ o 2,0):=by
 have hl:cK o 2=([o.gS]:List Int).map wd++[]:=by simp[cK,gO,hO,inL]
 rw[hl] at hc;unfold aG;rw[aM,df (show ¬(s.size:Int) > 262144 by omega),cond_false,hc,aa,fP,aa,cS,aa,show aJ N bZ (⟨([o.gS]:List Int).map wd++[],false⟩,txt (nm 2)) N 0 0=some 2 from iL N (by omega) _ (k:=2) (by decide) (by decide),aa,show((2:Int)==1)=false from rfl,cond_false,show((2:Int)==2)=true from rfl,cond_true,show aC N ⟨([o.gS]:List Int).map wd++[],false⟩=some (⟨[],false⟩,o.gS) from(dN N).hit o.gS ([]) h,aa,aa,kN,if_pos ⟨rfl,rfl⟩]
 try rfl
theorem psT3(N:Nat)(hN:2000 < N){s:ByteArray}(hs:s.size<=1600){ws:List ByteArray}(hw:∀w∈ws,w.size<=1600)(hc:aN N s (ByteArray.mk #[32])=some (txt (nm 3) :: ws)):∃r,aG N s=some r/\PR 3 ws r:=by
 obtain⟨t0,a0,e0,s0,f0⟩:=(xF N).tot ⟨ws,false⟩ hw;obtain⟨t1,a1,e1,s1,f1⟩:=(aFf N (by omega)).tot t0 s0;unfold aG;rw[aM,df (show ¬(s.size:Int) > 262144 by omega),cond_false,hc,aa,fP,aa,cS,aa,show aJ N bZ (⟨ws,false⟩,txt (nm 3)) N 0 0=some 3 from iL N (by omega) _ (k:=3) (by decide) (by decide),aa,show((3:Int)==1)=false from rfl,cond_false,show((3:Int)==2)=false from rfl,cond_false,show((3:Int)==3)=true from rfl,cond_true,show bK N ⟨ws,false⟩=_ from e0,aa,show bX N t0=_ from e1,aa,aa,kN]
 by_cases c:t1.gA9=false/\t1.gl=[]
 ·rw[if_pos c]
  have q1:=c.1;obtain⟨q0,g1,v1⟩:=f1 q1;obtain⟨qz,g0,v0⟩:=f0 q0;refine⟨_,rfl,.inr ⟨rfl,rfl,⟨v0.1,v1⟩,?_⟩⟩
  rw[show ws=_ from g0,g1,c.2]
  simp only[cK,gO,hO,inL,cf,bv,db,ax,bu,cg]
 ·rw[if_neg c]
  exact⟨_,rfl,.inl rfl⟩
theorem psH3(N:Nat)(hN:2000 < N){s:ByteArray}(hs:s.size<=1600){o:aD}(h:VO o 3)(hc:aN N s (ByteArray.mk #[32])=some (txt (nm 3) :: cK o 3)):aG N s=some (jQ o 3,0):=by
 have hl:cK o 3=(inL (aL.mk o.gC.gA0 o.gC.gV o.gC.gR o.gC.gN zAf):List Int).map wd++((afL o.gC.gT:List Int).map wd++[]):=by simp[cK,gO,hO,inL]
 rw[hl] at hc;unfold aG;rw[aM,df (show ¬(s.size:Int) > 262144 by omega),cond_false,hc,aa,fP,aa,cS,aa,show aJ N bZ (⟨(inL (aL.mk o.gC.gA0 o.gC.gV o.gC.gR o.gC.gN zAf):List Int).map wd++((afL o.gC.gT:List Int).map wd++[]),false⟩,txt (nm 3)) N 0 0=some 3 from iL N (by omega) _ (k:=3) (by decide) (by decide),aa,show((3:Int)==1)=false from rfl,cond_false,show((3:Int)==2)=false from rfl,cond_false,show((3:Int)==3)=true from rfl,cond_true,show bK N ⟨(inL (aL.mk o.gC.gA0 o.gC.gV o.gC.gR o.gC.gN zAf):List Int).map wd++((afL o.gC.gT:List Int).map wd++[]),false⟩=some (⟨(afL o.gC.gT:List Int).map wd++[],false⟩,(aL.mk o.gC.gA0 o.gC.gV o.gC.gR o.gC.gN zAf)) from(xF N).hit (aL.mk o.gC.gA0 o.gC.gV o.gC.gR o.gC.gN zAf) ((afL o.gC.gT:List Int).map wd++[]) ⟨h.1,rfl⟩,aa,show bX N ⟨(afL o.gC.gT:List Int).map wd++[],false⟩=some (⟨[],false⟩,o.gC.gT) from(aFf N (by omega)).hit o.gC.gT ([]) h.2,aa,aa,kN,if_pos ⟨rfl,rfl⟩]
 try rfl
theorem psT4(N:Nat)(hN:2000 < N){s:ByteArray}(hs:s.size<=1600){ws:List ByteArray}(hw:∀w∈ws,w.size<=1600)(hc:aN N s (ByteArray.mk #[32])=some (txt (nm 4) :: ws)):∃r,aG N s=some r/\PR 4 ws r:=by
 obtain⟨t0,a0,e0,s0,f0⟩:=(xF N).tot ⟨ws,false⟩ hw;unfold aG;rw[aM,df (show ¬(s.size:Int) > 262144 by omega),cond_false,hc,aa,fP,aa,cS,aa,show aJ N bZ (⟨ws,false⟩,txt (nm 4)) N 0 0=some 4 from iL N (by omega) _ (k:=4) (by decide) (by decide),aa,show((4:Int)==1)=false from rfl,cond_false,show((4:Int)==2)=false from rfl,cond_false,show((4:Int)==3)=false from rfl,cond_false,show((4:Int)==4)=true from rfl,cond_true,show bK N ⟨ws,false⟩=_ from e0,aa,aa,kN]
 by_cases c:t0.gA9=false/\t0.gl=[]
 ·rw[if_pos c]
  have q0:=c.1;obtain⟨qz,g0,v0⟩:=f0 q0;obtain⟨b1,b2,b3,b4,b5⟩:=a0;obtain rfl:b5=zAf:=v0.2;refine⟨_,rfl,.inr ⟨rfl,rfl,v0.1,?_⟩⟩
  rw[show ws=_ from g0,c.2]
  simp[cK,gO,hO,inL]
 ·rw[if_neg c]
  exact⟨_,rfl,.inl rfl⟩
theorem psH4(N:Nat)(hN:2000 < N){s:ByteArray}(hs:s.size<=1600){o:aD}(h:VO o 4)(hc:aN N s (ByteArray.mk #[32])=some (txt (nm 4) :: cK o 4)):aG N s=some (jQ o 4,0):=by
 have hl:cK o 4=(inL (aL.mk o.gC.gA0 o.gC.gV o.gC.gR o.gC.gN zAf):List Int).map wd++[]:=by simp[cK,gO,hO,inL]
 rw[hl] at hc;unfold aG;rw[aM,df (show ¬(s.size:Int) > 262144 by omega),cond_false,hc,aa,fP,aa,cS,aa,show aJ N bZ (⟨(inL (aL.mk o.gC.gA0 o.gC.gV o.gC.gR o.gC.gN zAf):List Int).map wd++[],false⟩,txt (nm 4)) N 0 0=some 4 from iL N (by omega) _ (k:=4) (by decide) (by decide),aa,show((4:Int)==1)=false from rfl,cond_false,show((4:Int)==2)=false from rfl,cond_false,show((4:Int)==3)=false from rfl,cond_false,show((4:Int)==4)=true from rfl,cond_true,show bK N ⟨(inL (aL.mk o.gC.gA0 o.gC.gV o.gC.gR o.gC.gN zAf):List Int).map wd++[],false⟩=some (⟨[],false⟩,(aL.mk o.gC.gA0 o.gC.gV o.gC.gR o.gC.gN zAf)) from(xF N).hit (aL.mk o.gC.gA0 o.gC.gV o.gC.gR o.gC.gN zAf) ([]) ⟨h,rfl⟩,aa,aa,kN,if_pos ⟨rfl,rfl⟩]
 try rfl
theorem psT5(N:Nat)(hN:2000 < N){s:ByteArray}(hs:s.size<=1600){ws:List ByteArray}(hw:∀w∈ws,w.size<=1600)(hc:aN N s (ByteArray.mk #[32])=some (txt (nm 5) :: ws)):∃r,aG N s=some r/\PR 5 ws r:=by
 obtain⟨t0,a0,e0,s0,f0⟩:=(dV N).tot ⟨ws,false⟩ hw;obtain⟨t1,a1,e1,s1,f1⟩:=(aDz N).tot t0 s0;obtain⟨t2,a2,e2,s2,f2⟩:=(qT N (lo:=0) (hi:=65535) (by decide) (by decide)).tot t1 s1;unfold aG;rw[aM,df (show ¬(s.size:Int) > 262144 by omega),cond_false,hc,aa,fP,aa,cS,aa,show aJ N bZ (⟨ws,false⟩,txt (nm 5)) N 0 0=some 5 from iL N (by omega) _ (k:=5) (by decide) (by decide),aa,show((5:Int)==1)=false from rfl,cond_false,show((5:Int)==2)=false from rfl,cond_false,show((5:Int)==3)=false from rfl,cond_false,show((5:Int)==4)=false from rfl,cond_false,show((5:Int)==5)=true from rfl,cond_true,show aE N ⟨ws,false⟩=_ from e0,aa,show bY N t0=_ from e1,aa,show aI N 0 65535 t1=_ from e2,aa,aa,kN]
 by_cases c:t2.gA9=false/\t2.gl=[]
 ·rw[if_pos c]
  have q2:=c.1;obtain⟨q1,g2,v2⟩:=f2 q2;obtain⟨q0,g1,v1⟩:=f1 q1;obtain⟨qz,g0,v0⟩:=f0 q0;refine⟨_,rfl,.inr ⟨rfl,rfl,⟨v0,v1,v2⟩,?_⟩⟩
  rw[show ws=_ from g0,g1,g2,c.2]
  simp only[cK,gO,hO,inL,cf,bv,db,ax,bu,cg]
 ·rw[if_neg c]
  exact⟨_,rfl,.inl rfl⟩
theorem psH5(N:Nat)(hN:2000 < N){s:ByteArray}(hs:s.size<=1600){o:aD}(h:VO o 5)(hc:aN N s (ByteArray.mk #[32])=some (txt (nm 5) :: cK o 5)):aG N s=some (jQ o 5,0):=by
 have hl:cK o 5=([o.gF]:List Int).map wd++((vwL o.gI:List Int).map wd++(([o.gA4]:List Int).map wd++[])):=by simp[cK,gO,hO,inL]
 rw[hl] at hc;unfold aG;rw[aM,df (show ¬(s.size:Int) > 262144 by omega),cond_false,hc,aa,fP,aa,cS,aa,show aJ N bZ (⟨([o.gF]:List Int).map wd++((vwL o.gI:List Int).map wd++(([o.gA4]:List Int).map wd++[])),false⟩,txt (nm 5)) N 0 0=some 5 from iL N (by omega) _ (k:=5) (by decide) (by decide),aa,show((5:Int)==1)=false from rfl,cond_false,show((5:Int)==2)=false from rfl,cond_false,show((5:Int)==3)=false from rfl,cond_false,show((5:Int)==4)=false from rfl,cond_false,show((5:Int)==5)=true from rfl,cond_true,show aE N ⟨([o.gF]:List Int).map wd++((vwL o.gI:List Int).map wd++(([o.gA4]:List Int).map wd++[])),false⟩=some (⟨(vwL o.gI:List Int).map wd++(([o.gA4]:List Int).map wd++[]),false⟩,o.gF) from(dV N).hit o.gF ((vwL o.gI:List Int).map wd++(([o.gA4]:List Int).map wd++[])) h.1,aa,show bY N ⟨(vwL o.gI:List Int).map wd++(([o.gA4]:List Int).map wd++[]),false⟩=some (⟨([o.gA4]:List Int).map wd++[],false⟩,o.gI) from(aDz N).hit o.gI (([o.gA4]:List Int).map wd++[]) h.2.1,aa,show aI N 0 65535 ⟨([o.gA4]:List Int).map wd++[],false⟩=some (⟨[],false⟩,o.gA4) from(qT N (lo:=0) (hi:=65535) (by decide) (by decide)).hit o.gA4 ([]) h.2.2,aa,aa,kN,if_pos ⟨rfl,rfl⟩]
 try rfl
theorem psT6(N:Nat)(hN:2000 < N){s:ByteArray}(hs:s.size<=1600){ws:List ByteArray}(hw:∀w∈ws,w.size<=1600)(hc:aN N s (ByteArray.mk #[32])=some (txt (nm 6) :: ws)):∃r,aG N s=some r/\PR 6 ws r:=by
 obtain⟨t0,a0,e0,s0,f0⟩:=(dV N).tot ⟨ws,false⟩ hw;unfold aG;rw[aM,df (show ¬(s.size:Int) > 262144 by omega),cond_false,hc,aa,fP,aa,cS,aa,show aJ N bZ (⟨ws,false⟩,txt (nm 6)) N 0 0=some 6 from iL N (by omega) _ (k:=6) (by decide) (by decide),aa,show((6:Int)==1)=false from rfl,cond_false,show((6:Int)==2)=false from rfl,cond_false,show((6:Int)==3)=false from rfl,cond_false,show((6:Int)==4)=false from rfl,cond_false,show((6:Int)==5)=false from rfl,cond_false,show((6:Int)==6)=true from rfl,cond_true,aa,cond_true,show aE N ⟨ws,false⟩=_ from e0,aa,aa,kN]
 by_cases c:t0.gA9=false/\t0.gl=[]
 ·rw[if_pos c]
  have q0:=c.1;obtain⟨qz,g0,v0⟩:=f0 q0;refine⟨_,rfl,.inr ⟨rfl,rfl,v0,?_⟩⟩
  rw[show ws=_ from g0,c.2]
  simp[cK,gO,hO,inL]
 ·rw[if_neg c]
  exact⟨_,rfl,.inl rfl⟩
theorem psH6(N:Nat)(hN:2000 < N){s:ByteArray}(hs:s.size<=1600){o:aD}(h:VO o 6)(hc:aN N s (ByteArray.mk #[32])=some (txt (nm 6) :: cK o 6)):aG N s=some (jQ o 6,0):=by
 have hl:cK o 6=([o.gF]:List Int).map wd++[]:=by simp[cK,gO,hO,inL]
 rw[hl] at hc;unfold aG;rw[aM,df (show ¬(s.size:Int) > 262144 by omega),cond_false,hc,aa,fP,aa,cS,aa,show aJ N bZ (⟨([o.gF]:List Int).map wd++[],false⟩,txt (nm 6)) N 0 0=some 6 from iL N (by omega) _ (k:=6) (by decide) (by decide),aa,show((6:Int)==1)=false from rfl,cond_false,show((6:Int)==2)=false from rfl,cond_false,show((6:Int)==3)=false from rfl,cond_false,show((6:Int)==4)=false from rfl,cond_false,show((6:Int)==5)=false from rfl,cond_false,show((6:Int)==6)=true from rfl,cond_true,aa,cond_true,show aE N ⟨([o.gF]:List Int).map wd++[],false⟩=some (⟨[],false⟩,o.gF) from(dV N).hit o.gF ([]) h,aa,aa,kN,if_pos ⟨rfl,rfl⟩]
 try rfl
theorem psT7(N:Nat)(hN:2000 < N){s:ByteArray}(hs:s.size<=1600){ws:List ByteArray}(hw:∀w∈ws,w.size<=1600)(hc:aN N s (ByteArray.mk #[32])=some (txt (nm 7) :: ws)):∃r,aG N s=some r/\PR 7 ws r:=by
 obtain⟨t0,a0,e0,s0,f0⟩:=(dV N).tot ⟨ws,false⟩ hw;obtain⟨t1,a1,e1,s1,f1⟩:=(dV N).tot t0 s0;obtain⟨t2,a2,e2,s2,f2⟩:=(dN N).tot t1 s1;obtain⟨t3,a3,e3,s3,f3⟩:=(dN N).tot t2 s2;unfold aG;rw[aM,df (show ¬(s.size:Int) > 262144 by omega),cond_false,hc,aa,fP,aa,cS,aa,show aJ N bZ (⟨ws,false⟩,txt (nm 7)) N 0 0=some 7 from iL N (by omega) _ (k:=7) (by decide) (by decide),aa,show((7:Int)==1)=false from rfl,cond_false,show((7:Int)==2)=false from rfl,cond_false,show((7:Int)==3)=false from rfl,cond_false,show((7:Int)==4)=false from rfl,cond_false,show((7:Int)==5)=false from rfl,cond_false,show((7:Int)==6)=false from rfl,cond_false,show((7:Int)==9)=false from rfl,aa,cond_false,show((7:Int)==7)=true from rfl,cond_true,show aE N ⟨ws,false⟩=_ from e0,aa,show aE N t0=_ from e1,aa,show aC N t1=_ from e2,aa,show aC N t2=_ from e3,aa,aa,kN]
 by_cases c:t3.gA9=false/\t3.gl=[]
 ·rw[if_pos c]
  have q3:=c.1;obtain⟨q2,g3,v3⟩:=f3 q3;obtain⟨q1,g2,v2⟩:=f2 q2;obtain⟨q0,g1,v1⟩:=f1 q1;obtain⟨qz,g0,v0⟩:=f0 q0;have w2:rg 0 4294967295 (U32 a2):=by rw[u32i v2];exact v2
  refine⟨_,rfl,.inr ⟨rfl,rfl,⟨v0,v1,w2,v3⟩,?_⟩⟩
  rw[show ws=_ from g0,g1,g2,g3,c.2]
  show _=List.map wd [a0,a1,U32 a2,a3]++[]
  rw[u32i v2]
  rfl
 ·rw[if_neg c]
  exact⟨_,rfl,.inl rfl⟩
theorem psH7(N:Nat)(hN:2000 < N){s:ByteArray}(hs:s.size<=1600){o:aD}(h:VO o 7)(hc:aN N s (ByteArray.mk #[32])=some (txt (nm 7) :: cK o 7)):aG N s=some (jQ o 7,0):=by
 have hl:cK o 7=([o.gF]:List Int).map wd++(([o.gU]:List Int).map wd++(([o.gA1]:List Int).map wd++(([o.gA3]:List Int).map wd++[]))):=by simp[cK,gO,hO,inL]
 rw[hl] at hc;unfold aG;rw[aM,df (show ¬(s.size:Int) > 262144 by omega),cond_false,hc,aa,fP,aa,cS,aa,show aJ N bZ (⟨([o.gF]:List Int).map wd++(([o.gU]:List Int).map wd++(([o.gA1]:List Int).map wd++(([o.gA3]:List Int).map wd++[]))),false⟩,txt (nm 7)) N 0 0=some 7 from iL N (by omega) _ (k:=7) (by decide) (by decide),aa,show((7:Int)==1)=false from rfl,cond_false,show((7:Int)==2)=false from rfl,cond_false,show((7:Int)==3)=false from rfl,cond_false,show((7:Int)==4)=false from rfl,cond_false,show((7:Int)==5)=false from rfl,cond_false,show((7:Int)==6)=false from rfl,cond_false,show((7:Int)==9)=false from rfl,aa,cond_false,show((7:Int)==7)=true from rfl,cond_true,show aE N ⟨([o.gF]:List Int).map wd++(([o.gU]:List Int).map wd++(([o.gA1]:List Int).map wd++(([o.gA3]:List Int).map wd++[]))),false⟩=some (⟨([o.gU]:List Int).map wd++(([o.gA1]:List Int).map wd++(([o.gA3]:List Int).map wd++[])),false⟩,o.gF) from(dV N).hit o.gF (([o.gU]:List Int).map wd++(([o.gA1]:List Int).map wd++(([o.gA3]:List Int).map wd++[]))) h.1,aa,show aE N ⟨([o.gU]:List Int).map wd++(([o.gA1]:List Int).map wd++(([o.gA3]:List Int).map wd++[])),false⟩=some (⟨([o.gA1]:List Int).map wd++(([o.gA3]:List Int).map wd++[]),false⟩,o.gU) from(dV N).hit o.gU (([o.gA1]:List Int).map wd++(([o.gA3]:List Int).map wd++[])) h.2.1,aa,show aC N ⟨([o.gA1]:List Int).map wd++(([o.gA3]:List Int).map wd++[]),false⟩=some (⟨([o.gA3]:List Int).map wd++[],false⟩,o.gA1) from(dN N).hit o.gA1 (([o.gA3]:List Int).map wd++[]) h.2.2.1,aa,show aC N ⟨([o.gA3]:List Int).map wd++[],false⟩=some (⟨[],false⟩,o.gA3) from(dN N).hit o.gA3 ([]) h.2.2.2,aa,aa,kN,if_pos ⟨rfl,rfl⟩,u32i h.2.2.1]
 try rfl
theorem psT8(N:Nat)(hN:2000 < N){s:ByteArray}(hs:s.size<=1600){ws:List ByteArray}(hw:∀w∈ws,w.size<=1600)(hc:aN N s (ByteArray.mk #[32])=some (txt (nm 8) :: ws)):∃r,aG N s=some r/\PR 8 ws r:=by
 obtain⟨t0,a0,e0,s0,f0⟩:=(dV N).tot ⟨ws,false⟩ hw;obtain⟨t1,a1,e1,s1,f1⟩:=(dV N).tot t0 s0;unfold aG;rw[aM,df (show ¬(s.size:Int) > 262144 by omega),cond_false,hc,aa,fP,aa,cS,aa,show aJ N bZ (⟨ws,false⟩,txt (nm 8)) N 0 0=some 8 from iL N (by omega) _ (k:=8) (by decide) (by decide),aa,show((8:Int)==1)=false from rfl,cond_false,show((8:Int)==2)=false from rfl,cond_false,show((8:Int)==3)=false from rfl,cond_false,show((8:Int)==4)=false from rfl,cond_false,show((8:Int)==5)=false from rfl,cond_false,show((8:Int)==6)=false from rfl,cond_false,show((8:Int)==9)=false from rfl,aa,cond_false,show((8:Int)==7)=false from rfl,cond_false,show((8:Int)==8)=true from rfl,cond_true,show aE N ⟨ws,false⟩=_ from e0,aa,show aE N t0=_ from e1,aa,aa,kN]
 by_cases c:t1.gA9=false/\t1.gl=[]
 ·rw[if_pos c]
  have q1:=c.1;obtain⟨q0,g1,v1⟩:=f1 q1;obtain⟨qz,g0,v0⟩:=f0 q0;refine⟨_,rfl,.inr ⟨rfl,rfl,⟨v0,v1⟩,?_⟩⟩
  rw[show ws=_ from g0,g1,c.2]
  simp[cK,gO,hO,inL]
 ·rw[if_neg c]
  exact⟨_,rfl,.inl rfl⟩
theorem psH8(N:Nat)(hN:2000 < N){s:ByteArray}(hs:s.size<=1600){o:aD}(h:VO o 8)(hc:aN N s (ByteArray.mk #[32])=some (txt (nm 8) :: cK o 8)):aG N s=some (jQ o 8,0):=by
 have hl:cK o 8=([o.gF]:List Int).map wd++(([o.gU]:List Int).map wd++[]):=by simp[cK,gO,hO,inL]
 rw[hl] at hc;unfold aG;rw[aM,df (show ¬(s.size:Int) > 262144 by omega),cond_false,hc,aa,fP,aa,cS,aa,show aJ N bZ (⟨([o.gF]:List Int).map wd++(([o.gU]:List Int).map wd++[]),false⟩,txt (nm 8)) N 0 0=some 8 from iL N (by omega) _ (k:=8) (by decide) (by decide),aa,show((8:Int)==1)=false from rfl,cond_false,show((8:Int)==2)=false from rfl,cond_false,show((8:Int)==3)=false from rfl,cond_false,show((8:Int)==4)=false from rfl,cond_false,show((8:Int)==5)=false from rfl,cond_false,show((8:Int)==6)=false from rfl,cond_false,show((8:Int)==9)=false from rfl,aa,cond_false,show((8:Int)==7)=false from rfl,cond_false,show((8:Int)==8)=true from rfl,cond_true,show aE N ⟨([o.gF]:List Int).map wd++(([o.gU]:List Int).map wd++[]),false⟩=some (⟨([o.gU]:List Int).map wd++[],false⟩,o.gF) from(dV N).hit o.gF (([o.gU]:List Int).map wd++[]) h.1,aa,show aE N ⟨([o.gU]:List Int).map wd++[],false⟩=some (⟨[],false⟩,o.gU) from(dV N).hit o.gU ([]) h.2,aa,aa,kN,if_pos ⟨rfl,rfl⟩]
 try rfl
theorem psT9(N:Nat)(hN:2000 < N){s:ByteArray}(hs:s.size<=1600){ws:List ByteArray}(hw:∀w∈ws,w.size<=1600)(hc:aN N s (ByteArray.mk #[32])=some (txt (nm 9) :: ws)):∃r,aG N s=some r/\PR 9 ws r:=by
 obtain⟨t0,a0,e0,s0,f0⟩:=(dV N).tot ⟨ws,false⟩ hw;unfold aG;rw[aM,df (show ¬(s.size:Int) > 262144 by omega),cond_false,hc,aa,fP,aa,cS,aa,show aJ N bZ (⟨ws,false⟩,txt (nm 9)) N 0 0=some 9 from iL N (by omega) _ (k:=9) (by decide) (by decide),aa,show((9:Int)==1)=false from rfl,cond_false,show((9:Int)==2)=false from rfl,cond_false,show((9:Int)==3)=false from rfl,cond_false,show((9:Int)==4)=false from rfl,cond_false,show((9:Int)==5)=false from rfl,cond_false,show((9:Int)==6)=false from rfl,cond_false,show((9:Int)==9)=true from rfl,aa,cond_true,show aE N ⟨ws,false⟩=_ from e0,aa,aa,kN]
 by_cases c:t0.gA9=false/\t0.gl=[]
 ·rw[if_pos c]
  have q0:=c.1;obtain⟨qz,g0,v0⟩:=f0 q0;refine⟨_,rfl,.inr ⟨rfl,rfl,v0,?_⟩⟩
  rw[show ws=_ from g0,c.2]
  simp[cK,gO,hO,inL]
 ·rw[if_neg c]
  exact⟨_,rfl,.inl rfl⟩
theorem psH9(N:Nat)(hN:2000 < N){s:ByteArray}(hs:s.size<=1600){o:aD}(h:VO o 9)(hc:aN N s (ByteArray.mk #[32])=some (txt (nm 9) :: cK o 9)):aG N s=some (jQ o 9,0):=by
 have hl:cK o 9=([o.gF]:List Int).map wd++[]:=by simp[cK,gO,hO,inL]
 rw[hl] at hc;unfold aG;rw[aM,df (show ¬(s.size:Int) > 262144 by omega),cond_false,hc,aa,fP,aa,cS,aa,show aJ N bZ (⟨([o.gF]:List Int).map wd++[],false⟩,txt (nm 9)) N 0 0=some 9 from iL N (by omega) _ (k:=9) (by decide) (by decide),aa,show((9:Int)==1)=false from rfl,cond_false,show((9:Int)==2)=false from rfl,cond_false,show((9:Int)==3)=false from rfl,cond_false,show((9:Int)==4)=false from rfl,cond_false,show((9:Int)==5)=false from rfl,cond_false,show((9:Int)==6)=false from rfl,cond_false,show((9:Int)==9)=true from rfl,aa,cond_true,show aE N ⟨([o.gF]:List Int).map wd++[],false⟩=some (⟨[],false⟩,o.gF) from(dV N).hit o.gF ([]) h,aa,aa,kN,if_pos ⟨rfl,rfl⟩]
 try rfl
theorem psT10(N:Nat)(hN:2000 < N){s:ByteArray}(hs:s.size<=1600){ws:List ByteArray}(hw:∀w∈ws,w.size<=1600)(hc:aN N s (ByteArray.mk #[32])=some (txt (nm 10) :: ws)):∃r,aG N s=some r/\PR 10 ws r:=by
 obtain⟨t0,a0,e0,s0,f0⟩:=(dN N).tot ⟨ws,false⟩ hw;unfold aG;rw[aM,df (show ¬(s.size:Int) > 262144 by omega),cond_false,hc,aa,fP,aa,cS,aa,show aJ N bZ (⟨ws,false⟩,txt (nm 10)) N 0 0=some 10 from iL N (by omega) _ (k:=10) (by decide) (by decide),aa,show((10:Int)==1)=false from rfl,cond_false,show((10:Int)==2)=false from rfl,cond_false,show((10:Int)==3)=false from rfl,cond_false,show((10:Int)==4)=false from rfl,cond_false,show((10:Int)==5)=false from rfl,cond_false,show((10:Int)==6)=false from rfl,cond_false,show((10:Int)==9)=false from rfl,aa,cond_false,show((10:Int)==7)=false from rfl,cond_false,show((10:Int)==8)=false from rfl,cond_false,show((10:Int)==10)=true from rfl,cond_true,show aC N ⟨ws,false⟩=_ from e0,aa,aa,kN]
 by_cases c:t0.gA9=false/\t0.gl=[]
 ·rw[if_pos c]
  have q0:=c.1;obtain⟨qz,g0,v0⟩:=f0 q0;refine⟨_,rfl,.inr ⟨rfl,rfl,v0,?_⟩⟩
  rw[show ws=_ from g0,c.2]
  simp[cK,gO,hO,inL]
 ·rw[if_neg c]
  exact⟨_,rfl,.inl rfl⟩
theorem psH10(N:Nat)(hN:2000 < N){s:ByteArray}(hs:s.size<=1600){o:aD}(h:VO o 10)(hc:aN N s (ByteArray.mk #[32])=some (txt (nm 10) :: cK o 10)):aG N s=some (jQ o 10,0):=by
 have hl:cK o 10=([o.gA8]:List Int).map wd++[]:=by simp[cK,gO,hO,inL]
 rw[hl] at hc;unfold aG;rw[aM,df (show ¬(s.size:Int) > 262144 by omega),cond_false,hc,aa,fP,aa,cS,aa,show aJ N bZ (⟨([o.gA8]:List Int).map wd++[],false⟩,txt (nm 10)) N 0 0=some 10 from iL N (by omega) _ (k:=10) (by decide) (by decide),aa,show((10:Int)==1)=false from rfl,cond_false,show((10:Int)==2)=false from rfl,cond_false,show((10:Int)==3)=false from rfl,cond_false,show((10:Int)==4)=false from rfl,cond_false,show((10:Int)==5)=false from rfl,cond_false,show((10:Int)==6)=false from rfl,cond_false,show((10:Int)==9)=false from rfl,aa,cond_false,show((10:Int)==7)=false from rfl,cond_false,show((10:Int)==8)=false from rfl,cond_false,show((10:Int)==10)=true from rfl,cond_true,show aC N ⟨([o.gA8]:List Int).map wd++[],false⟩=some (⟨[],false⟩,o.gA8) from(dN N).hit o.gA8 ([]) h,aa,aa,kN,if_pos ⟨rfl,rfl⟩]
 try rfl
theorem psT0(N:Nat)(hN:2000 < N){s:ByteArray}(hs:s.size<=1600){w:ByteArray}{ws:List ByteArray}(hc:aN N s (ByteArray.mk #[32])=some (w :: ws))(h0:aJ N bZ (⟨ws,false⟩,w) N 0 0=some 0):aG N s=some (zOp,5):=by
 unfold aG;rw[aM,df (show ¬(s.size:Int) > 262144 by omega),cond_false,hc,aa,fP,aa,cS,aa,h0,aa,show((0:Int)==1)=false from rfl,cond_false,show((0:Int)==2)=false from rfl,cond_false,show((0:Int)==3)=false from rfl,cond_false,show((0:Int)==4)=false from rfl,cond_false,show((0:Int)==5)=false from rfl,cond_false,show((0:Int)==6)=false from rfl,cond_false,show((0:Int)==9)=false from rfl,aa,cond_false,show((0:Int)==7)=false from rfl,cond_false,show((0:Int)==8)=false from rfl,cond_false,show((0:Int)==10)=false from rfl,cond_false,aa,kN,if_neg (λq=>absurd (show true=false from q.1) (by decide))]
theorem psT1(N:Nat)(hN:2000 < N){s:ByteArray}(hs:s.size<=1600){ws:List ByteArray}(hw:∀w∈ws,w.size<=1600)(hc:aN N s (ByteArray.mk #[32])=some (txt (nm 1) :: ws)):∃r,aG N s=some r/\PR 1 ws r:=by
 obtain⟨⟨l,b⟩,a0,e0,s0,f0⟩:=(dN N).tot ⟨ws,false⟩ hw;unfold aG;rw[aM,df (show ¬(s.size:Int) > 262144 by omega),cond_false,hc,aa,fP,aa,cS,aa,show aJ N bZ (⟨ws,false⟩,txt (nm 1)) N 0 0=some 1 from iL N (by omega) _ (k:=1) (by decide) (by decide),aa,show((1:Int)==1)=true from rfl,cond_true,show aC N ⟨ws,false⟩=_ from e0,aa]
 cases l with
 | nil=>
  rw[show bF N ⟨[],b⟩=_ from wordN N b,aa,show eD N (ByteArray.mk #[])=_ from aEA N hN (ByteArray.mk #[]) (by decide),aa,aM,aM,aa,kN,if_neg (λq=>absurd (show true=false from q.1) (by decide))]
  exact⟨_,rfl,.inl rfl⟩
 | cons w l=>
  rcases hv:pI w with ⟨x,e⟩
  rw[show bF N ⟨w :: l,b⟩=_ from fP N w l b,aa,show eD N w=some (x,e) from hv▸aEA N hN w (s0 w ea),aa,aM,aM,aa,kN]
  by_cases c:(cond (cond b true (e != 0)) true (decide ((x.length:Int) > 65535)))=false/\l=[]
  ·rw[if_pos c]
   have hb:b=false:=by cases b with | false=>rfl | true=>exact absurd (show true=false from c.1) (by decide)
   subst hb;have he:e=0:=Decidable.byContradiction λg=>by
    have h1:=c.1;rw[cond_false,show(e != 0)=true by simpa using g] at h1;exact absurd (show true=false from h1) (by decide)
   subst he;have hx:x.length<=65535:=Decidable.byContradiction λg=>by
    have h1:=c.1;rw[cond_false,dt (show(x.length:Int) > 65535 by omega)] at h1;exact absurd (show true=false from h1) (by decide)
   obtain⟨h1,h2,_⟩:=aC0 hv;obtain⟨_,g0,v0⟩:=f0 rfl;refine⟨_,rfl,.inr ⟨rfl,rfl,⟨v0,h2,hx⟩,?_⟩⟩
   rw[show ws=_ from g0,c.2]
   show [wd a0]++[w]=[wd a0]++[iO x]
   rw[h1]
  ·rw[if_neg c]
   exact⟨_,rfl,.inl rfl⟩
theorem aA2{b:List Int}(hl:b.length<=750):(iO b).size<=1600:=by
 unfold iO;split
 ·decide
 ·rw[qQ,nG];omega
theorem psH1(N:Nat)(hN:2000 < N){s:ByteArray}(hs:s.size<=1600){o:aD}(h:VO o 1)(hb:o.gL.length<=750)(hc:aN N s (ByteArray.mk #[32])=some (txt (nm 1) :: cK o 1)):aG N s=some (jQ o 1,0):=by
 have hl:cK o 1=([o.gS]:List Int).map wd++[iO o.gL]:=rfl;rw[hl] at hc;unfold aG;rw[aM,df (show ¬(s.size:Int) > 262144 by omega),cond_false,hc,aa,fP,aa,cS,aa,show aJ N bZ (⟨([o.gS]:List Int).map wd++[iO o.gL],false⟩,txt (nm 1)) N 0 0=some 1 from iL N (by omega) _ (k:=1) (by decide) (by decide),aa,show((1:Int)==1)=true from rfl,cond_true,show aC N ⟨([o.gS]:List Int).map wd++[iO o.gL],false⟩=some (⟨[iO o.gL],false⟩,o.gS) from(dN N).hit o.gS [iO o.gL] h.1,aa,show bF N ⟨[iO o.gL],false⟩=_ from fP N (iO o.gL) [] false,aa,show eD N (iO o.gL)=some (o.gL,0) from(aDy h.2.1)▸aEA N hN (iO o.gL) (aA2 hb),aa,aM,aM,aa,kN,df (show ¬(o.gL.length:Int) > 65535 by omega),if_pos ⟨rfl,rfl⟩]
 try rfl
theorem psT(N:Nat)(hN:2000 < N){s:ByteArray}(hs:s.size<=1600):∃r,aG N s=some r/\(r=(zOp,5)\/∃k,1<=k/\k<=10/\r.2=0/\r.1=jQ r.1 k/\VO r.1 k/\s=txt (jnL 32 (nm k :: (cK r.1 k).map (·.data.toList)))):=by
 obtain⟨ws,h1,h2,h3,h4⟩:=cutP N hs;cases ws with
 | nil=>exact absurd rfl h2
 | cons w ws=>
  rcases pickT N (by omega) ⟨ws,false⟩ w with h | ⟨k,k1,k2,_,rfl⟩
  ·exact⟨_,psT0 N hN hs h1 h,.inl rfl⟩
  ·have hw:∀w∈ws,w.size<=1600:=λx hx=>h4 x (cw _ hx)
   have key:∃r,aG N s=some r/\PR k ws r:=by
    rcases oB k1 k2 with rfl | rfl | rfl | rfl | rfl | rfl | rfl | rfl | rfl | rfl
    ·exact psT1 N hN hs hw h1
    ·exact psT2 N hN hs hw h1
    ·exact psT3 N hN hs hw h1
    ·exact psT4 N hN hs hw h1
    ·exact psT5 N hN hs hw h1
    ·exact psT6 N hN hs hw h1
    ·exact psT7 N hN hs hw h1
    ·exact psT8 N hN hs hw h1
    ·exact psT9 N hN hs hw h1
    ·exact psT10 N hN hs hw h1
   obtain⟨r,e,g | ⟨g1,g2,g3,g4⟩⟩:=key
   ·exact⟨r,e,.inl g⟩
   ·refine⟨r,e,.inr ⟨k,k1,k2,g1,g2,g3,?_⟩⟩
    rw[h3,bv,g4]
    rfl
end Go.UK
