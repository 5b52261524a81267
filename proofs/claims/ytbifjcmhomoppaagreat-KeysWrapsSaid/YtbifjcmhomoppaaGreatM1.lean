/- A part of the proof: what the functions of the program compute. -/
import Derived.Test.YtbifjcmhomoppaaGreatJ3
open Int renaming tmod→br,toNat_natCast→bx
open List renaming append_assoc→ap,append_nil→dq,drop_eq_getElem_cons→cp,drop_of_length_le→du,flatten_cons→i5,getD_eq_getElem?_getD→an,getElem?_append_right→cj,getElem?_drop→fm,getElem?_eq_none→bf,getElem?_map→ci,getElem?_range→ez,getElem?_take_of_lt→gf,getElem_mem→ck,length_append→ai,length_map→cd,length_pos_iff→i7,length_range→kx,map→ek,map_append→iq,mem_cons→d8,mem_flatten→lh,mem_map→dn,nil_append→dm,range→bo,replicate→ak,set_append_right→gs,set_cons_zero→kj,take_of_length_le→ar,take_succ→j5
open Option renaming bind→ae,bind_some→aa
open Vector renaming ext→n5,replicate→ag
namespace Go.UK
open Go Go.Proofs
set_option maxRecDepth 20000
set_option maxHeartbeats 2000000
set_option linter.all false
def zI(x:Int)(n:Nat):Int:=bor .u32 (shr .u32 x n) (shl .u32 x (32 - n:Nat))
theorem aUb(n:Nat)(h1:1<=n)(h2:n<=31):cF .u64 (U64 (I64 (0 - (n:Int)))) 31=((32 - n:Nat):Int):=by
 have:∀n:Fin 32,1<=n.val->cF .u64 (U64 (I64 (0 - (n.val:Int)))) 31=((32 - n.val:Nat):Int):=by decide +kernel
 exact this ⟨n,by omega⟩ h1
theorem aI3(N:Nat)(x:Int)(n:Nat)(h1:1<=n)(h2:n<=31):iL N x n=some (zI x n):=by
 unfold iL bI;rw[aUb n h1 h2,wU .u32 (by omega),aa,aC,eJ (by omega) (by omega),kS .u32 (by omega),aa,aa,aJK,show(32 - ((32 - n:Nat):Int))=(n:Int) by omega]
 rfl
def aSm(b:Vector Int 64)(i:Nat):Int:=b.toList.getD (4*i) 0*16777216+b.toList.getD (4*i+1) 0*65536+b.toList.getD (4*i+2) 0*256+b.toList.getD (4*i+3) 0
def sig0(x:Int):Int:=eZ .u32 (eZ .u32 (zI x 7) (zI x 18)) (shr .u32 x 3)
def sig1(x:Int):Int:=eZ .u32 (eZ .u32 (zI x 17) (zI x 19)) (shr .u32 x 10)
def aFx(b:Vector Int 64)(l:List Int)(i:Nat):Int:=
 if i < 16 then aSm b i else(l.getD (i - 16) 0+sig0 (l.getD (i - 15) 0)+l.getD (i - 7) 0+sig1 (l.getD (i - 2) 0)) % 4294967296
def qN(b:Vector Int 64):Nat->List Int
 | 0=>[]
 | i+1=>qN b i++[aFx b (qN b i) i]
theorem aCf(b:Vector Int 64):∀i,(qN b i).length=i
 | 0=>rfl
 | i+1=>by simp[qN,aCf b i]
def aA1(b:Vector Int 64):Prop:=∀i,i < 64->isB (b.toList.getD i 0)
theorem wordE{a b c d:Int}(ha:isB a)(hb:isB b)(hc:isB c)(hd:isB d) :
  bor .u32 (bor .u32 (bor .u32 (shl .u32 (U32 a) 24) (shl .u32 (U32 b) 16)) (shl .u32 (U32 c) 8)) (U32 d)=a*16777216+b*65536+c*256+d:=by
 obtain⟨a0,a1⟩:=ha;obtain⟨b0,b1⟩:=hb;obtain⟨c0,c1⟩:=hc;obtain⟨d0,d1⟩:=hd;rw[aDR a0 (by omega),aDR b0 (by omega),aDR c0 (by omega),aDR d0 (by omega),aG3 a 24 24 rfl (by decide),aG3 b 16 16 rfl (by decide),aG3 c 8 8 rfl (by decide)]
 have e1:(a*(2:Int) ^ 24) % 4294967296=a*16777216:=by rw[show(2:Int) ^ 24=16777216 from rfl];omega
 have e2:(b*(2:Int) ^ 16) % 4294967296=b*65536:=by rw[show(2:Int) ^ 16=65536 from rfl];omega
 have e3:(c*(2:Int) ^ 8) % 4294967296=c*256:=by rw[show(2:Int) ^ 8=256 from rfl];omega
 have p24:(2 ^ 24:Nat)=16777216:=rfl;have p16:(2 ^ 16:Nat)=65536:=rfl;have p8:(2 ^ 8:Nat)=256:=rfl;have h1:bor .u32 (a*16777216) (b*65536)=a*16777216+b*65536:=aCZ 24 ⟨by omega,by omega⟩ (by omega) (by rw[p24];omega) (by decide) (by rw[p24];omega)
 have h2:bor .u32 (a*16777216+b*65536) (c*256)=a*16777216+b*65536+c*256:=aCZ 16 ⟨by omega,by omega⟩ (by omega) (by rw[p16];omega) (by decide) (by rw[p16];omega)
 have h3:bor .u32 (a*16777216+b*65536+c*256) d=a*16777216+b*65536+c*256+d:=aCZ 8 ⟨by omega,by omega⟩ (by omega) (by rw[p8];omega) (by decide) (by rw[p8];omega)
 rw[e1,e2,e3,h1,h2,h3]
theorem aUk{a b c d:Int}(ha:isB a)(hb:isB b)(hc:isB c)(hd:isB d) :
  U32 (U32 (U32 (U32 (U32 (U32 (U32 a*256)+U32 b)*256)+U32 c)*256)+U32 d)=a*16777216+b*65536+c*256+d:=by
 obtain⟨a0,a1⟩:=ha;obtain⟨b0,b1⟩:=hb;obtain⟨c0,c1⟩:=hc;obtain⟨d0,d1⟩:=hd;simp only[aKy]
 omega
theorem cmpL1(N:Nat)(b:Vector Int 64)(hb:aA1 b)(hN:64 < N):∃v,mC N b N (ag 64 0) 0=some v/\v.toList=qN b 64:=by
 obtain⟨v,h1,h2⟩:=aEK 64 (by decide) (λi (v:Vector Int 64)=>v.toList.take i=qN b i) (λk v i=>mC N b k v i) (λk v i hi hv=>by
  rw[mC,dt (show(i:Int) < 64 by omega),cond_true]
  by_cases h16:i < 16
  ·refine⟨v.setIfInBounds i (aSm b i),?_,?_⟩
   ·rw[aLm hv hi,qN,aFx,if_pos h16]
   ·rw[dt (show(i:Int) < 16 by omega),cond_true]
    have e0:I64 (4*(i:Int))=((4*i:Nat):Int):=by rw[aR (by omega) (by omega)];omega
    have e1:I64 (((4*i:Nat):Int)+1)=((4*i+1:Nat):Int):=by rw[aR (by omega) (by omega)];omega
    have e2:I64 (((4*i:Nat):Int)+2)=((4*i+2:Nat):Int):=by rw[aR (by omega) (by omega)];omega
    have e3:I64 (((4*i:Nat):Int)+3)=((4*i+3:Nat):Int):=by rw[aR (by omega) (by omega)];omega
    simp only[e0,e1,e2,e3,aC]
    rw[tY (by simp;omega),aa,tY (by simp;omega),aa,tY (by simp;omega),aa,tY (by simp;omega),aa,
     cD (by omega) (by omega),aa,bx,oT v i hi,aa,aa,
     wordE (hb _ (by omega)) (hb _ (by omega)) (hb _ (by omega)) (hb _ (by omega))]
    rfl
  ·refine⟨v.setIfInBounds i (aFx b (qN b i) i),?_,?_⟩
   ·rw[aLm hv hi,qN]
   ·rw[df (show ¬(i:Int) < 16 by omega),cond_false]
    have f15:I64 ((i:Int) - 15)=((i - 15:Nat):Int):=by rw[aR (by omega) (by omega)];omega
    have f2:I64 ((i:Int) - 2)=((i - 2:Nat):Int):=by rw[aR (by omega) (by omega)];omega
    have f16:I64 ((i:Int) - 16)=((i - 16:Nat):Int):=by rw[aR (by omega) (by omega)];omega
    have f7:I64 ((i:Int) - 7)=((i - 7:Nat):Int):=by rw[aR (by omega) (by omega)];omega
    rw[f15,f2,f16,f7]
    simp only[aC,bx]
    rw[cD (i:=((i - 15:Nat):Int)) (by omega) (by omega),aa,aNl hv (show i - 15 < i by omega) (by omega),aa,
     cD (i:=((i - 2:Nat):Int)) (by omega) (by omega),aa,aNl hv (show i - 2 < i by omega) (by omega),aa,
     cD (i:=((i - 16:Nat):Int)) (by omega) (by omega),aa,aNl hv (show i - 16 < i by omega) (by omega),aa,
     show(7:Int)=((7:Nat):Int) from rfl,aI3 N _ 7 (by decide) (by decide),aa,show(18:Int)=((18:Nat):Int) from rfl,aI3 N _ 18 (by decide) (by decide),aa,
     cD (i:=((i - 7:Nat):Int)) (by omega) (by omega),aa,aNl hv (show i - 7 < i by omega) (by omega),aa,
     show(17:Int)=((17:Nat):Int) from rfl,aI3 N _ 17 (by decide) (by decide),aa,show(19:Int)=((19:Nat):Int) from rfl,aI3 N _ 19 (by decide) (by decide),aa,
     cD (i:=(i:Int)) (by omega) (by omega),aa,oT v i hi,aa,aa]
    have:U32 (U32 (U32 ((qN b i).getD (i - 16) 0+sig0 ((qN b i).getD (i - 15) 0))+(qN b i).getD (i - 7) 0)+sig1 ((qN b i).getD (i - 2) 0))=aFx b (qN b i) i:=by
     unfold aFx;rw[if_neg h16]
     simp only[aKy]
     omega
    rw[<- this]
    rfl) (λk v=>by rw[mC,df (by omega),cond_false]) N 0 (ag 64 0) (by simp[qN]) (by omega) (by omega)
 refine⟨v,h2,?_⟩
 rw[<- h1,ar (by simp)]
theorem aSX{l r:List Int}(h:l.length<=100)(h':r.length<=100):iB 4 l r=some (l++r):=eF (by omega)
theorem vec8(s:Vector Int 8):s=#v[s[0],s[1],s[2],s[3],s[4],s[5],s[6],s[7]]:=by
 apply n5;intro i hi
 match i,hi with
 | 0,_=>rfl
 | 1,_=>rfl
 | 2,_=>rfl
 | 3,_=>rfl
 | 4,_=>rfl
 | 5,_=>rfl
 | 6,_=>rfl
 | 7,_=>rfl
def sum1(x:Int):Int:=eZ .u32 (eZ .u32 (zI x 6) (zI x 11)) (zI x 25)
def sum0(x:Int):Int:=eZ .u32 (eZ .u32 (zI x 2) (zI x 13)) (zI x 22)
def t1V(s:Vector Int 8)(k w:Int):Int:=U32 (U32 (U32 (U32 (s[7]+sum1 s[4])+eZ .u32 (cF .u32 s[4] s[5]) (cF .u32 (bnot .u32 s[4]) s[6]))+k)+w)
def t2V(s:Vector Int 8):Int:=U32 (sum0 s[0]+eZ .u32 (eZ .u32 (cF .u32 s[0] s[1]) (cF .u32 s[0] s[2])) (cF .u32 s[1] s[2]))
def stp(s:Vector Int 8)(k w:Int):Vector Int 8:=#v[U32 (t1V s k w+t2V s),s[0],s[1],s[2],U32 (s[3]+t1V s k w),s[4],s[5],s[6]]
def kV(i:Nat):Int:=cK.toList.getD i 0
def aIy(w:List Int)(h:Vector Int 8):Nat->Vector Int 8
 | 0=>h
 | i+1=>stp (aIy w h i) (kV i) (w.getD i 0)
theorem cmpL2(N:Nat)(p:Vector Int 64)(h:Vector Int 8)(hN:64 < N):lR N p N h 0=some (aIy p.toList h 64):=by
 obtain⟨v,h1,h2⟩:=aEK 64 (by decide) (λi (v:Vector Int 8)=>v=aIy p.toList h i) (λk v i=>lR N p k v i) (λk v i hi hv=>by
  refine⟨_,rfl,?_⟩
  subst hv;rw[lR,dt (show(i:Int) < 64 by omega),cond_true]
  generalize hs:aIy p.toList h i=s;have r0:aP 0 8=some ():=rfl;have r1:aP 1 8=some ():=rfl;have r2:aP 2 8=some ():=rfl;have r3:aP 3 8=some ():=rfl;have r4:aP 4 8=some ():=rfl;have r5:aP 5 8=some ():=rfl;have r6:aP 6 8=some ():=rfl;have r7:aP 7 8=some ():=rfl;have g0:s.toList[((0:Int).toNat)]? = some s[0]:=oT s 0 (by decide)
  have g1:s.toList[((1:Int).toNat)]? = some s[1]:=oT s 1 (by decide)
  have g2:s.toList[((2:Int).toNat)]? = some s[2]:=oT s 2 (by decide)
  have g3:s.toList[((3:Int).toNat)]? = some s[3]:=oT s 3 (by decide)
  have g4:s.toList[((4:Int).toNat)]? = some s[4]:=oT s 4 (by decide)
  have g5:s.toList[((5:Int).toNat)]? = some s[5]:=oT s 5 (by decide)
  have g6:s.toList[((6:Int).toNat)]? = some s[6]:=oT s 6 (by decide)
  have g7:s.toList[((7:Int).toNat)]? = some s[7]:=oT s 7 (by decide)
  have q6:∀x,iL N x 6=some (zI x 6):=λx=>aI3 N x 6 (by decide) (by decide)
  have q11:∀x,iL N x 11=some (zI x 11):=λx=>aI3 N x 11 (by decide) (by decide)
  have q25:∀x,iL N x 25=some (zI x 25):=λx=>aI3 N x 25 (by decide) (by decide)
  have q2:∀x,iL N x 2=some (zI x 2):=λx=>aI3 N x 2 (by decide) (by decide)
  have q13:∀x,iL N x 13=some (zI x 13):=λx=>aI3 N x 13 (by decide) (by decide)
  have q22:∀x,iL N x 22=some (zI x 22):=λx=>aI3 N x 22 (by decide) (by decide)
  have ri:aP (i:Int) 64=some ():=cD (by omega) (by omega)
  have gk:cK.toList[i]? = some (kV i):=lG (by simp;omega)
  have gp:p.toList[i]? = some (p.toList.getD i 0):=lG (by simp;omega)
  rw[r0,r4,r7,g0,g4,g7]
  simp only[aa,q6,q11,q25,q2,q13,q22,aC,r0,r1,r2,r3,r4,r5,r6,r7,g0,g1,g2,g3,g4,g5,g6,g7,ri,bx,gk,gp]
  rw[aIy,hs]
  rfl) (λk v=>by rw[lR,df (by omega),cond_false]) N 0 h rfl (by omega) (by omega)
 rw[<- h1];exact h2
def aFR(s h:Vector Int 8):Nat->Int:=λi=>U32 (s.toList.getD i 0+h.toList.getD i 0)
def endV(s h:Vector Int 8):Vector Int 8:=#v[aFR s h 0,aFR s h 1,aFR s h 2,aFR s h 3,aFR s h 4,aFR s h 5,aFR s h 6,aFR s h 7]
theorem vext8{a:Vector Int 8}{f:Nat->Int}(h:a.toList=(bo 8).map f):a=#v[f 0,f 1,f 2,f 3,f 4,f 5,f 6,f 7]:=by
 have e:∀i (hi:i < 8),a[i]=f i:=by
  intro i hi;have h1:=oT a i hi;rw[h,ci,ez hi] at h1;simpa using h1.symm
 rw[vec8 a,e 0 (by decide),e 1 (by decide),e 2 (by decide),e 3 (by decide),e 4 (by decide),e 5 (by decide),e 6 (by decide),e 7 (by decide)]
theorem aNg(h:Vector Int 8)(F:Nat->Vector Int 8->Int->Option (Vector Int 8))(hF:∀k v i,F (k+1) v i=cond (decide (i < 8)) (ae (aP i 8) λ_=>ae (v.toList[i.toNat]?) λe=>ae (idx h.toList i) λe'=>ae (aP i 8) λ_=>ae (v.toList[i.toNat]?) λ_=>F k (v.setIfInBounds i.toNat (U32 (e+e'))) (I64 (i+1))) (some v))
  (N:Nat) (s:Vector Int 8) (hN:8 < N):F N s 0=some (endV s h):=by
 obtain⟨v,h1,h2⟩:=aEK 8 (by decide) (λi (v:Vector Int 8)=>v.toList=(bo i).map (aFR s h)++s.toList.drop i) (λk v i=>F k v i) (λk v i hi hv=>by
  refine⟨v.setIfInBounds i (aFR s h i),?_,?_⟩
  ·have e:(v.setIfInBounds i (aFR s h i)).toList=v.toList.set i (aFR s h i):=by simp
   rw[e,hv,gs _ _ (by simp),cd,kx,Nat.sub_self,List.range_succ,iq,ap]
   congr 1;rw[cp (by simp;omega)]
   rfl
  ·have hl:=oT v i hi;have he:v[i]=s.toList.getD i 0:=by
    have:=hl;rw[hv,cj (by simp),cd,kx,Nat.sub_self,fm,Nat.add_zero,lG (by simp;omega)] at this;exact(Option.some.inj this).symm
   rw[hF,dt (show(i:Int) < 8 by omega),cond_true,cD (by omega) (by omega),aa,bx,hl,aa,tY (by simp;omega),aa,aa,aa,he]
   rfl) (λk v=>by rw[hF,df (by omega),cond_false]) N 0 s (by simp) (by omega) (by omega)
 have e:v.toList=(bo 8).map (aFR s h):=by rw[h1,du (by simp)];simp
 rw[vext8 e] at h2;exact h2
def aMg(h:Vector Int 8)(b:Vector Int 64):Vector Int 8:=endV (aIy (qN b 64) h 64) h
theorem cmpP(N:Nat)(hN:64 < N)(h:Vector Int 8)(b:Vector Int 64)(hb:aA1 b):uC N h b=some (aMg h b):=by
 unfold uC;obtain⟨v,h1,h2⟩:=cmpL1 N b hb hN;rw[h1,aa,cmpL2 N v h hN,aa,h2,aNg h (λk v i=>qQ N h k v i) (λk v i=>by rw[qQ]) N _ (by omega),aa]
 rfl
theorem tl4(a0 a1 a2 a3 a4 a5 a6 a7:Int):(#v[a0,a1,a2,a3,a4,a5,a6,a7]:Vector Int 8).toList[((4:Int).toNat)]? = some a4:=rfl
theorem tl0(a0 a1 a2 a3 a4 a5 a6 a7 x:Int):((#v[a0,a1,a2,a3,a4,a5,a6,a7]:Vector Int 8).setIfInBounds ((4:Int).toNat) x).toList[((0:Int).toNat)]? = some a0:=rfl
theorem tls(a0 a1 a2 a3 a4 a5 a6 a7 x y:Int):((#v[a0,a1,a2,a3,a4,a5,a6,a7]:Vector Int 8).setIfInBounds ((4:Int).toNat) x).setIfInBounds ((0:Int).toNat) y=#v[y,a1,a2,a3,x,a5,a6,a7]:=rfl
def H0 : Vector Int 8:=#v[1779033703,3144134277,1013904242,2773480762,1359893119,2600822924,528734635,1541459225]
def wM(m:List Int)(j:Nat):Vector Int 64:=Vector.ofFn (λi:Fin 64=>m.getD (64*j+i.val) 0)
theorem yN(m:List Int)(j i:Nat)(h:i < 64):(wM m j).toList.getD i 0=m.getD (64*j+i) 0:=by
 rw[wN _ i h]
 unfold wM;simp
theorem aKb{a b:Vector Int 64}(h:∀i,i < 64->a.toList.getD i 0=b.toList.getD i 0):a=b:=by
 apply n5;intro i hi;have:=h i hi;rwa[wN _ i hi,wN _ i hi] at this
theorem aQ.block{m:List Int}(h:aQ m)(j:Nat):aA1 (wM m j):=λi hi=>by rw[yN _ _ _ hi];exact h.getD _
def aH3(m:List Int):Nat->Vector Int 8
 | 0=>H0
 | j+1=>aMg (aH3 m j) (wM m j)
theorem aAj{m x:List Int}{i:Nat}(h:i < m.length):(m++x).getD i 0=m.getD i 0:=by
 rw[an,an,List.getElem?_append_left h]
theorem aGT{m x:List Int}{i:Nat}(h:m.length<=i):(m++x).getD i 0=x.getD (i - m.length) 0:=by
 rw[an,an,cj h]
attribute [local irreducible] aMg
theorem aIO(m x:List Int):∀j,64*j<=m.length->aH3 (m++x) j=aH3 m j
 | 0,_=>rfl
 | j+1,h=>by
  have e:wM (m++x) j=wM m j:=by
   apply aKb;intro i hi;rw[yN _ _ _ hi,yN _ _ _ hi,aAj (by omega)]
  show aMg (aH3 (m++x) j) (wM (m++x) j)=aMg (aH3 m j) (wM m j)
  rw[e,aIO m x j (by omega)]
structure HOK(m:List Int)(h:Vector Int 8)(blk:Vector Int 64)(n:Int):Prop where
 n:n=(m.length:Int)
 h:h=aH3 m (m.length / 64)
 b:∀i,i < m.length % 64->blk.toList.getD i 0=m.getD (64*(m.length / 64)+i) 0
theorem aQl{blk:Vector Int 64}{d:List Int}{lo len:Nat}(h:lo+len<=64):∃v,cpV blk d lo len=some v/\v.toList=cpy blk.toList d lo len:=by
 unfold cpV;rw[dif_pos h]
 exact⟨_,rfl,rfl⟩
theorem aU5{l d:List Int}{lo len i:Nat}(hl:lo<=l.length)(h:i < lo):(cpy l d lo len).getD i 0=l.getD i 0:=by
 unfold cpy;rw[ap,aAj (by simp;omega),an,an,gf h]
theorem aTd{l d:List Int}{lo len i:Nat}(hl:lo<=l.length)(h:lo<=i)(h':i < lo+min d.length len):(cpy l d lo len).getD i 0=d.getD (i - lo) 0:=by
 unfold cpy;rw[ap,aGT (by simp;omega),aAj (by simp;omega),an,an,gf (by simp;omega)]
 simp only[List.length_take]
 rw[Nat.min_eq_left hl]
theorem aQn{m d:List Int}{h:Vector Int 8}{blk v:Vector Int 64}{n:Int}(H:HOK m h blk n)(hv:v.toList=cpy blk.toList d (m.length % 64) (64 - m.length % 64))(hd:d≠[]) :
  let c:=min d.length (64 - m.length % 64)
  ((m.length+c) % 64≠0->HOK (m++d.take c) h v (n+c))/\((m.length+c) % 64=0->v=wM (m++d.take c) (m.length / 64)/\HOK (m++d.take c) (aMg h v) v (n+c)):=by
 intro c;have hd0:0 < d.length:=i7.2 hd;have hlen:(m++d.take c).length=m.length+c:=by simp[c]
 have hb:∀i,i < m.length % 64+c->v.toList.getD i 0=(m++d.take c).getD (64*(m.length / 64)+i) 0:=by
  intro i hi;rw[hv]
  by_cases h1:i < m.length % 64
  ·rw[aU5 (by simp;omega) h1,H.b i h1,aAj (by omega)]
  ·rw[aTd (by simp;omega) (by omega) (by omega),aGT (by omega),an,an,gf (by omega)]
   congr 2;omega
 have hc:c<=64 - m.length % 64:=Nat.min_le_right _ _;have hc0:0 < c:=by simp only[c];omega
 constructor
 ·intro hne;have e:(m.length+c) / 64=m.length / 64:=by omega
  refine⟨by rw[hlen,H.n];omega,?_,?_⟩
  ·rw[hlen,e,aIO _ _ _ (by omega)];exact H.h
  ·rw[hlen,e]
   intro i hi;exact hb i (by omega)
 ·intro h0;have e:(m.length+c) / 64=m.length / 64+1:=by omega
  have hvb:v=wM (m++d.take c) (m.length / 64):=by
   apply aKb;intro i hi;rw[yN _ _ _ hi]
   exact hb i (by omega)
  refine⟨hvb,by rw[hlen,H.n];omega,?_,?_⟩
  ·rw[hlen,e,aH3,aIO _ _ _ (by omega),<- H.h,<- hvb]
  ·rw[hlen,h0]
   intro i hi;omega
theorem aRg{m:Nat}{lo hi:Int}(h0:0<=lo)(h1:lo<=hi)(h2:hi<=(m:Int))(h3:lo < (m:Int)):aQA m lo hi=some ():=by
 unfold aQA;rw[dt h0,dt h1,dt h2,dt h3];rfl
theorem aRO{m:Nat}{lo hi:Int}(h0:0<=lo)(h1:lo<=hi)(h2:hi<=(m:Int)):aEJ m lo hi=some ():=by
 unfold aEJ;rw[dt h0,dt h1,dt h2];rfl
theorem aBL(a b:Nat):br (a:Int) (b:Int)=((a % b:Nat):Int):=by
 rw[Int.tmod_eq_emod_of_nonneg (by omega)];rfl
theorem aKZ(N:Nat)(hN:64 < N):∀(k:Nat) (m d:List Int) (h:Vector Int 8) (blk:Vector Int 64) (n:Int),HOK m h blk n->aQ m->aQ d->d.length < k->m.length+d.length < 4611686018427387904 ->
  ∃h' blk' n',jI N k h blk n d=some (h',blk',n')/\HOK (m++d) h' blk' n'
 | 0,_,_,_,_,_,_,_,_,hk,_=>by omega
 | k+1,m,d,h,blk,n,H,hm,hd,hk,hl=>by
  rw[jI,aC]
  by_cases h0:d=[]
  ·subst h0;rw[df (by simp),cond_false]
   exact⟨h,blk,n,rfl,by rwa[dq]⟩
  ·have hd0:0 < d.length:=i7.2 h0;have hn:=H.n;subst hn;rw[dt (by omega),cond_true,show(64:Int)=((64:Nat):Int) from rfl,aBL,aRg (by omega) (by omega) (by omega) (by omega),aa,bx,bx]
   obtain⟨v,hv1,hv2⟩:=aQl (blk:=blk) (d:=d) (lo:=m.length % 64) (len:=64 - m.length % 64) (by omega)
   rw[hv1,aa,aC]
   obtain⟨s1,s2⟩:=aQn H hv2 h0;generalize hc:min d.length (64 - m.length % 64)=c at s1 s2;have hc1:c<=d.length:=by omega
   have hc0:0 < c:=by omega
   rw[aJO hc1,aa]
   have e1:I64 ((m.length:Int)+(c:Int))=((m.length+c:Nat):Int):=by rw[aR (by omega) (by omega)];omega
   rw[e1,aBL,aC]
   have e2:m++d=(m++d.take c)++d.drop c:=by rw[ap,List.take_append_drop]
   have hl2:(m++d.take c).length=m.length+c:=by simp;omega
   by_cases hz:(m.length+c) % 64=0
   ·obtain⟨hvb,s2⟩:=s2 hz;rw[hz,show((((0:Nat):Int))==0)=true from rfl,cond_true,cmpP N hN h v (by rw[hvb];exact(hm.app (hd.take c)).block _),aa]
    rw[e2]
    exact aKZ N hN k _ _ _ _ _ (by have:=s2;rwa[show((m.length:Int)+(c:Int))=((m.length+c:Nat):Int) by omega] at this) (hm.app (hd.take c)) (hd.drop c) (by simp;omega) (by simp;omega)
   ·rw[show((((m.length+c) % 64:Nat):Int)==0)=false by simp;omega,cond_false]
    rw[e2]
    exact aKZ N hN k _ _ _ _ _ (by have:=s1 hz;rwa[show((m.length:Int)+(c:Int))=((m.length+c:Nat):Int) by omega] at this) (hm.app (hd.take c)) (hd.drop c) (by simp;omega) (by simp;omega)
theorem aN4(N:Nat)(hN:64 < N)(ps:List (List Int))(hb:∀p∈ps,aQ p)(hlen:∀p∈ps,p.length < N)(hps:ps.length < 4611686018427387904):∀(k i:Nat) (m:List Int) (h:Vector Int 8) (blk:Vector Int 64) (n:Int),HOK m h blk n->aQ m->i<=ps.length->ps.length - i < k->m.length+(ps.drop i).flatten.length < 4611686018427387904 ->
  ∃h' blk' n',jA N ps k h blk n (i:Int)=some (h',blk',n')/\HOK (m++(ps.drop i).flatten) h' blk' n'
 | 0,_,_,_,_,_,_,_,_,hk,_=>by omega
 | k+1,i,m,h,blk,n,H,hm,hi,hk,hl=>by
  rw[jA,aC]
  by_cases h0:i < ps.length
  ·have hd:=cp h0;rw[hd,i5] at hl ⊢;rw[ai] at hl;obtain⟨h',blk',n',e1,e2⟩:=aKZ N hN N m ps[i] h blk n H hm (hb _ (ck h0)) (hlen _ (ck h0)) (by omega)
   rw[dt (by omega),cond_true,dJ h0,aa,e1,aa,cZ (by omega),<- ap]
   exact aN4 N hN ps hb hlen hps k (i+1) _ _ _ _ e2 (hm.app (hb _ (ck h0))) (by omega) (by omega) (by simp;simp at hl;omega)
  ·rw[df (by omega),cond_false,du (by omega)]
   exact⟨h,blk,n,rfl,by simpa using H⟩
theorem H0_nz : eqV (λa b=>a==b) H0 (ag 8 0)=false:=rfl
theorem aNj(N:Nat){m:List Int}{h:Vector Int 8}{blk:Vector Int 64}{n:Int}(H:HOK m h blk n):oB N (cW.mk h blk n)=some false:=by
 unfold oB;simp only[aC]
 by_cases h0:m=[]
 ·subst h0;have:h=H0:=H.h;rw[this,H0_nz]
  rfl
 ·have:(n==0)=false:=by rw[H.n];have:=i7.2 h0;simp;exact h0
  rw[this]
  cases eqV (λa b=>a==b) h (ag 8 0) <;> rfl
theorem aKG(N:Nat)(hN:64 < N){m:List Int}{h:Vector Int 8}{blk:Vector Int 64}{n:Int}(H:HOK m h blk n)(hm:aQ m)(ps:List (List Int))(hb:∀p∈ps,aQ p)(hlen:∀p∈ps,p.length < N)(hps:ps.length < N)(hps2:ps.length < 4611686018427387904)(hl:m.length+ps.flatten.length < 4611686018427387904) :
  ∃h' blk' n',dP N ps (cW.mk h blk n)=some (h',blk',n')/\HOK (m++ps.flatten) h' blk' n':=by
 unfold dP;obtain⟨h',blk',n',e1,e2⟩:=aN4 N hN ps hb hlen hps2 N 0 m h blk n H hm (by omega) (by omega) (by simpa using hl)
 refine⟨h',blk',n',?_,by simpa using e2⟩
 rw[aNj N H,aa,cond_false]
 show ae (jA N ps N h blk n 0) _=_;rw[show((0:Nat):Int)=0 from rfl] at e1;rw[e1]
 rfl
def aJH(n:Nat):Int:=shl .u64 (U64 (n:Int)) 3
def beB(n j:Nat):Int:=U8 (shr .u64 (aJH n) ((8*(7 - j):Nat):Int))
def nQ(n:Nat):Nat:=(119 - n % 64) % 64
def aGd(n:Nat):List Int:=(128 :: ak (nQ n) 0)++(bo 8).map (beB n)
theorem aCM(n:Nat):(aGd n).length=nQ n+9:=by unfold aGd;simp
theorem aIS(n:Nat):aQ (aGd n):=by
 intro x hx;unfold aGd at hx;rcases List.mem_append.1 hx with h | h
 ·rcases d8.1 h with h | h
  ·subst h;exact⟨by decide,by decide⟩
  ·have:=List.eq_of_mem_replicate h;subst this;exact⟨by decide,by decide⟩
 ·obtain⟨j,_,rfl⟩:=dn.1 h;exact aIa _
def aF4(B:Nat->Int)(i:Nat):List Int:=(bo 8).map (λj=>if 8<=j+i then B j else 0)
theorem aOZ(B:Nat->Int):∀i,i < 8->(aF4 B i).set (7 - i) (B (7 - i))=aF4 B (i+1)
 | 0,_=>rfl
 | 1,_=>rfl
 | 2,_=>rfl
 | 3,_=>rfl
 | 4,_=>rfl
 | 5,_=>rfl
 | 6,_=>rfl
 | 7,_=>rfl
theorem aRF(B:Nat->Int):aF4 B 8=(bo 8).map B:=rfl
theorem aR4(B:Nat->Int):aF4 B 0=ak 8 0:=rfl
theorem padP(N:Nat)(hN:8 < N)(n:Nat)(hn:n < 4611686018427387904):zX N (n:Int)=some (aGd n):=by
 unfold zX;have hz:nQ n < 64:=by unfold nQ;omega
 have e0:vB (n:Int) 0=(n:Int):=by unfold vB;split <;> omega
 have e1:br (I64 (119 - (((n % 64:Nat)):Int))) 64=(nQ n:Int):=by
  rw[show I64 (119 - ((n % 64:Nat):Int))=((119 - n % 64:Nat):Int) by rw[aR (by omega) (by omega)];omega,show(64:Int)=((64:Nat):Int) from rfl,aBL]
  rfl
 have e2:I64 (I64 (1+(nQ n:Int))+8)=((nQ n+9:Nat):Int):=by
  rw[aR (x:=1+(nQ n:Int)) (by omega) (by omega),aR (by omega) (by omega)];omega
 rw[aC,e0,show br (n:Int) 64=((n % 64:Nat):Int) from aBL n 64,aC,e1,aC,e2,bx]
 have e3:mkO 1 ((nQ n+9:Nat):Int)=some ():=by
  unfold mkO;rw[dt (show(0:Int)<=((nQ n+9:Nat):Int) by omega),dt (show((nQ n+9:Nat):Int)<=140737488355328 by omega),dt (show((nQ n+9:Nat):Int)*((1:Nat):Int)<=140737488355328 by omega)]
  rfl
 rw[e3,aa,cD (by omega) (by omega),aa,show((0:Int).toNat)=0 from rfl,List.getElem?_replicate,if_pos (by omega),aa]
 have e4:(ak (nQ n+9) (0:Int)).set 0 128=(128 :: ak (nQ n) 0)++aF4 (beB n) 0:=by
  rw[aR4,show nQ n+9=(nQ n+8)+1 by omega,List.replicate_succ,kj,List.cons_append,List.replicate_append_replicate]
 rw[e4]
 obtain⟨v,h1,h2⟩:=aEK 8 (by decide) (λi (l:List Int)=>l=(128 :: ak (nQ n) 0)++aF4 (beB n) i) (λk l i=>sN N ((nQ n+9:Nat):Int) (n:Int) k l i) (λk l i hi hl=>by
  refine⟨_,rfl,?_⟩
  have hlen:l.length=nQ n+9:=by rw[hl];simp[aF4]
  have f1:I64 (((nQ n+9:Nat):Int) - 1)=((nQ n+8:Nat):Int):=by rw[aR (by omega) (by omega)];omega
  have f2:I64 (((nQ n+8:Nat):Int) - (i:Int))=((nQ n+8 - i:Nat):Int):=by rw[aR (by omega) (by omega)];omega
  have f3:I64 (8*(i:Int))=((8*i:Nat):Int):=by rw[aR (by omega) (by omega)];omega
  rw[sN,dt (show(i:Int) < 8 by omega),cond_true,bx,aC,f1,aC,e0,f3,kS .u64 (by omega),aa,f2,cD (by omega) (by omega),aa,bx,lG (by omega),aa]
  have hset:l.set (nQ n+8 - i) (U8 (shr .u64 (aJH n) ((8*i:Nat):Int)))=(128 :: ak (nQ n) 0)++aF4 (beB n) (i+1):=by
   rw[hl,gs _ _ (by simp;omega),<- aOZ _ i hi,show nQ n+8 - i - (128 :: ak (nQ n) (0:Int)).length=7 - i by simp;omega]
   unfold beB;rw[show 8*(7 - (7 - i))=8*i by omega]
  show sN N ((nQ n+9:Nat):Int) (n:Int) k (l.set (nQ n+8 - i) (U8 (shr .u64 (aJH n) ((8*i:Nat):Int)))) _=_;rw[hset]) (λk l=>by rw[sN,df (by omega),cond_false]) N 0 _ rfl (by omega) (by omega)
 rw[show((0:Nat):Int)=0 from rfl] at h2;rw[h2,aa,h1,aRF]
 have:aGm (128 :: ak (nQ n) 0++ek (beB n) (bo 8)) (nQ n+9)=some ():=by
  unfold aGm;rw[show(128 :: ak (nQ n) (0:Int)++ek (beB n) (bo 8)).length=nQ n+9 by simp,show Nat.beq (nQ n+9) (nQ n+9)=true from Nat.beq_refl _]
  rfl
 rw[this,aa]
 rfl
theorem aSO(n:Nat):U64 (U64 (n:Int)*8)=aJH n:=by
 unfold aJH;rw[aNi _ 3 3 rfl (by decide),aIG (U64 (n:Int)*8)]
 rfl
theorem aIk{n:Nat}(B:Nat->Int){t:Nat}(h:t < n):((bo n).map B).take (t+1)=((bo n).map B).take t++[B t]:=by
 rw[j5,ci,ez h]
 rfl
def aOU(h:Vector Int 8):Vector Int 32:=#v[U8 (shr .u32 h[0] 24),U8 (shr .u32 h[0] 16),U8 (shr .u32 h[0] 8),U8 h[0],U8 (shr .u32 h[1] 24),U8 (shr .u32 h[1] 16),U8 (shr .u32 h[1] 8),U8 h[1],
 U8 (shr .u32 h[2] 24),U8 (shr .u32 h[2] 16),U8 (shr .u32 h[2] 8),U8 h[2],U8 (shr .u32 h[3] 24),U8 (shr .u32 h[3] 16),U8 (shr .u32 h[3] 8),U8 h[3],
 U8 (shr .u32 h[4] 24),U8 (shr .u32 h[4] 16),U8 (shr .u32 h[4] 8),U8 h[4],U8 (shr .u32 h[5] 24),U8 (shr .u32 h[5] 16),U8 (shr .u32 h[5] 8),U8 h[5],
 U8 (shr .u32 h[6] 24),U8 (shr .u32 h[6] 16),U8 (shr .u32 h[6] 8),U8 h[6],U8 (shr .u32 h[7] 24),U8 (shr .u32 h[7] 16),U8 (shr .u32 h[7] 8),U8 h[7]]
theorem shr0(a:Int):shr .u32 a 0=a:=by unfold shr;simp
theorem outP(N K:Nat)(h:Vector Int 8)(blk:Vector Int 64)(n:Int):rN N (h,blk,n) (K+9) (ag 32 0) 0=some (aOU h):=by
 rw[vec8 h]
 generalize h[0]=a0;generalize h[1]=a1;generalize h[2]=a2;generalize h[3]=a3;generalize h[4]=a4;generalize h[5]=a5;generalize h[6]=a6;generalize h[7]=a7
 kernel_rfl
theorem aMs(h:Vector Int 8):aQ (aOU h).toList:=by
 intro x hx;unfold aOU at hx;simp only[Vector.toList_mk,d8,List.not_mem_nil,or_false] at hx;rcases hx with h | h | h | h | h | h | h | h | h | h | h | h | h | h | h | h | h | h | h | h | h | h | h | h | h | h | h | h | h | h | h | h <;> (subst h;exact aIa _)
def endM(m:List Int):Vector Int 8:=aH3 (m++aGd m.length) ((m.length+(nQ m.length+9)) / 64)
def aFj(m:List Int):Vector Int 32:=aOU (endM m)
theorem aDs(m:List Int):aQ (aFj m).toList:=aMs _
theorem hok0 : HOK [] H0 (ag 64 0) 0:=⟨rfl,rfl,by intro i hi;simp at hi⟩
theorem sumP(N:Nat)(hN:100 < N){m:List Int}{h:Vector Int 8}{blk:Vector Int 64}{n:Int}(H:HOK m h blk n)(hm:aQ m)(hl:m.length < 4000000000000000000):nG N (cW.mk h blk n)=some (aFj m):=by
 have hz:nQ m.length < 64:=by unfold nQ;omega
 obtain⟨M,rfl⟩:∃M,N=M+9:=⟨N - 9,by omega⟩
 unfold nG;rw[aNj _ H,aa,cond_false]
 show ae (zX (M+9) n) _=_;obtain⟨h',blk',n',e1,e2⟩:=aKG (M+9) (by omega) H hm [aGd m.length] (by intro p hp;simp at hp;subst hp;exact aIS _) (by intro p hp;simp at hp;subst hp;rw[aCM];omega) (by simp) (by simp) (by simp[aCM];omega)
 rw[H.n] at e1 ⊢;rw[padP (M+9) (by omega) m.length (by omega),aa,e1,aa,outP,aa]
 have e3:=e2.h;simp only[i5,List.flatten_nil,dq,ai,aCM] at e3;rw[e3]
 rfl
theorem shaP(N:Nat)(hN:100 < N)(ps:List (List Int))(hb:∀p∈ps,aQ p)(hlen:∀p∈ps,p.length < N)(hps:ps.length < N)(hl:ps.flatten.length < 4000000000000000000)(hps2:ps.length < 4000000000000000000):wJ N ps=some (aFj ps.flatten):=by
 unfold wJ;obtain⟨h',blk',n',e1,e2⟩:=aKG N (by omega) hok0 (by intro x hx;cases hx) ps hb hlen hps (by omega) (by simp;simp at hl;omega)
 rw[show zY N=some () from rfl,aa]
 show ae (dP N ps (cW.mk H0 (ag 64 0) 0)) _=_;rw[e1,aa]
 have hb':aQ ps.flatten:=by
  intro x hx;obtain⟨p,hp,hx⟩:=lh.1 hx;exact hb p hp x hx
 rw[dm] at e2;show ae (nG N (cW.mk h' blk' n')) _=_;rw[sumP N hN e2 hb' hl,aa]
theorem aOV{m:Nat}(v:Vector Int m):(bo m).flatMap (λi=>[v.toList.getD i 0])=v.toList:=by
 rw[aAE]
 apply List.ext_getElem?;intro i;rw[ci]
 by_cases h:i < m
 ·rw[ez h,lG (by simp;omega)];rfl
 ·rw[bf (by simp;omega),bf (by simp;omega)];rfl
theorem aDj{m:Nat}(hm:m<=1000)(v:Vector Int m)(F:Nat->List Int->Int->Option (List Int))(h1:∀k s i,i < m->s.length<=10000000000000+1000->F (k+1) s (i:Int)=F k (s++[v.toList.getD i 0]) (I64 ((i:Int)+1)))(h2:∀k s,F (k+1) s (m:Int)=some s)
  {N:Nat} (hN:m < N) {s:List Int} (hs:s.length<=10000000000000):F N s 0=some (s++v.toList):=by
 have:=mL m (by omega) (λi=>[v.toList.getD i 0]) (λs i=>s.length<=10000000000000+i) F (by intro s i hi hs;simp;omega) (λk s i hi hs=>h1 k s i hi (by omega)) h2 hN (s:=s) (by omega)
 rw[this,aOV]
theorem aME(v:Vector Int 32):dU v.toList 0 32=some v.toList:=aJy v
theorem aQa(v:Vector Int 64):dU v.toList 0 64=some v.toList:=aJy v
def aEB(key:List Int):List Int:=if 64 < key.length then(aFj key).toList else key
theorem aHj(key:List Int):(aEB key).length<=64:=by
 unfold aEB;split
 ·simp
 ·omega
def xL(key:List Int):List Int:=aEB key++ak (64 - (aEB key).length) 0
theorem yR(key:List Int):(xL key).length=64:=by have:=aHj key;unfold xL;simp;omega
def aAR(key:List Int):List Int:=(xL key).map (λx=>eZ .u8 x 54)
def aCI(key:List Int):List Int:=(xL key).map (λx=>eZ .u8 x 92)
theorem aAW(key:List Int):aQ (aAR key):=by intro x hx;obtain⟨y,_,rfl⟩:=dn.1 hx;exact aIa _
theorem aFy(key:List Int):aQ (aCI key):=by intro x hx;obtain⟨y,_,rfl⟩:=dn.1 hx;exact aIa _
theorem xP(key:List Int):(aAR key).length=64:=by unfold aAR;rw[cd,yR]
theorem aA6(key:List Int):(aCI key).length=64:=by unfold aCI;rw[cd,yR]
def aKu(key msg:List Int):Vector Int 32:=aFj (aCI key++(aFj (aAR key++msg)).toList)
theorem aK2(key msg:List Int):eH (aKu key msg):=aDs _
theorem aSf(m:List Int):[m].flatten=m:=by simp
theorem shaP1(N:Nat)(hN:100 < N)(m:List Int)(hm:aQ m)(hl:m.length < N)(hl2:m.length < 4000000000000000000):wJ N [m]=some (aFj m):=by
 have:=shaP N hN [m] (by intro p hp;simp at hp;subst hp;exact hm) (by intro p hp;simp at hp;subst hp;exact hl) (by simp;omega) (by simpa using hl2) (by simp)
 rwa[aSf] at this
theorem aEO{l:List Int}{f:Int->Int}{n i:Nat}(hl:l.length=n)(hi:i < n):((l.take i).map f++l.drop i).set i (f (l.getD i 0))=(l.take (i+1)).map f++l.drop (i+1):=by
 rw[gs _ _ (by simp;omega)]
 have:i - ((l.take i).map f).length=0:=by simp;omega
 rw[this,cp (by omega),kj,j5,iq,ap,an,List.getElem?_eq_getElem (by omega)]
 rfl
theorem padsP(N:Nat)(hN:100 < N)(key:List Int)(hk:aQ key)(hl:key.length < N)(hl2:key.length < 4000000000000000000):∃a b,aAI N key=some (a,b)/\a.toList=aAR key/\b.toList=aCI key:=by
 unfold aAI;have e1:(aN (decide ((key.length:Int) > 64)) λx2=>cond x2 (ae (wJ N [key]) λr3=>ae (dU r3.toList 0 32) λs5=>some s5) (some key))=some (aEB key):=by
  rw[aC]
  unfold aEB;by_cases h:64 < key.length
  ·rw[if_pos h,dt (by omega),cond_true,shaP1 N hN key hk hl hl2,aa,aME,aa]
  ·rw[if_neg h,df (by omega),cond_false]
 obtain⟨v,hv1,hv2⟩:=aQl (blk:=ag 64 0) (d:=aEB key) (lo:=0) (len:=64) (by omega)
 have hv:v.toList=xL key:=by
  have:=aHj key;rw[hv2]
  unfold cpy xL;rw[List.take_zero,dm,Nat.zero_add,Nat.min_eq_left this,ar (Nat.le_refl _),show(ag 64 (0:Int)).toList=ak 64 0 from rfl,List.drop_replicate]
 rw[e1,aa,aRO (by omega) (by omega) (by omega),aa,hv1,aa]
 obtain⟨⟨a,b⟩,h1,h2⟩:=aEK 64 (by decide) (λi (p:Vector Int 64×Vector Int 64)=>p.1.toList=((xL key).take i).map (λx=>eZ .u8 x 54)++(xL key).drop i/\p.2.toList=((xL key).take i).map (λx=>eZ .u8 x 92)++(xL key).drop i) (λk p i=>tA N k p.1 p.2 i) (λk p i hi ⟨g1,g2⟩=>by
  have hlen:=yR key;refine⟨(p.1.setIfInBounds i (eZ .u8 ((xL key).getD i 0) 54),p.2.setIfInBounds i (eZ .u8 ((xL key).getD i 0) 92)),⟨?_,?_⟩,?_⟩
  ·rw[show(p.1.setIfInBounds i (eZ .u8 ((xL key).getD i 0) 54)).toList=p.1.toList.set i (eZ .u8 ((xL key).getD i 0) 54) by simp,g1]
   exact aEO (f:=λx=>eZ .u8 x 54) hlen hi
  ·rw[show(p.2.setIfInBounds i (eZ .u8 ((xL key).getD i 0) 92)).toList=p.2.toList.set i (eZ .u8 ((xL key).getD i 0) 92) by simp,g2]
   exact aEO (f:=λx=>eZ .u8 x 92) hlen hi
  ·have f1:∀f:Int->Int,(((xL key).take i).map f++(xL key).drop i)[i]? = some ((xL key).getD i 0):=by
    intro f;rw[cj (by simp;omega),fm]
    have:i+(i - (((xL key).take i).map f).length)=i:=by simp;omega
    rw[this,lG (by omega)]
   have f2:=f1 (λx=>eZ .u8 x 54)
   have f3:=f1 (λx=>eZ .u8 x 92)
   rw[<- g1] at f2;rw[<- g2] at f3;rw[tA,dt (show(i:Int) < 64 by omega),cond_true,cD (by omega) (by omega),aa,bx,f2,aa,aa,aa,aa,f3,aa,aa,aa]) (λk p=>by rw[tA,df (by omega),cond_false]) N 0 (v,v) ⟨by simp[hv],by simp[hv]⟩ (by omega) (by omega)
 rw[show((0:Nat):Int)=0 from rfl] at h2;refine⟨a,b,?_,?_,?_⟩
 ·rw[h2,aa]
 ·rw[h1.1,ar (by rw[yR];omega),du (by rw[yR];omega),dq];rfl
 ·rw[h1.2,ar (by rw[yR];omega),du (by rw[yR];omega),dq];rfl
theorem hmacP(N:Nat)(hN:200 < N)(key:List Int)(ps:List (List Int))(hk:aQ key)(hl:key.length < N)(hl2:key.length < 4000000000000000000)(hb:∀p∈ps,aQ p)(hlen:∀p∈ps,p.length < N)(hps:ps.length < N)(hps2:ps.length < 4000000000000000000)(hpl:ps.flatten.length < 3000000000000000000):aBD N key ps=some (aKu key ps.flatten):=by
 unfold aBD;obtain⟨a,b,e1,e2,e3⟩:=padsP N (by omega) key hk hl hl2;rw[e1,aa,show zY N=some () from rfl,aa]
 dsimp only;rw[aQa,aa,e2]
 obtain⟨h1,b1,n1,f1,f2⟩:=aKG N (by omega) hok0 (by intro x hx;cases hx) [aAR key] (by intro p hp;simp at hp;subst hp;exact aAW key) (by intro p hp;simp at hp;subst hp;rw[xP];omega) (by simp;omega) (by simp) (by simp[xP])
 rw[aSf,dm] at f2;show ae (dP N [aAR key] (cW.mk H0 (ag 64 0) 0)) _=_;rw[f1,aa]
 obtain⟨h2,b2,n2,f3,f4⟩:=aKG N (by omega) f2 (aAW key) ps hb hlen hps (by omega) (by rw[xP];omega)
 dsimp only;rw[f3,aa]
 dsimp only;have hpb:aQ ps.flatten:=by
  intro x hx;obtain⟨p,hp,hx⟩:=lh.1 hx;exact hb p hp x hx
 rw[sumP N (by omega) f4 ((aAW key).app hpb) (by rw[ai,xP];omega),aa,aQa,aa,aME,aa,e3,
  shaP N (by omega) [aCI key,(aFj (aAR key++ps.flatten)).toList] (by intro p hp;simp at hp;rcases hp with rfl | rfl;exact aFy key;exact aDs _) (by intro p hp;simp at hp;rcases hp with rfl | rfl;rw[aA6];omega;simp;omega) (by simp;omega) (by simp[aA6]) (by simp),aa]
 unfold aKu;simp
end Go.UK
