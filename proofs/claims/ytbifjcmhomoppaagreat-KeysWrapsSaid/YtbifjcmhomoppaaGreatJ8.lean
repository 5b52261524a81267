/- A part of the proof: what the functions of the program compute. -/
import Derived.Test.YtbifjcmhomoppaaGreatM2
import Derived.Test.YtbifjcmhomoppaaGreatJ7
import Derived.Test.YtbifjcmhomoppaaGreatJ3
import Derived.KernelRfl
open Int renaming tdiv→cv,tmod→br,tmod_eq_emod_of_nonneg→cz,toNat_natCast→bx
open List renaming append_assoc→ap,append_nil→dq,flatMap_cons→cx,flatten_append→kf,getElem?_eq_none→bf,getElem?_map→ci,getElem?_range→ez,length_append→ai,length_take→bp,mem_append→dk,mem_cons→d8,mem_flatMap→lj,nil_append→dm,not_mem_nil→d9,range→bo,replicate→ak,replicate_append_replicate→io,replicate_zero→ke,take_of_length_le→ar
open Option renaming bind→ae,bind_some→aa
open Vector renaming replicate→ag
namespace Go.UK
open Go Go.Proofs
set_option maxRecDepth 20000
set_option maxHeartbeats 16000000
set_option linter.all false
theorem aIw(N:Nat)(x:Int)(n:Nat)(h1:1<=n)(h2:n<=31):bQ N x n=some (zI x n):=by
 unfold bQ;rw[kS .u32 (by omega),aa,aR (by omega) (by omega),wU .u32 (by omega),aa,show(32 - (n:Int))=((32 - n:Nat):Int) by omega]
 rfl
theorem byL1(N:Nat)(b:Vector Int 64)(hb:aA1 b)(hN:64 < N):kY N b N [] 0=some (qN b 16):=by
 obtain⟨v,h1,h2⟩:=aEK 16 (by decide) (λi (l:List Int)=>l=qN b i) (λk v i=>kY N b k v i) (λk v i hi hv=>by
  refine⟨_,rfl,?_⟩
  rw[kY,dt (show(i:Int) < 16 by omega),cond_true]
  have e0:I64 (4*(i:Int))=((4*i:Nat):Int):=by rw[aR (by omega) (by omega)];omega
  have e1:I64 (((4*i:Nat):Int)+1)=((4*i+1:Nat):Int):=by rw[aR (by omega) (by omega)];omega
  have e2:I64 (((4*i:Nat):Int)+2)=((4*i+2:Nat):Int):=by rw[aR (by omega) (by omega)];omega
  have e3:I64 (((4*i:Nat):Int)+3)=((4*i+3:Nat):Int):=by rw[aR (by omega) (by omega)];omega
  simp only[e0,e1,e2,e3,aC]
  rw[tY (by simp;omega),aa,tY (by simp;omega),aa,tY (by simp;omega),aa,tY (by simp;omega),aa,
   aUk (hb _ (by omega)) (hb _ (by omega)) (hb _ (by omega)) (hb _ (by omega)),hv,aSX (by rw[aCf];omega) (by simp),aa]
  rw[qN,aFx,if_pos hi]
  rfl) (λk v=>by rw[kY,df (by omega),cond_false]) N 0 [] rfl (by omega) (by omega)
 rw[<- h1];exact h2
theorem byL2(N:Nat)(b:Vector Int 64)(hN:64 < N):lA N N (qN b 16) 16=some (qN b 64):=by
 obtain⟨v,h1,h2⟩:=aTL 16 64 (by decide) (λi (l:List Int)=>l=qN b i) (λk v i=>lA N k v i) (λk v i hm hi hv=>by
  refine⟨_,rfl,?_⟩
  subst hv;rw[lA,dt (show(i:Int) < 64 by omega),cond_true]
  have f15:I64 ((i:Int) - 15)=((i - 15:Nat):Int):=by rw[aR (by omega) (by omega)];omega
  have f2:I64 ((i:Int) - 2)=((i - 2:Nat):Int):=by rw[aR (by omega) (by omega)];omega
  have f16:I64 ((i:Int) - 16)=((i - 16:Nat):Int):=by rw[aR (by omega) (by omega)];omega
  have f7:I64 ((i:Int) - 7)=((i - 7:Nat):Int):=by rw[aR (by omega) (by omega)];omega
  have hl:=aCf b i;rw[f15,f2,f16,f7]
  simp only[aC]
  rw[tY (i:=i - 15) (by omega),aa,show(7:Int)=((7:Nat):Int) from rfl,aIw N _ 7 (by decide) (by decide),aa,aa,show(18:Int)=((18:Nat):Int) from rfl,aIw N _ 18 (by decide) (by decide),aa,aa,
   tY (i:=i - 2) (by omega),aa,show(17:Int)=((17:Nat):Int) from rfl,aIw N _ 17 (by decide) (by decide),aa,aa,show(19:Int)=((19:Nat):Int) from rfl,aIw N _ 19 (by decide) (by decide),aa,aa,
   tY (i:=i - 7) (by omega),aa,tY (i:=i - 16) (by omega),aa,aSX (by omega) (by simp),aa]
  have:U32 (U32 (U32 (sig1 ((qN b i).getD (i - 2) 0)+(qN b i).getD (i - 7) 0)+sig0 ((qN b i).getD (i - 15) 0))+(qN b i).getD (i - 16) 0)=aFx b (qN b i) i:=by
   unfold aFx;rw[if_neg (by omega)]
   simp only[aKy]
   omega
  rw[qN,<- this]
  rfl) (λk v=>by rw[lA,df (by omega),cond_false]) N 16 (qN b 16) rfl (by omega) (by omega) (by omega)
 rw[<- h1];exact h2
theorem byL4(N K:Nat)(s:Vector Int 8):pK N (K+8) s 7=some #v[s[0],s[0],s[1],s[2],s[3],s[4],s[5],s[6]]:=by
 conv=>lhs;rw[vec8 s]
 generalize s[0]=a0;generalize s[1]=a1;generalize s[2]=a2;generalize s[3]=a3;generalize s[4]=a4;generalize s[5]=a5;generalize s[6]=a6;generalize s[7]=a7
 kernel_rfl
theorem aUH : lV=cK:=rfl
theorem byL3(N:Nat)(w:List Int)(hw:w.length=64)(h:Vector Int 8)(hN:64 < N):kZ N lV w N h 0=some (aIy w h 64):=by
 rw[aUH]
 obtain⟨M,rfl⟩:∃M,N=M+8:=⟨N - 8,by omega⟩
 generalize hNN:M+8=N at *;obtain⟨v,h1,h2⟩:=aEK 64 (by decide) (λi (v:Vector Int 8)=>v=aIy w h i) (λk v i=>kZ N cK w k v i) (λk v i hi hv=>by
  refine⟨_,rfl,?_⟩
  subst hv;rw[kZ,dt (show(i:Int) < 64 by omega),cond_true]
  generalize hs:aIy w h i=s;have r0:aP 0 8=some ():=rfl;have r1:aP 1 8=some ():=rfl;have r2:aP 2 8=some ():=rfl;have r4:aP 4 8=some ():=rfl;have r5:aP 5 8=some ():=rfl;have r6:aP 6 8=some ():=rfl;have r7:aP 7 8=some ():=rfl;have g0:s.toList[((0:Int).toNat)]? = some s[0]:=oT s 0 (by decide)
  have g1:s.toList[((1:Int).toNat)]? = some s[1]:=oT s 1 (by decide)
  have g2:s.toList[((2:Int).toNat)]? = some s[2]:=oT s 2 (by decide)
  have g4:s.toList[((4:Int).toNat)]? = some s[4]:=oT s 4 (by decide)
  have g5:s.toList[((5:Int).toNat)]? = some s[5]:=oT s 5 (by decide)
  have g6:s.toList[((6:Int).toNat)]? = some s[6]:=oT s 6 (by decide)
  have g7:s.toList[((7:Int).toNat)]? = some s[7]:=oT s 7 (by decide)
  have q6:∀x,bQ N x 6=some (zI x 6):=λx=>aIw N x 6 (by decide) (by decide)
  have q11:∀x,bQ N x 11=some (zI x 11):=λx=>aIw N x 11 (by decide) (by decide)
  have q25:∀x,bQ N x 25=some (zI x 25):=λx=>aIw N x 25 (by decide) (by decide)
  have q2:∀x,bQ N x 2=some (zI x 2):=λx=>aIw N x 2 (by decide) (by decide)
  have q13:∀x,bQ N x 13=some (zI x 13):=λx=>aIw N x 13 (by decide) (by decide)
  have q22:∀x,bQ N x 22=some (zI x 22):=λx=>aIw N x 22 (by decide) (by decide)
  have gk:idx cK.toList (i:Int)=some (kV i):=tY (by simp;omega)
  have gp:idx w (i:Int)=some (w.getD i 0):=tY (by omega)
  have b4:pK N N s 7=some #v[s[0],s[0],s[1],s[2],s[3],s[4],s[5],s[6]]:=by
   have:=byL4 N M s;rwa[hNN] at this
  simp only[r0,r4,r7,g0,g4,g7,aa,q6,q11,q25,q2,q13,q22,aC,r1,r2,r5,r6,g1,g2,g5,g6,gk,gp,b4]
  simp only[tl4,tl0,tls,aa]
  rw[aIy,hs]
  rfl) (λk v=>by rw[kZ,df (by omega),cond_false]) N 0 h rfl (by omega) (by omega)
 rw[<- h1];exact h2
theorem cmpR(N:Nat)(hN:64 < N)(h:Vector Int 8)(b:Vector Int 64)(hb:aA1 b):mV N h b=some (aMg h b):=by
 unfold mV vN;rw[byL1 N b hb hN,aa,byL2 N b hN,aa,byL3 N _ (aCf b 64) h hN,aa,aNg h (λk v i=>pX N h k v i) (λk v i=>by rw[pX]) N _ (by omega),aa,aa]
 rfl
theorem aS8(N n:Nat)(hn:n < 4611686018427387904):∀(k j:Nat),j<=nQ n->nQ n - j < k->oN N (n:Int) k (128 :: ak j 0)=some (128 :: ak (nQ n) 0)
 | 0,_,_,h=>by omega
 | k+1,j,hj,hk=>by
  have hz:nQ n < 64:=by unfold nQ;omega
  have e1:I64 (br (n:Int) 64+((128 :: ak j (0:Int)).length:Int))=((n % 64+(j+1):Nat):Int):=by
   rw[show br (n:Int) 64=((n % 64:Nat):Int) from aBL n 64,aR (by simp;omega) (by simp;omega)]
   simp
  have e2:br (I64 (((n % 64+(j+1):Nat):Int)+8)) 64=(((n % 64+(j+9)) % 64:Nat):Int):=by
   rw[show I64 (((n % 64+(j+1):Nat):Int)+8)=((n % 64+(j+9):Nat):Int) by rw[aR (by omega) (by omega)];omega]
   exact aBL _ 64
  rw[oN,aC,e1,aC,e2]
  by_cases h:j < nQ n
  ·rw[dt (by unfold nQ at h;omega),cond_true,rE (by simp;omega) (by simp),aa,List.cons_append,show([0]:List Int)=ak 1 0 from rfl,io]
   exact aS8 N n hn k (j+1) (by omega) (by omega)
  ·obtain rfl:j=nQ n:=by omega
   rw[df (by unfold nQ;omega),cond_false]
theorem aS7(N n:Nat)(hn:n < 4611686018427387904)(P:List Int)(hP:P.length<=100):∀(k t:Nat),t<=8->8 - t < k->oK N (n:Int) k (P++((bo 8).map (beB n)).take t) (7 - (t:Int))=some (P++(bo 8).map (beB n))
 | 0,_,_,h=>by omega
 | k+1,t,ht,hk=>by
  rw[oK]
  by_cases h:t < 8
  ·have f3:I64 (8*(7 - (t:Int)))=((8*(7 - t):Nat):Int):=by rw[aR (by omega) (by omega)];omega
   have f4:I64 (7 - (t:Int) - 1)=7 - ((t+1:Nat):Int):=by rw[aR (by omega) (by omega)];omega
   rw[dt (by omega),cond_true,f3,kS .u64 (by omega),aa,rE (by simp;omega) (by simp),aa,f4,aSO,ap]
   have:((bo 8).map (beB n)).take t++[U8 (shr .u64 (aJH n) ((8*(7 - t):Nat):Int))]=((bo 8).map (beB n)).take (t+1):=(aIk (beB n) h).symm;rw[this]
   exact aS7 N n hn P hP k (t+1) (by omega) (by omega)
  ·obtain rfl:t=8:=by omega
   rw[df (by omega),cond_false,ar (by simp)]
theorem padR(N:Nat)(hN:64 < N)(n:Nat)(hn:n < 4611686018427387904):sE N (n:Int)=some (aGd n):=by
 unfold sE;have hz:nQ n < 64:=by unfold nQ;omega
 have h1:=aS8 N n hn N 0 (by omega) (by omega)
 rw[ke] at h1;have h2:=aS7 N n hn (128 :: ak (nQ n) 0) (by simp;omega) N 0 (by omega) (by omega)
 rw[List.take_zero,dq,show(7 - ((0:Nat):Int))=7 from rfl] at h2;rw[df (show ¬(n:Int) < 0 by omega),cond_false,aa,h1,aa,h2,aa]
 rfl
theorem aRZ(N K:Nat)(h:Vector Int 8):rO N h (K+33) (ag 32 0) 0=some (aOU h):=by
 have e:aOU h=#v[U8 (shr .u32 h[0] 24),U8 (shr .u32 h[0] 16),U8 (shr .u32 h[0] 8),U8 (shr .u32 h[0] 0),U8 (shr .u32 h[1] 24),U8 (shr .u32 h[1] 16),U8 (shr .u32 h[1] 8),U8 (shr .u32 h[1] 0),
  U8 (shr .u32 h[2] 24),U8 (shr .u32 h[2] 16),U8 (shr .u32 h[2] 8),U8 (shr .u32 h[2] 0),U8 (shr .u32 h[3] 24),U8 (shr .u32 h[3] 16),U8 (shr .u32 h[3] 8),U8 (shr .u32 h[3] 0),
  U8 (shr .u32 h[4] 24),U8 (shr .u32 h[4] 16),U8 (shr .u32 h[4] 8),U8 (shr .u32 h[4] 0),U8 (shr .u32 h[5] 24),U8 (shr .u32 h[5] 16),U8 (shr .u32 h[5] 8),U8 (shr .u32 h[5] 0),
  U8 (shr .u32 h[6] 24),U8 (shr .u32 h[6] 16),U8 (shr .u32 h[6] 8),U8 (shr .u32 h[6] 0),U8 (shr .u32 h[7] 24),U8 (shr .u32 h[7] 16),U8 (shr .u32 h[7] 8),U8 (shr .u32 h[7] 0)]:=by
  simp only[shr0]
  rfl
 rw[e]
 conv=>lhs;rw[vec8 h]
 generalize h[0]=a0;generalize h[1]=a1;generalize h[2]=a2;generalize h[3]=a3;generalize h[4]=a4;generalize h[5]=a5;generalize h[6]=a6;generalize h[7]=a7
 kernel_rfl
theorem aUN(N:Nat)(hN:64 < N)(all:List Int)(j:Nat)(hj:64*j+64<=all.length)(hl:all.length < 4611686018427387904):jQ N all ((64*j:Nat):Int) N (ag 64 0) 0=some (wM all j):=by
 obtain⟨v,h1,h2⟩:=aPA (m:=64) (by decide) (λi=>all.getD (64*j+i) 0) (jQ N all ((64*j:Nat):Int)) (λk v i hi=>by
  have f:I64 (((64*j:Nat):Int)+(i:Int))=((64*j+i:Nat):Int):=by rw[aR (by omega) (by omega)];omega
  rw[jQ,dt (show(i:Int) < 64 by omega),cond_true,f,tY (by omega),aa,cD (by omega) (by omega),aa,bx,oT v i hi,aa]) (λk v=>by rw[jQ,df (by omega),cond_false]) (N:=N) (by omega) (ag 64 0)
 rw[h1]
 refine congrArg some ?_;apply aKb;intro i hi;rw[yN _ _ _ hi,h2,List.getD_eq_getElem?_getD,ci,ez hi]
 rfl
theorem aS6(N:Nat)(hN:64 < N)(all:List Int)(hb:aQ all)(hl:all.length < 4611686018427387904):∀(k j:Nat),64*j<=all.length->all.length / 64 - j < k->mQ N all k (aH3 all j) ((64*j:Nat):Int)=some (aH3 all (all.length / 64))
 | 0,_,_,h=>by omega
 | k+1,j,hj,hk=>by
  have f:I64 (((64*j:Nat):Int)+64)=((64*(j+1):Nat):Int):=by rw[aR (by omega) (by omega)];omega
  rw[mQ,aC,f]
  by_cases h:64*(j+1)<=all.length
  ·rw[dt (by omega),cond_true,aUN N hN all j (by omega) hl,aa,cmpR N hN _ _ (hb.block j),aa]
   exact aS6 N hN all hb hl k (j+1) h (by omega)
  ·rw[df (by omega),cond_false,show all.length / 64=j by omega]
theorem shaR(N:Nat)(hN:100 < N)(m:List Int)(hm:aQ m)(hl:m.length<=100000000000000)(hlN:m.length < N):lE N m=some (aFj m):=by
 have hz:nQ m.length < 64:=by unfold nQ;omega
 unfold lE;rw[eF (by simp;omega),aa,dm,padR N (by omega) m.length (by omega),aa,eF (by rw[aCM];omega),aa]
 have hall:(m++aGd m.length).length=m.length+(nQ m.length+9):=by rw[ai,aCM]
 have h1:=aS6 N (by omega) (m++aGd m.length) (hm.app (aIS _)) (by rw[hall];omega) N 0 (by omega) (by rw[hall];omega)
 rw[show((64*0:Nat):Int)=0 from rfl] at h1;show ae (mQ N (m++aGd m.length) N (aH3 (m++aGd m.length) 0) 0) _=_;rw[h1,aa,hall]
 obtain⟨M,rfl⟩:∃M,N=M+33:=⟨N - 33,by omega⟩
 rw[aRZ,aa]
 rfl
theorem macR(N:Nat)(hN:200 < N)(key msg:List Int)(hk:aQ key)(hl:key.length+100 < N)(hl2:key.length<=1000000000000)(hm:aQ msg)(hml:msg.length+100 < N)(hml2:msg.length<=1000000000000):sC N key msg=some (aKu key msg):=by
 unfold sC;rw[eF (by simp;omega),aa,dm]
 have e1:(aN (decide ((key.length:Int) > 64)) λx3=>cond x3 (ae (lE N key) λr4=>ae (jO N r4 N [] 0) λp5=>some p5) (some key))=some (aEB key):=by
  rw[aC]
  unfold aEB;by_cases h:64 < key.length
  ·rw[if_pos h,dt (by omega),cond_true,shaR N (by omega) key hk (by omega) (by omega),aa,
    aDj (by decide) (aFj key) (jO N (aFj key)) (λk s i hi hs=>by rw[jO,dt (show(i:Int) < 32 by omega),cond_true,cD (by omega) (by omega),aa,bx,lG (by simp;omega),aa,eF (by simp;omega),aa]) (λk s=>by rw[jO,df (by omega),cond_false]) (by omega) (s:=[]) (by simp),aa,dm]
  ·rw[if_neg h,df (by omega),cond_false]
 have hkl:=aHj key;have e2:∀(k j:Nat),j<=64 - (aEB key).length->64 - (aEB key).length - j < k->oH N k (aEB key++ak j 0)=some (xL key):=by
  intro k
  induction k with
  | zero=>intro j _ h;omega
  | succ k ih=>
   intro j hj hjk;rw[oH,aC]
   by_cases h:j < 64 - (aEB key).length
   ·rw[dt (by simp;omega),cond_true,eF (by simp;omega),aa,ap,show([0]:List Int)=ak 1 0 from rfl,io]
    exact ih (j+1) (by omega) (by omega)
   ·obtain rfl:j=64 - (aEB key).length:=by omega
    rw[df (by simp;omega),cond_false]
    rfl
 have e3:=e2 N 0 (by omega) (by omega)
 rw[ke,dq] at e3;have hpl:=yR key;obtain⟨⟨a,b⟩,h1,h2⟩:=aEK 64 (by decide) (λi (p:List Int×List Int)=>p.1=((xL key).take i).map (λx=>eZ .u8 x 54)/\p.2=((xL key).take i).map (λx=>eZ .u8 x 92)) (λk p i=>mG N (xL key) k p.1 p.2 i) (λk p i hi ⟨g1,g2⟩=>by
  refine⟨(_,_),⟨rfl,rfl⟩,?_⟩
  have ht:∀f:Int->Int,((xL key).take (i+1)).map f=((xL key).take i).map f++[f ((xL key).getD i 0)]:=by
   intro f;rw[List.take_succ,List.map_append,lG (by omega)]
   rfl
  rw[mG,dt (show(i:Int) < 64 by omega),cond_true,tY (by omega),aa,eF (by rw[g1];simp;omega),aa,aa,eF (by rw[g2];simp;omega),aa,g1,g2,ht,ht]) (λk p=>by rw[mG,df (by omega),cond_false]) N 0 ([],[]) ⟨by simp,by simp⟩ (by omega) (by omega)
 rw[show((0:Nat):Int)=0 from rfl] at h2;have ha:a=aAR key:=by have:=h1.1;dsimp only at this;rw[this,ar (by omega)];rfl
 have hb:b=aCI key:=by have:=h1.2;dsimp only at this;rw[this,ar (by omega)];rfl
 rw[e1,aa,e3,aa,h2,aa]
 dsimp only;rw[ha,hb,eF (by rw[xP];omega),aa,shaR N (by omega) _ ((aAW key).app hm) (by rw[ai,xP];omega) (by rw[ai,xP];omega),aa,
  aDj (by decide) (aFj (aAR key++msg)) (mK N (aFj (aAR key++msg))) (λk s i hi hs=>by rw[mK,dt (show(i:Int) < 32 by omega),cond_true,cD (by omega) (by omega),aa,bx,lG (by simp;omega),aa,eF (by simp;omega),aa]) (λk s=>by rw[mK,df (by omega),cond_false]) (by omega) (s:=aCI key) (by rw[aA6];omega),aa,
  shaR N (by omega) _ ((aFy key).app (aDs _)) (by rw[ai,aA6];simp) (by rw[ai,aA6];simp;omega),aa]
 rfl
theorem aSC(N:Nat)(hN:32 < N)(v:Vector Int 32):qG N v=some v.toList:=by
 unfold qG;rw[aDj (by decide) v (kC N v) (λk s i hi hs=>by rw[kC,dt (show(i:Int) < 32 by omega),cond_true,tY (by simp;omega),aa,eF (by simp;omega),aa]) (λk s=>by rw[kC,df (by omega),cond_false]) hN (s:=[]) (by simp),aa,dm]
theorem aPy(N:Nat):∀(k:Nat) (s:List Int) (n i:Int),lY N k s n i=dG N k s n i
 | 0,_,_,_=>rfl
 | k+1,s,n,i=>by
  rw[lY,dG]
  congr 1;congr 1;funext z;exact aPy N k _ _ _
theorem aVF{n:Nat}(h:n<=1000000):tW (n:Int)=aBH n:=by
 rw[show tW (n:Int)=(bo 8).map (λi=>U8 (shr .i64 (n:Int) ((8*i:Nat):Int))) from rfl]
 have l8:=yD n;apply List.ext_getElem?;intro i;rw[ci]
 by_cases c:i < 8
 ·rw[ez c,lG (by omega),Option.map_some,aKe h c]
 ·rw[bf (by rw[List.length_range];omega),bf (by omega)]
  rfl
theorem aSW(N:Nat)(hN:20 < N){n:Nat}(h:n<=1000000):mP N (n:Int)=some (tW (n:Int)):=by
 have:=aPQ N hN (n:=n) (by omega)
 unfold jR at this;unfold mP;rw[aPy,aVF h]
 exact this
theorem aS1(N:Nat)(hN:1000 < N)(ps:List (List Int))(hps:ps.length<=100)(hl:∀p∈ps,p.length<=100):∀(k i:Nat) (s:List Int),s.length<=1000+200*i->i<=ps.length->ps.length - i < k->lT N ps k s (i:Int)=some (s++(ps.drop i).flatMap λp=>tW (p.length:Int)++p)
 | 0,_,_,_,_,h=>by omega
 | k+1,i,s,hs,hi,hk=>by
  rw[lT]
  by_cases c:i < ps.length
  ·have h1:=hl _ (List.getElem_mem c)
   have e8:=xQ (ps[i].length:Int)
   rw[dt (by omega),aC,cond_true,dJ c,aa,aSW N (by omega) (by omega),aa,rE (by omega) (by omega),aa,aa,rE (by rw[ai];omega) (by omega),aa,cZ (by omega),aS1 N hN ps hps hl k (i+1) _ (by rw[ai,ai];omega) (by omega) (by omega),List.drop_eq_getElem_cons c,cx]
   simp only[ap]
  ·rw[df (by omega),aC,cond_false,List.drop_eq_nil_of_le (by omega)]
   simp
theorem aRz(N:Nat)(hN:70000 < N)(key:Vector Int 32)(hk:eH key)(name:ByteArray)(hn:name.size<=100)(ps:List (List Int))(hps:ps.length<=100)(hb:∀p∈ps,aQ p/\p.length<=100):oL N key name ps=some (derV key name ps):=by
 unfold oL;have e8:=xQ (name.size:Int)
 have eb:=aDv name;have h1:=aS1 N (by omega) ps hps (λp hp=>(hb p hp).2) N 0 (tW (name.size:Int)++uZ name) (by rw[ai];omega) (by omega) (by omega)
 rw[List.drop_zero,show((0:Nat):Int)=0 from rfl] at h1;rw[aC,aSW N (by omega) (by omega),aa,rE (by omega) (by omega),aa,h1,aa,aSC N (by omega),aa]
 have hf:(aCQ name ps).flatten=tW (name.size:Int)++uZ name++ps.flatMap λp=>tW (p.length:Int)++p:=by
  unfold aCQ;rw[kf]
  congr 1
  ·simp
  ·clear h1 hps hb
   induction ps with
   | nil=>rfl
   | cons a l ih=>rw[cx,cx,kf,ih];simp
 have hmb:aQ (aCQ name ps).flatten:=by
  intro x hx;obtain⟨p,hp,hx⟩:=List.mem_flatten.1 hx;unfold aCQ at hp;rcases dk.1 hp with hp | hp
  ·simp only[d8,d9,or_false] at hp;rcases hp with rfl | rfl
   ·exact zL _ x hx
   ·exact aE5 _ x hx
  ·obtain⟨q,hq,hp⟩:=lj.1 hp;simp only[d8,d9,or_false] at hp;rcases hp with rfl | rfl
   ·exact zL _ x hx
   ·exact(hb _ hq).1 x hx
 have hml:(aCQ name ps).flatten.length<=202*100:=by
  have hl:(aCQ name ps).length<=202:=by unfold aCQ;rw[ai,aBh];simp;omega
  have:=aDc (aCQ name ps) 100 (λp hp=>by
   unfold aCQ at hp;rcases dk.1 hp with hp | hp
   ·simp only[d8,d9,or_false] at hp;rcases hp with rfl | rfl
    ·rw[xQ];omega
    ·rw[aDv];exact hn
   ·obtain⟨q,hq,hp⟩:=lj.1 hp;simp only[d8,d9,or_false] at hp;rcases hp with rfl | rfl
    ·rw[xQ];omega
    ·exact(hb _ hq).2)
  omega
 rw[<- hf,macR N (by omega) key.toList _ hk (by simp;omega) (by simp) hmb (by omega) (by omega),aa]
 rfl
theorem aS3(x:Int)(n:Nat)(h:2 ^ n<=18446744073709551616)(h0:0<=x)(h1:x < 18446744073709551616):cF .u64 x (((2 ^ n - 1:Nat)):Int)=x % ((2 ^ n:Nat):Int):=by
 have hp:0 < 2 ^ n:=Nat.two_pow_pos n;rw[aJ0 h0 h1 (by omega) (by omega),bx,Nat.and_two_pow_sub_one_eq_mod,Int.natCast_emod,Int.toNat_of_nonneg h0]
theorem leBx(w:Nat)(x:Int):leB w x=(bo w).map (λi=>U8 (shr .u64 x ((8*i:Nat):Int))):=rfl
theorem aTM(a:Int):shr .u64 a ((8*0:Nat):Int)=a:=by unfold shr;simp
theorem keyR(N:Nat)(hN:70000 < N)(m:Vector Int 32)(hm:eH m)(id epoch:Int):pF N m id epoch=some (aMr m id epoch):=by
 unfold pF aMr;have b1:=aS3 (U64 id) 16 (by decide) (aCP id) (aFk id)
 have b2:=aS3 (U64 epoch) 32 (by decide) (aCP epoch) (aFk epoch)
 rw[show((2 ^ 16 - 1:Nat):Int)=65535 from rfl,show((2 ^ 16:Nat):Int)=65536 from rfl] at b1;rw[show((2 ^ 32 - 1:Nat):Int)=4294967295 from rfl,show((2 ^ 32:Nat):Int)=4294967296 from rfl] at b2;have t1:br (U64 id) 65536=U64 id % 65536:=cz (aCP id)
 have t2:br (U64 epoch) 4294967296=U64 epoch % 4294967296:=cz (aCP epoch)
 rw[t1,t2,aC,aC,b1,b2]
 have e2:∀x:Int,[U8 x,U8 (shr .u64 x 8)]=leB 2 x:=λx=>by rw[show leB 2 x=[U8 (shr .u64 x ((8*0:Nat):Int)),U8 (shr .u64 x 8)] from rfl,aTM]
 have e4:∀x:Int,[U8 x,U8 (shr .u64 x 8),U8 (shr .u64 x 16),U8 (shr .u64 x 24)]=leB 4 x:=λx=>by rw[show leB 4 x=[U8 (shr .u64 x ((8*0:Nat):Int)),U8 (shr .u64 x 8),U8 (shr .u64 x 16),U8 (shr .u64 x 24)] from rfl,aTM]
 rw[e2,e4,aRz N hN m hm aLW (by decide) _ (by simp) (by intro p hp;simp only[d8,d9,or_false] at hp;rcases hp with rfl | rfl <;> exact⟨pG _ _,by rw[iI];omega⟩),aa]
theorem wrapE(N:Nat)(hN:70000 < N){m:Vector Int 32}(hm:eH m){id ep:Int}{base:Vector Int 8}(hb:eH base)(man:aE)(a:aF)(t:aHB man)(hA:aFp a):∃r,wG N m id ep base man a=some r/\qU N m id ep base man a=some r/\aQ r.1:=by
 unfold wG qU rW;simp only[aC,aa]
 by_cases hi:1<=id/\id<=65535
 rotate_left
 ·rw[show cond (decide (id>=1)) (decide (id<=65535)) false=false by
   by_cases c:id>=1
   ·rw[dt c,cond_true,df (by omega)]
   ·rw[df c,cond_false],show cond (decide (id < 1)) true (decide (id > 65535))=true by
   by_cases c:id < 1
   ·rw[dt c,cond_true]
   ·rw[df c,cond_false,dt (by omega)]]
  exact⟨_,rfl,rfl,aCn⟩
 rw[dt (show id>=1 by omega),dt (show id<=65535 by omega),df (show ¬id < 1 by omega),df (show ¬id > 65535 by omega)]
 simp only[cond_true,cond_false,Bool.not_true,aa]
 by_cases he:1<=ep/\ep<=65535
 rotate_left
 ·rw[show cond (decide (ep>=1)) (decide (ep<=65535)) false=false by
   by_cases c:ep>=1
   ·rw[dt c,cond_true,df (by omega)]
   ·rw[df c,cond_false],show cond (decide (ep < 1)) true (decide (ep > 65535))=true by
   by_cases c:ep < 1
   ·rw[dt c,cond_true]
   ·rw[df c,cond_false,dt (by omega)]]
  exact⟨_,rfl,rfl,aCn⟩
 rw[dt (show ep>=1 by omega),dt (show ep<=65535 by omega),df (show ¬ep < 1 by omega),df (show ¬ep > 65535 by omega)]
 simp only[cond_true,cond_false,Bool.not_true,aa]
 rw[keyP N (by omega) m hm,aa,keyR N hN m hm,aa]
 have hkb:aQ (aMr m id ep).toList:=aMQ m id ep;obtain⟨r,e1,h1⟩:=aTA N (by omega) (aMr m id ep) base man a t hA;rw[sealE N hN hkb hb man a t hA,e1,aa,aa]
 by_cases c:r.2=0
 rotate_left
 ·rw[show(r.2 != 0)=true by simpa using c,cond_true,cond_true]
  exact⟨_,rfl,rfl,aCn⟩
 rcases h1 with ⟨_,g,_,h0,h⟩ | ⟨c',_⟩
 rotate_left
 ·exact absurd c c'
 have hl:=g.len;have hbl:=aK5 N (by omega) (aMr m id ep) base (vG man (sK a).length) (sK a)
 have hn:nCh (sK a).length<=8:=by unfold nCh;omega
 rw[<- h] at hbl;have hbb:aQ r.1:=by
  rw[h];exact aIl (by omega) _ hb ((aEo t hl).r h0) _
 rw[c,show((0:Int) != 0)=false from rfl,cond_false,cond_false,eJ (x:=id) (by omega) (by omega),eJ (x:=ep) (by omega) (by omega),show(2:Int)=((2:Nat):Int) from rfl,aJz N (by omega) [85,77,75,49] (by simp) 2 (by decide) (by decide) id (by omega) (by rw[show cH 2=65536 from rfl];omega),aa]
 dsimp only;rw[show(4:Int)=((4:Nat):Int) from rfl,aJz N (by omega) _ (by simp[iI]) 4 (by decide) (by decide) ep (by omega) (by rw[show cH 4=4294967296 from rfl];omega),aa]
 dsimp only;have l4:leB 4 ep=[U8 (br ep 256),U8 (I64 (cv ep 256)),0,0]:=by
  have q1:br ep 256=ep % 256:=cz (by omega)
  have q2:cv ep 256=ep / 256:=Int.tdiv_eq_ediv_of_nonneg (by omega)
  rw[leBx,show(bo 4).map (λi=>U8 (shr .u64 ep ((8*i:Nat):Int)))=[U8 (shr .u64 ep ((8*0:Nat):Int)),U8 (shr .u64 ep ((8*1:Nat):Int)),U8 (shr .u64 ep ((8*2:Nat):Int)),U8 (shr .u64 ep ((8*3:Nat):Int))] from rfl,aHH _ 0 (by decide),aHH _ 1 (by decide),aHH _ 2 (by decide),aHH _ 3 (by decide),q1,q2,aR (x:=ep / 256) (by omega) (by omega),aAz,aAz,aAz,aAz,aAz,aAz,show cH 0=1 from rfl,show cH 1=256 from rfl,show cH 2=65536 from rfl,show cH 3=16777216 from rfl]
  congr 1
  ·omega
  congr 1;congr 1
  ·omega
  congr 1;omega
 have e:[85,77,75,49]++leB 2 id++leB 4 ep=[85,77,75,49,U8 (br id 256),U8 (I64 (cv id 256)),U8 (br ep 256),U8 (I64 (cv ep 256)),0,0]:=by
  rw[l4,aOQ ⟨by omega,by omega⟩]
  rfl
 rw[e,rE (by simp) (by omega),aa]
 refine⟨_,rfl,rfl,?_⟩
 have h10:aQ ([85,77,75,49]++leB 2 id++leB 4 ep):=aQ.app (aQ.app (λx hx=>by simp only[d8,d9,or_false] at hx;rcases hx with rfl | rfl | rfl | rfl <;> exact⟨by decide,by decide⟩) (pG _ _)) (pG _ _)
 rw[e] at h10;exact h10.app hbb
theorem few18(N:Nat)(x:fW):T (sG N x) (λr=>aFp r.gA):=by
 unfold sG uO;simp only[aC]
 rw[show(70:Int)=((70:Nat):Int) from rfl,show(260:Int)=((260:Nat):Int) from rfl,aEe,aa,aEe,aa,aEe,aa,aa,aEe,aa]
 exact T.ret ⟨by dsimp only;rw[bp];omega,by dsimp only;rw[bp];omega,by dsimp only;rw[bp];omega,by dsimp only;rw[bp];omega⟩
theorem base3 : eH ((ag 8 (0:Int)).setIfInBounds 0 3):=by
 unfold eH aQ isB;decide
theorem aMI(N:Nat)(hN:70000 < N)(hw:pQ N=some true)(w:bU)(hm:eH w.gA8)(t:aHB w.gM)(a:aF):oS N w a=some true:=by
 unfold oS;obtain⟨r1,e1,hA⟩:=few18 N (fW.mk 0 0 (aE.mk 0 0 0 (ag 8 0) 0 0 0 0) a (xJ.mk 0 0 0 0 (uU.mk (ag 9 0) (zT.mk 0 0 0))))
 obtain⟨r,e2,e3,hb⟩:=wrapE N hN hm (id:=w.gId) (ep:=w.gA9) base3 w.gM r1.gA t hA;rw[e1,aa,e2,e3,aa,aa,aUE N hb hb,aa,dt rfl,cond_true,show(r.2==r.2)=true from beq_self_eq_true _,cond_true,keyP N (by omega) _ hm,keyR N hN _ hm,aa,aa,aQo,aC,cond_true,hw]
 rfl
end Go.UK
