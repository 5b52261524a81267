/- A part of the proof: what the functions of the program compute. -/
import Derived.Test.YtbfieohdmihfpaaGreatDoorJ5
import Derived.Test.YtbfieohdmihfpaaGreatDoorJ3
import Derived.KernelRfl
open Int renaming tmod→cj,toNat_natCast→bu
open List renaming append_assoc→an,append_nil→dp,drop_eq_getElem_cons→co,drop_zero→eu,ext_getElem?→cz,flatMap_cons→d8,flatten_append→lj,getElem?_eq_none→ar,getElem?_map→ci,getElem?_range→dw,length_append→ai,length_range→ii,length_take→bj,mem_append→d9,mem_cons→cx,mem_flatMap→jf,mem_of_mem_take→ce,nil_append→dn,not_mem_nil→dk,range→bq,replicate→aj,replicate_append_replicate→j3,replicate_zero→li,take_of_length_le→aq
open Option renaming bind→ae,bind_some→aa
open Vector renaming length_toList→kf,replicate→ah
namespace Go.UK
open Go Go.Proofs
set_option maxRecDepth 20000
set_option maxHeartbeats 2000000
set_option linter.all false
def rZ(n:Int):List Int:=[U8 (shr .i64 n 0),U8 (shr .i64 n 8),U8 (shr .i64 n 16),U8 (shr .i64 n 24),U8 (shr .i64 n 32),U8 (shr .i64 n 40),U8 (shr .i64 n 48),U8 (shr .i64 n 56)]
theorem aVi(N K:Nat)(a:Int):rT N 8 a (K+9) (aj 8 0) 0=some (rZ a):=by kernel_rfl
theorem aRI(N:Nat)(hN:20 < N)(a:Int):wQ N a=some (rZ a):=by
 obtain⟨K,rfl⟩:∃K,N=K+9:=⟨N - 9,by omega⟩
 unfold wQ;rw[show mkO 1 8=some () from rfl,aa,aB]
 have e:rT (K+9) ((8:Int).toNat:Int) a (K+9) (aj (8:Int).toNat 0) 0=some (rZ a):=aVi (K+9) K a;rw[e]
 rfl
theorem xP(a:Int):aS (rZ a):=by
 intro x hx;simp only[rZ,cx,dk,or_false] at hx;rcases hx with rfl | rfl | rfl | rfl | rfl | rfl | rfl | rfl <;> exact aId _
theorem vG(a:Int):(rZ a).length=8:=rfl
theorem aDx(s:ByteArray):aS (tB s):=by
 intro x hx;obtain⟨b,_,rfl⟩:=List.mem_map.1 hx;exact⟨by omega,by have:=b.toNat_lt;omega⟩
theorem aDL(s:ByteArray):(tB s).length=s.size:=by unfold tB;rw[List.length_map];rfl
def aBv(name:ByteArray)(ps:List (List Int)):List (List Int):=[rZ (name.size:Int),tB name]++ps.flatMap λp=>[rZ (p.length:Int),p]
def aRe(key:Vector Int 32)(name:ByteArray)(ps:List (List Int)):Vector Int 32:=aLb key.toList (aBv name ps).flatten
theorem aMh(key:Vector Int 32)(name:ByteArray)(ps:List (List Int)):fJ (aRe key name ps):=aLi _ _
theorem aDI : ∀(ls:List (List Int)) (m:Nat),(∀l∈ls,l.length<=m)->ls.flatten.length<=ls.length*m
 | [],m,_=>by simp
 | l :: ls,m,h=>by
  have h1:=h l (by simp)
  have h2:=aDI ls m (λx hx=>h x (by simp[hx]))
  simp only[List.flatten_cons,ai,List.length_cons,Nat.succ_mul]
  omega
theorem aAg{α β:Type}(f g:α->β):∀l:List α,(l.flatMap λp=>[f p,g p]).length=2*l.length
 | []=>rfl
 | a :: l=>by simp[aAg f g l];omega
theorem aT2(N:Nat)(hN:1000 < N)(ps:List (List Int))(hps:ps.length<=100):∀(k i:Nat) (s:List (List Int)),s.length<=100+2*i->i<=ps.length->ps.length - i < k->oC N ps k s (i:Int)=some (s++(ps.drop i).flatMap λp=>[rZ (p.length:Int),p])
 | 0,_,_,_,_,h=>by omega
 | k+1,i,s,hs,hi,hk=>by
  by_cases h:i < ps.length
  ·rw[oC,aB,dt,cond_true,cQ h,aa,aRI N (by omega),aa,dG (by simp;omega),aa,cI,aT2 N hN ps hps k (i+1) _ (by simp;omega) (by omega) (by omega),co h,d8,an]
  ·obtain rfl:i=ps.length:=by omega
   rw[oC,aB,df,cond_false,List.drop_length]
   simp
theorem aSu(N:Nat)(hN:1000 < N)(key:Vector Int 32)(hk:fJ key)(name:ByteArray)(hn:name.size<=100)(ps:List (List Int))(hps:ps.length<=100)(hb:∀p∈ps,aS p/\p.length<=100):uD N key name ps=some (aRe key name ps):=by
 unfold uD;have h1:=aT2 N hN ps hps N 0 [rZ (name.size:Int),tB name] (by simp) (by omega) (by omega)
 rw[eu,show((0:Nat):Int)=0 from rfl] at h1;rw[aB,aRI N (by omega),aa,h1,aa,aLs,aa]
 have hl:(aBv name ps).length<=202:=by unfold aBv;rw[ai,aAg];simp;omega
 have hm:∀p∈aBv name ps,aS p/\p.length<=100:=by
  intro p hp;unfold aBv at hp;rcases d9.1 hp with hp | hp
  ·simp only[cx,dk,or_false] at hp;rcases hp with rfl | rfl
   ·exact⟨xP _,by rw[vG];omega⟩
   ·exact⟨aDx _,by rw[aDL];exact hn⟩
  ·obtain⟨q,hq,hp⟩:=jf.1 hp;simp only[cx,dk,or_false] at hp;rcases hp with rfl | rfl
   ·exact⟨xP _,by rw[vG];omega⟩
   ·exact hb _ hq
 have hf:=aDI (aBv name ps) 100 (λp hp=>(hm p hp).2)
 have:=hmacP N (by omega) key.toList (aBv name ps) hk (by simp;omega) (by simp) (λp hp=>(hm p hp).1) (λp hp=>by have:=(hm p hp).2;omega) (by omega) (by omega) (by omega)
 unfold aBv at this;rw[this,aa]
 rfl
set_option maxHeartbeats 16000000
theorem aIM(N:Nat)(x:Int)(n:Nat)(h1:1<=n:=by decide)(h2:n<=31:=by decide):bP N x n=some (xX x n):=by
 unfold bP;rw[jH .u32,aa,aT,uM .u32,aa,show(32 - (n:Int))=((32 - n:Nat):Int) by omega]
 rfl
theorem byL1(N:Nat)(b:Vector Int 64)(hb:aAN b)(hN:64 < N):jN N b N [] 0=some (oK b 16):=by
 obtain⟨v,h1,h2⟩:=aEF 16 (by decide) (λi (l:List Int)=>l=oK b i) (λk v i=>jN N b k v i) (λk v i hi hv=>by
  refine⟨_,rfl,?_⟩
  rw[jN,dt (show(i:Int) < 16 by omega),cond_true]
  have e0:I64 (4*(i:Int))=((4*i:Nat):Int):=by rw[aT];omega
  have e1:I64 (((4*i:Nat):Int)+1)=((4*i+1:Nat):Int):=by rw[aT];omega
  have e2:I64 (((4*i:Nat):Int)+2)=((4*i+2:Nat):Int):=by rw[aT];omega
  have e3:I64 (((4*i:Nat):Int)+3)=((4*i+3:Nat):Int):=by rw[aT];omega
  simp only[e0,e1,e2,e3,aB]
  rw[rS (by simp;omega),aa,rS (by simp;omega),aa,rS (by simp;omega),aa,rS (by simp;omega),aa,
   aW4 (hb _ (by omega)) (hb _ (by omega)) (hb _ (by omega)) (hb _ (by omega)),hv,aUE (by rw[aCE];omega),aa]
  rw[oK,aFT,if_pos hi]
  rfl) (λk v=>by rw[jN,df,cond_false]) N 0 [] rfl (by omega) (by omega)
 rw[<- h1];exact h2
theorem byL2(N:Nat)(b:Vector Int 64)(hN:64 < N):jI N N (oK b 16) 16=some (oK b 64):=by
 obtain⟨v,h1,h2⟩:=aUG 16 64 (by decide) (λi (l:List Int)=>l=oK b i) (λk v i=>jI N k v i) (λk v i hm hi hv=>by
  refine⟨_,rfl,?_⟩
  subst hv;rw[jI,dt (show(i:Int) < 64 by omega),cond_true]
  have f15:I64 ((i:Int) - 15)=((i - 15:Nat):Int):=by rw[aT];omega
  have f2:I64 ((i:Int) - 2)=((i - 2:Nat):Int):=by rw[aT];omega
  have f16:I64 ((i:Int) - 16)=((i - 16:Nat):Int):=by rw[aT];omega
  have f7:I64 ((i:Int) - 7)=((i - 7:Nat):Int):=by rw[aT];omega
  have hl:=aCE b i;rw[f15,f2,f16,f7]
  simp only[aB]
  rw[rS (i:=i - 15),aa,show(7:Int)=((7:Nat):Int) from rfl,aIM N _ 7,aa,aa,show(18:Int)=((18:Nat):Int) from rfl,aIM N _ 18,aa,aa,
   rS (i:=i - 2),aa,show(17:Int)=((17:Nat):Int) from rfl,aIM N _ 17,aa,aa,show(19:Int)=((19:Nat):Int) from rfl,aIM N _ 19,aa,aa,
   rS (i:=i - 7),aa,rS (i:=i - 16),aa,aUE (by omega),aa]
  have:U32 (U32 (U32 (sig1 ((oK b i).getD (i - 2) 0)+(oK b i).getD (i - 7) 0)+sig0 ((oK b i).getD (i - 15) 0))+(oK b i).getD (i - 16) 0)=aFT b (oK b i) i:=by
   unfold aFT;rw[if_neg (by omega)]
   simp only[aLT]
   omega
  rw[oK,<- this]
  rfl) (λk v=>by rw[jI,df,cond_false]) N 16 (oK b 16) rfl (by omega) (by omega) (by omega)
 rw[<- h1];exact h2
theorem byL4(N K:Nat)(s:Vector Int 8):nS N (K+8) s 7=some #v[s[0],s[0],s[1],s[2],s[3],s[4],s[5],s[6]]:=by
 conv=>lhs;rw[vec8 s]
 generalize s[0]=a0;generalize s[1]=a1;generalize s[2]=a2;generalize s[3]=a3;generalize s[4]=a4;generalize s[5]=a5;generalize s[6]=a6;generalize s[7]=a7
 kernel_rfl
theorem aWN : jX=eJ:=rfl
theorem byL3(N:Nat)(w:List Int)(hw:w.length=64)(h:Vector Int 8)(hN:64 < N):jJ N jX w N h 0=some (aIT w h 64):=by
 rw[aWN]
 obtain⟨M,rfl⟩:∃M,N=M+8:=⟨N - 8,by omega⟩
 generalize hNN:M+8=N at *;obtain⟨v,h1,h2⟩:=aEF 64 (by decide) (λi (v:Vector Int 8)=>v=aIT w h i) (λk v i=>jJ N eJ w k v i) (λk v i hi hv=>by
  refine⟨_,rfl,?_⟩
  subst hv;rw[jJ,dt (show(i:Int) < 64 by omega),cond_true]
  generalize hs:aIT w h i=s;have r0:aO 0 8=some ():=rfl;have r1:aO 1 8=some ():=rfl;have r2:aO 2 8=some ():=rfl;have r4:aO 4 8=some ():=rfl;have r5:aO 5 8=some ():=rfl;have r6:aO 6 8=some ():=rfl;have r7:aO 7 8=some ():=rfl;have g0:s.toList[((0:Int).toNat)]? = some s[0]:=mG s 0;have g1:s.toList[((1:Int).toNat)]? = some s[1]:=mG s 1;have g2:s.toList[((2:Int).toNat)]? = some s[2]:=mG s 2;have g4:s.toList[((4:Int).toNat)]? = some s[4]:=mG s 4;have g5:s.toList[((5:Int).toNat)]? = some s[5]:=mG s 5;have g6:s.toList[((6:Int).toNat)]? = some s[6]:=mG s 6;have g7:s.toList[((7:Int).toNat)]? = some s[7]:=mG s 7;have q6:∀x,bP N x 6=some (xX x 6):=λx=>aIM N x 6;have q11:∀x,bP N x 11=some (xX x 11):=λx=>aIM N x 11;have q25:∀x,bP N x 25=some (xX x 25):=λx=>aIM N x 25;have q2:∀x,bP N x 2=some (xX x 2):=λx=>aIM N x 2;have q13:∀x,bP N x 13=some (xX x 13):=λx=>aIM N x 13;have q22:∀x,bP N x 22=some (xX x 22):=λx=>aIM N x 22;have gk:idx eJ.toList (i:Int)=some (kV i):=rS (by simp;omega)
  have gp:idx w (i:Int)=some (w.getD i 0):=rS;have b4:nS N N s 7=some #v[s[0],s[0],s[1],s[2],s[3],s[4],s[5],s[6]]:=by
   have:=byL4 N M s;rwa[hNN] at this
  simp only[r0,r4,r7,g0,g4,g7,aa,q6,q11,q25,q2,q13,q22,aB,r1,r2,r5,r6,g1,g2,g5,g6,gk,gp,b4]
  simp only[tl4,tl0,tls,aa]
  rw[aIT,hs]
  rfl) (λk v=>by rw[jJ,df,cond_false]) N 0 h rfl (by omega) (by omega)
 rw[<- h1];exact h2
theorem cmpR(N:Nat)(hN:64 < N)(h:Vector Int 8)(b:Vector Int 64)(hb:aAN b):nW N h b=some (aMR h b):=by
 unfold nW wZ;rw[byL1 N b hb hN,aa,byL2 N b hN,aa,byL3 N _ (aCE b 64) h hN,aa,aOO h (λk v i=>nK N h k v i) (λk v i=>by rw[nK]) N _,aa,aa]
 rfl
theorem aUU(N n:Nat)(hn:n < 4611686018427387904):∀(k j:Nat),j<=lW n->lW n - j < k->mI N (n:Int) k (128 :: aj j 0)=some (128 :: aj (lW n) 0)
 | 0,_,_,h=>by omega
 | k+1,j,hj,hk=>by
  have hz:lW n < 64:=by unfold lW;omega
  have e1:I64 (cj (n:Int) 64+((128 :: aj j (0:Int)).length:Int))=((n % 64+(j+1):Nat):Int):=by
   rw[show cj (n:Int) 64=((n % 64:Nat):Int) from aAO n 64,aT (by simp;omega) (by simp;omega)]
   simp
  have e2:cj (I64 (((n % 64+(j+1):Nat):Int)+8)) 64=(((n % 64+(j+9)) % 64:Nat):Int):=by
   rw[show I64 (((n % 64+(j+1):Nat):Int)+8)=((n % 64+(j+9):Nat):Int) by rw[aT];omega]
   exact aAO _ 64
  rw[mI,aB,e1,aB,e2]
  by_cases h:j < lW n
  ·rw[dt (by unfold lW at h;omega),cond_true,oY (by simp;omega),aa,List.cons_append,show([0]:List Int)=aj 1 0 from rfl,j3]
   exact aUU N n hn k (j+1) (by omega) (by omega)
  ·obtain rfl:j=lW n:=by omega
   rw[df (by unfold lW;omega),cond_false]
theorem aUl(N n:Nat)(hn:n < 4611686018427387904)(P:List Int)(hP:P.length<=100):∀(k t:Nat),t<=8->8 - t < k->mF N (n:Int) k (P++((bq 8).map (beB n)).take t) (7 - (t:Int))=some (P++(bq 8).map (beB n))
 | 0,_,_,h=>by omega
 | k+1,t,ht,hk=>by
  rw[mF]
  by_cases h:t < 8
  ·have f3:I64 (8*(7 - (t:Int)))=((8*(7 - t):Nat):Int):=by rw[aT];omega
   have f4:I64 (7 - (t:Int) - 1)=7 - ((t+1:Nat):Int):=by rw[aT];omega
   rw[dt,cond_true,f3,jH .u64,aa,oY (by simp;omega),aa,f4,aS8,an]
   have:((bq 8).map (beB n)).take t++[U8 (shr .u64 (aIy n) ((8*(7 - t):Nat):Int))]=((bq 8).map (beB n)).take (t+1):=(aIB (beB n) h).symm;rw[this]
   exact aUl N n hn P hP k (t+1) (by omega) (by omega)
  ·obtain rfl:t=8:=by omega
   rw[df,cond_false,aq (by simp)]
theorem padR(N:Nat)(hN:64 < N)(n:Nat)(hn:n < 4611686018427387904):sR N (n:Int)=some (aFx n):=by
 unfold sR;have hz:lW n < 64:=by unfold lW;omega
 have h1:=aUU N n hn N 0 (by omega) (by omega)
 rw[li] at h1;have h2:=aUl N n hn (128 :: aj (lW n) 0) (by simp;omega) N 0 (by omega) (by omega)
 rw[List.take_zero,dp,show(7 - ((0:Nat):Int))=7 from rfl] at h2;rw[df (show ¬(n:Int) < 0 by omega),cond_false,aa,h1,aa,h2,aa]
 rfl
theorem aR8(N K:Nat)(h:Vector Int 8):pJ N h (K+33) (ah 32 0) 0=some (aPS h):=by
 have e:aPS h=#v[U8 (shr .u32 h[0] 24),U8 (shr .u32 h[0] 16),U8 (shr .u32 h[0] 8),U8 (shr .u32 h[0] 0),U8 (shr .u32 h[1] 24),U8 (shr .u32 h[1] 16),U8 (shr .u32 h[1] 8),U8 (shr .u32 h[1] 0),
  U8 (shr .u32 h[2] 24),U8 (shr .u32 h[2] 16),U8 (shr .u32 h[2] 8),U8 (shr .u32 h[2] 0),U8 (shr .u32 h[3] 24),U8 (shr .u32 h[3] 16),U8 (shr .u32 h[3] 8),U8 (shr .u32 h[3] 0),
  U8 (shr .u32 h[4] 24),U8 (shr .u32 h[4] 16),U8 (shr .u32 h[4] 8),U8 (shr .u32 h[4] 0),U8 (shr .u32 h[5] 24),U8 (shr .u32 h[5] 16),U8 (shr .u32 h[5] 8),U8 (shr .u32 h[5] 0),
  U8 (shr .u32 h[6] 24),U8 (shr .u32 h[6] 16),U8 (shr .u32 h[6] 8),U8 (shr .u32 h[6] 0),U8 (shr .u32 h[7] 24),U8 (shr .u32 h[7] 16),U8 (shr .u32 h[7] 8),U8 (shr .u32 h[7] 0)]:=by
  simp only[shr0]
  rfl
 rw[e]
 conv=>lhs;rw[vec8 h]
 generalize h[0]=a0;generalize h[1]=a1;generalize h[2]=a2;generalize h[3]=a3;generalize h[4]=a4;generalize h[5]=a5;generalize h[6]=a6;generalize h[7]=a7
 kernel_rfl
theorem aVR(N:Nat)(hN:64 < N)(all:List Int)(j:Nat)(hj:64*j+64<=all.length)(hl:all.length < 4611686018427387904):iN N all ((64*j:Nat):Int) N (ah 64 0) 0=some (uC all j):=by
 obtain⟨v,h1,h2⟩:=aLH (m:=64) (by decide) (λi=>all.getD (64*j+i) 0) (iN N all ((64*j:Nat):Int)) (λk v i hi=>by
  have f:I64 (((64*j:Nat):Int)+(i:Int))=((64*j+i:Nat):Int):=by rw[aT];omega
  rw[iN,dt (show(i:Int) < 64 by omega),cond_true,f,rS,aa,bR,aa,bu,mG v i hi,aa]) (λk v=>by rw[iN,df,cond_false]) (N:=N) (by omega) (ah 64 0)
 rw[h1]
 refine congrArg some ?_;apply aJM;intro i hi;rw[vY _ _ _ hi,h2,List.getD_eq_getElem?_getD,ci,dw hi]
 rfl
theorem aUm(N:Nat)(hN:64 < N)(all:List Int)(hb:aS all)(hl:all.length < 4611686018427387904):∀(k j:Nat),64*j<=all.length->all.length / 64 - j < k->kP N all k (aGj all j) ((64*j:Nat):Int)=some (aGj all (all.length / 64))
 | 0,_,_,h=>by omega
 | k+1,j,hj,hk=>by
  have f:I64 (((64*j:Nat):Int)+64)=((64*(j+1):Nat):Int):=by rw[aT];omega
  rw[kP,aB,f]
  by_cases h:64*(j+1)<=all.length
  ·rw[dt,cond_true,aVR N hN all j (by omega) hl,aa,cmpR N hN _ _ (hb.block j),aa]
   exact aUm N hN all hb hl k (j+1) h (by omega)
  ·rw[df,cond_false,show all.length / 64=j by omega]
theorem shaR(N:Nat)(hN:100 < N)(m:List Int)(hm:aS m)(hl:m.length<=100000000000000:=by omega)(hlN:m.length < N:=by omega):jQ N m=some (aBe m):=by
 have hz:lW m.length < 64:=by unfold lW;omega
 unfold jQ;rw[dG (by simp;omega),aa,dn,padR N (by omega) m.length (by omega),aa,dG (by rw[aBl];omega),aa]
 have hall:(m++aFx m.length).length=m.length+(lW m.length+9):=by rw[ai,aBl]
 have h1:=aUm N (by omega) (m++aFx m.length) (hm.app (aG2 _)) (by rw[hall];omega) N 0 (by omega) (by rw[hall];omega)
 rw[show((64*0:Nat):Int)=0 from rfl] at h1;show ae (kP N (m++aFx m.length) N (aGj (m++aFx m.length) 0) 0) _=_;rw[h1,aa,hall]
 obtain⟨M,rfl⟩:∃M,N=M+33:=⟨N - 33,by omega⟩
 rw[aR8,aa]
 rfl
theorem macR(N:Nat)(hN:200 < N)(key msg:List Int)(hk:aS key)(hl:key.length+100 < N)(hl2:key.length<=1000000000000)(hm:aS msg)(hml:msg.length+100 < N)(hml2:msg.length<=1000000000000):sG N key msg=some (aLb key msg):=by
 unfold sG;rw[dG (by simp;omega),aa,dn]
 have e1:(aN (decide ((key.length:Int) > 64)) λx3=>cond x3 (ae (jQ N key) λr4=>ae (iQ N r4 N [] 0) λp5=>some p5) (some key))=some (aEB key):=by
  rw[aB]
  unfold aEB;by_cases h:64 < key.length
  ·rw[if_pos h,dt,cond_true,shaR N (by omega) key hk,aa,
    aCz (by decide) (aBe key) (iQ N (aBe key)) (λk s i hi hs=>by rw[iQ,dt (show(i:Int) < 32 by omega),cond_true,bR,aa,bu,iG (by simp;omega),aa,dG (by simp;omega),aa]) (λk s=>by rw[iQ,df,cond_false]) (by omega) (s:=[]),aa,dn]
  ·rw[if_neg h,df,cond_false]
 have hkl:=aHI key;have e2:∀(k j:Nat),j<=64 - (aEB key).length->64 - (aEB key).length - j < k->mH N k (aEB key++aj j 0)=some (uY key):=by
  intro k
  induction k with
  | zero=>intro j _ h;omega
  | succ k ih=>
   intro j hj hjk;rw[mH,aB]
   by_cases h:j < 64 - (aEB key).length
   ·rw[dt (by simp;omega),cond_true,dG (by simp;omega),aa,an,show([0]:List Int)=aj 1 0 from rfl,j3]
    exact ih (j+1) (by omega) (by omega)
   ·obtain rfl:j=64 - (aEB key).length:=by omega
    rw[df (by simp;omega),cond_false]
    rfl
 have e3:=e2 N 0 (by omega) (by omega)
 rw[li,dp] at e3;have hpl:=vZ key;obtain⟨⟨a,b⟩,h1,h2⟩:=aEF 64 (by decide) (λi (p:List Int×List Int)=>p.1=((uY key).take i).map (λx=>fG .u8 x 54)/\p.2=((uY key).take i).map (λx=>fG .u8 x 92)) (λk p i=>kK N (uY key) k p.1 p.2 i) (λk p i hi ⟨g1,g2⟩=>by
  refine⟨(_,_),⟨rfl,rfl⟩,?_⟩
  have ht:∀f:Int->Int,((uY key).take (i+1)).map f=((uY key).take i).map f++[f ((uY key).getD i 0)]:=by
   intro f;rw[List.take_succ,List.map_append,iG]
   rfl
  rw[kK,dt (show(i:Int) < 64 by omega),cond_true,rS,aa,dG (by rw[g1];simp;omega),aa,aa,dG (by rw[g2];simp;omega),aa,g1,g2,ht,ht]) (λk p=>by rw[kK,df,cond_false]) N 0 ([],[]) ⟨by simp,by simp⟩ (by omega) (by omega)
 rw[show((0:Nat):Int)=0 from rfl] at h2;have ha:a=yH key:=by have:=h1.1;dsimp only at this;rw[this,aq (by omega)];rfl
 have hb:b=aBZ key:=by have:=h1.2;dsimp only at this;rw[this,aq (by omega)];rfl
 rw[e1,aa,e3,aa,h2,aa]
 dsimp only;rw[ha,hb,dG (by rw[vD];omega),aa,shaR N (by omega) _ ((zP key).app hm) (by rw[ai,vD];omega) (by rw[ai,vD];omega),aa,
  aCz (by decide) (aBe (yH key++msg)) (kL N (aBe (yH key++msg))) (λk s i hi hs=>by rw[kL,dt (show(i:Int) < 32 by omega),cond_true,bR,aa,bu,iG (by simp;omega),aa,dG (by simp;omega),aa]) (λk s=>by rw[kL,df,cond_false]) (by omega) (s:=aBZ key) (by rw[aAa];omega),aa,
  shaR N (by omega) _ ((aFq key).app (aAi _)) (by rw[ai,aAa];simp) (by rw[ai,aAa];simp;omega),aa]
 rfl
theorem aSp(N:Nat)(hN:32 < N)(v:Vector Int 32):qN N v=some v.toList:=by
 unfold qN;rw[aCz (by decide) v (jC N v) (λk s i hi hs=>by rw[jC,dt (show(i:Int) < 32 by omega),cond_true,rS (by simp;omega),aa,dG (by simp;omega),aa]) (λk s=>by rw[jC,df,cond_false]) hN (s:=[]),aa,dn]
theorem aPc(N:Nat):∀(k:Nat) (s:List Int) (n i:Int),kH N k s n i=cM N k s n i
 | 0,_,_,_=>rfl
 | k+1,s,n,i=>by
  rw[kH,cM]
  congr 1;congr 1;funext z;exact aPc N k _ _ _
theorem aV0{n:Nat}(h:n<=1000000):rZ (n:Int)=aAe n:=by
 rw[show rZ (n:Int)=(bq 8).map (λi=>U8 (shr .i64 (n:Int) ((8*i:Nat):Int))) from rfl]
 have l8:=wK n;apply cz;intro i;rw[ci]
 by_cases c:i < 8
 ·rw[dw c,iG,Option.map_some,aJ7 h c]
 ·rw[ar (by rw[ii];omega),ar (by omega)]
  rfl
theorem aUv(N:Nat)(hN:20 < N:=by omega){n:Nat}(h:n<=1000000:=by omega):mK N (n:Int)=some (rZ (n:Int)):=by
 have:=aQF N hN (n:=n)
 unfold kO at this;unfold mK;rw[aPc,aV0 h]
 exact this
theorem aUn(N:Nat)(hN:1000 < N)(ps:List (List Int))(hps:ps.length<=100)(hl:∀p∈ps,p.length<=100):∀(k i:Nat) (s:List Int),s.length<=1000+200*i->i<=ps.length->ps.length - i < k->kJ N ps k s (i:Int)=some (s++(ps.drop i).flatMap λp=>rZ (p.length:Int)++p)
 | 0,_,_,_,_,h=>by omega
 | k+1,i,s,hs,hi,hk=>by
  rw[kJ]
  by_cases c:i < ps.length
  ·have h1:=hl _ (List.getElem_mem c)
   have e8:=vG (ps[i].length:Int)
   rw[dt,aB,cond_true,cQ c,aa,aUv N,aa,oY (by omega) (by omega),aa,aa,oY (by rw[ai];omega) (by omega),aa,cI,aUn N hN ps hps hl k (i+1) _ (by rw[ai,ai];omega) (by omega) (by omega),co c,d8]
   simp only[an]
  ·rw[df,aB,cond_false,List.drop_eq_nil_of_le (by omega)]
   simp
theorem aSx(N:Nat)(hN:70000 < N)(key:Vector Int 32)(hk:fJ key)(name:ByteArray)(hn:name.size<=100)(ps:List (List Int))(hps:ps.length<=100)(hb:∀p∈ps,aS p/\p.length<=100):pI N key name ps=some (aRe key name ps):=by
 unfold pI;have e8:=vG (name.size:Int)
 have eb:=aDL name;have h1:=aUn N (by omega) ps hps (λp hp=>(hb p hp).2) N 0 (rZ (name.size:Int)++tB name) (by rw[ai];omega) (by omega) (by omega)
 rw[eu,show((0:Nat):Int)=0 from rfl] at h1;rw[aB,aUv N,aa,oY (by omega) (by omega),aa,h1,aa,aSp N (by omega),aa]
 have hf:(aBv name ps).flatten=rZ (name.size:Int)++tB name++ps.flatMap λp=>rZ (p.length:Int)++p:=by
  unfold aBv;rw[lj]
  congr 1
  ·simp
  ·clear h1 hps hb
   induction ps with
   | nil=>rfl
   | cons a l ih=>rw[d8,d8,lj,ih];simp
 have hmb:aS (aBv name ps).flatten:=by
  intro x hx;obtain⟨p,hp,hx⟩:=List.mem_flatten.1 hx;unfold aBv at hp;rcases d9.1 hp with hp | hp
  ·simp only[cx,dk,or_false] at hp;rcases hp with rfl | rfl
   ·exact xP _ x hx
   ·exact aDx _ x hx
  ·obtain⟨q,hq,hp⟩:=jf.1 hp;simp only[cx,dk,or_false] at hp;rcases hp with rfl | rfl
   ·exact xP _ x hx
   ·exact(hb _ hq).1 x hx
 have hml:(aBv name ps).flatten.length<=202*100:=by
  have hl:(aBv name ps).length<=202:=by unfold aBv;rw[ai,aAg];simp;omega
  have:=aDI (aBv name ps) 100 (λp hp=>by
   unfold aBv at hp;rcases d9.1 hp with hp | hp
   ·simp only[cx,dk,or_false] at hp;rcases hp with rfl | rfl
    ·rw[vG];omega
    ·rw[aDL];exact hn
   ·obtain⟨q,hq,hp⟩:=jf.1 hp;simp only[cx,dk,or_false] at hp;rcases hp with rfl | rfl
    ·rw[vG];omega
    ·exact(hb _ hq).2)
  omega
 rw[<- hf,macR N (by omega) key.toList _ hk (by simp;omega) (by simp) hmb (by omega) (by omega),aa]
 rfl
theorem few18(N:Nat)(s:bM):∃r,sX N s=some r/\r.gM=s.gM/\aEk r.gA:=by
 unfold sX vI;simp only[aB]
 rw[show(70:Int)=((70:Nat):Int) from rfl,show(260:Int)=((260:Nat):Int) from rfl,aAE,aa,aAE,aa,aAE,aa,aa,aAE,aa]
 exact⟨_,rfl,rfl,by dsimp only;rw[bj];omega,by dsimp only;rw[bj];omega,by dsimp only;rw[bj];omega,by dsimp only;rw[bj];omega⟩
theorem base8(N:Nat)(hN:8 < N)(v:Vector Int 32):∃b:Vector Int 8,aGW 8 (v.toList.take 8)=some b/\fF N v N (ah 8 0) 0=some b/\b.toList=v.toList.take 8:=by
 obtain⟨b,h1,h2⟩:=vecE (m:=8) (l:=v.toList.take 8) (by rw[bj,kf];rfl)
 obtain⟨b',h3,h4⟩:=aLH (m:=8) (by decide) (λi=>v.toList.getD i 0) (fF N v) (λk s i hi=>by
  rw[fF,dt (show(i:Int) < 8 by omega),cond_true,bR,aa,bu,iG (by simp;omega),aa,bR,aa,mG s i hi,aa]) (λk s=>by rw[fF,df,cond_false]) (N:=N) (by omega) (ah 8 0)
 refine⟨b,h1,?_,h2⟩
 rw[h3]
 refine congrArg some (Vector.toList_inj.1 ?_)
 rw[h2,h4]
 apply cz;intro i;rw[ci,List.getElem?_take]
 by_cases c:i < 8
 ·rw[dw c,if_pos c,iG (by simp;omega)];rfl
 ·rw[if_neg c,ar (by rw[ii];omega)];rfl
theorem aVU(N:Nat)(hN:70000 < N){key:Vector Int 32}(hk:fJ key){l:List Int}(hl:aS l)(hll:l.length<=200)(m:aF)(t:aHD m)(a:aE)(hA:aEk a) :
  ∃r,vO N key l m a=some r/\qP N key l m a=some r/\aS r.1:=by
 unfold vO qP tM rV;obtain⟨b,e1,e2,e3⟩:=base8 N (by omega) (aBe l)
 have hb:aS b.toList:=by rw[e3];exact λx hx=>aAi l x (ce hx)
 have hd:aS (aRe key aHn []).toList:=aMh key aHn []
 have e0:dM (aBe l).toList 0 8=some ((aBe l).toList.take 8):=by
  have:=aAE (aBe l).toList 8;rw[kf] at this;exact this
 rw[aUk N (by omega) l hl (by omega) (by omega),aa,aSu N (by omega) key hk aHn (by decide) [] (by simp) (by simp),aa,aa,e0,aa,e1,aa,
  shaR N (by omega) l hl,aa,e2,aa,aSx N hN key hk aHn (by decide) [] (by simp) (by simp),aa,aa,sealE N hN hd hb m a t hA]
 obtain⟨r,es,h2⟩:=aUj N (by omega) (aRe key aHn []) b m a t hA;rw[es,aa]
 refine⟨_,rfl,rfl,?_⟩
 rcases h2 with ⟨_,g,_,h0,h⟩ | ⟨_,h,_⟩
 ·dsimp only;rw[h]
  exact aIc (by omega) _ hb ((aEI t g.len).r h0) _
 ·dsimp only;rw[h];exact aIk
theorem aK1(N:Nat)(hN:70000 < N)(hw:qI N=some true){key:Vector Int 32}(hk:fJ key){l:List Int}(hl:aS l)(s:bM)(t:aHD s.gM):pO N key l s=some true:=by
 unfold pO;obtain⟨a,e1,e2,hA⟩:=few18 N s;rw[<- e2] at t;obtain⟨r,f1,f2,f3⟩:=aVU N hN hk (l:=l.take 200) (λx hx=>hl x (ce hx)) (by rw[bj];omega) a.gM t a.gA hA;rw[e1,aa,aB,show(200:Int)=((200:Nat):Int) from rfl,aAE,aa,f1,aa,f2,aa,aWm N f3 f3,aa,dt rfl,aB,cond_true,show(r.2==r.2)=true from beq_self_eq_true _,cond_true,hw]
 rfl
end Go.UK
