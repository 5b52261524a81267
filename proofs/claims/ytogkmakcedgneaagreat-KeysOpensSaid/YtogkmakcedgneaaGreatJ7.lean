/- A part of the proof: what the functions of the program compute. -/
import Derived.Test.YtogkmakcedgneaaGreatJ6
import Derived.Test.YtogkmakcedgneaaGreatJ3
import Derived.KernelRfl
import Derived.Test.YtogkmakcedgneaaGreatJ1
import Derived.Test.YtogkmakcedgneaaGreatAJ2
open Bool renaming not_false→li,not_true→gf,toNat_le→ox
open Int renaming le_refl→pv,tmod→cp,tmod_eq_emod_of_nonneg→dw,toNat_natCast→bo
open List renaming Perm→pz,append_assoc→am,append_nil→cf,drop_eq_getElem_cons→cg,drop_of_length_le→ff,drop_zero→eu,ext_getElem?→du,findIdx?_eq_none_iff→lh,flatMap_cons→dm,flatten_append→ni,getElem?_eq_getElem→af,getElem?_eq_none→ar,getElem?_map→cw,getElem?_range→ii,getElem?_set→cz,length_append→ah,length_cons→cx,length_nil→j7,length_set→oq,map_cons→kn,mem_append→dz,mem_cons→d9,mem_flatMap→kj,mem_map→fa,mem_of_getElem?→gw,nil_append→ee,not_mem_nil→dy,pairwise_cons→jt,pairwise_map→ld,range→ce,replicate→ak,replicate_append_replicate→jy,replicate_zero→nh,take_of_length_le→bf
open Nat renaming le_succ_of_le→fg
open Option renaming bind→ae,bind_some→aa,map_some→go
open Vector renaming replicate→ai
namespace Go.UK
open Go Go.Proofs
set_option maxRecDepth 20000
set_option maxHeartbeats 2000000
set_option linter.all false
def uR(n:Int):List Int:=[U8 (shr .i64 n 0),U8 (shr .i64 n 8),U8 (shr .i64 n 16),U8 (shr .i64 n 24),U8 (shr .i64 n 32),U8 (shr .i64 n 40),U8 (shr .i64 n 48),U8 (shr .i64 n 56)]
theorem aVs(N K:Nat)(a:Int):uZ N 8 a (K+9) (ak 8 0) 0=some (uR a):=by kernel_rfl
theorem aQ7(N:Nat)(hN:20 < N)(a:Int):yI N a=some (uR a):=by
 obtain⟨K,rfl⟩:∃K,N=K+9:=⟨N - 9,by omega⟩
 unfold yI;rw[show mkO 1 8=some () from rfl,aa,aC]
 have e:uZ (K+9) ((8:Int).toNat:Int) a (K+9) (ak (8:Int).toNat 0) 0=some (uR a):=aVs (K+9) K a;rw[e]
 rfl
theorem zY(a:Int):aN (uR a):=by
 intro x hx;simp only[uR,d9,dy,or_false] at hx;rcases hx with rfl | rfl | rfl | rfl | rfl | rfl | rfl | rfl <;> exact aHl _
theorem xY(a:Int):(uR a).length=8:=rfl
theorem aEk(s:ByteArray):aN (vW s):=by
 intro x hx;obtain⟨b,_,rfl⟩:=fa.1 hx;exact⟨by omega,by have:=b.toNat_lt;omega⟩
theorem aEW(s:ByteArray):(vW s).length=s.size:=by unfold vW;rw[List.length_map];rfl
def aCs(name:ByteArray)(ps:List (List Int)):List (List Int):=[uR (name.size:Int),vW name]++ps.flatMap λp=>[uR (p.length:Int),p]
def derV(key:Vector Int 32)(name:ByteArray)(ps:List (List Int)):Vector Int 32:=aML key.toList (aCs name ps).flatten
theorem aNq(key:Vector Int 32)(name:ByteArray)(ps:List (List Int)):eD (derV key name ps):=aMB _ _
theorem aD6 : ∀(ls:List (List Int)) (m:Nat),(∀l∈ls,l.length<=m)->ls.flatten.length<=ls.length*m
 | [],m,_=>by simp
 | l :: ls,m,h=>by
  have h1:=h l (by simp)
  have h2:=aD6 ls m (λx hx=>h x (by simp[hx]))
  simp only[List.flatten_cons,ah,cx,Nat.succ_mul]
  omega
theorem aBv{α β:Type}(f g:α->β):∀l:List α,(l.flatMap λp=>[f p,g p]).length=2*l.length
 | []=>rfl
 | a :: l=>by simp[aBv f g l];omega
theorem aU1(N:Nat)(hN:1000 < N)(ps:List (List Int))(hps:ps.length<=100):∀(k i:Nat) (s:List (List Int)),s.length<=100+2*i->i<=ps.length->ps.length - i < k->qO N ps k s (i:Int)=some (s++(ps.drop i).flatMap λp=>[uR (p.length:Int),p])
 | 0,_,_,_,_,h=>by omega
 | k+1,i,s,hs,hi,hk=>by
  by_cases h:i < ps.length
  ·rw[qO,aC,dt,cond_true,cN h,aa,aQ7 N (by omega),aa,cK (by simp;omega),aa,cF,aU1 N hN ps hps k (i+1) _ (by simp;omega) (by omega) (by omega),cg h,dm,am]
  ·obtain rfl:i=ps.length:=by omega
   rw[qO,aC,df,cond_false,List.drop_length]
   simp
theorem aS7(N:Nat)(hN:1000 < N)(key:Vector Int 32)(hk:eD key)(name:ByteArray)(hn:name.size<=100)(ps:List (List Int))(hps:ps.length<=100)(hb:∀p∈ps,aN p/\p.length<=100):aAL N key name ps=some (derV key name ps):=by
 unfold aAL;have h1:=aU1 N hN ps hps N 0 [uR (name.size:Int),vW name] (by simp) (by omega) (by omega)
 rw[eu,show((0:Nat):Int)=0 from rfl] at h1;rw[aC,aQ7 N (by omega),aa,h1,aa,aN7,aa]
 have hl:(aCs name ps).length<=202:=by unfold aCs;rw[ah,aBv];simp;omega
 have hm:∀p∈aCs name ps,aN p/\p.length<=100:=by
  intro p hp;unfold aCs at hp;rcases dz.1 hp with hp | hp
  ·simp only[d9,dy,or_false] at hp;rcases hp with rfl | rfl
   ·exact⟨zY _,by rw[xY];omega⟩
   ·exact⟨aEk _,by rw[aEW];exact hn⟩
  ·obtain⟨q,hq,hp⟩:=kj.1 hp;simp only[d9,dy,or_false] at hp;rcases hp with rfl | rfl
   ·exact⟨zY _,by rw[xY];omega⟩
   ·exact hb _ hq
 have hf:=aD6 (aCs name ps) 100 (λp hp=>(hm p hp).2)
 have:=hmacP N (by omega) key.toList (aCs name ps) hk (by simp;omega) (by simp) (λp hp=>(hm p hp).1) (λp hp=>by have:=(hm p hp).2;omega) (by omega) (by omega) (by omega)
 unfold aCs at this;rw[this,aa]
 rfl
def aSX(m:Vector Int 32)(id epoch:Int):Vector Int 32:=derV m aMx [leB 2 (cI .u64 (U64 id) 65535),leB 4 (cI .u64 (U64 epoch) 4294967295)]
theorem aNM(m:Vector Int 32)(id epoch:Int):eD (aSX m id epoch):=aNq _ _ _
theorem aOr(a:Int)(n:Nat)(h:n < 18446744073709551616:=by decide):0<=cI .u64 a (n:Int)/\cI .u64 a (n:Int)<=(n:Int):=by
 have e:cI .u64 a (n:Int)=(((U64 a).toNat &&& n:Nat):Int):=by
  have h1:=aLU (a:=U64 a) (b:=(n:Int)) (aCa a) (aGH a)
  rw[bo] at h1;rw[<- h1]
  unfold cI;congr 2;rw[aH0]
  congr 1;apply BitVec.eq_of_toNat_eq;simp only[BitVec.toNat_and,BitVec.toNat_ofInt]
  rw[show(((2 ^ IntKind.u64.bits:Nat):Int))=18446744073709551616 from rfl,Int.emod_emod]
 rw[e]
 have:(U64 a).toNat &&& n<=n:=Nat.and_le_right;omega
theorem aQc(N:Nat)(hN:20 < N)(b:List Int)(hb:b.length<=1000)(w:Nat)(hw0:1<=w)(hw:w<=8)(x:Int)(h0:0<=x)(h1:x < bL w):bW N b (w:Int) [x]=some (b++leB w x,0):=by
 have hp:=aFY hw;rw[aQI N b w hw0 hw [x] (by intro y hy;simp at hy;subst hy;omega) (by omega) (by simp) (by omega) (by simp;omega)]
 unfold aJw;rw[show List.any [x] (big w)=false by simp[big,h1],cond_false]
 simp
theorem keyP(N:Nat)(hN:1000 < N)(m:Vector Int 32)(hm:eD m)(id epoch:Int):aAS N m id epoch=some (aSX m id epoch):=by
 unfold aAS;have b1:=aOr (U64 id) 65535;have b2:=aOr (U64 epoch) 4294967295;rw[show((65535:Nat):Int)=65535 from rfl] at b1;rw[show((4294967295:Nat):Int)=4294967295 from rfl] at b2;have p1:=aQc N (by omega) [] (by simp) 2 (by decide) (by decide) _ b1.1 (by rw[show bL 2=65536 from rfl];omega)
 have p2:=aQc N (by omega) [] (by simp) 4 (by decide) (by decide) _ b2.1 (by rw[show bL 4=4294967296 from rfl];omega)
 rw[aC,show(2:Int)=((2:Nat):Int) from rfl,p1,aa,aC,show(4:Int)=((4:Nat):Int) from rfl,p2,aa]
 dsimp only[ee]
 rw[aS7 N hN m hm aMx (by decide) _ (by simp) (by intro p hp;simp at hp;rcases hp with rfl | rfl <;> exact⟨aBE _ _,by rw[bM];omega⟩)]
 rfl
set_option maxHeartbeats 16000000
theorem aJT(N:Nat)(x:Int)(n:Nat)(h1:1<=n:=by decide)(h2:n<=31:=by decide):bT N x n=some (zX x n):=by
 unfold bT;rw[jB .u32,aa,aP,tU .u32,aa,show(32 - (n:Int))=((32 - n:Nat):Int) by omega]
 rfl
theorem byL1(N:Nat)(b:Vector Int 64)(hb:aBc b)(hN:64 < N):lK N b N [] 0=some (qW b 16):=by
 obtain⟨v,h1,h2⟩:=aFb 16 (by decide) (λi (l:List Int)=>l=qW b i) (λk v i=>lK N b k v i) (λk v i hi hv=>by
  refine⟨_,rfl,?_⟩
  rw[lK,dt (show(i:Int) < 16 by omega),cond_true]
  have e0:I64 (4*(i:Int))=((4*i:Nat):Int):=by rw[aP];omega
  have e1:I64 (((4*i:Nat):Int)+1)=((4*i+1:Nat):Int):=by rw[aP];omega
  have e2:I64 (((4*i:Nat):Int)+2)=((4*i+2:Nat):Int):=by rw[aP];omega
  have e3:I64 (((4*i:Nat):Int)+3)=((4*i+3:Nat):Int):=by rw[aP];omega
  simp only[e0,e1,e2,e3,aC]
  rw[sK (by simp;omega),aa,sK (by simp;omega),aa,sK (by simp;omega),aa,sK (by simp;omega),aa,
   aWp (hb _ (by omega)) (hb _ (by omega)) (hb _ (by omega)) (hb _ (by omega)),hv,aUv (by rw[aC1];omega),aa]
  rw[qW,aGV,if_pos hi]
  rfl) (λk v=>by rw[lK,df,cond_false]) N 0 [] rfl (by omega) (by omega)
 rw[<- h1];exact h2
theorem byL2(N:Nat)(b:Vector Int 64)(hN:64 < N):lE N N (qW b 16) 16=some (qW b 64):=by
 obtain⟨v,h1,h2⟩:=aU9 16 64 (by decide) (λi (l:List Int)=>l=qW b i) (λk v i=>lE N k v i) (λk v i hm hi hv=>by
  refine⟨_,rfl,?_⟩
  subst hv;rw[lE,dt (show(i:Int) < 64 by omega),cond_true]
  have f15:I64 ((i:Int) - 15)=((i - 15:Nat):Int):=by rw[aP];omega
  have f2:I64 ((i:Int) - 2)=((i - 2:Nat):Int):=by rw[aP];omega
  have f16:I64 ((i:Int) - 16)=((i - 16:Nat):Int):=by rw[aP];omega
  have f7:I64 ((i:Int) - 7)=((i - 7:Nat):Int):=by rw[aP];omega
  have hl:=aC1 b i;rw[f15,f2,f16,f7]
  simp only[aC]
  rw[sK (i:=i - 15),aa,show(7:Int)=((7:Nat):Int) from rfl,aJT N _ 7,aa,aa,show(18:Int)=((18:Nat):Int) from rfl,aJT N _ 18,aa,aa,
   sK (i:=i - 2),aa,show(17:Int)=((17:Nat):Int) from rfl,aJT N _ 17,aa,aa,show(19:Int)=((19:Nat):Int) from rfl,aJT N _ 19,aa,aa,
   sK (i:=i - 7),aa,sK (i:=i - 16),aa,aUv (by omega),aa]
  have:U32 (U32 (U32 (sig1 ((qW b i).getD (i - 2) 0)+(qW b i).getD (i - 7) 0)+sig0 ((qW b i).getD (i - 15) 0))+(qW b i).getD (i - 16) 0)=aGV b (qW b i) i:=by
   unfold aGV;rw[if_neg (by omega)]
   simp only[aMs]
   omega
  rw[qW,<- this]
  rfl) (λk v=>by rw[lE,df,cond_false]) N 16 (qW b 16) rfl (by omega) (by omega) (by omega)
 rw[<- h1];exact h2
theorem byL4(N K:Nat)(s:Vector Int 8):pQ N (K+8) s 7=some #v[s[0],s[0],s[1],s[2],s[3],s[4],s[5],s[6]]:=by
 conv=>lhs;rw[vec8 s]
 generalize s[0]=a0;generalize s[1]=a1;generalize s[2]=a2;generalize s[3]=a3;generalize s[4]=a4;generalize s[5]=a5;generalize s[6]=a6;generalize s[7]=a7
 kernel_rfl
theorem aWN : mD=fK:=rfl
theorem byL3(N:Nat)(w:List Int)(hw:w.length=64)(h:Vector Int 8)(hN:64 < N):lL N mD w N h 0=some (aJc w h 64):=by
 rw[aWN]
 obtain⟨M,rfl⟩:∃M,N=M+8:=⟨N - 8,by omega⟩
 generalize hNN:M+8=N at *;obtain⟨v,h1,h2⟩:=aFb 64 (by decide) (λi (v:Vector Int 8)=>v=aJc w h i) (λk v i=>lL N fK w k v i) (λk v i hi hv=>by
  refine⟨_,rfl,?_⟩
  subst hv;rw[lL,dt (show(i:Int) < 64 by omega),cond_true]
  generalize hs:aJc w h i=s;have r0:aS 0 8=some ():=rfl;have r1:aS 1 8=some ():=rfl;have r2:aS 2 8=some ():=rfl;have r4:aS 4 8=some ():=rfl;have r5:aS 5 8=some ():=rfl;have r6:aS 6 8=some ():=rfl;have r7:aS 7 8=some ():=rfl;have g0:s.toList[((0:Int).toNat)]? = some s[0]:=oV s 0;have g1:s.toList[((1:Int).toNat)]? = some s[1]:=oV s 1;have g2:s.toList[((2:Int).toNat)]? = some s[2]:=oV s 2;have g4:s.toList[((4:Int).toNat)]? = some s[4]:=oV s 4;have g5:s.toList[((5:Int).toNat)]? = some s[5]:=oV s 5;have g6:s.toList[((6:Int).toNat)]? = some s[6]:=oV s 6;have g7:s.toList[((7:Int).toNat)]? = some s[7]:=oV s 7;have q6:∀x,bT N x 6=some (zX x 6):=λx=>aJT N x 6;have q11:∀x,bT N x 11=some (zX x 11):=λx=>aJT N x 11;have q25:∀x,bT N x 25=some (zX x 25):=λx=>aJT N x 25;have q2:∀x,bT N x 2=some (zX x 2):=λx=>aJT N x 2;have q13:∀x,bT N x 13=some (zX x 13):=λx=>aJT N x 13;have q22:∀x,bT N x 22=some (zX x 22):=λx=>aJT N x 22;have gk:idx fK.toList (i:Int)=some (kV i):=sK (by simp;omega)
  have gp:idx w (i:Int)=some (w.getD i 0):=sK;have b4:pQ N N s 7=some #v[s[0],s[0],s[1],s[2],s[3],s[4],s[5],s[6]]:=by
   have:=byL4 N M s;rwa[hNN] at this
  simp only[r0,r4,r7,g0,g4,g7,aa,q6,q11,q25,q2,q13,q22,aC,r1,r2,r5,r6,g1,g2,g5,g6,gk,gp,b4]
  simp only[tl4,tl0,tls,aa]
  rw[aJc,hs]
  rfl) (λk v=>by rw[lL,df,cond_false]) N 0 h rfl (by omega) (by omega)
 rw[<- h1];exact h2
theorem cmpR(N:Nat)(hN:64 < N)(h:Vector Int 8)(b:Vector Int 64)(hb:aBc b):qF N h b=some (aOB h b):=by
 unfold qF zL;rw[byL1 N b hb hN,aa,byL2 N b hN,aa,byL3 N _ (aC1 b 64) h hN,aa,aOq h (λk v i=>pP N h k v i) (λk v i=>by rw[pP]) N _,aa,aa]
 rfl
theorem aVH(N n:Nat)(hn:n < 4611686018427387904):∀(k j:Nat),j<=nV n->nV n - j < k->oP N (n:Int) k (128 :: ak j 0)=some (128 :: ak (nV n) 0)
 | 0,_,_,h=>by omega
 | k+1,j,hj,hk=>by
  have hz:nV n < 64:=by unfold nV;omega
  have e1:I64 (cp (n:Int) 64+((128 :: ak j (0:Int)).length:Int))=((n % 64+(j+1):Nat):Int):=by
   rw[show cp (n:Int) 64=((n % 64:Nat):Int) from aBM n 64,aP (by simp;omega) (by simp;omega)]
   simp
  have e2:cp (I64 (((n % 64+(j+1):Nat):Int)+8)) 64=(((n % 64+(j+9)) % 64:Nat):Int):=by
   rw[show I64 (((n % 64+(j+1):Nat):Int)+8)=((n % 64+(j+9):Nat):Int) by rw[aP];omega]
   exact aBM _ 64
  rw[oP,aC,e1,aC,e2]
  by_cases h:j < nV n
  ·rw[dt (by unfold nV at h;omega),cond_true,xG (by simp;omega),aa,List.cons_append,show([0]:List Int)=ak 1 0 from rfl,jy]
   exact aVH N n hn k (j+1) (by omega) (by omega)
  ·obtain rfl:j=nV n:=by omega
   rw[df (by unfold nV;omega),cond_false]
theorem aU2(N n:Nat)(hn:n < 4611686018427387904)(P:List Int)(hP:P.length<=100):∀(k t:Nat),t<=8->8 - t < k->oQ N (n:Int) k (P++((ce 8).map (beB n)).take t) (7 - (t:Int))=some (P++(ce 8).map (beB n))
 | 0,_,_,h=>by omega
 | k+1,t,ht,hk=>by
  rw[oQ]
  by_cases h:t < 8
  ·have f3:I64 (8*(7 - (t:Int)))=((8*(7 - t):Nat):Int):=by rw[aP];omega
   have f4:I64 (7 - (t:Int) - 1)=7 - ((t+1:Nat):Int):=by rw[aP];omega
   rw[dt,cond_true,f3,jB .u64,aa,xG (by simp;omega),aa,f4,aSd,am]
   have:((ce 8).map (beB n)).take t++[U8 (shr .u64 (aJ8 n) ((8*(7 - t):Nat):Int))]=((ce 8).map (beB n)).take (t+1):=(aJs (beB n) h).symm;rw[this]
   exact aU2 N n hn P hP k (t+1) (by omega) (by omega)
  ·obtain rfl:t=8:=by omega
   rw[df,cond_false,bf (by simp)]
theorem padR(N:Nat)(hN:64 < N)(n:Nat)(hn:n < 4611686018427387904):vP N (n:Int)=some (aHE n):=by
 unfold vP;have hz:nV n < 64:=by unfold nV;omega
 have h1:=aVH N n hn N 0 (by omega) (by omega)
 rw[nh] at h1;have h2:=aU2 N n hn (128 :: ak (nV n) 0) (by simp;omega) N 0 (by omega) (by omega)
 rw[List.take_zero,cf,show(7 - ((0:Nat):Int))=7 from rfl] at h2;rw[df (show ¬(n:Int) < 0 by omega),cond_false,aa,h1,aa,h2,aa]
 rfl
theorem aTG(N K:Nat)(h:Vector Int 8):rI N h (K+33) (ai 32 0) 0=some (aQD h):=by
 have e:aQD h=#v[U8 (shr .u32 h[0] 24),U8 (shr .u32 h[0] 16),U8 (shr .u32 h[0] 8),U8 (shr .u32 h[0] 0),U8 (shr .u32 h[1] 24),U8 (shr .u32 h[1] 16),U8 (shr .u32 h[1] 8),U8 (shr .u32 h[1] 0),
  U8 (shr .u32 h[2] 24),U8 (shr .u32 h[2] 16),U8 (shr .u32 h[2] 8),U8 (shr .u32 h[2] 0),U8 (shr .u32 h[3] 24),U8 (shr .u32 h[3] 16),U8 (shr .u32 h[3] 8),U8 (shr .u32 h[3] 0),
  U8 (shr .u32 h[4] 24),U8 (shr .u32 h[4] 16),U8 (shr .u32 h[4] 8),U8 (shr .u32 h[4] 0),U8 (shr .u32 h[5] 24),U8 (shr .u32 h[5] 16),U8 (shr .u32 h[5] 8),U8 (shr .u32 h[5] 0),
  U8 (shr .u32 h[6] 24),U8 (shr .u32 h[6] 16),U8 (shr .u32 h[6] 8),U8 (shr .u32 h[6] 0),U8 (shr .u32 h[7] 24),U8 (shr .u32 h[7] 16),U8 (shr .u32 h[7] 8),U8 (shr .u32 h[7] 0)]:=by
  simp only[shr0]
  rfl
 rw[e]
 conv=>lhs;rw[vec8 h]
 generalize h[0]=a0;generalize h[1]=a1;generalize h[2]=a2;generalize h[3]=a3;generalize h[4]=a4;generalize h[5]=a5;generalize h[6]=a6;generalize h[7]=a7
 kernel_rfl
theorem aV5(N:Nat)(hN:64 < N)(all:List Int)(j:Nat)(hj:64*j+64<=all.length)(hl:all.length < 4611686018427387904):jU N all ((64*j:Nat):Int) N (ai 64 0) 0=some (wY all j):=by
 obtain⟨v,h1,h2⟩:=aQ9 (m:=64) (by decide) (λi=>all.getD (64*j+i) 0) (jU N all ((64*j:Nat):Int)) (λk v i hi=>by
  have f:I64 (((64*j:Nat):Int)+(i:Int))=((64*j+i:Nat):Int):=by rw[aP];omega
  rw[jU,dt (show(i:Int) < 64 by omega),cond_true,f,sK,aa,bQ,aa,bo,oV v i hi,aa]) (λk v=>by rw[jU,df,cond_false]) (N:=N) (by omega) (ai 64 0)
 rw[h1]
 refine congrArg some ?_;apply aLK;intro i hi;rw[zE _ _ _ hi,h2,List.getD_eq_getElem?_getD,cw,ii hi]
 rfl
theorem aUt(N:Nat)(hN:64 < N)(all:List Int)(hb:aN all)(hl:all.length < 4611686018427387904):∀(k j:Nat),64*j<=all.length->all.length / 64 - j < k->mW N all k (aJI all j) ((64*j:Nat):Int)=some (aJI all (all.length / 64))
 | 0,_,_,h=>by omega
 | k+1,j,hj,hk=>by
  have f:I64 (((64*j:Nat):Int)+64)=((64*(j+1):Nat):Int):=by rw[aP];omega
  rw[mW,aC,f]
  by_cases h:64*(j+1)<=all.length
  ·rw[dt,cond_true,aV5 N hN all j (by omega) hl,aa,cmpR N hN _ _ (hb.block j),aa]
   exact aUt N hN all hb hl k (j+1) h (by omega)
  ·rw[df,cond_false,show all.length / 64=j by omega]
theorem shaR(N:Nat)(hN:100 < N)(m:List Int)(hm:aN m)(hl:m.length<=100000000000000)(hlN:m.length < N):nP N m=some (aFv m):=by
 have hz:nV m.length < 64:=by unfold nV;omega
 unfold nP;rw[cK (by simp;omega),aa,ee,padR N (by omega) m.length (by omega),aa,cK (by rw[aCJ];omega),aa]
 have hall:(m++aHE m.length).length=m.length+(nV m.length+9):=by rw[ah,aCJ]
 have h1:=aUt N (by omega) (m++aHE m.length) (hm.app (aIs _)) (by rw[hall];omega) N 0 (by omega) (by rw[hall];omega)
 rw[show((64*0:Nat):Int)=0 from rfl] at h1;show ae (mW N (m++aHE m.length) N (aJI (m++aHE m.length) 0) 0) _=_;rw[h1,aa,hall]
 obtain⟨M,rfl⟩:∃M,N=M+33:=⟨N - 33,by omega⟩
 rw[aTG,aa]
 rfl
theorem macR(N:Nat)(hN:200 < N)(key msg:List Int)(hk:aN key)(hl:key.length+100 < N)(hl2:key.length<=1000000000000)(hm:aN msg)(hml:msg.length+100 < N)(hml2:msg.length<=1000000000000):vK N key msg=some (aML key msg):=by
 unfold vK;rw[cK (by simp;omega),aa,ee]
 have e1:(aM (decide ((key.length:Int) > 64)) λx3=>cond x3 (ae (nP N key) λr4=>ae (kA N r4 N [] 0) λp5=>some p5) (some key))=some (aFa key):=by
  rw[aC]
  unfold aFa;by_cases h:64 < key.length
  ·rw[if_pos h,dt,cond_true,shaR N (by omega) key hk (by omega) (by omega),aa,
    aEE (by decide) (aFv key) (kA N (aFv key)) (λk s i hi hs=>by rw[kA,dt (show(i:Int) < 32 by omega),cond_true,bQ,aa,bo,fI (by simp;omega),aa,cK (by simp;omega),aa]) (λk s=>by rw[kA,df,cond_false]) (by omega) (s:=[]),aa,ee]
  ·rw[if_neg h,df,cond_false]
 have hkl:=aIL key;have e2:∀(k j:Nat),j<=64 - (aFa key).length->64 - (aFa key).length - j < k->oO N k (aFa key++ak j 0)=some (xS key):=by
  intro k
  induction k with
  | zero=>intro j _ h;omega
  | succ k ih=>
   intro j hj hjk;rw[oO,aC]
   by_cases h:j < 64 - (aFa key).length
   ·rw[dt (by simp;omega),cond_true,cK (by simp;omega),aa,am,show([0]:List Int)=ak 1 0 from rfl,jy]
    exact ih (j+1) (by omega) (by omega)
   ·obtain rfl:j=64 - (aFa key).length:=by omega
    rw[df (by simp;omega),cond_false]
    rfl
 have e3:=e2 N 0 (by omega) (by omega)
 rw[nh,cf] at e3;have hpl:=yS key;obtain⟨⟨a,b⟩,h1,h2⟩:=aFb 64 (by decide) (λi (p:List Int×List Int)=>p.1=((xS key).take i).map (λx=>eT .u8 x 54)/\p.2=((xS key).take i).map (λx=>eT .u8 x 92)) (λk p i=>mR N (xS key) k p.1 p.2 i) (λk p i hi ⟨g1,g2⟩=>by
  refine⟨(_,_),⟨rfl,rfl⟩,?_⟩
  have ht:∀f:Int->Int,((xS key).take (i+1)).map f=((xS key).take i).map f++[f ((xS key).getD i 0)]:=by
   intro f;rw[List.take_succ,List.map_append,fI]
   rfl
  rw[mR,dt (show(i:Int) < 64 by omega),cond_true,sK,aa,cK (by rw[g1];simp;omega),aa,aa,cK (by rw[g2];simp;omega),aa,g1,g2,ht,ht]) (λk p=>by rw[mR,df,cond_false]) N 0 ([],[]) ⟨by simp,by simp⟩ (by omega) (by omega)
 rw[show((0:Nat):Int)=0 from rfl] at h2;have ha:a=aAa key:=by have:=h1.1;dsimp only at this;rw[this,bf (by omega)];rfl
 have hb:b=aCb key:=by have:=h1.2;dsimp only at this;rw[this,bf (by omega)];rfl
 rw[e1,aa,e3,aa,h2,aa]
 dsimp only;rw[ha,hb,cK (by rw[xO];omega),aa,shaR N (by omega) _ ((aAw key).app hm) (by rw[ah,xO];omega) (by rw[ah,xO];omega),aa,
  aEE (by decide) (aFv (aAa key++msg)) (mV N (aFv (aAa key++msg))) (λk s i hi hs=>by rw[mV,dt (show(i:Int) < 32 by omega),cond_true,bQ,aa,bo,fI (by simp;omega),aa,cK (by simp;omega),aa]) (λk s=>by rw[mV,df,cond_false]) (by omega) (s:=aCb key) (by rw[aBD];omega),aa,
  shaR N (by omega) _ ((aGk key).app (aEL _)) (by rw[ah,aBD];simp) (by rw[ah,aBD];simp;omega),aa]
 rfl
theorem aT1(N:Nat)(hN:32 < N)(v:Vector Int 32):sO N v=some v.toList:=by
 unfold sO;rw[aEE (by decide) v (kM N v) (λk s i hi hs=>by rw[kM,dt (show(i:Int) < 32 by omega),cond_true,sK (by simp;omega),aa,cK (by simp;omega),aa]) (λk s=>by rw[kM,df,cond_false]) hN (s:=[]),aa,ee]
theorem aQ0(N:Nat):∀(k:Nat) (s:List Int) (n i:Int),mN N k s n i=cY N k s n i
 | 0,_,_,_=>rfl
 | k+1,s,n,i=>by
  rw[mN,cY]
  congr 1;congr 1;funext z;exact aQ0 N k _ _ _
theorem aW9{n:Nat}(h:n<=1000000):uR (n:Int)=aBJ n:=by
 rw[show uR (n:Int)=(ce 8).map (λi=>U8 (shr .i64 (n:Int) ((8*i:Nat):Int))) from rfl]
 have l8:=yK n;apply du;intro i;rw[cw]
 by_cases c:i < 8
 ·rw[ii c,fI,go,aLG h c]
 ·rw[ar (by rw[List.length_range];omega),ar (by omega)]
  rfl
theorem aU8(N:Nat)(hN:20 < N:=by omega){n:Nat}(h:n<=1000000:=by omega):oU N (n:Int)=some (uR (n:Int)):=by
 have:=aRI N hN (n:=n)
 unfold mX at this;unfold oU;rw[aQ0,aW9 h]
 exact this
theorem aVE(N:Nat)(hN:1000 < N)(ps:List (List Int))(hps:ps.length<=100)(hl:∀p∈ps,p.length<=100):∀(k i:Nat) (s:List Int),s.length<=1000+200*i->i<=ps.length->ps.length - i < k->mG N ps k s (i:Int)=some (s++(ps.drop i).flatMap λp=>uR (p.length:Int)++p)
 | 0,_,_,_,_,h=>by omega
 | k+1,i,s,hs,hi,hk=>by
  rw[mG]
  by_cases c:i < ps.length
  ·have h1:=hl _ (List.getElem_mem c)
   have e8:=xY (ps[i].length:Int)
   rw[dt,aC,cond_true,cN c,aa,aU8 N,aa,xG (by omega) (by omega),aa,aa,xG (by rw[ah];omega) (by omega),aa,cF,aVE N hN ps hps hl k (i+1) _ (by rw[ah,ah];omega) (by omega) (by omega),cg c,dm]
   simp only[am]
  ·rw[df,aC,cond_false,List.drop_eq_nil_of_le (by omega)]
   simp
theorem aTF(N:Nat)(hN:70000 < N)(key:Vector Int 32)(hk:eD key)(name:ByteArray)(hn:name.size<=100)(ps:List (List Int))(hps:ps.length<=100)(hb:∀p∈ps,aN p/\p.length<=100):rM N key name ps=some (derV key name ps):=by
 unfold rM;have e8:=xY (name.size:Int)
 have eb:=aEW name;have h1:=aVE N (by omega) ps hps (λp hp=>(hb p hp).2) N 0 (uR (name.size:Int)++vW name) (by rw[ah];omega) (by omega) (by omega)
 rw[eu,show((0:Nat):Int)=0 from rfl] at h1;rw[aC,aU8 N,aa,xG (by omega) (by omega),aa,h1,aa,aT1 N (by omega),aa]
 have hf:(aCs name ps).flatten=uR (name.size:Int)++vW name++ps.flatMap λp=>uR (p.length:Int)++p:=by
  unfold aCs;rw[ni]
  congr 1
  ·simp
  ·clear h1 hps hb
   induction ps with
   | nil=>rfl
   | cons a l ih=>rw[dm,dm,ni,ih];simp
 have hmb:aN (aCs name ps).flatten:=by
  intro x hx;obtain⟨p,hp,hx⟩:=List.mem_flatten.1 hx;unfold aCs at hp;rcases dz.1 hp with hp | hp
  ·simp only[d9,dy,or_false] at hp;rcases hp with rfl | rfl
   ·exact zY _ x hx
   ·exact aEk _ x hx
  ·obtain⟨q,hq,hp⟩:=kj.1 hp;simp only[d9,dy,or_false] at hp;rcases hp with rfl | rfl
   ·exact zY _ x hx
   ·exact(hb _ hq).1 x hx
 have hml:(aCs name ps).flatten.length<=202*100:=by
  have hl:(aCs name ps).length<=202:=by unfold aCs;rw[ah,aBv];simp;omega
  have:=aD6 (aCs name ps) 100 (λp hp=>by
   unfold aCs at hp;rcases dz.1 hp with hp | hp
   ·simp only[d9,dy,or_false] at hp;rcases hp with rfl | rfl
    ·rw[xY];omega
    ·rw[aEW];exact hn
   ·obtain⟨q,hq,hp⟩:=kj.1 hp;simp only[d9,dy,or_false] at hp;rcases hp with rfl | rfl
    ·rw[xY];omega
    ·exact(hb _ hq).2)
  omega
 rw[<- hf,macR N (by omega) key.toList _ hk (by simp;omega) (by simp) hmb (by omega) (by omega),aa]
 rfl
theorem aUJ(x:Int)(n:Nat)(h:2 ^ n<=18446744073709551616)(h0:0<=x)(h1:x < 18446744073709551616):cI .u64 x (((2 ^ n - 1:Nat)):Int)=x % ((2 ^ n:Nat):Int):=by
 have hp:0 < 2 ^ n:=Nat.two_pow_pos n;rw[aLU h0 h1,bo,Nat.and_two_pow_sub_one_eq_mod,Int.natCast_emod,Int.toNat_of_nonneg h0]
theorem aUY(a:Int):shr .u64 a ((8*0:Nat):Int)=a:=by unfold shr;simp
theorem keyR(N:Nat)(hN:70000 < N)(m:Vector Int 32)(hm:eD m)(id epoch:Int):vF N m id epoch=some (aSX m id epoch):=by
 unfold vF aSX;have b1:=aUJ (U64 id) 16 (by decide) (aCa id) (aGH id)
 have b2:=aUJ (U64 epoch) 32 (by decide) (aCa epoch) (aGH epoch)
 rw[show((2 ^ 16 - 1:Nat):Int)=65535 from rfl,show((2 ^ 16:Nat):Int)=65536 from rfl] at b1;rw[show((2 ^ 32 - 1:Nat):Int)=4294967295 from rfl,show((2 ^ 32:Nat):Int)=4294967296 from rfl] at b2;have t1:cp (U64 id) 65536=U64 id % 65536:=dw (aCa id)
 have t2:cp (U64 epoch) 4294967296=U64 epoch % 4294967296:=dw (aCa epoch)
 rw[t1,t2,aC,aC,b1,b2]
 have e2:∀x:Int,[U8 x,U8 (shr .u64 x 8)]=leB 2 x:=λx=>by rw[show leB 2 x=[U8 (shr .u64 x ((8*0:Nat):Int)),U8 (shr .u64 x 8)] from rfl,aUY]
 have e4:∀x:Int,[U8 x,U8 (shr .u64 x 8),U8 (shr .u64 x 16),U8 (shr .u64 x 24)]=leB 4 x:=λx=>by rw[show leB 4 x=[U8 (shr .u64 x ((8*0:Nat):Int)),U8 (shr .u64 x 8),U8 (shr .u64 x 16),U8 (shr .u64 x 24)] from rfl,aUY]
 rw[e2,e4,aTF N hN m hm aMx (by decide) _ (by simp) (by intro p hp;simp only[d9,dy,or_false] at hp;rcases hp with rfl | rfl <;> exact⟨aBE _ _,by rw[bM];omega⟩),aa]
set_option maxHeartbeats 2000000
abbrev Sp:=aH
abbrev Mp:=List (Int×aV)
section
variable {α:Type}
theorem aA8 : ∀(l:List (Int×α)) (k:Int) (v:α),wA (uI l k v) k=some v
 | [],k,v=>by simp[uI,wA]
 | p :: l,k,v=>by
  by_cases h:p.1=k
  ·simp[uI,wA,h]
  ·simp[uI,wA,h,aA8 l k v]
theorem aCc{k k':Int}(hk:k≠k'):∀(l:List (Int×α)) (v:α),wA (uI l k v) k'=wA l k'
 | [],v=>by simp[uI,wA,hk]
 | p :: l,v=>by
  by_cases h:p.1=k
  ·subst h;simp[uI,wA,hk]
  ·simp[uI,wA,h,aCc hk l v]
theorem aGA{k:Int}:∀(l:List (Int×α)),wA l k=none↔k∉qI l
 | []=>by simp[wA,qI]
 | p :: l=>by
  have ih:=aGA (k:=k) l;by_cases h:p.1=k
  ·simp[wA,qI,h]
  ·have h':k≠p.1:=λe=>h e.symm;simp only[wA,qI,kn,d9,h',false_or] at ih ⊢;rw[show decide (p.1=k)=false by simpa using h]
   exact ih
theorem aJD : ∀(l:List (Int×α)) (k:Int) (v:α),qI (uI l k v)=if k∈qI l then qI l else qI l++[k]
 | [],k,v=>by simp[uI,qI]
 | p :: l,k,v=>by
  have ih:=aJD l k v;by_cases h:p.1=k
  ·simp[uI,qI,h]
  ·have h':k≠p.1:=λe=>h e.symm;have e:qI (uI (p :: l) k v)=p.1 :: qI (uI l k v):=by simp[uI,qI,h]
   rw[e,ih]
   have e2:(k∈qI (p :: l))↔k∈qI l:=by simp[qI,h']
   by_cases hk:k∈qI l
   ·rw[if_pos hk,if_pos (e2.2 hk)];rfl
   ·rw[if_neg hk,if_neg (λx=>hk (e2.1 x))];rfl
end
structure Inv(m:Mp)(s:List Sp):Prop where
 srt:s.Pairwise (λa b=>a.gId < b.gId)
 ok:∀e∈s,1<=e.gId/\e.gId<=65535/\1<=e.gQ/\e.gQ<=e.gTo/\e.gTo<=65535
 perm:(qI m).Perm (s.map (·.gId))
 val:∀e∈s,wA m e.gId=some ⟨e.gQ,e.gTo⟩
abbrev fi(s:List Sp)(id:Int):Option Nat:=s.findIdx? (λe=>e.gId==id)
theorem Inv.fnone{m:Mp}{s:List Sp}(h:Inv m s){id:Int}(hf:fi s id=none):wA m id=none:=by
 rw[aGA,h.perm.mem_iff]
 intro hm;obtain⟨e,he,e2⟩:=fa.1 hm;have:=lh.1 hf e he;simp[e2] at this
theorem aKj{s:List Sp}{id:Int}{j:Nat}(hf:fi s id=some j):∃e,s[j]? = some e/\e.gId=id:=by
 obtain⟨h,h1,_⟩:=List.findIdx?_eq_some_iff_getElem.1 hf;exact⟨s[j],af h,by simpa using h1⟩
theorem Inv.fsome{m:Mp}{s:List Sp}(h:Inv m s){id:Int}{j:Nat}(hf:fi s id=some j):∃e,s[j]? = some e/\e.gId=id/\wA m id=some ⟨e.gQ,e.gTo⟩/\(1<=e.gQ/\e.gQ<=e.gTo/\e.gTo<=65535):=by
 obtain⟨e,h1,h2⟩:=aKj hf;have hm:=gw h1;obtain⟨a1,a2,a3⟩:=h.ok e hm;exact⟨e,h1,h2,by rw[<- h2];exact h.val e hm,a3⟩
theorem Inv.upd{m:Mp}{s:List Sp}(h:Inv m s){j:Nat}{e e':Sp}(he:s[j]? = some e)(hid:e'.gId=e.gId)(hb:1<=e'.gQ/\e'.gQ<=e'.gTo/\e'.gTo<=65535):Inv (uI m e.gId ⟨e'.gQ,e'.gTo⟩) (s.set j e'):=by
 have hj:=bA he;have hm:=gw he;have hmap:(s.set j e').map (·.gId)=s.map (·.gId):=by
  rw[List.map_set,hid]
  have:(s.map (·.gId))[j]? = some e.gId:=by rw[cw,he];rfl
  refine du λi=>?_;rw[cz]
  split
  ·rename_i h1;subst h1;rw[this];simp[hj]
  ·rfl
 have hk:qI (uI m e.gId ⟨e'.gQ,e'.gTo⟩)=qI m:=by
  rw[aJD,if_pos]
  rw[h.perm.mem_iff]
  exact fa.2 ⟨e,hm,rfl⟩
 have hnd:∀(i:Nat) x,s[i]? = some x->x.gId=e.gId->i=j:=by
  intro i x hx hxe;have hp:=List.pairwise_iff_getElem.1 h.srt;have hi:=bA hx;have e1:s[i]=x:=by rw[af hi] at hx;exact Option.some.inj hx
  have e2:s[j]=e:=by rw[af hj] at he;exact Option.some.inj he
  rcases Nat.lt_trichotomy i j with hl | hl | hl
  ·have:=hp i j hi hj hl;rw[e1,e2] at this;omega
  ·exact hl
  ·have:=hp j i hj hi hl;rw[e1,e2] at this;omega
 refine⟨?_,?_,by rw[hk,hmap];exact h.perm,?_⟩
 ·have:=(ld (f:=λe:Sp=>e.gId) (R:=(· < ·)) (l:=s)).2 h.srt;rw[<- hmap] at this;exact ld.1 this
 ·intro x hx;rcases List.mem_or_eq_of_mem_set hx with h' | h'
  ·exact h.ok x h'
  ·subst h';obtain⟨a1,a2,_⟩:=h.ok e hm;exact⟨by omega,by omega,hb⟩
 ·intro x hx;obtain⟨i,hi⟩:=List.getElem?_of_mem hx;rw[cz] at hi;split at hi
  ·rename_i hij;simp only[Option.some.injEq] at hi;subst hi;rw[hid,aA8]
  ·rename_i hij;have hne:e.gId≠x.gId:=λe3=>hij (hnd i x hi e3.symm).symm;rw[aCc hne]
   exact h.val x (gw hi)
def aDW(id:Int):List Sp->List Sp
 | []=>[⟨id,1,1⟩]
 | e :: t=>if e.gId > id then⟨id,1,1⟩ :: e :: t else e :: aDW id t
theorem aFh{id:Int}{x:Sp}:∀{s:List Sp},x∈aDW id s↔x=⟨id,1,1⟩\/x∈s
 | []=>by simp[aDW]
 | e :: t=>by
  unfold aDW;split
  ·simp
  ·simp only[d9,aFh (s:=t)];constructor <;> rintro(h | h | h) <;> simp[h]
theorem aIU{id:Int}:∀{s:List Sp},(aDW id s).length=s.length+1
 | []=>rfl
 | e :: t=>by unfold aDW;split <;> simp[aIU (s:=t)]
theorem aJ1{id:Int}:∀{s:List Sp},((aDW id s).map (·.gId)).Perm (id :: s.map (·.gId))
 | []=>by simp[aDW]
 | e :: t=>by
  unfold aDW;split
  ·simp
  ·simp only[kn]
   exact((aJ1 (s:=t)).cons _).trans (pz.swap _ _ _)
theorem aMp{id:Int}:∀{s:List Sp},s.Pairwise (λa b=>a.gId < b.gId)->(∀e∈s,e.gId≠id)->(aDW id s).Pairwise (λa b=>a.gId < b.gId)
 | [],_,_=>by simp[aDW]
 | e :: t,h,hn=>by
  unfold aDW;have h':=jt.1 h;split
  ·rename_i hg;refine jt.2 ⟨λx hx=>?_,h⟩
   rcases d9.1 hx with e1 | e1
   ·subst e1;exact hg
   ·have:=h'.1 x e1;dsimp only;omega
  ·rename_i hg;refine jt.2 ⟨λx hx=>?_,aMp h'.2 λe he=>hn e (by simp[he])⟩
   rcases aFh.1 hx with e1 | e1
   ·subst e1;have:=hn e (by simp);dsimp only;omega
   ·exact h'.1 x e1
theorem Inv.ins{m:Mp}{s:List Sp}(h:Inv m s){id:Int}(hf:fi s id=Option.none)(hi:1<=id/\id<=65535):Inv (uI m id ⟨1,1⟩) (aDW id s):=by
 have hn:∀e∈s,e.gId≠id:=λe he hh=>by
  have:=lh.1 hf e he;simp[hh] at this
 have hk:id∉qI m:=(aGA m).1 (h.fnone hf)
 refine⟨aMp h.srt hn,?_,?_,?_⟩
 ·intro e he;rcases aFh.1 he with h1 | h1
  ·subst h1;exact⟨hi.1,hi.2,pv _,pv _,by show(1:Int)<=65535;decide⟩
  ·exact h.ok e h1
 ·rw[aJD,if_neg hk]
  refine pz.trans ?_ aJ1.symm;exact(List.perm_append_comm).trans (h.perm.cons id)
 ·intro e he;rcases aFh.1 he with h1 | h1
  ·subst h1;exact aA8 _ _ _
  ·rw[aCc (λe1=>hn e h1 e1.symm)]
   exact h.val e h1
def fiZ(s:List Sp)(id:Int):Int:=match fi s id with | some j=>(j:Int) | none => -1
theorem aUr(N:Nat)(s:List Sp)(id:Int)(hs:s.length<=1000):∀(k i:Nat),i<=s.length->s.length - i < k ->
  eX N s id k (i:Int)=some (match fi (s.drop i) id with | some j=>Sum.inr ((i+j:Nat):Int) | none=>Sum.inl ())
 | 0,i,_,h=>by omega
 | k+1,i,hi,hk=>by
  rw[eX,aC]
  by_cases h:i < s.length
  ·rw[dt,cond_true,bQ,aa,bo,af h,aa,cF,aUr N s id hs k (i+1) (by omega) (by omega),cg h]
   unfold fi;rw[List.findIdx?_cons]
   cases hc:(s[i].gId==id) with
   | true=>simp
   | false=>
    simp only[cond_false,Bool.false_eq_true,if_false]
    cases List.findIdx? (λe=>e.gId==id) (s.drop (i+1)) with
    | none=>rfl
    | some j=>simp only[go];congr 2;omega
  ·rw[df,cond_false,ff (by omega)];rfl
theorem aPI(N:Nat)(hN:1000 < N)(s:List Sp)(id:Int)(v:Vector Int 32)(hs:s.length<=1000):cX N s id v=some (fiZ s id):=by
 unfold cX;have:=aUr N s id hs N 0 (by omega) (by omega)
 rw[eu] at this;rw[show(0:Int)=((0:Nat):Int) from rfl,this]
 unfold fiZ;cases fi s id <;> simp[mZ]
def goS(id:Int):List Sp->Bool->List Sp×Bool
 | [],put=>([],put)
 | e :: t,put=>cond (!put&&decide (e.gId > id)) (⟨id,1,1⟩ :: e :: (goS id t true).1,(goS id t true).2) (e :: (goS id t put).1,(goS id t put).2)
theorem aEd(id:Int):∀s:List Sp,goS id s true=(s,true)
 | []=>rfl
 | e :: t=>by simp[goS,aEd id t]
theorem aKc(id:Int):∀s:List Sp,cond (!(goS id s false).2) ((goS id s false).1++[(⟨id,1,1⟩:Sp)]) (goS id s false).1=aDW id s
 | []=>rfl
 | e :: t=>by
  have ih:=aKc id t;unfold goS aDW;by_cases h:e.gId > id
  ·simp[h,aEd]
  ·rw[df h,if_neg h,<- ih]
   simp only[li,Bool.and_false,cond_false]
   cases (goS id t false).2 <;> rfl
theorem addL(N:Nat)(s:List Sp)(id:Int)(hs:s.length<=1000):∀(k i:Nat) (out:List Sp) (put:Bool),i<=s.length->s.length - i < k->out.length<=i+put.toNat ->
  dK N s id k out put (i:Int)=some (out++(goS id (s.drop i) put).1,(goS id (s.drop i) put).2)
 | 0,i,_,_,_,h,_=>by omega
 | k+1,i,out,put,hi,hk,ho=>by
  rw[dK,aC]
  have hp:=ox put;by_cases h:i < s.length
  ·rw[dt,cond_true,bQ,aa,bo,af h,aa,cF,cg h]
   have key:∀(o2:List Sp) (p2:Bool),o2.length<=i+p2.toNat ->
     ae (fT 24 o2 [s[i]]) (λz15=>dK N s id k z15 p2 ((i+1:Nat):Int))=some (o2++s[i] :: (goS id (s.drop (i+1)) p2).1,(goS id (s.drop (i+1)) p2).2):=by
    intro o2 p2 hl;have hp:=ox p2;rw[cK (by simp only[cx,j7];omega),aa,addL N s id hs k (i+1) _ p2 (by omega) (by omega) (by simp;omega),am]
    rfl
   cases put with
   | true=>
    simp only[gf,cond_false,aa]
    refine(key out true ho).trans ?_;simp[goS,aEd]
   | false=>
    simp only[li,cond_true,aa]
    by_cases hg:s[i].gId > id
    ·rw[dt hg,cond_true,cK (by simp only[cx,j7];omega),aa,aa]
     dsimp only;have hl:(out++[(aH.mk id 1 1)]).length<=i+true.toNat:=by rw[ah];exact Nat.add_le_add ho (Nat.le_refl 1)
     rw[key _ true hl]
     simp[goS,aEd,hg]
    ·rw[df hg,cond_false,aa]
     dsimp only;refine(key out false ho).trans ?_;simp[goS,hg]
  ·rw[df,cond_false,ff (by omega)];simp[goS]
theorem addR(N:Nat)(hN:1000 < N)(s:List Sp)(id:Int)(v:Vector Int 32)(hs:s.length<=1000) :
  fB N s id v=some (if id < 1\/65535 < id then Sum.inl (2:Int) else match fi s id with | some _=>Sum.inl 10 | none=>Sum.inr (aDW id s,(0:Int))):=by
 unfold fB;rw[aC]
 by_cases c:id < 1\/65535 < id
 ·rw[if_pos c,show cond (decide (id < 1)) true (decide (id > 65535))=true by
   rcases c with c | c
   ·rw[dt c];rfl
   ·by_cases c':id < 1
    ·rw[dt c'];rfl
    ·rw[df c',cond_false,dt c],cond_true]
 ·rw[if_neg c,df,df,cond_false,cond_false,aPI N hN s id v hs,aa]
  unfold fiZ;cases hf:fi s id with
  | some j=>dsimp only;rw[dt,cond_true]
  | none=>
   dsimp only;have:=addL N s id hs N 0 [] false (by omega) (by omega) (by simp)
   rw[df,cond_false,show(0:Int)=((0:Nat):Int) from rfl,this,aa,eu,ee,<- aKc id s]
   dsimp only;have hl:(goS id s false).1.length<=2000:=by
    have:=congrArg List.length (aKc id s)
    rw[aIU] at this;revert this;cases (goS id s false).2 <;> simp <;> omega
   cases (goS id s false).2 with
   | true=>rfl
   | false=>simp only[li,cond_true];rw[cK (by simp only[cx,j7];omega)];rfl
theorem aOb{α:Type}{l:List α}{j:Nat}{e:α}(h:l[j]? = some e)(f:α->α):aNg l j f=some (l.set j (f e)):=by unfold aNg;rw[h]
theorem rkR(N:Nat)(hN:1000 < N)(s:List Sp)(id:Int)(v:Vector Int 32)(hs:s.length<=1000) :
  lY N s id v=some (match fi s id with | none=>(s,0,11) | some j=>match s[j]? with | none=>(s,0,0) | some e=>if e.gTo>=65535 then(s,0,3) else(s.set j ⟨e.gId,e.gQ,I64 (e.gTo+1)⟩,I64 (e.gTo+1),0)):=by
 unfold lY;rw[aPI N hN s id v hs,aa]
 unfold fiZ;cases hf:fi s id with
 | none=>rfl
 | some j=>
  obtain⟨e,he,_⟩:=aKj hf;have hj:=bA he;dsimp only;rw[df,cond_false,bQ,aa,bo,he,aa,aC]
  dsimp only;by_cases c:e.gTo>=65535
  ·rw[dt c,cond_true,if_pos c]
  ·rw[df c,cond_false,if_neg c]
   simp only[aa]
   rw[aOb he]
   simp only[aa]
   rw[bQ (by omega) (by simp;omega),aa,List.getElem?_set_self hj,aa]
theorem retR(N:Nat)(hN:1000 < N)(s:List Sp)(id ep:Int)(v:Vector Int 32)(hs:s.length<=1000) :
  lC N s id ep v=some (match fi s id with | none=>(s,11) | some j=>match s[j]? with | none=>(s,0) | some e=>if ep < e.gQ\/e.gTo<=ep then(s,2) else(s.set j ⟨e.gId,I64 (ep+1),e.gTo⟩,0)):=by
 unfold lC;rw[aPI N hN s id v hs,aa]
 unfold fiZ;cases hf:fi s id with
 | none=>rfl
 | some j=>
  obtain⟨e,he,_⟩:=aKj hf;have hj:=bA he;dsimp only;rw[df,cond_false,bQ,aa,bo,he,aa]
  simp only[aa]
  by_cases c:ep < e.gQ\/e.gTo<=ep
  ·rw[if_pos c]
   rcases c with c | c
   ·rw[dt c,cond_true,aa,cond_true]
   ·by_cases c':ep < e.gQ
    ·rw[dt c',cond_true,aa,cond_true]
    ·rw[df c',cond_false,dt c,aa,cond_true]
  ·rw[if_neg c,df,cond_false,df,aa,cond_false,aOb he,aa]
theorem aQR(N:Nat)(l:Mp)(id:Int)(m:Vector Int 32):mS N l id m=some (match wA l id with | some s=>(s,0) | none=>(aV.mk 0 0,11)):=by
 unfold mS;rw[show lM N l m=some () from rfl,aa]
 unfold aMW aJ4;cases wA l id <;> rfl
theorem addP(N:Nat)(l:Mp)(id:Int)(m:Vector Int 32):pT N l id m=some (if id < 1\/65535 < id then(l,(2:Int)) else match wA l id with | some _=>(l,10) | none=>(uI l id ⟨1,1⟩,0)):=by
 unfold pT uU;rw[show lM N l m=some () from rfl,aa,aC,aa]
 unfold aMW;by_cases c:id < 1\/65535 < id
 ·rw[if_pos c]
  have:(cond (decide (id>=1)) (decide (id<=65535)) false)=false:=by
   rcases c with c | c
   ·rw[df];rfl
   ·rw[dt,cond_true,df]
  rw[this];rfl
 ·rw[if_neg c,dt,dt]
  cases wA l id <;> rfl
theorem rkP(N:Nat)(l:Mp)(id:Int)(m:Vector Int 32):nL N l id m=some (match wA l id with | none=>(l,0,11) | some e=>if e.gto=65535 then(l,0,3) else(uI l id ⟨e.gA4,I64 (e.gto+1)⟩,I64 (e.gto+1),0)):=by
 unfold nL;rw[aQR,aa]
 cases wA l id with
 | none=>rfl
 | some e=>
  dsimp only;rw[show((0:Int) != 0)=false from rfl,cond_false]
  by_cases c:e.gto=65535
  ·rw[if_pos c,show(e.gto==65535)=true by simpa using c];rfl
  ·rw[if_neg c,show(e.gto==65535)=false by simpa using c];rfl
theorem retP(N:Nat)(l:Mp)(id ep:Int)(m:Vector Int 32):mL N l id ep m=some (match wA l id with | none=>(l,11) | some e=>if ep < e.gA4\/e.gto<=ep then(l,2) else(uI l id ⟨I64 (ep+1),e.gto⟩,0)):=by
 unfold mL;rw[aQR,aa]
 cases wA l id with
 | none=>rfl
 | some e=>
  dsimp only;rw[show((0:Int) != 0)=false from rfl,cond_false,aC,aC]
  by_cases c:ep < e.gA4\/e.gto<=ep
  ·rw[if_pos c,show cond (decide (ep < e.gA4)) true (decide (ep>=e.gto))=true by
    rcases c with c | c
    ·rw[dt c];rfl
    ·by_cases c':ep < e.gA4
     ·rw[dt c'];rfl
     ·rw[df c',cond_false,dt c],cond_true]
  ·rw[if_neg c,df,df,cond_false,cond_false]
set_option maxHeartbeats 16000000
theorem aWL{b:List Int}(h:10<=b.length):∃x0 x1 x2 x3 x4 x5 x6 x7 x8 x9 t,b=x0 :: x1 :: x2 :: x3 :: x4 :: x5 :: x6 :: x7 :: x8 :: x9 :: t:=by
 rcases b with _ | ⟨x0,_ | ⟨x1,_ | ⟨x2,_ | ⟨x3,_ | ⟨x4,_ | ⟨x5,_ | ⟨x6,_ | ⟨x7,_ | ⟨x8,_ | ⟨x9,t⟩⟩⟩⟩⟩⟩⟩⟩⟩⟩
 all_goals first | exact⟨x0,x1,x2,x3,x4,x5,x6,x7,x8,x9,t,rfl⟩ | (simp at h)
theorem aQf : aEU (zA 0):=⟨by simp[zA,lV],by simp[zA,lV],by simp[zA,lV],by simp[zA,wI]⟩
theorem ringE(N:Nat)(hN:70000 < N){m:Mp}{s:List Sp}(h:Inv m s)(hs:s.length<=1000){v:Vector Int 32}(hv:eD v){b:List Int}(hb:aN b)(hl:b.length<=4000) :
  ∃r,mU N m b v=some r/\nF N s b v=some r/\aEU r.2.2.1:=by
 unfold mU nF;rw[show lM N m v=some () from rfl,aa]
 simp only[aC]
 by_cases c:b.length < 10
 ·rw[dt];exact⟨_,rfl,rfl,aQf⟩
 rw[df,cond_false,cond_false]
 obtain⟨x0,x1,x2,x3,x4,x5,x6,x7,x8,x9,t,rfl⟩:=aWL (b:=b) (by omega)
 clear c;have hB:∀x∈[x0,x1,x2,x3,x4,x5,x6,x7,x8,x9],isB x:=λx hx=>hb x (by
  rw[show x0 :: x1 :: x2 :: x3 :: x4 :: x5 :: x6 :: x7 :: x8 :: x9 :: t=[x0,x1,x2,x3,x4,x5,x6,x7,x8,x9]++t from rfl];exact List.mem_append_left _ hx)
 generalize hL:x0 :: x1 :: x2 :: x3 :: x4 :: x5 :: x6 :: x7 :: x8 :: x9 :: t=L at *;have ix:∀(i:Nat) (x:Int),L[i]? = some x->idx L (i:Int)=some x:=λi x h=>(kX ..).trans h;have i0:idx L 0=some x0:=ix 0 _ (by rw[<- hL];rfl)
 have i1:idx L 1=some x1:=ix 1 _ (by rw[<- hL];rfl)
 have i2:idx L 2=some x2:=ix 2 _ (by rw[<- hL];rfl)
 have i3:idx L 3=some x3:=ix 3 _ (by rw[<- hL];rfl)
 have i4:idx L 4=some x4:=ix 4 _ (by rw[<- hL];rfl)
 have i5:idx L 5=some x5:=ix 5 _ (by rw[<- hL];rfl)
 have i6:idx L 6=some x6:=ix 6 _ (by rw[<- hL];rfl)
 have i7:idx L 7=some x7:=ix 7 _ (by rw[<- hL];rfl)
 have i8:idx L 8=some x8:=ix 8 _ (by rw[<- hL];rfl)
 have i9:idx L 9=some x9:=ix 9 _ (by rw[<- hL];rfl)
 have ll:10<=L.length:=by rw[<- hL];simp
 have t1:L.take 4=[x0,x1,x2,x3]:=by rw[<- hL];rfl
 have t2:(L.drop 4).take 6=[x4,x5]++[x6,x7,x8,x9]:=by rw[<- hL];rfl
 have b0:=hB x0 (by simp)
 have b1:=hB x1 (by simp)
 have b2:=hB x2 (by simp)
 have b3:=hB x3 (by simp)
 have b4:=hB x4 (by simp)
 have b5:=hB x5 (by simp)
 have b6:=hB x6 (by simp)
 have b7:=hB x7 (by simp)
 have b8:=hB x8 (by simp)
 have b9:=hB x9 (by simp)
 rw[show(4:Int)=((4:Nat):Int) from rfl,nQ,aa,t1,show((4:Nat):Int)=(4:Int) from rfl,i0,i1,i2,i3,i4,i5,i6,i7,i8,i9]
 simp only[aa]
 have eq4:(ByteArray.toList (aIi [x0,x1,x2,x3])==ByteArray.toList (ByteArray.mk #[85,77,75,49]))=decide ([x0,x1,x2,x3]=[85,77,75,49]):=by
  have k4:aN [x0,x1,x2,x3]:=λx hx=>by simp only[d9,dy,or_false] at hx;rcases hx with rfl | rfl | rfl | rfl <;> assumption
  have:=aNB N (a:=[x0,x1,x2,x3]) (b:=[85,77,75,49]) k4 (by unfold aN isB;decide)
  unfold tM at this;rw[aC] at this;exact Option.some.inj this
 have hq:(cond (x0 != 85) (some true) (cond (x1 != 77) (some true) (cond (x2 != 75) (some true) (some (x3 != 49)))))=some (!decide ([x0,x1,x2,x3]=[85,77,75,49])):=by
  clear ix eq4 i0 i1 i2 i3 i4 i5 i6 i7 i8 i9 t1 t2 hB hL;have e:∀a b:Int,(a != b) = !decide (a=b):=λa b=>by by_cases h:a=b <;> simp[h]
  rw[e,e,e,e]
  by_cases c0:x0=85 <;> by_cases c1:x1=77 <;> by_cases c2:x2=75 <;> by_cases c3:x3=49 <;> simp[c0,c1,c2,c3]
 rw[eq4,hq,aa]
 by_cases c:[x0,x1,x2,x3]=[85,77,75,49]
 rotate_left
 ·rw[df c]
  exact⟨_,rfl,rfl,aQf⟩
 rw[dt c]
 clear c hq eq4;simp only[gf,cond_false]
 have k2:aN [x4,x5]:=λx hx=>by simp only[d9,dy,or_false] at hx;rcases hx with rfl | rfl <;> assumption
 have k4:aN [x6,x7,x8,x9]:=λx hx=>by simp only[d9,dy,or_false] at hx;rcases hx with rfl | rfl | rfl | rfl <;> assumption
 have n2:=aAF _ k2;have n4:=aAF _ k4;have l2:=aKO _ k2 (by show 2<=8;decide)
 have l4:=aKO _ k4 (by show 4<=8;decide)
 have v2:oB [x4,x5]=x4+256*x5:=by unfold oB;simp
 have v4:oB [x6,x7,x8,x9]=x6+256*(x7+256*(x8+256*x9)):=by unfold oB;simp
 change _/\_ < bL 2 at n2;rw[show bL 2=65536 from rfl] at n2;change _/\_ < bL 4 at n4;rw[show bL 4=4294967296 from rfl] at n4;have q1:=aOR N (by omega) 2 (by decide) (by decide) (oB [x4,x5]) [x6,x7,x8,x9] n2.1 (by rw[show bL 2=65536 from rfl];omega) k4;have q2:=aOR N (by omega) 4 (by decide) (by decide) (oB [x6,x7,x8,x9]) [] n4.1 (by rw[show bL 4=4294967296 from rfl];omega) aBK;rw[show leB 2 (oB [x4,x5])=[x4,x5] from l2] at q1;rw[cf,show leB 4 (oB [x6,x7,x8,x9])=[x6,x7,x8,x9] from l4] at q2;unfold isB at b4 b5 b6 b7 b8 b9;have w2:I64 (I64 x4+I64 (256*I64 x5))=oB [x4,x5]:=by rw[v2,aP (x:=x4),aP (x:=x5),aP (x:=256*x5),aP]
 have w4:I64 (I64 x6+I64 (256*I64 (I64 x7+I64 (256*I64 (I64 x8+I64 (256*I64 x9))))))=oB [x6,x7,x8,x9]:=by
  rw[v4,aP (x:=x6),aP (x:=x7),aP (x:=x8),aP (x:=x9),aP (x:=256*x9),aP (x:=x8+256*x9),aP (x:=256*(x8+256*x9)),aP (x:=x7+256*(x8+256*x9)),aP (x:=256*(x7+256*(x8+256*x9))),aP]
 rw[show(10:Int)=((10:Nat):Int) from rfl,qC,aa,show(4:Int).toNat=4 from rfl,bo,List.drop_take,show 10 - 4=6 from rfl,t2,aKa N _ (by simp),aa,show(2:Int)=((2:Nat):Int) from rfl,q1,aa]
 dsimp only;rw[show(4:Int)=((4:Nat):Int) from rfl,q2,aa]
 dsimp only;rw[w2,w4,aP (x:=oB [x4,x5]),aP (x:=oB [x6,x7,x8,x9])]
 clear w2 w4 q1 q2 v2 v4 l2 l4;generalize oB [x4,x5]=id at *;generalize oB [x6,x7,x8,x9]=ep at *;rw[aQR,aa,aPI N (by omega) s id v hs,aa]
 unfold fiZ;cases hf:fi s id with
 | none=>
  rw[h.fnone hf]
  exact⟨_,rfl,rfl,aQf⟩
 | some j=>
  obtain⟨e,he,hid,hm,_⟩:=h.fsome hf;have hj:=bA he;rw[hm]
  dsimp only;rw[df (show ¬((j:Int) < 0) by omega),cond_false,bQ,aa,bo,he,aa,show((0:Int) != 0)=false from rfl,cond_false]
  simp only[aa]
  have hw:(cond (decide (ep < e.gQ)) (some true) (some (decide (ep > e.gTo))))=some (cond (decide (ep < e.gQ)) true (decide (ep > e.gTo))):=by cases decide (ep < e.gQ) <;> rfl
  rw[hw,aa]
  cases cond (decide (ep < e.gQ)) true (decide (ep > e.gTo)) with
  | true=>exact⟨_,rfl,rfl,aQf⟩
  | false=>
   rw[cond_false,cond_false,keyP N (by omega) v hv,aa,keyR N hN v hv,aa,aBT,aa,aa]
   obtain⟨r,e1,e2,hr⟩:=openE N hN (key:=aSX v id ep) (aNM v id ep) (B:=L.drop 10) (hb.drop 10) (by rw[List.length_drop];omega)
   rw[e1,e2,aa,aa]
   rcases hr with ⟨c,hr⟩ | ⟨c,c1,c2⟩
   ·rw[c,show((0:Int) != 0)=false from rfl,cond_false,cond_false]
    exact⟨_,rfl,rfl,hr⟩
   ·rw[show(r.2.2 != 0)=true by simpa using c,cond_true,cond_true,c1,c2]
    exact⟨_,rfl,rfl,aQf⟩
theorem opL(N:Nat)(hN:1000 < N)(l:List bF)(v:Vector Int 32):∀(k i:Nat) (m:Mp) (s:List Sp),Inv m s->s.length<=i->i<=20->20 - i < k->T (jS N l v k m s (i:Int)) (λr=>Inv r.1 r.2/\r.2.length<=20)
 | 0,i,_,_,_,_,_,h=>by omega
 | k+1,i,m,s,h,hs,hi,hk=>by
  rw[jS,aC,aC]
  by_cases hc:i < l.length/\i < 20
  ·rw[dt,cond_true,dt,cond_true]
   have ei:idx l (i:Int)=some l[i]:=by rw[kX,af hc.1]
   rw[ei]
   simp only[aa]
   generalize l[i]=a;refine T.bind (P:=λo:Mp×List Sp=>Inv o.1 o.2/\o.2.length<=i+1) ?_ λo ho=>?_
   ·refine T.cond (λ_=>?_) λ_=>T.cond (λ_=>?_) λ_=>?_
    ·rw[addP,aa,addR N hN s _ v (by omega),aa]
     by_cases c:a.gId < 1\/65535 < a.gId
     ·rw[if_pos c,if_pos c]
      exact T.ret ⟨h,fg hs⟩
     ·rw[if_neg c,if_neg c]
      cases hf:fi s a.gId with
      | none=>
       rw[h.fnone hf]
       exact T.ret ⟨h.ins hf (by omega),by dsimp only;rw[aIU];omega⟩
      | some j=>
       obtain⟨e,_,_,hm,_⟩:=h.fsome hf;rw[hm]
       exact T.ret ⟨h,fg hs⟩
    ·rw[rkP,aa,rkR N hN s _ v (by omega),aa]
     cases hf:fi s a.gId with
     | none=>
      rw[h.fnone hf]
      exact T.ret ⟨h,fg hs⟩
     | some j=>
      obtain⟨e,he,hid,hm,b1,b2,b3⟩:=h.fsome hf;rw[hm]
      simp only[he]
      by_cases c:e.gTo=65535
      ·rw[if_pos c,if_pos (by omega)]
       exact T.ret ⟨h,fg hs⟩
      ·rw[if_neg c,if_neg (by omega)]
       dsimp only;rw[aP]
       refine T.ret ⟨?_,by dsimp only;rw[oq];exact fg hs⟩
       rw[<- hid]
       exact h.upd (e':=⟨e.gId,e.gQ,e.gTo+1⟩) he rfl ⟨b1,by dsimp only;omega,by dsimp only;omega⟩
    ·rw[retP,aa,retR N hN s _ _ v (by omega),aa]
     cases hf:fi s a.gId with
     | none=>
      rw[h.fnone hf]
      exact T.ret ⟨h,fg hs⟩
     | some j=>
      obtain⟨e,he,hid,hm,b1,b2,b3⟩:=h.fsome hf;rw[hm]
      simp only[he]
      by_cases c:a.gA5 < e.gQ\/e.gTo<=a.gA5
      ·rw[if_pos c,if_pos c]
       exact T.ret ⟨h,fg hs⟩
      ·rw[if_neg c,if_neg c]
       dsimp only;rw[aP]
       refine T.ret ⟨?_,by dsimp only;rw[oq];exact fg hs⟩
       rw[<- hid]
       exact h.upd (e':=⟨e.gId,a.gA5+1,e.gTo⟩) he rfl ⟨by dsimp only;omega,by dsimp only;omega,b3⟩
   ·rw[cF]
    exact opL N hN l v k (i+1) o.1 o.2 ho.1 ho.2 (by omega) (by omega)
  ·have:cond (decide ((i:Int) < (l.length:Int))) (decide ((i:Int) < 20)) false=false:=by
    by_cases c:i < l.length
    ·rw[dt,cond_true,df]
    ·rw[df];rfl
   rw[this,cond_false]
   exact T.ret ⟨h,by dsimp only;omega⟩
theorem aNY(N:Nat)(hN:70000 < N)(hw:sW N=some true){v:Vector Int 32}(hv:eD v)(l:List bF){b0:List Int}(hb:aN b0):sQ N v l b0=some true:=by
 unfold sQ;rw[aC,show(1200:Int)=((1200:Nat):Int) from rfl,aQt,aa,show aBr N v=some () from rfl,aa]
 have h0:Inv [] []:=⟨List.Pairwise.nil,by simp,by simp[qI],by simp⟩
 obtain⟨r,e,h1,h2⟩:=opL N (by omega) l v N 0 [] [] h0 (Nat.zero_le _) (by omega) (by omega)
 rw[show((0:Nat):Int)=0 from rfl] at e;rw[e,aa]
 obtain⟨q,e1,e2,hA⟩:=ringE N hN h1 (by omega) hv (hb.take 1200) (by rw[List.length_take];omega)
 rw[e1,aa,e2,aa,show(q.1==q.1)=true from beq_self_eq_true _,cond_true,aC,aR0,cond_true,aW6 N (by omega) _ hA,aa,cond_true,show(q.2.2.2==q.2.2.2)=true from beq_self_eq_true _,aC,cond_true,hw]
 rfl
end Go.UK
