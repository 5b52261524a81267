/- A part of the proof: what the functions of the program compute. -/
import Derived.Test.YtbifjcmhomoppaaGreatJ3
import Derived.Test.YtbifjcmhomoppaaGreatJ4
import Derived.Test.YtbifjcmhomoppaaGreatJ5
open Int renaming tdiv→cv,tmod→br,toNat_natCast→bx,toNat_of_nonneg→ed
open List renaming append_assoc→ap,drop_take→mu,ext_getElem?→dp,getElem?_eq_getElem→ah,getElem?_eq_none→bf,getElem?_replicate→cw,getElem?_set→cr,length_append→ai,length_replicate→ji,length_singleton→cn,length_take→bp,replicate→ak,take_of_length_le→ar,take_succ_eq_append_getElem→dw
open Option renaming bind→ae,bind_assoc→ee,bind_some→aa
open Vector renaming replicate→ag,toList_inj→gj,toList_setIfInBounds→bq
namespace Go.UK
open Go Go.Proofs
set_option maxRecDepth 20000
set_option maxHeartbeats 16000000
set_option linter.all false
def trn(x n:Int):Int:=bor .u32 (shl .u32 x n) (shr .u32 x (32 - n))
theorem rotE(N:Nat)(x:Int):bI N x 16=some (trn x 16)/\bI N x 12=some (trn x 12)/\bI N x 8=some (trn x 8)/\bI N x 7=some (trn x 7):=by
 have k:∀n m:Int,cF .u64 (U64 n) 31=n->U64 (32 - n)=m->0<=n->0<=m->m=32 - n->bI N x n=some (trn x n):=by
  intro n m h1 h2 h3 h4 h5;unfold bI trn;rw[h1,wU .u32 h3,aa,aC,h2,kS .u32 h4,aa,h5]
 exact⟨k 16 16 (by decide) (by decide) (by decide) (by decide) (by decide),k 12 20 (by decide) (by decide) (by decide) (by decide) (by decide),k 8 24 (by decide) (by decide) (by decide) (by decide) (by decide),k 7 25 (by decide) (by decide) (by decide) (by decide) (by decide)⟩
theorem aOA(N:Nat)(x:Int):dK N x 16=some (trn x 16)/\dK N x 12=some (trn x 12)/\dK N x 8=some (trn x 8)/\dK N x 7=some (trn x 7):=by
 have k:∀n m:Int,I64 (32 - n)=m->0<=n->0<=m->m=32 - n->dK N x n=some (trn x n):=by
  intro n m h2 h3 h4 h5;unfold dK trn;rw[wU .u32 h3,aa,h2,kS .u32 h4,aa,h5]
 exact⟨k 16 16 (by decide) (by decide) (by decide) (by decide),k 12 20 (by decide) (by decide) (by decide) (by decide),k 8 24 (by decide) (by decide) (by decide) (by decide),k 7 25 (by decide) (by decide) (by decide) (by decide)⟩
theorem v4_0(a b c d:Int):(#v[a,b,c,d]:Vector Int 4).toList[((0:Int).toNat)]? = some a:=rfl
theorem v4_1(a b c d:Int):(#v[a,b,c,d]:Vector Int 4).toList[((1:Int).toNat)]? = some b:=rfl
theorem v4_2(a b c d:Int):(#v[a,b,c,d]:Vector Int 4).toList[((2:Int).toNat)]? = some c:=rfl
theorem v4_3(a b c d:Int):(#v[a,b,c,d]:Vector Int 4).toList[((3:Int).toNat)]? = some d:=rfl
theorem w4_0(a b c d x:Int):(#v[a,b,c,d]:Vector Int 4).setIfInBounds ((0:Int).toNat) x=#v[x,b,c,d]:=rfl
theorem w4_1(a b c d x:Int):(#v[a,b,c,d]:Vector Int 4).setIfInBounds ((1:Int).toNat) x=#v[a,x,c,d]:=rfl
theorem w4_2(a b c d x:Int):(#v[a,b,c,d]:Vector Int 4).setIfInBounds ((2:Int).toNat) x=#v[a,b,x,d]:=rfl
theorem w4_3(a b c d x:Int):(#v[a,b,c,d]:Vector Int 4).setIfInBounds ((3:Int).toNat) x=#v[a,b,c,x]:=rfl
theorem aS5 : aP 0 4=some ():=rfl
theorem aTP : aP 1 4=some ():=rfl
theorem aTJ : aP 2 4=some ():=rfl
theorem aSu : aP 3 4=some ():=rfl
theorem ix4_0(a b c d:Int):idx (#v[a,b,c,d]:Vector Int 4).toList 0=some a:=rfl
theorem ix4_1(a b c d:Int):idx (#v[a,b,c,d]:Vector Int 4).toList 1=some b:=rfl
theorem ix4_2(a b c d:Int):idx (#v[a,b,c,d]:Vector Int 4).toList 2=some c:=rfl
theorem ix4_3(a b c d:Int):idx (#v[a,b,c,d]:Vector Int 4).toList 3=some d:=rfl
def qr(a b c d:Int):Vector Int 4:=
 let a1:=U32 (a+b)
 let d1:=trn (eZ .u32 d a1) 16
 let c1:=U32 (c+d1)
 let b1:=trn (eZ .u32 b c1) 12
 let a2:=U32 (a1+b1)
 let d2:=trn (eZ .u32 d1 a2) 8
 let c2:=U32 (c1+d2)
 let b2:=trn (eZ .u32 b1 c2) 7
 #v[a2,b2,c2,d2]
theorem aTl(N:Nat)(a b c d:Int):nJ N #v[a,b,c,d]=some (qr a b c d):=by
 unfold nJ;rw[ix4_0,aa,ix4_1,aa,ix4_2,aa,ix4_3,aa,aC,(rotE N _).1,aa,aC,(rotE N _).2.1,aa,aC,(rotE N _).2.2.1,aa,aC,(rotE N _).2.2.2,aa]
 rfl
theorem aT3(N:Nat)(a b c d:Int):nU N #v[a,b,c,d]=some (qr a b c d):=by
 unfold nU;simp only[aS5,aTP,aTJ,aSu,v4_0,v4_1,v4_2,v4_3,w4_0,w4_1,w4_2,w4_3,aa,(aOA N _).1,(aOA N _).2.1,(aOA N _).2.2.1,(aOA N _).2.2.2]
 rfl
theorem aFv(N k:Nat)(s:Vector Int 16){i:Nat}{p0 p1 p2 p3:Int}(hi:i < 8)(ht:idx (#v[#v[0,4,8,12],#v[1,5,9,13],#v[2,6,10,14],#v[3,7,11,15],#v[0,5,10,15],#v[1,6,11,12],#v[2,7,8,13],#v[3,4,9,14]]:Vector (Vector Int 4) 8).toList (i:Int)=some #v[p0,p1,p2,p3]) :
  aW N (k+1) s (i:Int)=ae (bC N s p0 p1 p2 p3) λr=>aW N k r ((i+1:Nat):Int):=by
 rw[aW,dt (by omega),cond_true,ht,aa,cZ (by omega)]
 unfold bC;simp only[aS5,aTP,aTJ,aSu,v4_0,v4_1,v4_2,v4_3,aa,ee,aTl,aT3]
theorem sC0(N k:Nat)(s:Vector Int 16):aW N (k+1) s 0=ae (bC N s 0 4 8 12) λr=>aW N k r 1:=aFv N k s (i:=0) (by decide) rfl
theorem sC1(N k:Nat)(s:Vector Int 16):aW N (k+1) s 1=ae (bC N s 1 5 9 13) λr=>aW N k r 2:=aFv N k s (i:=1) (by decide) rfl
theorem sC2(N k:Nat)(s:Vector Int 16):aW N (k+1) s 2=ae (bC N s 2 6 10 14) λr=>aW N k r 3:=aFv N k s (i:=2) (by decide) rfl
theorem sC3(N k:Nat)(s:Vector Int 16):aW N (k+1) s 3=ae (bC N s 3 7 11 15) λr=>aW N k r 4:=aFv N k s (i:=3) (by decide) rfl
theorem sC4(N k:Nat)(s:Vector Int 16):aW N (k+1) s 4=ae (bC N s 0 5 10 15) λr=>aW N k r 5:=aFv N k s (i:=4) (by decide) rfl
theorem sC5(N k:Nat)(s:Vector Int 16):aW N (k+1) s 5=ae (bC N s 1 6 11 12) λr=>aW N k r 6:=aFv N k s (i:=5) (by decide) rfl
theorem sC6(N k:Nat)(s:Vector Int 16):aW N (k+1) s 6=ae (bC N s 2 7 8 13) λr=>aW N k r 7:=aFv N k s (i:=6) (by decide) rfl
theorem sC7(N k:Nat)(s:Vector Int 16):aW N (k+1) s 7=ae (bC N s 3 4 9 14) λr=>aW N k r 8:=aFv N k s (i:=7) (by decide) rfl
theorem sC8(N k:Nat)(s:Vector Int 16):aW N (k+1) s 8=some s:=by rw[aW,df (by decide),cond_false]
theorem sR0(N k:Nat)(s:Vector Int 16):bH N (k+1) s 0=ae (bC N s 0 4 8 12) λr=>bH N k r 1:=by
 rw[bH,dt (by decide),cond_true]
 rfl
theorem sR1(N k:Nat)(s:Vector Int 16):bH N (k+1) s 1=ae (bC N s 1 5 9 13) λr=>bH N k r 2:=by
 rw[bH,dt (by decide),cond_true]
 rfl
theorem sR2(N k:Nat)(s:Vector Int 16):bH N (k+1) s 2=ae (bC N s 2 6 10 14) λr=>bH N k r 3:=by
 rw[bH,dt (by decide),cond_true]
 rfl
theorem sR3(N k:Nat)(s:Vector Int 16):bH N (k+1) s 3=ae (bC N s 3 7 11 15) λr=>bH N k r 4:=by
 rw[bH,dt (by decide),cond_true]
 rfl
theorem sR4(N k:Nat)(s:Vector Int 16):bH N (k+1) s 4=some s:=by rw[bH,df (by decide),cond_false]
theorem sT0(N k:Nat)(s:Vector Int 16):bF N (k+1) s 0=ae (bC N s 0 5 10 15) λr=>bF N k r 1:=by
 rw[bF,dt (by decide),cond_true]
 rfl
theorem sT1(N k:Nat)(s:Vector Int 16):bF N (k+1) s 1=ae (bC N s 1 6 11 12) λr=>bF N k r 2:=by
 rw[bF,dt (by decide),cond_true]
 rfl
theorem sT2(N k:Nat)(s:Vector Int 16):bF N (k+1) s 2=ae (bC N s 2 7 8 13) λr=>bF N k r 3:=by
 rw[bF,dt (by decide),cond_true]
 rfl
theorem sT3(N k:Nat)(s:Vector Int 16):bF N (k+1) s 3=ae (bC N s 3 4 9 14) λr=>bF N k r 4:=by
 rw[bF,dt (by decide),cond_true]
 rfl
theorem sT4(N k:Nat)(s:Vector Int 16):bF N (k+1) s 4=some s:=by rw[bF,df (by decide),cond_false]
theorem aUq(N:Nat)(hN:20 < N)(s:Vector Int 16):aW N N s 0=ae (bH N N s 0) λp=>bF N N p 0:=by
 obtain⟨k,hk⟩:∃k,N=k+8+1:=⟨N - 9,by omega⟩
 have a:∀s,aW N (k+8+1) s 0=ae (bH N (k+8+1) s 0) λp=>bF N (k+8+1) p 0:=by
  intro s;rw[sC0,sR0]
  simp only[ee]
  congr 1;funext s;rw[show k+8=k+7+1 from rfl,sC1,sR1]
  simp only[ee]
  congr 1;funext s;rw[show k+7=k+6+1 from rfl,sC2,sR2]
  simp only[ee]
  congr 1;funext s;rw[show k+6=k+5+1 from rfl,sC3,sR3]
  simp only[ee]
  congr 1;funext s;rw[show k+5=k+4+1 from rfl,sR4,aa,sC4,sT0]
  congr 1;funext s;rw[show k+4=k+3+1 from rfl,sC5,sT1]
  congr 1;funext s;rw[show k+3=k+2+1 from rfl,sC6,sT2]
  congr 1;funext s;rw[show k+2=k+1+1 from rfl,sC7,sT3]
  refine congrArg _ (funext λs=>?_)
  rw[sC8,sT4]
 have:=a s;rw[<- hk] at this;exact this
theorem aNp(N:Nat)(hN:20 < N):∀(k:Nat) (s:Vector Int 16) (i:Int),iH N k s i=mZ N k s i
 | 0,_,_=>rfl
 | k+1,s,i=>by
  rw[iH,mZ,aUq N hN]
  cases decide (i < 10) with
  | false=>rfl
  | true=>
   rw[cond_true,cond_true,ee]
   refine congrArg _ (funext λp=>congrArg _ (funext λq=>?_))
   exact aNp N hN k q _
theorem or4{a b:Int}(m:Nat)(hm:m<=24)(ha:0<=a/\a < ((2 ^ m:Nat):Int))(hb:isB b):bor .u32 a (shl .u32 (U32 b) (m:Int))=a+b*((2 ^ m:Nat):Int):=by
 unfold isB at hb;have le:2 ^ m<=2 ^ 24:=Nat.pow_le_pow_right (by decide) hm;have c24:2 ^ 24=16777216:=by decide
 have pe:(2:Int) ^ m=((2 ^ m:Nat):Int):=by rw[Int.natCast_pow];rfl
 have ub:U32 b=b:=aDR (by omega) (by omega)
 rw[ub,aG3 b _ m rfl (by omega),pe]
 have mb:=aM8 (n:=b.toNat) (B:=255) (C:=16777216) (by omega) (by decide) (x:=((2 ^ m:Nat):Int)) (by omega) (by omega)
 rw[ed hb.1] at mb;have q:(b.toNat:Int)=b:=ed hb.1;have q2:b*((2 ^ m:Nat):Int)=((2 ^ m*b.toNat:Nat):Int):=by rw[Int.natCast_mul,q,Int.mul_comm]
 rw[Int.emod_eq_of_lt mb.1 (by omega),aJK,aCZ m ⟨mb.1,by omega⟩ ha.1 ha.2 (by omega) ⟨b.toNat,?_⟩]
 ·omega
 ·rw[q2,bx]
theorem numC4(N:Nat){a b c d:Int}{t:List Int}(ha:isB a)(hb:isB b)(hc:isB c)(hd:isB d):kO N (a :: b :: c :: d :: t)=some (leV [a,b,c,d]):=by
 have ua:U32 a=a:=by unfold isB at ha;exact aDR (by omega) (by omega)
 unfold kO;rw[show idx (a :: b :: c :: d :: t) 0=some a from rfl,aa,show idx (a :: b :: c :: d :: t) 1=some b from rfl,aa,aC,show idx (a :: b :: c :: d :: t) 2=some c from rfl,aa,aC,show idx (a :: b :: c :: d :: t) 3=some d from rfl,aa,aC]
 unfold isB at ha;have h1:=or4 (a:=a) (b:=b) 8 (by decide) ⟨ha.1,ha.2⟩ hb;have e8:((8:Nat):Int)=8:=rfl;have p8:((2 ^ 8:Nat):Int)=256:=by decide
 rw[e8,p8] at h1;rw[ua,h1]
 have hb':=hb;have hc':=hc;unfold isB at hb' hc';have p16:((2 ^ 16:Nat):Int)=65536:=by decide
 have h2:=or4 (a:=a+b*256) (b:=c) 16 (by decide) (by rw[p16];omega) hc;rw[show((16:Nat):Int)=16 from rfl,p16] at h2;rw[h2]
 have p24:((2 ^ 24:Nat):Int)=16777216:=by decide
 have h3:=or4 (a:=a+b*256+c*65536) (b:=d) 24 (by decide) (by rw[p24];omega) hd;rw[show((24:Nat):Int)=24 from rfl,p24] at h3;rw[h3]
 congr 1;simp only[leV]
 omega
theorem numR4(N:Nat)(hN:10 < N){a b c d:Int}(ha:isB a)(hb:isB b)(hc:isB c)(hd:isB d):hQ N [a,b,c,d]=some (leV [a,b,c,d]):=by
 obtain⟨k,rfl⟩:∃k,N=k+5:=⟨N - 5,by omega⟩
 unfold isB at *;unfold hQ;rw[eE,dt (by decide),cond_true,show idx [a,b,c,d] 3=some d from rfl,aa,aC,show I64 (3 - 1)=2 from by decide]
 rw[eE,dt (by decide),cond_true,show idx [a,b,c,d] 2=some c from rfl,aa,aC,show I64 (2 - 1)=1 from by decide]
 rw[eE,dt (by decide),cond_true,show idx [a,b,c,d] 1=some b from rfl,aa,aC,show I64 (1 - 1)=0 from by decide]
 rw[eE,dt (by decide),cond_true,show idx [a,b,c,d] 0=some a from rfl,aa,aC,show I64 (0 - 1) = -1 from by decide]
 rw[eE,df (by decide),cond_false,aa]
 have u:∀{x:Int},0<=x/\x < 4294967296->U32 x=x:=λh=>aDR h.1 h.2;rw[u (x:=0*256) (by omega),u (x:=d) (by omega),u (x:=0*256+d) (by omega),u (x:=(0*256+d)*256) (by omega),u (x:=c) (by omega),u (x:=(0*256+d)*256+c) (by omega),u (x:=((0*256+d)*256+c)*256) (by omega),u (x:=b) (by omega),u (x:=((0*256+d)*256+c)*256+b) (by omega),u (x:=(((0*256+d)*256+c)*256+b)*256) (by omega),u (x:=a) (by omega),u (by omega)]
 congr 1;simp only[leV]
 omega
def kw(l:List Int)(i:Nat):Int:=leV ((l.drop (4*i)).take 4)
theorem four(l:List Int)(h:4<=l.length):∃a b c d t,l=a :: b :: c :: d :: t:=by
 match l with
 | a :: b :: c :: d :: t=>exact⟨a,b,c,d,t,rfl⟩
 | []=>simp at h
 | [_]=>simp at h
 | [_,_]=>simp at h
 | [_,_,_]=>simp at h
theorem kwC(N:Nat)(hN:10 < N){l:List Int}(hb:aQ l){i:Nat}(hi:4*i+4<=l.length):kO N (l.drop (4*i))=some (kw l i)/\hQ N ((l.drop (4*i)).take 4)=some (kw l i):=by
 obtain⟨a,b,c,d,t,e⟩:=four (l.drop (4*i)) (by rw[List.length_drop];omega)
 have hx:∀x∈a :: b :: c :: d :: t,isB x:=λx hx=>hb x (List.mem_of_mem_drop (by rw[e];exact hx))
 have ha:=hx a (by simp)
 have h2:=hx b (by simp)
 have h3:=hx c (by simp)
 have h4:=hx d (by simp)
 unfold kw;rw[e]
 exact⟨numC4 N ha h2 h3 h4,numR4 N hN ha h2 h3 h4⟩
theorem stC(N:Nat)(hN:10 < N){key:Vector Int 32}(hk:aQ key.toList)(k:Nat)(s:Vector Int 16){i:Nat}(hi:i < 8):eD N key (k+1) s (i:Int)=eD N key k (s.setIfInBounds (4+i) (kw key.toList i)) ((i+1:Nat):Int):=by
 have kl:key.toList.length=32:=by simp
 have e4:I64 (4*(i:Int))=((4*i:Nat):Int):=by rw[aR (by omega) (by omega)];omega
 have e5:I64 (4+(i:Int))=((4+i:Nat):Int):=by rw[aR (by omega) (by omega)];omega
 have sl:dU key.toList ((4*i:Nat):Int) 32=some (key.toList.drop (4*i)):=by
  rw[rP (by omega) (by omega) (by omega),show(32:Int).toNat=32 from rfl,ar (by omega)];rfl
 have ti:((4+i:Nat):Int).toNat=4+i:=rfl;rw[eD,dt (by omega),cond_true,e4,e5,sl,aa,(kwC N hN hk (i:=i) (by omega)).1,aa,cD (by omega) (by omega),aa,ti,yS s (by omega),aa,cZ (by omega)]
theorem stC2(N:Nat)(hN:10 < N){n:Vector Int 12}(hk:aQ n.toList)(k:Nat)(s:Vector Int 16){i:Nat}(hi:i < 3):dZ N n (k+1) s (i:Int)=dZ N n k (s.setIfInBounds (13+i) (kw n.toList i)) ((i+1:Nat):Int):=by
 have kl:n.toList.length=12:=by simp
 have e4:I64 (4*(i:Int))=((4*i:Nat):Int):=by rw[aR (by omega) (by omega)];omega
 have e5:I64 (13+(i:Int))=((13+i:Nat):Int):=by rw[aR (by omega) (by omega)];omega
 have sl:dU n.toList ((4*i:Nat):Int) 12=some (n.toList.drop (4*i)):=by
  rw[rP (by omega) (by omega) (by omega),show(12:Int).toNat=12 from rfl,ar (by omega)];rfl
 have ti:((13+i:Nat):Int).toNat=13+i:=rfl;rw[dZ,dt (by omega),cond_true,e4,e5,sl,aa,(kwC N hN hk (i:=i) (by omega)).1,aa,cD (by omega) (by omega),aa,ti,yS s (by omega),aa,cZ (by omega)]
theorem stR(N:Nat)(hN:10 < N){key:Vector Int 32}(hk:aQ key.toList)(k:Nat)(s:Vector Int 16){i:Nat}(hi:i < 8):eT N key (k+1) s (i:Int)=eT N key k (s.setIfInBounds (4+i) (kw key.toList i)) ((i+1:Nat):Int):=by
 have kl:key.toList.length=32:=by simp
 have e4:I64 (4*(i:Int))=((4*i:Nat):Int):=by rw[aR (by omega) (by omega)];omega
 have e6:I64 (((4*i:Nat):Int)+4)=((4*i+4:Nat):Int):=by rw[aR (by omega) (by omega)];omega
 have e5:I64 (4+(i:Int))=((4+i:Nat):Int):=by rw[aR (by omega) (by omega)];omega
 have sl:dU key.toList ((4*i:Nat):Int) ((4*i+4:Nat):Int)=some ((key.toList.drop (4*i)).take 4):=by
  rw[rP (by omega) (by omega) (by omega),bx,bx,mu,show 4*i+4 - 4*i=4 by omega]
 have ti:((4+i:Nat):Int).toNat=4+i:=rfl;rw[eT,dt (by omega),cond_true,e4,aC,e6,e5,sl,aa,(kwC N hN hk (i:=i) (by omega)).2,aa,cD (by omega) (by omega),aa,ti,yS s (by omega),aa,cZ (by omega)]
theorem stR2(N:Nat)(hN:10 < N){n:Vector Int 12}(hk:aQ n.toList)(k:Nat)(s:Vector Int 16){i:Nat}(hi:i < 3):eQ N n (k+1) s (i:Int)=eQ N n k (s.setIfInBounds (13+i) (kw n.toList i)) ((i+1:Nat):Int):=by
 have kl:n.toList.length=12:=by simp
 have e4:I64 (4*(i:Int))=((4*i:Nat):Int):=by rw[aR (by omega) (by omega)];omega
 have e6:I64 (((4*i:Nat):Int)+4)=((4*i+4:Nat):Int):=by rw[aR (by omega) (by omega)];omega
 have e5:I64 (13+(i:Int))=((13+i:Nat):Int):=by rw[aR (by omega) (by omega)];omega
 have sl:dU n.toList ((4*i:Nat):Int) ((4*i+4:Nat):Int)=some ((n.toList.drop (4*i)).take 4):=by
  rw[rP (by omega) (by omega) (by omega),bx,bx,mu,show 4*i+4 - 4*i=4 by omega]
 have ti:((13+i:Nat):Int).toNat=13+i:=rfl;rw[eQ,dt (by omega),cond_true,e4,aC,e6,e5,sl,aa,(kwC N hN hk (i:=i) (by omega)).2,aa,cD (by omega) (by omega),aa,ti,yS s (by omega),aa,cZ (by omega)]
theorem stR0(k N:Nat)(hN:N=k+20):qI N N (ag 16 0) 0=some #v[1634760805,857760878,2036477234,1797285236,0,0,0,0,0,0,0,0,0,0,0,0]:=by
 subst hN;rfl
theorem wa0(x0 x1 x2 x3 x4 x5 x6 x7 x8 x9 x10 x11 x12 x13 x14 x15 y:Int):(#v[x0,x1,x2,x3,x4,x5,x6,x7,x8,x9,x10,x11,x12,x13,x14,x15]:Vector Int 16).setIfInBounds (4+0) y=#v[x0,x1,x2,x3,y,x5,x6,x7,x8,x9,x10,x11,x12,x13,x14,x15]:=rfl
theorem wa1(x0 x1 x2 x3 x4 x5 x6 x7 x8 x9 x10 x11 x12 x13 x14 x15 y:Int):(#v[x0,x1,x2,x3,x4,x5,x6,x7,x8,x9,x10,x11,x12,x13,x14,x15]:Vector Int 16).setIfInBounds (4+1) y=#v[x0,x1,x2,x3,x4,y,x6,x7,x8,x9,x10,x11,x12,x13,x14,x15]:=rfl
theorem wa2(x0 x1 x2 x3 x4 x5 x6 x7 x8 x9 x10 x11 x12 x13 x14 x15 y:Int):(#v[x0,x1,x2,x3,x4,x5,x6,x7,x8,x9,x10,x11,x12,x13,x14,x15]:Vector Int 16).setIfInBounds (4+2) y=#v[x0,x1,x2,x3,x4,x5,y,x7,x8,x9,x10,x11,x12,x13,x14,x15]:=rfl
theorem wa3(x0 x1 x2 x3 x4 x5 x6 x7 x8 x9 x10 x11 x12 x13 x14 x15 y:Int):(#v[x0,x1,x2,x3,x4,x5,x6,x7,x8,x9,x10,x11,x12,x13,x14,x15]:Vector Int 16).setIfInBounds (4+3) y=#v[x0,x1,x2,x3,x4,x5,x6,y,x8,x9,x10,x11,x12,x13,x14,x15]:=rfl
theorem wa4(x0 x1 x2 x3 x4 x5 x6 x7 x8 x9 x10 x11 x12 x13 x14 x15 y:Int):(#v[x0,x1,x2,x3,x4,x5,x6,x7,x8,x9,x10,x11,x12,x13,x14,x15]:Vector Int 16).setIfInBounds (4+4) y=#v[x0,x1,x2,x3,x4,x5,x6,x7,y,x9,x10,x11,x12,x13,x14,x15]:=rfl
theorem wa5(x0 x1 x2 x3 x4 x5 x6 x7 x8 x9 x10 x11 x12 x13 x14 x15 y:Int):(#v[x0,x1,x2,x3,x4,x5,x6,x7,x8,x9,x10,x11,x12,x13,x14,x15]:Vector Int 16).setIfInBounds (4+5) y=#v[x0,x1,x2,x3,x4,x5,x6,x7,x8,y,x10,x11,x12,x13,x14,x15]:=rfl
theorem wa6(x0 x1 x2 x3 x4 x5 x6 x7 x8 x9 x10 x11 x12 x13 x14 x15 y:Int):(#v[x0,x1,x2,x3,x4,x5,x6,x7,x8,x9,x10,x11,x12,x13,x14,x15]:Vector Int 16).setIfInBounds (4+6) y=#v[x0,x1,x2,x3,x4,x5,x6,x7,x8,x9,y,x11,x12,x13,x14,x15]:=rfl
theorem wa7(x0 x1 x2 x3 x4 x5 x6 x7 x8 x9 x10 x11 x12 x13 x14 x15 y:Int):(#v[x0,x1,x2,x3,x4,x5,x6,x7,x8,x9,x10,x11,x12,x13,x14,x15]:Vector Int 16).setIfInBounds (4+7) y=#v[x0,x1,x2,x3,x4,x5,x6,x7,x8,x9,x10,y,x12,x13,x14,x15]:=rfl
theorem wb(x0 x1 x2 x3 x4 x5 x6 x7 x8 x9 x10 x11 x12 x13 x14 x15 y:Int):(#v[x0,x1,x2,x3,x4,x5,x6,x7,x8,x9,x10,x11,x12,x13,x14,x15]:Vector Int 16).setIfInBounds (12) y=#v[x0,x1,x2,x3,x4,x5,x6,x7,x8,x9,x10,x11,y,x13,x14,x15]:=rfl
theorem wc0(x0 x1 x2 x3 x4 x5 x6 x7 x8 x9 x10 x11 x12 x13 x14 x15 y:Int):(#v[x0,x1,x2,x3,x4,x5,x6,x7,x8,x9,x10,x11,x12,x13,x14,x15]:Vector Int 16).setIfInBounds (13+0) y=#v[x0,x1,x2,x3,x4,x5,x6,x7,x8,x9,x10,x11,x12,y,x14,x15]:=rfl
theorem wc1(x0 x1 x2 x3 x4 x5 x6 x7 x8 x9 x10 x11 x12 x13 x14 x15 y:Int):(#v[x0,x1,x2,x3,x4,x5,x6,x7,x8,x9,x10,x11,x12,x13,x14,x15]:Vector Int 16).setIfInBounds (13+1) y=#v[x0,x1,x2,x3,x4,x5,x6,x7,x8,x9,x10,x11,x12,x13,y,x15]:=rfl
theorem wc2(x0 x1 x2 x3 x4 x5 x6 x7 x8 x9 x10 x11 x12 x13 x14 x15 y:Int):(#v[x0,x1,x2,x3,x4,x5,x6,x7,x8,x9,x10,x11,x12,x13,x14,x15]:Vector Int 16).setIfInBounds (13+2) y=#v[x0,x1,x2,x3,x4,x5,x6,x7,x8,x9,x10,x11,x12,x13,x14,y]:=rfl
theorem asmC(c k0 k1 k2 k3 k4 k5 k6 k7 n0 n1 n2:Int):((((((((((((#v[1634760805,857760878,2036477234,1797285236,0,0,0,0,0,0,0,0,c,0,0,0]).setIfInBounds (4+0) k0).setIfInBounds (4+1) k1).setIfInBounds (4+2) k2).setIfInBounds (4+3) k3).setIfInBounds (4+4) k4).setIfInBounds (4+5) k5).setIfInBounds (4+6) k6).setIfInBounds (4+7) k7).setIfInBounds (13+0) n0).setIfInBounds (13+1) n1).setIfInBounds (13+2) n2:Vector Int 16)=#v[1634760805,857760878,2036477234,1797285236,k0,k1,k2,k3,k4,k5,k6,k7,c,n0,n1,n2]:=by rw[wa0,wa1,wa2,wa3,wa4,wa5,wa6,wa7,wc0,wc1,wc2]
theorem asmR(c k0 k1 k2 k3 k4 k5 k6 k7 n0 n1 n2:Int):(((((((((((((#v[1634760805,857760878,2036477234,1797285236,0,0,0,0,0,0,0,0,0,0,0,0]).setIfInBounds (4+0) k0).setIfInBounds (4+1) k1).setIfInBounds (4+2) k2).setIfInBounds (4+3) k3).setIfInBounds (4+4) k4).setIfInBounds (4+5) k5).setIfInBounds (4+6) k6).setIfInBounds (4+7) k7).setIfInBounds 12 c).setIfInBounds (13+0) n0).setIfInBounds (13+1) n1).setIfInBounds (13+2) n2:Vector Int 16)=#v[1634760805,857760878,2036477234,1797285236,k0,k1,k2,k3,k4,k5,k6,k7,c,n0,n1,n2]:=by rw[wa0,wa1,wa2,wa3,wa4,wa5,wa6,wa7,wb,wc0,wc1,wc2]
theorem aQI(N:Nat)(hN:30 < N){key:Vector Int 32}(hk:aQ key.toList){n:Vector Int 12}(hn:aQ n.toList)(c:Int):∃s,qC N key c n=some s/\nF N key c n=some s:=by
 obtain⟨kk,hK⟩:∃kk,N=kk+20:=⟨N - 20,by omega⟩
 have z:((0:Nat):Int)=0:=rfl;have c8:∀s,eD N key (kk+20) s 0=some (((((((((s.setIfInBounds (4+0) (kw key.toList 0)).setIfInBounds (4+1) (kw key.toList 1)).setIfInBounds (4+2) (kw key.toList 2)).setIfInBounds (4+3) (kw key.toList 3)).setIfInBounds (4+4) (kw key.toList 4)).setIfInBounds (4+5) (kw key.toList 5)).setIfInBounds (4+6) (kw key.toList 6)).setIfInBounds (4+7) (kw key.toList 7))):=by
  intro s;rw[<- z,stC N (by omega) hk (kk+19) s (by decide),stC N (by omega) hk (kk+18) _ (by decide),stC N (by omega) hk (kk+17) _ (by decide),stC N (by omega) hk (kk+16) _ (by decide),stC N (by omega) hk (kk+15) _ (by decide),stC N (by omega) hk (kk+14) _ (by decide),stC N (by omega) hk (kk+13) _ (by decide),stC N (by omega) hk (kk+12) _ (by decide),eD,df (by decide),cond_false]
 have r8:∀s,eT N key (kk+20) s 0=some (((((((((s.setIfInBounds (4+0) (kw key.toList 0)).setIfInBounds (4+1) (kw key.toList 1)).setIfInBounds (4+2) (kw key.toList 2)).setIfInBounds (4+3) (kw key.toList 3)).setIfInBounds (4+4) (kw key.toList 4)).setIfInBounds (4+5) (kw key.toList 5)).setIfInBounds (4+6) (kw key.toList 6)).setIfInBounds (4+7) (kw key.toList 7))):=by
  intro s;rw[<- z,stR N (by omega) hk (kk+19) s (by decide),stR N (by omega) hk (kk+18) _ (by decide),stR N (by omega) hk (kk+17) _ (by decide),stR N (by omega) hk (kk+16) _ (by decide),stR N (by omega) hk (kk+15) _ (by decide),stR N (by omega) hk (kk+14) _ (by decide),stR N (by omega) hk (kk+13) _ (by decide),stR N (by omega) hk (kk+12) _ (by decide),eT,df (by decide),cond_false]
 have c3:∀s,dZ N n (kk+20) s 0=some (((s.setIfInBounds (13+0) (kw n.toList 0)).setIfInBounds (13+1) (kw n.toList 1)).setIfInBounds (13+2) (kw n.toList 2)):=by
  intro s;rw[<- z,stC2 N (by omega) hn (kk+19) s (by decide),stC2 N (by omega) hn (kk+18) _ (by decide),stC2 N (by omega) hn (kk+17) _ (by decide),dZ,df (by decide),cond_false]
 have r3:∀s,eQ N n (kk+20) s 0=some (((s.setIfInBounds (13+0) (kw n.toList 0)).setIfInBounds (13+1) (kw n.toList 1)).setIfInBounds (13+2) (kw n.toList 2)):=by
  intro s;rw[<- z,stR2 N (by omega) hn (kk+19) s (by decide),stR2 N (by omega) hn (kk+18) _ (by decide),stR2 N (by omega) hn (kk+17) _ (by decide),eQ,df (by decide),cond_false]
 rw[<- hK] at c8 r8 c3 r3;unfold qC nF;rw[stR0 kk N hK,aa,c8,aa,c3,aa,r8,aa,show aP 12 16=some () from rfl,aa,show(12:Int).toNat=12 from rfl,yS _ (by decide),aa,r3,aa]
 generalize kw key.toList 0=k0;generalize kw key.toList 1=k1;generalize kw key.toList 2=k2;generalize kw key.toList 3=k3;generalize kw key.toList 4=k4;generalize kw key.toList 5=k5;generalize kw key.toList 6=k6;generalize kw key.toList 7=k7;generalize kw n.toList 0=n0;generalize kw n.toList 1=n1;generalize kw n.toList 2=n2;exact⟨_,congrArg some (asmC c k0 k1 k2 k3 k4 k5 k6 k7 n0 n1 n2),congrArg some (asmR c k0 k1 k2 k3 k4 k5 k6 k7 n0 n1 n2)⟩
def ob(p r:Vector Int 16)(j:Nat):Int:=U8 (shr .u32 (U32 (vg p (j / 4)+vg r (j / 4))) ((8*(j % 4):Nat):Int))
def ObI(p r:Vector Int 16)(i:Nat)(v:Vector Int 64):Prop:=∀j,j < 64->v.toList[j]? = some (if j < i then ob p r j else 0)
theorem aHS(v:Vector Int 64){j:Nat}(h:j < 64):∃x,v.toList[j]? = some x:=⟨_,ah (by simp;omega)⟩
theorem aLD{p r:Vector Int 16}{i:Nat}{v:Vector Int 64}(h:ObI p r i v)(hi:i < 64){x:Int}(hx:x=ob p r i):ObI p r (i+1) (v.setIfInBounds i x):=by
 intro j hj;rw[bq,cr]
 by_cases c:i=j
 ·subst c;rw[if_pos rfl,if_pos (by simp;omega),if_pos (by omega),hx]
 ·rw[if_neg c,h j hj]
  by_cases c2:j < i
  ·rw[if_pos c2,if_pos (by omega)]
  ·rw[if_neg c2,if_neg (by omega)]
theorem shr00(x:Int):shr .u32 x 0=x:=by rw[show(0:Int)=((0:Nat):Int) from rfl,aAg .u32 x _ 0 rfl (by decide)];exact Int.ediv_one x
theorem obC(N:Nat)(hN:80 < N)(p r:Vector Int 16):T (fD N p r N (ag 64 0) 0) (ObI p r 64):=by
 refine T.loop0 (n:=16) (by decide) (λi v=>ObI p r (4*i) v) (F:=fD N p r) (λk s i hi hs Q hk=>?_) (λk s=>by rw[fD,df (by omega),cond_false]) (by omega) (λj hj=>?_)
 ·have e4:I64 (4*(i:Int))=((4*i:Nat):Int):=by rw[aR (by omega) (by omega)];omega
  have e1:I64 (((4*i:Nat):Int)+1)=((4*i+1:Nat):Int):=by rw[aR (by omega) (by omega)];omega
  have e2:I64 (((4*i:Nat):Int)+2)=((4*i+2:Nat):Int):=by rw[aR (by omega) (by omega)];omega
  have e3:I64 (((4*i:Nat):Int)+3)=((4*i+3:Nat):Int):=by rw[aR (by omega) (by omega)];omega
  have t:∀n:Nat,((n:Nat):Int).toNat=n:=λn=>rfl;rw[fD,dt (by omega),cond_true,mX,yS p hi,aa,cD (i:=(i:Int)) (by omega) (by omega),aa,t,yS r hi,aa,e4,aC,e1,aC,e2,aC,e3,aC,aC,aC,cZ (by omega)]
  obtain⟨x0,h0⟩:=aHS s (j:=4*i) (by omega)
  rw[cD (i:=((4*i:Nat):Int)) (by omega) (by omega),aa,t,h0,aa]
  have s1:=aLD hs (x:=U8 (U32 (vg p i+vg r i))) (by omega) (by unfold ob;rw[show 4*i / 4=i by omega,show 4*i % 4=0 by omega];rw[show((8*0:Nat):Int)=0 from rfl,shr00])
  obtain⟨x1,h1⟩:=aHS (s.setIfInBounds (4*i) (U8 (U32 (vg p i+vg r i)))) (j:=4*i+1) (by omega)
  rw[cD (i:=((4*i+1:Nat):Int)) (by omega) (by omega),aa,t,h1,aa]
  have s2:=aLD s1 (x:=U8 (shr .u32 (U32 (vg p i+vg r i)) 8)) (by omega) (by unfold ob;rw[show(4*i+1) / 4=i by omega,show(4*i+1) % 4=1 by omega];rfl)
  obtain⟨x2,h2⟩:=aHS ((s.setIfInBounds (4*i) (U8 (U32 (vg p i+vg r i)))).setIfInBounds (4*i+1) (U8 (shr .u32 (U32 (vg p i+vg r i)) 8))) (j:=4*i+2) (by omega)
  rw[cD (i:=((4*i+2:Nat):Int)) (by omega) (by omega),aa,t,h2,aa]
  have s3:=aLD s2 (x:=U8 (shr .u32 (U32 (vg p i+vg r i)) 16)) (by omega) (by unfold ob;rw[show(4*i+1+1) / 4=i by omega,show(4*i+1+1) % 4=2 by omega];rfl)
  obtain⟨x3,h3⟩:=aHS (((s.setIfInBounds (4*i) (U8 (U32 (vg p i+vg r i)))).setIfInBounds (4*i+1) (U8 (shr .u32 (U32 (vg p i+vg r i)) 8))).setIfInBounds (4*i+2) (U8 (shr .u32 (U32 (vg p i+vg r i)) 16))) (j:=4*i+3) (by omega)
  rw[cD (i:=((4*i+3:Nat):Int)) (by omega) (by omega),aa,t,h3,aa]
  have s4:=aLD s3 (x:=U8 (shr .u32 (U32 (vg p i+vg r i)) 24)) (by omega) (by unfold ob;rw[show(4*i+1+1+1) / 4=i by omega,show(4*i+1+1+1) % 4=3 by omega];rfl)
  exact hk _ s4
 ·have z:(ag 64 (0:Int)).toList=ak 64 0:=rfl;rw[z,cw,if_pos hj,if_neg (by omega)]
theorem obR(N:Nat)(hN:80 < N)(p r:Vector Int 16):T (iD N p r N (ag 64 0) 0) (ObI p r 64):=by
 refine T.loop0 (n:=64) (by decide) (λi v=>ObI p r i v) (F:=iD N p r) (λk s i hi hs Q hk=>?_) (λk s=>by rw[iD,df (by omega),cond_false]) (by omega) (λj hj=>?_)
 ·have td:cv (i:Int) 4=((i / 4:Nat):Int):=by rw[Int.tdiv_eq_ediv_of_nonneg (by omega)];omega
  have tm:br (i:Int) 4=((i % 4:Nat):Int):=by rw[Int.tmod_eq_emod_of_nonneg (by omega)];omega
  have e1:I64 (((i / 4:Nat):Int))=((i / 4:Nat):Int):=aR (by omega) (by omega)
  have e2:I64 (8*((i % 4:Nat):Int))=((8*(i % 4):Nat):Int):=by rw[aR (by omega) (by omega)];omega
  have t:∀n:Nat,((n:Nat):Int).toNat=n:=λn=>rfl;obtain⟨x0,h0⟩:=aHS s (j:=i) hi;rw[iD,dt (by omega),cond_true,td,tm,e1,cD (i:=((i / 4:Nat):Int)) (by omega) (by omega),aa,t,yS p (by omega),aa,aa,yS r (by omega),aa,aC,e2,kS .u32 (by omega),aa,cD (i:=(i:Int)) (by omega) (by omega),aa,t,h0,aa,cZ (by omega)]
  exact hk _ (aLD hs hi rfl)
 ·have z:(ag 64 (0:Int)).toList=ak 64 0:=rfl;rw[z,cw,if_pos hj,if_neg (by omega)]
theorem aQV(N:Nat)(hN:80 < N){key:Vector Int 32}(hk:aQ key.toList){n:Vector Int 12}(hn:aQ n.toList)(c:Int):kM N key c n=nH N key c n:=by
 obtain⟨s,e1,e2⟩:=aQI N (by omega) hk hn c;unfold kM nH;rw[e1,e2,aa,aa,aNp N (by omega)]
 refine congrArg _ (funext λp=>?_)
 rw[aa]
 obtain⟨u,f1,g1⟩:=obC N hN p s;obtain⟨w,f2,g2⟩:=obR N hN p s;have:u=w:=by
  apply gj.1;apply dp;intro j;by_cases hj:j < 64
  ·rw[g1 j hj,g2 j hj]
  ·rw[bf (by simp;omega),bf (by simp;omega)]
 rw[f1,f2,this]
theorem aTS(N:Nat)(hN:80 < N){n i:Nat}(hn:n<=65536)(hi:i < n)(b:Vector Int 64){s:List Int}(hs:s.length<=65536):eC N (i:Int) (n:Int) b N s 0=some (s++b.toList.take (min 64 (n - i))):=by
 have bl:b.toList.length=64:=by simp
 have main:T (eC N (i:Int) (n:Int) b N s 0) (λr=>r=s++b.toList.take (min 64 (n - i))):=by
  refine T.loopG0 (n:=min 64 (n - i)) (λj r=>r=s++b.toList.take j) _ (F:=λk r j=>eC N (i:Int) (n:Int) b k r j) (λk r j hj hr hk=>?_) (λk r hr=>?_) (by omega) (s:=s) (by simp)
  ·have e:I64 ((i:Int)+(j:Int))=((i+j:Nat):Int):=by rw[aR (by omega) (by omega)];omega
   have ti:((j:Nat):Int).toNat=j:=rfl;have g:b.toList[j]? = some b.toList[j]:=ah (by omega)
   rw[eC,e,aC,dt (show((i+j:Nat):Int) < (n:Int) by omega),dt (show(j:Int) < 64 by omega),cond_true,aC,cond_true,cD (by omega) (by omega),aa,ti,g,aa,eF (by rw[hr,ai,bp,cn];omega),aa,cZ (by omega)]
   refine hk _ ?_;rw[hr,dw (show j < b.toList.length by omega),ap]
  ·rw[eC,aC]
   have c:(cond (decide (((min 64 (n - i):Nat):Int) < 64)) (decide (I64 ((i:Int)+((min 64 (n - i):Nat):Int)) < (n:Int))) false)=false:=by
    by_cases h:n - i < 64
    ·have e:I64 ((i:Int)+((min 64 (n - i):Nat):Int))=(n:Int):=by rw[aR (by omega) (by omega)];omega
     rw[e,dt (by omega),cond_true,df (by omega)]
    ·rw[df (by omega),cond_false]
   rw[aC,c,cond_false]
   exact T.ret hr
 obtain⟨r,e,rfl⟩:=main;exact e
theorem aSr(N:Nat)(hN:80 < N){key:Vector Int 32}(hk:aQ key.toList){nc:Vector Int 12}(hn:aQ nc.toList){n:Nat}(hl:n<=65536):∀(k i:Nat) (s:List Int) (c:Int),s.length=min i n->i<=65600->kX N (n:Int) key nc k s c=lS N (n:Int) key nc k s c (i:Int)
 | 0,_,_,_,_,_=>rfl
 | k+1,i,s,c,hs,hi=>by
  have im:mY (n:Int) 65536=(n:Int):=by unfold mY;split <;> omega
  rw[kX,lS,aC,im]
  by_cases h:i < n
  ·have sl:s.length=i:=by omega
   rw[dt (by omega),dt (by omega),cond_true,cond_true,aQV N hN hk hn]
   refine congrArg _ (funext λb=>?_)
   have bl:b.toList.length=64:=by simp
   have e1:I64 ((n:Int) - (s.length:Int))=((n - i:Nat):Int):=by rw[aR (by omega) (by omega)];omega
   have e2:mY 64 ((n - i:Nat):Int)=((min 64 (n - i):Nat):Int):=by unfold mY;split <;> omega
   have e3:I64 ((i:Int)+64)=((i+64:Nat):Int):=by rw[aR (by omega) (by omega)];omega
   rw[aC,e1,e2,sX (by omega),aa,eF (by rw[bp];omega),aa,aTS N hN hl h b (by omega),aa,e3]
   exact aSr N hN hk hn hl k (i+64) _ _ (by rw[ai,bp];omega) (by omega)
  ·rw[df (by omega),df (by omega),cond_false,cond_false]
theorem strmE(N:Nat)(hN:80 < N){key:Vector Int 32}(hk:aQ key.toList){nc:Vector Int 12}(hn:aQ nc.toList){n:Nat}(hl:n<=65536)(c:Int):kU N key c nc (n:Int)=oO N key c nc (n:Int):=by
 unfold kU oO;rw[df (by omega),cond_false,aa]
 have:=aSr N hN hk hn hl N 0 [] c (by simp) (by omega)
 rw[show((0:Nat):Int)=0 from rfl] at this;rw[this]
theorem refX1(N:Nat)(hN:70000<=N){d st:List Int}(hs:st.length=d.length)(hl:d.length<=65536):hU N d st N [] 0=some (zM d st):=by
 have xl:(zM d st).length=d.length:=aHT hs;have xg:∀i (h:i < d.length),(zM d st)[i]? = some (eZ .u8 d[i] (st[i]'(by omega))):=by
  intro i h;unfold zM;rw[List.getElem?_zipWith,ah h,ah (show i < st.length by omega)]
 have main:T (hU N d st N [] 0) (λr=>r=zM d st):=by
  refine T.loopG0 (n:=d.length) (λi r=>r=(zM d st).take i) _ (F:=λk r i=>hU N d st k r i) (λk r i hi hr hk=>?_) (λk r hr=>?_) (by omega) (s:=[]) (by simp)
  ·rw[hU,aC,dt (by omega),cond_true,mX,ah hi,aa,mX,ah (show i < st.length by omega),aa,eF (by rw[hr,bp,cn];omega),aa,cZ (by omega)]
   refine hk _ ?_;have g:=xg i hi;rw[ah (by omega)] at g;rw[hr,dw (show i < (zM d st).length by omega),Option.some.inj g]
  ·rw[hU,aC,df (by omega),cond_false]
   exact T.ret (by rw[hr,ar (by omega)])
 obtain⟨r,e,rfl⟩:=main;exact e
theorem xorR(N:Nat)(hN:70000<=N){key:Vector Int 32}(hk:aQ key.toList){n:Vector Int 12}(hn:aQ n.toList){d:List Int}(hl:d.length<=65536):sA N key 1 n d=some (aBw N key n d):=by
 obtain⟨e1,e2⟩:=aMR N hN key n d.length hl;unfold sA;rw[aC,df (by omega),cond_false,aa,<- strmE N (by omega) hk hn hl,e1,aa,refX1 N hN e2 hl,aa]
 rfl
theorem aUu(N:Nat)(hN:80 < N){key:Vector Int 32}(hk:aQ key.toList){n:Vector Int 12}(hn:aQ n.toList)(c:Int):∃v,kM N key c n=some v/\eH v:=by
 obtain⟨v,hv,_⟩:=aMy N (by omega) key c n;refine⟨v,hv,?_⟩
 obtain⟨s,e1,e2⟩:=aQI N (by omega) hk hn c;unfold kM at hv;rw[e1,aa] at hv;cases hp:iH N N s 0 with
 | none=>rw[hp,Option.bind_none] at hv;cases hv
 | some p=>
  rw[hp,aa] at hv;obtain⟨u,f1,g1⟩:=obC N hN p s;rw[f1,aa] at hv;obtain rfl:=Option.some.inj hv;intro x hx;obtain⟨j,hj,rfl⟩:=List.getElem_of_mem hx;have hj':j < 64:=by simpa using hj
  have g:=g1 j hj';rw[if_pos hj',ah hj] at g;rw[Option.some.inj g]
  exact aIa _
theorem keyE(N:Nat)(hN:80 < N){key:Vector Int 32}(hk:aQ key.toList){n:Vector Int 12}(hn:aQ n.toList):∃k,vT N key n=some k/\rR N key n=some k/\eH k:=by
 obtain⟨v,e1,hv⟩:=aUu N hN hk hn 0;obtain⟨w,e2,hw⟩:=T.vec (n:=32) (l:=v.toList.take 32) (by simp)
 have hw':w.toList=v.toList.take 32:=by rw[hw,List.take_take];rfl
 have vl:v.toList.length=64:=by simp
 refine⟨w,?_,?_,?_⟩
 ·unfold vT;have hs:dU v.toList 0 32=some (v.toList.take 32):=sX (n:=32) (by omega)
  rw[e1,aa,hs,aa,e2,aa]
 ·unfold rR;rw[<- aQV N hN hk hn,e1,aa]
  have main:T (jU N v N (ag 32 0) 0) (λu=>u=w):=by
   refine T.mono (T.loop0 (n:=32) (by decide) (λi (u:Vector Int 32)=>∀j,j < 32->u.toList[j]? = some (if j < i then v.toList.getD j 0 else 0)) (F:=jU N v) (λk s i hi hs Q hk=>?_) (λk s=>by rw[jU,df (by omega),cond_false]) (by omega) (λj hj=>?_)) λu hu=>?_
   ·have ti:((i:Nat):Int).toNat=i:=rfl;rw[jU,dt (by omega),cond_true,cD (i:=(i:Int)) (n:=64) (by omega) (by omega),aa,ti,lG (by omega),aa,cD (by omega) (by omega),aa,hs i (by omega),aa,cZ (by omega)]
    refine hk _ λj hj=>?_;rw[bq,cr]
    by_cases c:i=j
    ·subst c;rw[if_pos rfl,if_pos (by simp;omega),if_pos (by omega)]
    ·rw[if_neg c,hs j hj]
     by_cases c3:j < i
     ·rw[if_pos c3,if_pos (by omega)]
     ·rw[if_neg c3,if_neg (by omega)]
   ·have z:(ag 32 (0:Int)).toList=ak 32 0:=rfl;rw[z,cw,if_pos hj,if_neg (by omega)]
   ·apply gj.1;apply dp;intro j;by_cases c1:j < 32
    ·rw[hu j c1,if_pos c1,hw',List.getElem?_take,if_pos c1,lG (by omega)]
    ·rw[bf (by simp;omega),bf (by simp;omega)]
  obtain⟨u,f,rfl⟩:=main;rw[f,aa]
 ·unfold eH;rw[hw']
  exact hv.take 32
def yA(l:List Int):List Int:=ak ((16 - l.length % 16) % 16) 0
theorem aLV(l:List Int):(l++yA l).length % 16=0:=by rw[ai,yA,ji];omega
theorem aG1(l:List Int):(yA l).length < 16:=by rw[yA,ji];omega
theorem aQz(l:List Int):aQ (yA l):=λx hx=>by
 rw[(List.mem_replicate.1 hx).2];exact⟨by decide,by decide⟩
theorem aTF(N:Nat)(l:List Int)(hl:l.length<=1000000):rB N l=some (yA l):=by
 unfold rB;have hx:br ((l.length:Int)) 16=((l.length % 16:Nat):Int):=rfl;have e:I64 (16 - ((l.length % 16:Nat):Int))=((16 - l.length % 16:Nat):Int):=by rw[aR (by omega) (by omega)];omega
 have hy:br ((16 - l.length % 16:Nat):Int) 16=(((16 - l.length % 16) % 16:Nat):Int):=rfl;rw[aC,hx,e,aC,hy,bx]
 have m1:mkO 1 (((16 - l.length % 16) % 16:Nat):Int)=some ():=by
  unfold mkO;rw[dt (by omega),dt (by omega),dt (by omega)]
  rfl
 have m2:aGm (ak ((16 - l.length % 16) % 16) (0:Int)) ((16 - l.length % 16) % 16)=some ():=by
  unfold aGm;rw[show((ak ((16 - l.length % 16) % 16) (0:Int)).length.beq ((16 - l.length % 16) % 16))=true by simp]
  rfl
 rw[m1,aa,m2,aa]
 rfl
theorem aTu{l:List Int}(h:0 < l.length % 16):yA l=0 :: yA (l++[0]):=by
 unfold yA;rw[ai,cn,<- List.replicate_succ]
 congr 1;omega
theorem aSY(N:Nat):∀(k:Nat) (l:List Int),l.length<=2000000->(yA l).length < k->lU N k l=some (l++yA l)
 | 0,_,_,h=>by omega
 | k+1,l,hl,h=>by
  have hx:br ((l.length:Int)) 16=((l.length % 16:Nat):Int):=rfl;rw[lU,aC,hx]
  by_cases c:0 < l.length % 16
  ·have hp:=aTu c;rw[dt (by omega),cond_true,eF (by rw[cn];omega),aa,aSY N k (l++[0]) ?_ ?_]
   ·rw[hp,ap];rfl
   ·have:=aG1 l;by_cases c2:l.length<=1999999
    ·rw[ai,cn];omega
    ·exfalso;omega
   ·rw[hp,List.length_cons] at h;omega
  ·rw[df (by omega),cond_false]
   have:yA l=[]:=by unfold yA;rw[show l.length % 16=0 by omega];rfl
   rw[this,List.append_nil]
theorem aSw(N:Nat)(hN:20 < N)(l:List Int)(hl:l.length<=1000000):mF N l=some (l++yA l):=by
 unfold mF;rw[eF (by simp;omega),aa,List.nil_append,aSY N N l (by omega) (by have:=aG1 l;omega),aa]
def aBH(n:Nat):List Int:=(List.range 8).map λi=>((n / 256 ^ i % 256:Nat):Int)
theorem yD(n:Nat):(aBH n).length=8:=by simp[aBH]
theorem aQG(n:Nat):aQ (aBH n):=λx hx=>by
 obtain⟨i,_,rfl⟩:=List.mem_map.1 hx;exact⟨by omega,by omega⟩
theorem aPQ(N:Nat)(hN:20 < N){n:Nat}(hn:n<=1000000):jR N (n:Int)=some (aBH n):=by
 unfold jR;have main:T (dG N N [] (n:Int) 0) (λr=>r=aBH n):=by
  refine T.loopG0 (n:=8) (λi (s:List Int×Int)=>s.1=(aBH n).take i/\s.2=((n / 256 ^ i:Nat):Int)) _ (F:=λk s i=>dG N k s.1 s.2 i) (λk s i hi hr hk=>?_) (λk s hr=>?_) (by omega) (s:=([],(n:Int))) ⟨rfl,by simp⟩
  ·obtain⟨h1,h2⟩:=hr;have hle:n / 256 ^ i<=n:=Nat.div_le_self _ _;have h8:=yD n;have e1:(aBH n)[i]'(by omega)=((n / 256 ^ i % 256:Nat):Int):=by simp[aBH]
   have e2:n / 256 ^ (i+1)=n / 256 ^ i / 256:=by rw[Nat.div_div_eq_div_mul,<- Nat.pow_succ]
   generalize hq:n / 256 ^ i=q at *;have ht:br (q:Int) 256=((q % 256:Nat):Int):=rfl;have hd:cv (q:Int) 256=((q / 256:Nat):Int):=rfl;rw[dG,dt (by omega),cond_true,h2,ht,tO (by omega) (by omega),eF (by rw[h1,bp,cn];omega),aa,hd,aR (by omega) (by omega),cZ (by omega)]
   refine hk (_,_) ⟨?_,?_⟩
   ·show s.1++[_]=_;rw[h1,dw (show i < (aBH n).length by omega),e1]
   ·show((q / 256:Nat):Int)=_;rw[e2]
  ·rw[dG,df (by omega),cond_false]
   exact T.ret (by rw[hr.1,ar (by rw[yD];omega)])
 obtain⟨r,e,rfl⟩:=main;rw[e,aa]
theorem aKe{n i:Nat}(hn:n<=1000000)(hi:i < 8):U8 (shr .i64 (n:Int) ((8*i:Nat):Int))=(aBH n).getD i 0:=by
 have e:(aBH n).getD i 0=((n / 256 ^ i % 256:Nat):Int):=by
  rw[List.getD_eq_getElem?_getD,ah (by rw[yD];omega)]
  simp[aBH]
 rw[e,aAg .i64 _ _ (8*i) rfl (by show 8*i<=64;omega),aAz,Int.pow_mul]
 show((n:Int) / 256 ^ i) % 256=_;rw[show((256:Int) ^ i)=((256 ^ i:Nat):Int) by simp]
 rfl
theorem lensE(N:Nat)(hN:20 < N){a c:List Int}(ha:a.length<=1000000)(hc:c.length<=1000000):∃v,lN N a c N (ag 16 0) 0=some v/\v.toList=aBH a.length++aBH c.length:=by
 have la:=yD a.length;have lc:=yD c.length;refine T.mono (T.loop0 (n:=8) (by decide) (λi (v:Vector Int 16)=>∀j,j < 16->v.toList[j]? = some (if j < i then(aBH a.length).getD j 0 else if j < 8 then 0 else if j < 8+i then(aBH c.length).getD (j - 8) 0 else 0)) (F:=lN N a c) (λk s i hi hs Q hk=>?_) (λk s=>by rw[lN,df (by omega),cond_false]) (by omega) (λj hj=>?_)) λv hv=>?_
 ·have ti:((i:Nat):Int).toNat=i:=rfl;have ti8:((8+i:Nat):Int).toNat=8+i:=rfl;have hset:(s.setIfInBounds i ((aBH a.length).getD i 0)).toList[8+i]? = s.toList[8+i]? := by
   rw[bq,cr,if_neg (by omega)]
  rw[lN,dt (by omega),cond_true,show(8:Int)=((8:Nat):Int) from rfl,i4 (by omega),ia (by omega),cZ (by omega),kS .i64 (by omega),aa,kS .i64 (by omega),aa,aKe ha hi,aKe hc hi,cD (by omega) (by omega),aa,ti,hs i (by omega),aa,cD (by omega) (by omega),aa,ti8,hset,hs (8+i) (by omega),aa]
  refine hk _ λj hj=>?_;rw[bq,cr]
  by_cases c1:8+i=j
  ·subst c1;rw[if_pos rfl,if_pos (by simp;omega),if_neg (by omega),if_neg (by omega),if_pos (by omega),Nat.add_sub_cancel_left]
  ·rw[if_neg c1,bq,cr]
   by_cases c2:i=j
   ·subst c2;rw[if_pos rfl,if_pos (by simp;omega),if_pos (by omega)]
   ·rw[if_neg c2,hs j hj]
    by_cases c3:j < i
    ·rw[if_pos c3,if_pos (by omega)]
    ·rw[if_neg c3,if_neg (show ¬j < i+1 by omega)]
     by_cases c4:j < 8
     ·rw[if_pos c4,if_pos c4]
     ·rw[if_neg c4,if_neg c4]
      by_cases c5:j < 8+i
      ·rw[if_pos c5,if_pos (show j < 8+(i+1) by omega)]
      ·rw[if_neg c5,if_neg (show ¬j < 8+(i+1) by omega)]
 ·have z:(ag 16 (0:Int)).toList=ak 16 0:=rfl;rw[z,cw,if_pos hj,if_neg (by omega)]
  by_cases c4:j < 8
  ·rw[if_pos c4]
  ·rw[if_neg c4,if_neg (by omega)]
 ·apply dp;intro j;by_cases c1:j < 16
  ·rw[hv j c1]
   by_cases c2:j < 8
   ·rw[if_pos c2,List.getElem?_append_left (by omega),lG (by omega)]
   ·rw[if_neg c2,if_neg c2,if_pos (by omega),List.getElem?_append_right (by omega),la,lG (by omega)]
  ·rw[bf (by simp;omega),bf (by rw[ai];omega)]
theorem macE(N:Nat)(hN:70000 < N){key:Vector Int 32}(hk:aQ key.toList){n:Vector Int 12}(hn:aQ n.toList){a c:List Int}(ha:aQ a)(hc:aQ c)(la:a.length<=20000)(lc:c.length<=20000):pI N key n a c=some (aGc N key n a c):=by
 obtain⟨k,e1,e2,hkb⟩:=keyE N (by omega) hk hn;obtain⟨v,e3,hv⟩:=lensE N (by omega) (a:=a) (c:=c) (by omega) (by omega)
 have hs:dU v.toList 0 16=some v.toList:=aJy (m:=16) v;have pa:=aLV a;have pc:=aLV c;have qa:=aG1 a;have qc:=aG1 c;rw[ai] at pa pc;have la8:=yD a.length;have lc8:=yD c.length;have ef:[a,yA a,c,yA c,v.toList].flatten=(a++yA a)++(c++yA c)++aBH a.length++aBH c.length:=by
  rw[hv];simp[ap]
 have el:[a,yA a,c,yA c,v.toList].flatten.length=16*((a.length+(yA a).length) / 16+(c.length+(yA c).length) / 16+1):=by
  rw[ef];simp only[ai,la8,lc8];omega
 have eb:aQ [a,yA a,c,yA c,v.toList].flatten:=by
  rw[ef]
  exact(((ha.app (aQz a)).app (hc.app (aQz c))).app (aQG _)).app (aQG _)
 obtain⟨t,e4,e5⟩:=tagE N hN hkb (ms:=[a,yA a,c,yA c,v.toList]) (by simp) eb el (by omega)
 have em:rH N key n a c=some t:=by
  unfold rH;rw[e3,aa,e1,aa,aTF N a (by omega),aa,aTF N c (by omega),aa,hs,aa,e4,aa]
 have er:pI N key n a c=some t:=by
  unfold pI;rw[ef] at e5;rw[aSw N (by omega) a (by omega),aa,aSw N (by omega) c (by omega),aa,eF (by simp only[ai];omega),aa,aPQ N (by omega) (by omega),aa,eF (by simp only[ai];omega),aa,e2,aa,aPQ N (by omega) (by omega),aa,eF (by simp only[ai];omega),aa,e5,aa]
 have:=(macP N (by omega) key n a c (by omega) (by omega)).1;rw[em] at this;rw[er,this]
end Go.UK
