/- A part of the proof: what the functions of the program compute. -/
import Derived.Test.YtljnaeghnleipaaGreatJ3
import Derived.Test.YtljnaeghnleipaaGreatJ4
import Derived.Test.YtljnaeghnleipaaGreatJ5
open Int renaming tdiv→du,tmod→cu,toNat_natCast→cw,toNat_of_nonneg→ff
open List renaming append_assoc→am,drop_take→ku,ext_getElem?→dr,getElem?_eq_getElem→ag,getElem?_eq_none→au,getElem?_replicate→cz,getElem?_set→cv,length_append→ai,length_replicate→kg,length_singleton→cf,length_take→bw,replicate→ap,take_of_length_le→bj,take_succ_eq_append_getElem→ez
open Option renaming bind→ae,bind_assoc→fh,bind_some→aa
open Vector renaming replicate→ah,toList_inj→dx,toList_setIfInBounds→bq
namespace Go.UK
open Go Go.Proofs
set_option maxRecDepth 20000
set_option maxHeartbeats 16000000
set_option linter.all false
def trn(x n:Int):Int:=bor .u32 (shl .u32 x n) (shr .u32 x (32 - n))
theorem rotE(N:Nat)(x:Int):bQ N x 16=some (trn x 16)/\bQ N x 12=some (trn x 12)/\bQ N x 8=some (trn x 8)/\bQ N x 7=some (trn x 7):=by
 have k:∀n m:Int,dV .u64 (U64 n) 31=n->U64 (32 - n)=m->0<=n->0<=m->m=32 - n->bQ N x n=some (trn x n):=by
  intro n m h1 h2 h3 h4 h5;unfold bQ trn;rw[h1,uC .u32 h3,aa,aC,h2,lX .u32 h4,aa,h5]
 exact⟨k 16 16 (by decide) (by decide) (by decide) (by decide) (by decide),k 12 20 (by decide) (by decide) (by decide) (by decide) (by decide),k 8 24 (by decide) (by decide) (by decide) (by decide) (by decide),k 7 25 (by decide) (by decide) (by decide) (by decide) (by decide)⟩
theorem aKq(N:Nat)(x:Int):dN N x 16=some (trn x 16)/\dN N x 12=some (trn x 12)/\dN N x 8=some (trn x 8)/\dN N x 7=some (trn x 7):=by
 have k:∀n m:Int,I64 (32 - n)=m->0<=n->0<=m->m=32 - n->dN N x n=some (trn x n):=by
  intro n m h2 h3 h4 h5;unfold dN trn;rw[uC .u32 h3,aa,h2,lX .u32 h4,aa,h5]
 exact⟨k 16 16 (by decide) (by decide) (by decide) (by decide),k 12 20 (by decide) (by decide) (by decide) (by decide),k 8 24 (by decide) (by decide) (by decide) (by decide),k 7 25 (by decide) (by decide) (by decide) (by decide)⟩
theorem v4_0(a b c d:Int):(#v[a,b,c,d]:Vector Int 4).toList[((0:Int).toNat)]? = some a:=rfl
theorem v4_1(a b c d:Int):(#v[a,b,c,d]:Vector Int 4).toList[((1:Int).toNat)]? = some b:=rfl
theorem v4_2(a b c d:Int):(#v[a,b,c,d]:Vector Int 4).toList[((2:Int).toNat)]? = some c:=rfl
theorem v4_3(a b c d:Int):(#v[a,b,c,d]:Vector Int 4).toList[((3:Int).toNat)]? = some d:=rfl
theorem w4_0(a b c d x:Int):(#v[a,b,c,d]:Vector Int 4).setIfInBounds ((0:Int).toNat) x=#v[x,b,c,d]:=rfl
theorem w4_1(a b c d x:Int):(#v[a,b,c,d]:Vector Int 4).setIfInBounds ((1:Int).toNat) x=#v[a,x,c,d]:=rfl
theorem w4_2(a b c d x:Int):(#v[a,b,c,d]:Vector Int 4).setIfInBounds ((2:Int).toNat) x=#v[a,b,x,d]:=rfl
theorem w4_3(a b c d x:Int):(#v[a,b,c,d]:Vector Int 4).setIfInBounds ((3:Int).toNat) x=#v[a,b,c,x]:=rfl
theorem aQl : aW 0 4=some ():=rfl
theorem aQt : aW 1 4=some ():=rfl
theorem aQk : aW 2 4=some ():=rfl
theorem aQI : aW 3 4=some ():=rfl
theorem ix4_0(a b c d:Int):idx (#v[a,b,c,d]:Vector Int 4).toList 0=some a:=rfl
theorem ix4_1(a b c d:Int):idx (#v[a,b,c,d]:Vector Int 4).toList 1=some b:=rfl
theorem ix4_2(a b c d:Int):idx (#v[a,b,c,d]:Vector Int 4).toList 2=some c:=rfl
theorem ix4_3(a b c d:Int):idx (#v[a,b,c,d]:Vector Int 4).toList 3=some d:=rfl
def qr(a b c d:Int):Vector Int 4:=
 let a1:=U32 (a+b)
 let d1:=trn (uR .u32 d a1) 16
 let c1:=U32 (c+d1)
 let b1:=trn (uR .u32 b c1) 12
 let a2:=U32 (a1+b1)
 let d2:=trn (uR .u32 d1 a2) 8
 let c2:=U32 (c1+d2)
 let b2:=trn (uR .u32 b1 c2) 7
 #v[a2,b2,c2,d2]
theorem aRw(N:Nat)(a b c d:Int):nC N #v[a,b,c,d]=some (qr a b c d):=by
 unfold nC;rw[ix4_0,aa,ix4_1,aa,ix4_2,aa,ix4_3,aa,aC,(rotE N _).1,aa,aC,(rotE N _).2.1,aa,aC,(rotE N _).2.2.1,aa,aC,(rotE N _).2.2.2,aa]
 rfl
theorem aSR(N:Nat)(a b c d:Int):nP N #v[a,b,c,d]=some (qr a b c d):=by
 unfold nP;simp only[aQl,aQt,aQk,aQI,v4_0,v4_1,v4_2,v4_3,w4_0,w4_1,w4_2,w4_3,aa,(aKq N _).1,(aKq N _).2.1,(aKq N _).2.2.1,(aKq N _).2.2.2]
 rfl
theorem aEP(N k:Nat)(s:Vector Int 16){i:Nat}{p0 p1 p2 p3:Int}(hi:i < 8)(ht:idx (#v[#v[0,4,8,12],#v[1,5,9,13],#v[2,6,10,14],#v[3,7,11,15],#v[0,5,10,15],#v[1,6,11,12],#v[2,7,8,13],#v[3,4,9,14]]:Vector (Vector Int 4) 8).toList (i:Int)=some #v[p0,p1,p2,p3]) :
  aY N (k+1) s (i:Int)=ae (bE N s p0 p1 p2 p3) λr=>aY N k r ((i+1:Nat):Int):=by
 rw[aY,dt (by omega),cond_true,ht,aa,cV (by omega)]
 unfold bE;simp only[aQl,aQt,aQk,aQI,v4_0,v4_1,v4_2,v4_3,aa,fh,aRw,aSR]
theorem sC0(N k:Nat)(s:Vector Int 16):aY N (k+1) s 0=ae (bE N s 0 4 8 12) λr=>aY N k r 1:=aEP N k s (i:=0) (by decide) rfl
theorem sC1(N k:Nat)(s:Vector Int 16):aY N (k+1) s 1=ae (bE N s 1 5 9 13) λr=>aY N k r 2:=aEP N k s (i:=1) (by decide) rfl
theorem sC2(N k:Nat)(s:Vector Int 16):aY N (k+1) s 2=ae (bE N s 2 6 10 14) λr=>aY N k r 3:=aEP N k s (i:=2) (by decide) rfl
theorem sC3(N k:Nat)(s:Vector Int 16):aY N (k+1) s 3=ae (bE N s 3 7 11 15) λr=>aY N k r 4:=aEP N k s (i:=3) (by decide) rfl
theorem sC4(N k:Nat)(s:Vector Int 16):aY N (k+1) s 4=ae (bE N s 0 5 10 15) λr=>aY N k r 5:=aEP N k s (i:=4) (by decide) rfl
theorem sC5(N k:Nat)(s:Vector Int 16):aY N (k+1) s 5=ae (bE N s 1 6 11 12) λr=>aY N k r 6:=aEP N k s (i:=5) (by decide) rfl
theorem sC6(N k:Nat)(s:Vector Int 16):aY N (k+1) s 6=ae (bE N s 2 7 8 13) λr=>aY N k r 7:=aEP N k s (i:=6) (by decide) rfl
theorem sC7(N k:Nat)(s:Vector Int 16):aY N (k+1) s 7=ae (bE N s 3 4 9 14) λr=>aY N k r 8:=aEP N k s (i:=7) (by decide) rfl
theorem sC8(N k:Nat)(s:Vector Int 16):aY N (k+1) s 8=some s:=by rw[aY,df (by decide),cond_false]
theorem sR0(N k:Nat)(s:Vector Int 16):bJ N (k+1) s 0=ae (bE N s 0 4 8 12) λr=>bJ N k r 1:=by
 rw[bJ,dt (by decide),cond_true]
 rfl
theorem sR1(N k:Nat)(s:Vector Int 16):bJ N (k+1) s 1=ae (bE N s 1 5 9 13) λr=>bJ N k r 2:=by
 rw[bJ,dt (by decide),cond_true]
 rfl
theorem sR2(N k:Nat)(s:Vector Int 16):bJ N (k+1) s 2=ae (bE N s 2 6 10 14) λr=>bJ N k r 3:=by
 rw[bJ,dt (by decide),cond_true]
 rfl
theorem sR3(N k:Nat)(s:Vector Int 16):bJ N (k+1) s 3=ae (bE N s 3 7 11 15) λr=>bJ N k r 4:=by
 rw[bJ,dt (by decide),cond_true]
 rfl
theorem sR4(N k:Nat)(s:Vector Int 16):bJ N (k+1) s 4=some s:=by rw[bJ,df (by decide),cond_false]
theorem sT0(N k:Nat)(s:Vector Int 16):bK N (k+1) s 0=ae (bE N s 0 5 10 15) λr=>bK N k r 1:=by
 rw[bK,dt (by decide),cond_true]
 rfl
theorem sT1(N k:Nat)(s:Vector Int 16):bK N (k+1) s 1=ae (bE N s 1 6 11 12) λr=>bK N k r 2:=by
 rw[bK,dt (by decide),cond_true]
 rfl
theorem sT2(N k:Nat)(s:Vector Int 16):bK N (k+1) s 2=ae (bE N s 2 7 8 13) λr=>bK N k r 3:=by
 rw[bK,dt (by decide),cond_true]
 rfl
theorem sT3(N k:Nat)(s:Vector Int 16):bK N (k+1) s 3=ae (bE N s 3 4 9 14) λr=>bK N k r 4:=by
 rw[bK,dt (by decide),cond_true]
 rfl
theorem sT4(N k:Nat)(s:Vector Int 16):bK N (k+1) s 4=some s:=by rw[bK,df (by decide),cond_false]
theorem aRu(N:Nat)(hN:20 < N)(s:Vector Int 16):aY N N s 0=ae (bJ N N s 0) λp=>bK N N p 0:=by
 obtain⟨k,hk⟩:∃k,N=k+8+1:=⟨N - 9,by omega⟩
 have a:∀s,aY N (k+8+1) s 0=ae (bJ N (k+8+1) s 0) λp=>bK N (k+8+1) p 0:=by
  intro s;rw[sC0,sR0]
  simp only[fh]
  congr 1;funext s;rw[show k+8=k+7+1 from rfl,sC1,sR1]
  simp only[fh]
  congr 1;funext s;rw[show k+7=k+6+1 from rfl,sC2,sR2]
  simp only[fh]
  congr 1;funext s;rw[show k+6=k+5+1 from rfl,sC3,sR3]
  simp only[fh]
  congr 1;funext s;rw[show k+5=k+4+1 from rfl,sR4,aa,sC4,sT0]
  congr 1;funext s;rw[show k+4=k+3+1 from rfl,sC5,sT1]
  congr 1;funext s;rw[show k+3=k+2+1 from rfl,sC6,sT2]
  congr 1;funext s;rw[show k+2=k+1+1 from rfl,sC7,sT3]
  refine congrArg _ (funext λs=>?_)
  rw[sC8,sT4]
 have:=a s;rw[<- hk] at this;exact this
theorem aK0(N:Nat)(hN:20 < N):∀(k:Nat) (s:Vector Int 16) (i:Int),iP N k s i=mZ N k s i
 | 0,_,_=>rfl
 | k+1,s,i=>by
  rw[iP,mZ,aRu N hN]
  cases decide (i < 10) with
  | false=>rfl
  | true=>
   rw[cond_true,cond_true,fh]
   refine congrArg _ (funext λp=>congrArg _ (funext λq=>?_))
   exact aK0 N hN k q _
theorem or4{a b:Int}(m:Nat)(hm:m<=24)(ha:0<=a/\a < ((2 ^ m:Nat):Int))(hb:isB b):bor .u32 a (shl .u32 (U32 b) (m:Int))=a+b*((2 ^ m:Nat):Int):=by
 unfold isB at hb;have le:2 ^ m<=2 ^ 24:=Nat.pow_le_pow_right (by decide) hm;have c24:2 ^ 24=16777216:=by decide
 have pe:(2:Int) ^ m=((2 ^ m:Nat):Int):=by rw[Int.natCast_pow];rfl
 have ub:U32 b=b:=aAD (by omega) (by omega)
 rw[ub,aPE b _ m rfl (by omega),pe]
 have mb:=aLX (n:=b.toNat) (B:=255) (C:=16777216) (by omega) (by decide) (x:=((2 ^ m:Nat):Int)) (by omega) (by omega)
 rw[ff hb.1] at mb;have q:(b.toNat:Int)=b:=ff hb.1;have q2:b*((2 ^ m:Nat):Int)=((2 ^ m*b.toNat:Nat):Int):=by rw[Int.natCast_mul,q,Int.mul_comm]
 rw[Int.emod_eq_of_lt mb.1 (by omega),aL0,aMD m ⟨mb.1,by omega⟩ ha.1 ha.2 (by omega) ⟨b.toNat,?_⟩]
 ·omega
 ·rw[q2,cw]
theorem numC4(N:Nat){a b c d:Int}{t:List Int}(ha:isB a)(hb:isB b)(hc:isB c)(hd:isB d):kZ N (a :: b :: c :: d :: t)=some (leV [a,b,c,d]):=by
 have ua:U32 a=a:=by unfold isB at ha;exact aAD (by omega) (by omega)
 unfold kZ;rw[show idx (a :: b :: c :: d :: t) 0=some a from rfl,aa,show idx (a :: b :: c :: d :: t) 1=some b from rfl,aa,aC,show idx (a :: b :: c :: d :: t) 2=some c from rfl,aa,aC,show idx (a :: b :: c :: d :: t) 3=some d from rfl,aa,aC]
 unfold isB at ha;have h1:=or4 (a:=a) (b:=b) 8 (by decide) ⟨ha.1,ha.2⟩ hb;have e8:((8:Nat):Int)=8:=rfl;have p8:((2 ^ 8:Nat):Int)=256:=by decide
 rw[e8,p8] at h1;rw[ua,h1]
 have hb':=hb;have hc':=hc;unfold isB at hb' hc';have p16:((2 ^ 16:Nat):Int)=65536:=by decide
 have h2:=or4 (a:=a+b*256) (b:=c) 16 (by decide) (by rw[p16];omega) hc;rw[show((16:Nat):Int)=16 from rfl,p16] at h2;rw[h2]
 have p24:((2 ^ 24:Nat):Int)=16777216:=by decide
 have h3:=or4 (a:=a+b*256+c*65536) (b:=d) 24 (by decide) (by rw[p24];omega) hd;rw[show((24:Nat):Int)=24 from rfl,p24] at h3;rw[h3]
 congr 1;simp only[leV]
 omega
theorem numR4(N:Nat)(hN:10 < N){a b c d:Int}(ha:isB a)(hb:isB b)(hc:isB c)(hd:isB d):iH N [a,b,c,d]=some (leV [a,b,c,d]):=by
 obtain⟨k,rfl⟩:∃k,N=k+5:=⟨N - 5,by omega⟩
 unfold isB at *;unfold iH;rw[eE,dt (by decide),cond_true,show idx [a,b,c,d] 3=some d from rfl,aa,aC,show I64 (3 - 1)=2 from by decide]
 rw[eE,dt (by decide),cond_true,show idx [a,b,c,d] 2=some c from rfl,aa,aC,show I64 (2 - 1)=1 from by decide]
 rw[eE,dt (by decide),cond_true,show idx [a,b,c,d] 1=some b from rfl,aa,aC,show I64 (1 - 1)=0 from by decide]
 rw[eE,dt (by decide),cond_true,show idx [a,b,c,d] 0=some a from rfl,aa,aC,show I64 (0 - 1) = -1 from by decide]
 rw[eE,df (by decide),cond_false,aa]
 have u:∀{x:Int},0<=x/\x < 4294967296->U32 x=x:=λh=>aAD h.1 h.2;rw[u (x:=0*256) (by omega),u (x:=d) (by omega),u (x:=0*256+d) (by omega),u (x:=(0*256+d)*256) (by omega),u (x:=c) (by omega),u (x:=(0*256+d)*256+c) (by omega),u (x:=((0*256+d)*256+c)*256) (by omega),u (x:=b) (by omega),u (x:=((0*256+d)*256+c)*256+b) (by omega),u (x:=(((0*256+d)*256+c)*256+b)*256) (by omega),u (x:=a) (by omega),u (by omega)]
 congr 1;simp only[leV]
 omega
def kw(l:List Int)(i:Nat):Int:=leV ((l.drop (4*i)).take 4)
theorem four(l:List Int)(h:4<=l.length):∃a b c d t,l=a :: b :: c :: d :: t:=by
 match l with
 | a :: b :: c :: d :: t=>exact⟨a,b,c,d,t,rfl⟩
 | []=>simp at h
 | [_]=>simp at h
 | [_,_]=>simp at h
 | [_,_,_]=>simp at h
theorem kwC(N:Nat)(hN:10 < N){l:List Int}(hb:aR l){i:Nat}(hi:4*i+4<=l.length):kZ N (l.drop (4*i))=some (kw l i)/\iH N ((l.drop (4*i)).take 4)=some (kw l i):=by
 obtain⟨a,b,c,d,t,e⟩:=four (l.drop (4*i)) (by rw[List.length_drop];omega)
 have hx:∀x∈a :: b :: c :: d :: t,isB x:=λx hx=>hb x (List.mem_of_mem_drop (by rw[e];exact hx))
 have ha:=hx a (by simp)
 have h2:=hx b (by simp)
 have h3:=hx c (by simp)
 have h4:=hx d (by simp)
 unfold kw;rw[e]
 exact⟨numC4 N ha h2 h3 h4,numR4 N hN ha h2 h3 h4⟩
theorem stC(N:Nat)(hN:10 < N){key:Vector Int 32}(hk:aR key.toList)(k:Nat)(s:Vector Int 16){i:Nat}(hi:i < 8):eM N key (k+1) s (i:Int)=eM N key k (s.setIfInBounds (4+i) (kw key.toList i)) ((i+1:Nat):Int):=by
 have kl:key.toList.length=32:=by simp
 have e4:I64 (4*(i:Int))=((4*i:Nat):Int):=by rw[aU (by omega) (by omega)];omega
 have e5:I64 (4+(i:Int))=((4+i:Nat):Int):=by rw[aU (by omega) (by omega)];omega
 have sl:eD key.toList ((4*i:Nat):Int) 32=some (key.toList.drop (4*i)):=by
  rw[qM (by omega) (by omega) (by omega),show(32:Int).toNat=32 from rfl,bj (by omega)];rfl
 have ti:((4+i:Nat):Int).toNat=4+i:=rfl;rw[eM,dt (by omega),cond_true,e4,e5,sl,aa,(kwC N hN hk (i:=i) (by omega)).1,aa,dP (by omega) (by omega),aa,ti,wO s (by omega),aa,cV (by omega)]
theorem stC2(N:Nat)(hN:10 < N){n:Vector Int 12}(hk:aR n.toList)(k:Nat)(s:Vector Int 16){i:Nat}(hi:i < 3):eJ N n (k+1) s (i:Int)=eJ N n k (s.setIfInBounds (13+i) (kw n.toList i)) ((i+1:Nat):Int):=by
 have kl:n.toList.length=12:=by simp
 have e4:I64 (4*(i:Int))=((4*i:Nat):Int):=by rw[aU (by omega) (by omega)];omega
 have e5:I64 (13+(i:Int))=((13+i:Nat):Int):=by rw[aU (by omega) (by omega)];omega
 have sl:eD n.toList ((4*i:Nat):Int) 12=some (n.toList.drop (4*i)):=by
  rw[qM (by omega) (by omega) (by omega),show(12:Int).toNat=12 from rfl,bj (by omega)];rfl
 have ti:((13+i:Nat):Int).toNat=13+i:=rfl;rw[eJ,dt (by omega),cond_true,e4,e5,sl,aa,(kwC N hN hk (i:=i) (by omega)).1,aa,dP (by omega) (by omega),aa,ti,wO s (by omega),aa,cV (by omega)]
theorem stR(N:Nat)(hN:10 < N){key:Vector Int 32}(hk:aR key.toList)(k:Nat)(s:Vector Int 16){i:Nat}(hi:i < 8):eR N key (k+1) s (i:Int)=eR N key k (s.setIfInBounds (4+i) (kw key.toList i)) ((i+1:Nat):Int):=by
 have kl:key.toList.length=32:=by simp
 have e4:I64 (4*(i:Int))=((4*i:Nat):Int):=by rw[aU (by omega) (by omega)];omega
 have e6:I64 (((4*i:Nat):Int)+4)=((4*i+4:Nat):Int):=by rw[aU (by omega) (by omega)];omega
 have e5:I64 (4+(i:Int))=((4+i:Nat):Int):=by rw[aU (by omega) (by omega)];omega
 have sl:eD key.toList ((4*i:Nat):Int) ((4*i+4:Nat):Int)=some ((key.toList.drop (4*i)).take 4):=by
  rw[qM (by omega) (by omega) (by omega),cw,cw,ku,show 4*i+4 - 4*i=4 by omega]
 have ti:((4+i:Nat):Int).toNat=4+i:=rfl;rw[eR,dt (by omega),cond_true,e4,aC,e6,e5,sl,aa,(kwC N hN hk (i:=i) (by omega)).2,aa,dP (by omega) (by omega),aa,ti,wO s (by omega),aa,cV (by omega)]
theorem stR2(N:Nat)(hN:10 < N){n:Vector Int 12}(hk:aR n.toList)(k:Nat)(s:Vector Int 16){i:Nat}(hi:i < 3):eU N n (k+1) s (i:Int)=eU N n k (s.setIfInBounds (13+i) (kw n.toList i)) ((i+1:Nat):Int):=by
 have kl:n.toList.length=12:=by simp
 have e4:I64 (4*(i:Int))=((4*i:Nat):Int):=by rw[aU (by omega) (by omega)];omega
 have e6:I64 (((4*i:Nat):Int)+4)=((4*i+4:Nat):Int):=by rw[aU (by omega) (by omega)];omega
 have e5:I64 (13+(i:Int))=((13+i:Nat):Int):=by rw[aU (by omega) (by omega)];omega
 have sl:eD n.toList ((4*i:Nat):Int) ((4*i+4:Nat):Int)=some ((n.toList.drop (4*i)).take 4):=by
  rw[qM (by omega) (by omega) (by omega),cw,cw,ku,show 4*i+4 - 4*i=4 by omega]
 have ti:((13+i:Nat):Int).toNat=13+i:=rfl;rw[eU,dt (by omega),cond_true,e4,aC,e6,e5,sl,aa,(kwC N hN hk (i:=i) (by omega)).2,aa,dP (by omega) (by omega),aa,ti,wO s (by omega),aa,cV (by omega)]
theorem stR0(k N:Nat)(hN:N=k+20):qD N N (ah 16 0) 0=some #v[1634760805,857760878,2036477234,1797285236,0,0,0,0,0,0,0,0,0,0,0,0]:=by
 subst hN;rfl
theorem wa0(x0 x1 x2 x3 x4 x5 x6 x7 x8 x9 x10 x11 x12 x13 x14 x15 y:Int):(#v[x0,x1,x2,x3,x4,x5,x6,x7,x8,x9,x10,x11,x12,x13,x14,x15]:Vector Int 16).setIfInBounds (4+0) y=#v[x0,x1,x2,x3,y,x5,x6,x7,x8,x9,x10,x11,x12,x13,x14,x15]:=rfl
theorem wa1(x0 x1 x2 x3 x4 x5 x6 x7 x8 x9 x10 x11 x12 x13 x14 x15 y:Int):(#v[x0,x1,x2,x3,x4,x5,x6,x7,x8,x9,x10,x11,x12,x13,x14,x15]:Vector Int 16).setIfInBounds (4+1) y=#v[x0,x1,x2,x3,x4,y,x6,x7,x8,x9,x10,x11,x12,x13,x14,x15]:=rfl
theorem wa2(x0 x1 x2 x3 x4 x5 x6 x7 x8 x9 x10 x11 x12 x13 x14 x15 y:Int):(#v[x0,x1,x2,x3,x4,x5,x6,x7,x8,x9,x10,x11,x12,x13,x14,x15]:Vector Int 16).setIfInBounds (4+2) y=#v[x0,x1,x2,x3,x4,x5,y,x7,x8,x9,x10,x11,x12,x13,x14,x15]:=rfl
theorem wa3(x0 x1 x2 x3 x4 x5 x6 x7 x8 x9 x10 x11 x12 x13 x14 x15 y:Int):(#v[x0,x1,x2,x3,x4,x5,x6,x7,x8,x9,x10,x11,x12,x13,x14,x15]:Vector Int 16).setIfInBounds (4+3) y=#v[x0,x1,x2,x3,x4,x5,x6,y,x8,x9,x10,x11,x12,x13,x14,x15]:=rfl
theorem wa4(x0 x1 x2 x3 x4 x5 x6 x7 x8 x9 x10 x11 x12 x13 x14 x15 y:Int):(#v[x0,x1,x2,x3,x4,x5,x6,x7,x8,x9,x10,x11,x12,x13,x14,x15]:Vector Int 16).setIfInBounds (4+4) y=#v[x0,x1,x2,x3,x4,x5,x6,x7,y,x9,x10,x11,x12,x13,x14,x15]:=rfl
theorem wa5(x0 x1 x2 x3 x4 x5 x6 x7 x8 x9 x10 x11 x12 x13 x14 x15 y:Int):(#v[x0,x1,x2,x3,x4,x5,x6,x7,x8,x9,x10,x11,x12,x13,x14,x15]:Vector Int 16).setIfInBounds (4+5) y=#v[x0,x1,x2,x3,x4,x5,x6,x7,x8,y,x10,x11,x12,x13,x14,x15]:=rfl
theorem wa6(x0 x1 x2 x3 x4 x5 x6 x7 x8 x9 x10 x11 x12 x13 x14 x15 y:Int):(#v[x0,x1,x2,x3,x4,x5,x6,x7,x8,x9,x10,x11,x12,x13,x14,x15]:Vector Int 16).setIfInBounds (4+6) y=#v[x0,x1,x2,x3,x4,x5,x6,x7,x8,x9,y,x11,x12,x13,x14,x15]:=rfl
theorem wa7(x0 x1 x2 x3 x4 x5 x6 x7 x8 x9 x10 x11 x12 x13 x14 x15 y:Int):(#v[x0,x1,x2,x3,x4,x5,x6,x7,x8,x9,x10,x11,x12,x13,x14,x15]:Vector Int 16).setIfInBounds (4+7) y=#v[x0,x1,x2,x3,x4,x5,x6,x7,x8,x9,x10,y,x12,x13,x14,x15]:=rfl
theorem wb(x0 x1 x2 x3 x4 x5 x6 x7 x8 x9 x10 x11 x12 x13 x14 x15 y:Int):(#v[x0,x1,x2,x3,x4,x5,x6,x7,x8,x9,x10,x11,x12,x13,x14,x15]:Vector Int 16).setIfInBounds (12) y=#v[x0,x1,x2,x3,x4,x5,x6,x7,x8,x9,x10,x11,y,x13,x14,x15]:=rfl
theorem wc0(x0 x1 x2 x3 x4 x5 x6 x7 x8 x9 x10 x11 x12 x13 x14 x15 y:Int):(#v[x0,x1,x2,x3,x4,x5,x6,x7,x8,x9,x10,x11,x12,x13,x14,x15]:Vector Int 16).setIfInBounds (13+0) y=#v[x0,x1,x2,x3,x4,x5,x6,x7,x8,x9,x10,x11,x12,y,x14,x15]:=rfl
theorem wc1(x0 x1 x2 x3 x4 x5 x6 x7 x8 x9 x10 x11 x12 x13 x14 x15 y:Int):(#v[x0,x1,x2,x3,x4,x5,x6,x7,x8,x9,x10,x11,x12,x13,x14,x15]:Vector Int 16).setIfInBounds (13+1) y=#v[x0,x1,x2,x3,x4,x5,x6,x7,x8,x9,x10,x11,x12,x13,y,x15]:=rfl
theorem wc2(x0 x1 x2 x3 x4 x5 x6 x7 x8 x9 x10 x11 x12 x13 x14 x15 y:Int):(#v[x0,x1,x2,x3,x4,x5,x6,x7,x8,x9,x10,x11,x12,x13,x14,x15]:Vector Int 16).setIfInBounds (13+2) y=#v[x0,x1,x2,x3,x4,x5,x6,x7,x8,x9,x10,x11,x12,x13,x14,y]:=rfl
theorem asmC(c k0 k1 k2 k3 k4 k5 k6 k7 n0 n1 n2:Int):((((((((((((#v[1634760805,857760878,2036477234,1797285236,0,0,0,0,0,0,0,0,c,0,0,0]).setIfInBounds (4+0) k0).setIfInBounds (4+1) k1).setIfInBounds (4+2) k2).setIfInBounds (4+3) k3).setIfInBounds (4+4) k4).setIfInBounds (4+5) k5).setIfInBounds (4+6) k6).setIfInBounds (4+7) k7).setIfInBounds (13+0) n0).setIfInBounds (13+1) n1).setIfInBounds (13+2) n2:Vector Int 16)=#v[1634760805,857760878,2036477234,1797285236,k0,k1,k2,k3,k4,k5,k6,k7,c,n0,n1,n2]:=by rw[wa0,wa1,wa2,wa3,wa4,wa5,wa6,wa7,wc0,wc1,wc2]
theorem asmR(c k0 k1 k2 k3 k4 k5 k6 k7 n0 n1 n2:Int):(((((((((((((#v[1634760805,857760878,2036477234,1797285236,0,0,0,0,0,0,0,0,0,0,0,0]).setIfInBounds (4+0) k0).setIfInBounds (4+1) k1).setIfInBounds (4+2) k2).setIfInBounds (4+3) k3).setIfInBounds (4+4) k4).setIfInBounds (4+5) k5).setIfInBounds (4+6) k6).setIfInBounds (4+7) k7).setIfInBounds 12 c).setIfInBounds (13+0) n0).setIfInBounds (13+1) n1).setIfInBounds (13+2) n2:Vector Int 16)=#v[1634760805,857760878,2036477234,1797285236,k0,k1,k2,k3,k4,k5,k6,k7,c,n0,n1,n2]:=by rw[wa0,wa1,wa2,wa3,wa4,wa5,wa6,wa7,wb,wc0,wc1,wc2]
theorem aOd(N:Nat)(hN:30 < N){key:Vector Int 32}(hk:aR key.toList){n:Vector Int 12}(hn:aR n.toList)(c:Int):∃s,pL N key c n=some s/\nE N key c n=some s:=by
 obtain⟨kk,hK⟩:∃kk,N=kk+20:=⟨N - 20,by omega⟩
 have z:((0:Nat):Int)=0:=rfl;have c8:∀s,eM N key (kk+20) s 0=some (((((((((s.setIfInBounds (4+0) (kw key.toList 0)).setIfInBounds (4+1) (kw key.toList 1)).setIfInBounds (4+2) (kw key.toList 2)).setIfInBounds (4+3) (kw key.toList 3)).setIfInBounds (4+4) (kw key.toList 4)).setIfInBounds (4+5) (kw key.toList 5)).setIfInBounds (4+6) (kw key.toList 6)).setIfInBounds (4+7) (kw key.toList 7))):=by
  intro s;rw[<- z,stC N (by omega) hk (kk+19) s (by decide),stC N (by omega) hk (kk+18) _ (by decide),stC N (by omega) hk (kk+17) _ (by decide),stC N (by omega) hk (kk+16) _ (by decide),stC N (by omega) hk (kk+15) _ (by decide),stC N (by omega) hk (kk+14) _ (by decide),stC N (by omega) hk (kk+13) _ (by decide),stC N (by omega) hk (kk+12) _ (by decide),eM,df (by decide),cond_false]
 have r8:∀s,eR N key (kk+20) s 0=some (((((((((s.setIfInBounds (4+0) (kw key.toList 0)).setIfInBounds (4+1) (kw key.toList 1)).setIfInBounds (4+2) (kw key.toList 2)).setIfInBounds (4+3) (kw key.toList 3)).setIfInBounds (4+4) (kw key.toList 4)).setIfInBounds (4+5) (kw key.toList 5)).setIfInBounds (4+6) (kw key.toList 6)).setIfInBounds (4+7) (kw key.toList 7))):=by
  intro s;rw[<- z,stR N (by omega) hk (kk+19) s (by decide),stR N (by omega) hk (kk+18) _ (by decide),stR N (by omega) hk (kk+17) _ (by decide),stR N (by omega) hk (kk+16) _ (by decide),stR N (by omega) hk (kk+15) _ (by decide),stR N (by omega) hk (kk+14) _ (by decide),stR N (by omega) hk (kk+13) _ (by decide),stR N (by omega) hk (kk+12) _ (by decide),eR,df (by decide),cond_false]
 have c3:∀s,eJ N n (kk+20) s 0=some (((s.setIfInBounds (13+0) (kw n.toList 0)).setIfInBounds (13+1) (kw n.toList 1)).setIfInBounds (13+2) (kw n.toList 2)):=by
  intro s;rw[<- z,stC2 N (by omega) hn (kk+19) s (by decide),stC2 N (by omega) hn (kk+18) _ (by decide),stC2 N (by omega) hn (kk+17) _ (by decide),eJ,df (by decide),cond_false]
 have r3:∀s,eU N n (kk+20) s 0=some (((s.setIfInBounds (13+0) (kw n.toList 0)).setIfInBounds (13+1) (kw n.toList 1)).setIfInBounds (13+2) (kw n.toList 2)):=by
  intro s;rw[<- z,stR2 N (by omega) hn (kk+19) s (by decide),stR2 N (by omega) hn (kk+18) _ (by decide),stR2 N (by omega) hn (kk+17) _ (by decide),eU,df (by decide),cond_false]
 rw[<- hK] at c8 r8 c3 r3;unfold pL nE;rw[stR0 kk N hK,aa,c8,aa,c3,aa,r8,aa,show aW 12 16=some () from rfl,aa,show(12:Int).toNat=12 from rfl,wO _ (by decide),aa,r3,aa]
 generalize kw key.toList 0=k0;generalize kw key.toList 1=k1;generalize kw key.toList 2=k2;generalize kw key.toList 3=k3;generalize kw key.toList 4=k4;generalize kw key.toList 5=k5;generalize kw key.toList 6=k6;generalize kw key.toList 7=k7;generalize kw n.toList 0=n0;generalize kw n.toList 1=n1;generalize kw n.toList 2=n2;exact⟨_,congrArg some (asmC c k0 k1 k2 k3 k4 k5 k6 k7 n0 n1 n2),congrArg some (asmR c k0 k1 k2 k3 k4 k5 k6 k7 n0 n1 n2)⟩
def ob(p r:Vector Int 16)(j:Nat):Int:=U8 (shr .u32 (U32 (vg p (j / 4)+vg r (j / 4))) ((8*(j % 4):Nat):Int))
def ObI(p r:Vector Int 16)(i:Nat)(v:Vector Int 64):Prop:=∀j,j < 64->v.toList[j]? = some (if j < i then ob p r j else 0)
theorem aGX(v:Vector Int 64){j:Nat}(h:j < 64):∃x,v.toList[j]? = some x:=⟨_,ag (by simp;omega)⟩
theorem aJn{p r:Vector Int 16}{i:Nat}{v:Vector Int 64}(h:ObI p r i v)(hi:i < 64){x:Int}(hx:x=ob p r i):ObI p r (i+1) (v.setIfInBounds i x):=by
 intro j hj;rw[bq,cv]
 by_cases c:i=j
 ·subst c;rw[if_pos rfl,if_pos (by simp;omega),if_pos (by omega),hx]
 ·rw[if_neg c,h j hj]
  by_cases c2:j < i
  ·rw[if_pos c2,if_pos (by omega)]
  ·rw[if_neg c2,if_neg (by omega)]
theorem shr0(x:Int):shr .u32 x 0=x:=by rw[show(0:Int)=((0:Nat):Int) from rfl,wF .u32 x _ 0 rfl (by decide)];exact Int.ediv_one x
theorem obC(N:Nat)(hN:80 < N)(p r:Vector Int 16):T (fG N p r N (ah 64 0) 0) (ObI p r 64):=by
 refine T.loop0 (n:=16) (by decide) (λi v=>ObI p r (4*i) v) (F:=fG N p r) (λk s i hi hs Q hk=>?_) (λk s=>by rw[fG,df (by omega),cond_false]) (by omega) (λj hj=>?_)
 ·have e4:I64 (4*(i:Int))=((4*i:Nat):Int):=by rw[aU (by omega) (by omega)];omega
  have e1:I64 (((4*i:Nat):Int)+1)=((4*i+1:Nat):Int):=by rw[aU (by omega) (by omega)];omega
  have e2:I64 (((4*i:Nat):Int)+2)=((4*i+2:Nat):Int):=by rw[aU (by omega) (by omega)];omega
  have e3:I64 (((4*i:Nat):Int)+3)=((4*i+3:Nat):Int):=by rw[aU (by omega) (by omega)];omega
  have t:∀n:Nat,((n:Nat):Int).toNat=n:=λn=>rfl;rw[fG,dt (by omega),cond_true,mK,wO p hi,aa,dP (i:=(i:Int)) (by omega) (by omega),aa,t,wO r hi,aa,e4,aC,e1,aC,e2,aC,e3,aC,aC,aC,cV (by omega)]
  obtain⟨x0,h0⟩:=aGX s (j:=4*i) (by omega)
  rw[dP (i:=((4*i:Nat):Int)) (by omega) (by omega),aa,t,h0,aa]
  have s1:=aJn hs (x:=U8 (U32 (vg p i+vg r i))) (by omega) (by unfold ob;rw[show 4*i / 4=i by omega,show 4*i % 4=0 by omega];rw[show((8*0:Nat):Int)=0 from rfl,shr0])
  obtain⟨x1,h1⟩:=aGX (s.setIfInBounds (4*i) (U8 (U32 (vg p i+vg r i)))) (j:=4*i+1) (by omega)
  rw[dP (i:=((4*i+1:Nat):Int)) (by omega) (by omega),aa,t,h1,aa]
  have s2:=aJn s1 (x:=U8 (shr .u32 (U32 (vg p i+vg r i)) 8)) (by omega) (by unfold ob;rw[show(4*i+1) / 4=i by omega,show(4*i+1) % 4=1 by omega];rfl)
  obtain⟨x2,h2⟩:=aGX ((s.setIfInBounds (4*i) (U8 (U32 (vg p i+vg r i)))).setIfInBounds (4*i+1) (U8 (shr .u32 (U32 (vg p i+vg r i)) 8))) (j:=4*i+2) (by omega)
  rw[dP (i:=((4*i+2:Nat):Int)) (by omega) (by omega),aa,t,h2,aa]
  have s3:=aJn s2 (x:=U8 (shr .u32 (U32 (vg p i+vg r i)) 16)) (by omega) (by unfold ob;rw[show(4*i+1+1) / 4=i by omega,show(4*i+1+1) % 4=2 by omega];rfl)
  obtain⟨x3,h3⟩:=aGX (((s.setIfInBounds (4*i) (U8 (U32 (vg p i+vg r i)))).setIfInBounds (4*i+1) (U8 (shr .u32 (U32 (vg p i+vg r i)) 8))).setIfInBounds (4*i+2) (U8 (shr .u32 (U32 (vg p i+vg r i)) 16))) (j:=4*i+3) (by omega)
  rw[dP (i:=((4*i+3:Nat):Int)) (by omega) (by omega),aa,t,h3,aa]
  have s4:=aJn s3 (x:=U8 (shr .u32 (U32 (vg p i+vg r i)) 24)) (by omega) (by unfold ob;rw[show(4*i+1+1+1) / 4=i by omega,show(4*i+1+1+1) % 4=3 by omega];rfl)
  exact hk _ s4
 ·have z:(ah 64 (0:Int)).toList=ap 64 0:=rfl;rw[z,cz,if_pos hj,if_neg (by omega)]
theorem obR(N:Nat)(hN:80 < N)(p r:Vector Int 16):T (iM N p r N (ah 64 0) 0) (ObI p r 64):=by
 refine T.loop0 (n:=64) (by decide) (λi v=>ObI p r i v) (F:=iM N p r) (λk s i hi hs Q hk=>?_) (λk s=>by rw[iM,df (by omega),cond_false]) (by omega) (λj hj=>?_)
 ·have td:du (i:Int) 4=((i / 4:Nat):Int):=by rw[Int.tdiv_eq_ediv_of_nonneg (by omega)];omega
  have tm:cu (i:Int) 4=((i % 4:Nat):Int):=by rw[Int.tmod_eq_emod_of_nonneg (by omega)];omega
  have e1:I64 (((i / 4:Nat):Int))=((i / 4:Nat):Int):=aU (by omega) (by omega)
  have e2:I64 (8*((i % 4:Nat):Int))=((8*(i % 4):Nat):Int):=by rw[aU (by omega) (by omega)];omega
  have t:∀n:Nat,((n:Nat):Int).toNat=n:=λn=>rfl;obtain⟨x0,h0⟩:=aGX s (j:=i) hi;rw[iM,dt (by omega),cond_true,td,tm,e1,dP (i:=((i / 4:Nat):Int)) (by omega) (by omega),aa,t,wO p (by omega),aa,aa,wO r (by omega),aa,aC,e2,lX .u32 (by omega),aa,dP (i:=(i:Int)) (by omega) (by omega),aa,t,h0,aa,cV (by omega)]
  exact hk _ (aJn hs hi rfl)
 ·have z:(ah 64 (0:Int)).toList=ap 64 0:=rfl;rw[z,cz,if_pos hj,if_neg (by omega)]
theorem aMx(N:Nat)(hN:80 < N){key:Vector Int 32}(hk:aR key.toList){n:Vector Int 12}(hn:aR n.toList)(c:Int):kV N key c n=nG N key c n:=by
 obtain⟨s,e1,e2⟩:=aOd N (by omega) hk hn c;unfold kV nG;rw[e1,e2,aa,aa,aK0 N (by omega)]
 refine congrArg _ (funext λp=>?_)
 rw[aa]
 obtain⟨u,f1,g1⟩:=obC N hN p s;obtain⟨w,f2,g2⟩:=obR N hN p s;have:u=w:=by
  apply dx.1;apply dr;intro j;by_cases hj:j < 64
  ·rw[g1 j hj,g2 j hj]
  ·rw[au (by simp;omega),au (by simp;omega)]
 rw[f1,f2,this]
theorem aQ7(N:Nat)(hN:80 < N){n i:Nat}(hn:n<=65536)(hi:i < n)(b:Vector Int 64){s:List Int}(hs:s.length<=65536):eK N (i:Int) (n:Int) b N s 0=some (s++b.toList.take (min 64 (n - i))):=by
 have bl:b.toList.length=64:=by simp
 have main:T (eK N (i:Int) (n:Int) b N s 0) (λr=>r=s++b.toList.take (min 64 (n - i))):=by
  refine T.loopG0 (n:=min 64 (n - i)) (λj r=>r=s++b.toList.take j) _ (F:=λk r j=>eK N (i:Int) (n:Int) b k r j) (λk r j hj hr hk=>?_) (λk r hr=>?_) (by omega) (s:=s) (by simp)
  ·have e:I64 ((i:Int)+(j:Int))=((i+j:Nat):Int):=by rw[aU (by omega) (by omega)];omega
   have ti:((j:Nat):Int).toNat=j:=rfl;have g:b.toList[j]? = some b.toList[j]:=ag (by omega)
   rw[eK,e,aC,dt (show((i+j:Nat):Int) < (n:Int) by omega),dt (show(j:Int) < 64 by omega),cond_true,aC,cond_true,dP (by omega) (by omega),aa,ti,g,aa,hJ (by rw[hr,ai,bw,cf];omega),aa,cV (by omega)]
   refine hk _ ?_;rw[hr,ez (show j < b.toList.length by omega),am]
  ·rw[eK,aC]
   have c:(cond (decide (((min 64 (n - i):Nat):Int) < 64)) (decide (I64 ((i:Int)+((min 64 (n - i):Nat):Int)) < (n:Int))) false)=false:=by
    by_cases h:n - i < 64
    ·have e:I64 ((i:Int)+((min 64 (n - i):Nat):Int))=(n:Int):=by rw[aU (by omega) (by omega)];omega
     rw[e,dt (by omega),cond_true,df (by omega)]
    ·rw[df (by omega),cond_false]
   rw[aC,c,cond_false]
   exact T.ret hr
 obtain⟨r,e,rfl⟩:=main;exact e
theorem aQT(N:Nat)(hN:80 < N){key:Vector Int 32}(hk:aR key.toList){nc:Vector Int 12}(hn:aR nc.toList){n:Nat}(hl:n<=65536):∀(k i:Nat) (s:List Int) (c:Int),s.length=min i n->i<=65600->lF N (n:Int) key nc k s c=mJ N (n:Int) key nc k s c (i:Int)
 | 0,_,_,_,_,_=>rfl
 | k+1,i,s,c,hs,hi=>by
  have im:mU (n:Int) 65536=(n:Int):=by unfold mU;split <;> omega
  rw[lF,mJ,aC,im]
  by_cases h:i < n
  ·have sl:s.length=i:=by omega
   rw[dt (by omega),dt (by omega),cond_true,cond_true,aMx N hN hk hn]
   refine congrArg _ (funext λb=>?_)
   have bl:b.toList.length=64:=by simp
   have e1:I64 ((n:Int) - (s.length:Int))=((n - i:Nat):Int):=by rw[aU (by omega) (by omega)];omega
   have e2:mU 64 ((n - i:Nat):Int)=((min 64 (n - i):Nat):Int):=by unfold mU;split <;> omega
   have e3:I64 ((i:Int)+64)=((i+64:Nat):Int):=by rw[aU (by omega) (by omega)];omega
   rw[aC,e1,e2,nS (by omega),aa,hJ (by rw[bw];omega),aa,aQ7 N hN hl h b (by omega),aa,e3]
   exact aQT N hN hk hn hl k (i+64) _ _ (by rw[ai,bw];omega) (by omega)
  ·rw[df (by omega),df (by omega),cond_false,cond_false]
theorem strmE(N:Nat)(hN:80 < N){key:Vector Int 32}(hk:aR key.toList){nc:Vector Int 12}(hn:aR nc.toList){n:Nat}(hl:n<=65536)(c:Int):kY N key c nc (n:Int)=oM N key c nc (n:Int):=by
 unfold kY oM;rw[df (by omega),cond_false,aa]
 have:=aQT N hN hk hn hl N 0 [] c (by simp) (by omega)
 rw[show((0:Nat):Int)=0 from rfl] at this;rw[this]
theorem refX1(N:Nat)(hN:70000<=N){d st:List Int}(hs:st.length=d.length)(hl:d.length<=65536):iE N d st N [] 0=some (vP d st):=by
 have xl:(vP d st).length=d.length:=aC8 hs;have xg:∀i (h:i < d.length),(vP d st)[i]? = some (uR .u8 d[i] (st[i]'(by omega))):=by
  intro i h;unfold vP;rw[List.getElem?_zipWith,ag h,ag (show i < st.length by omega)]
 have main:T (iE N d st N [] 0) (λr=>r=vP d st):=by
  refine T.loopG0 (n:=d.length) (λi r=>r=(vP d st).take i) _ (F:=λk r i=>iE N d st k r i) (λk r i hi hr hk=>?_) (λk r hr=>?_) (by omega) (s:=[]) (by simp)
  ·rw[iE,aC,dt (by omega),cond_true,mK,ag hi,aa,mK,ag (show i < st.length by omega),aa,hJ (by rw[hr,bw,cf];omega),aa,cV (by omega)]
   refine hk _ ?_;have g:=xg i hi;rw[ag (by omega)] at g;rw[hr,ez (show i < (vP d st).length by omega),Option.some.inj g]
  ·rw[iE,aC,df (by omega),cond_false]
   exact T.ret (by rw[hr,bj (by omega)])
 obtain⟨r,e,rfl⟩:=main;exact e
theorem xorR(N:Nat)(hN:70000<=N){key:Vector Int 32}(hk:aR key.toList){n:Vector Int 12}(hn:aR n.toList){d:List Int}(hl:d.length<=65536):oZ N key 1 n d=some (aGo N key n d):=by
 obtain⟨e1,e2⟩:=aIA N hN key n d.length hl;unfold oZ;rw[aC,df (by omega),cond_false,aa,<- strmE N (by omega) hk hn hl,e1,aa,refX1 N hN e2 hl,aa]
 rfl
theorem aR9(N:Nat)(hN:80 < N){key:Vector Int 32}(hk:aR key.toList){n:Vector Int 12}(hn:aR n.toList)(c:Int):∃v,kV N key c n=some v/\jD v:=by
 obtain⟨v,hv,_⟩:=aJt N (by omega) key c n;refine⟨v,hv,?_⟩
 obtain⟨s,e1,e2⟩:=aOd N (by omega) hk hn c;unfold kV at hv;rw[e1,aa] at hv;cases hp:iP N N s 0 with
 | none=>rw[hp,Option.bind_none] at hv;cases hv
 | some p=>
  rw[hp,aa] at hv;obtain⟨u,f1,g1⟩:=obC N hN p s;rw[f1,aa] at hv;obtain rfl:=Option.some.inj hv;intro x hx;obtain⟨j,hj,rfl⟩:=List.getElem_of_mem hx;have hj':j < 64:=by simpa using hj
  have g:=g1 j hj';rw[if_pos hj',ag hj] at g;rw[Option.some.inj g]
  exact aMN _
theorem keyE(N:Nat)(hN:80 < N){key:Vector Int 32}(hk:aR key.toList){n:Vector Int 12}(hn:aR n.toList):∃k,uI N key n=some k/\rI N key n=some k/\jD k:=by
 obtain⟨v,e1,hv⟩:=aR9 N hN hk hn 0;obtain⟨w,e2,hw⟩:=T.vec (n:=32) (l:=v.toList.take 32) (by simp)
 have hw':w.toList=v.toList.take 32:=by rw[hw,List.take_take];rfl
 have vl:v.toList.length=64:=by simp
 refine⟨w,?_,?_,?_⟩
 ·unfold uI;have hs:eD v.toList 0 32=some (v.toList.take 32):=nS (n:=32) (by omega)
  rw[e1,aa,hs,aa,e2,aa]
 ·unfold rI;rw[<- aMx N hN hk hn,e1,aa]
  have main:T (kE N v N (ah 32 0) 0) (λu=>u=w):=by
   refine T.mono (T.loop0 (n:=32) (by decide) (λi (u:Vector Int 32)=>∀j,j < 32->u.toList[j]? = some (if j < i then v.toList.getD j 0 else 0)) (F:=kE N v) (λk s i hi hs Q hk=>?_) (λk s=>by rw[kE,df (by omega),cond_false]) (by omega) (λj hj=>?_)) λu hu=>?_
   ·have ti:((i:Nat):Int).toNat=i:=rfl;rw[kE,dt (by omega),cond_true,dP (i:=(i:Int)) (n:=64) (by omega) (by omega),aa,ti,pH (by omega),aa,dP (by omega) (by omega),aa,hs i (by omega),aa,cV (by omega)]
    refine hk _ λj hj=>?_;rw[bq,cv]
    by_cases c:i=j
    ·subst c;rw[if_pos rfl,if_pos (by simp;omega),if_pos (by omega)]
    ·rw[if_neg c,hs j hj]
     by_cases c3:j < i
     ·rw[if_pos c3,if_pos (by omega)]
     ·rw[if_neg c3,if_neg (by omega)]
   ·have z:(ah 32 (0:Int)).toList=ap 32 0:=rfl;rw[z,cz,if_pos hj,if_neg (by omega)]
   ·apply dx.1;apply dr;intro j;by_cases c1:j < 32
    ·rw[hu j c1,if_pos c1,hw',List.getElem?_take,if_pos c1,pH (by omega)]
    ·rw[au (by simp;omega),au (by simp;omega)]
  obtain⟨u,f,rfl⟩:=main;rw[f,aa]
 ·unfold jD;rw[hw']
  exact hv.take 32
def vX(l:List Int):List Int:=ap ((16 - l.length % 16) % 16) 0
theorem aIg(l:List Int):(l++vX l).length % 16=0:=by rw[ai,vX,kg];omega
theorem aFC(l:List Int):(vX l).length < 16:=by rw[vX,kg];omega
theorem aMy(l:List Int):aR (vX l):=λx hx=>by
 rw[(List.mem_replicate.1 hx).2];exact⟨by decide,by decide⟩
theorem aQY(N:Nat)(l:List Int)(hl:l.length<=1000000):qX N l=some (vX l):=by
 unfold qX;have hx:cu ((l.length:Int)) 16=((l.length % 16:Nat):Int):=rfl;have e:I64 (16 - ((l.length % 16:Nat):Int))=((16 - l.length % 16:Nat):Int):=by rw[aU (by omega) (by omega)];omega
 have hy:cu ((16 - l.length % 16:Nat):Int) 16=(((16 - l.length % 16) % 16:Nat):Int):=rfl;rw[aC,hx,e,aC,hy,cw]
 have m1:mkO 1 (((16 - l.length % 16) % 16:Nat):Int)=some ():=by
  unfold mkO;rw[dt (by omega),dt (by omega),dt (by omega)]
  rfl
 have m2:aJR (ap ((16 - l.length % 16) % 16) (0:Int)) ((16 - l.length % 16) % 16)=some ():=by
  unfold aJR;rw[show((ap ((16 - l.length % 16) % 16) (0:Int)).length.beq ((16 - l.length % 16) % 16))=true by simp]
  rfl
 rw[m1,aa,m2,aa]
 rfl
theorem aSX{l:List Int}(h:0 < l.length % 16):vX l=0 :: vX (l++[0]):=by
 unfold vX;rw[ai,cf,<- List.replicate_succ]
 congr 1;omega
theorem aQx(N:Nat):∀(k:Nat) (l:List Int),l.length<=2000000->(vX l).length < k->mE N k l=some (l++vX l)
 | 0,_,_,h=>by omega
 | k+1,l,hl,h=>by
  have hx:cu ((l.length:Int)) 16=((l.length % 16:Nat):Int):=rfl;rw[mE,aC,hx]
  by_cases c:0 < l.length % 16
  ·have hp:=aSX c;rw[dt (by omega),cond_true,hJ (by rw[cf];omega),aa,aQx N k (l++[0]) ?_ ?_]
   ·rw[hp,am];rfl
   ·have:=aFC l;by_cases c2:l.length<=1999999
    ·rw[ai,cf];omega
    ·exfalso;omega
   ·rw[hp,List.length_cons] at h;omega
  ·rw[df (by omega),cond_false]
   have:vX l=[]:=by unfold vX;rw[show l.length % 16=0 by omega];rfl
   rw[this,List.append_nil]
theorem aQh(N:Nat)(hN:20 < N)(l:List Int)(hl:l.length<=1000000):mS N l=some (l++vX l):=by
 unfold mS;rw[hJ (by simp;omega),aa,List.nil_append,aQx N N l (by omega) (by have:=aFC l;omega),aa]
def aAM(n:Nat):List Int:=(List.range 8).map λi=>((n / 256 ^ i % 256:Nat):Int)
theorem xX(n:Nat):(aAM n).length=8:=by simp[aAM]
theorem aNw(n:Nat):aR (aAM n):=λx hx=>by
 obtain⟨i,_,rfl⟩:=List.mem_map.1 hx;exact⟨by omega,by omega⟩
theorem aP8(N:Nat)(hN:20 < N){n:Nat}(hn:n<=1000000):mO N (n:Int)=some (aAM n):=by
 unfold mO;have main:T (fP N N [] (n:Int) 0) (λr=>r=aAM n):=by
  refine T.loopG0 (n:=8) (λi (s:List Int×Int)=>s.1=(aAM n).take i/\s.2=((n / 256 ^ i:Nat):Int)) _ (F:=λk s i=>fP N k s.1 s.2 i) (λk s i hi hr hk=>?_) (λk s hr=>?_) (by omega) (s:=([],(n:Int))) ⟨rfl,by simp⟩
  ·obtain⟨h1,h2⟩:=hr;have hle:n / 256 ^ i<=n:=Nat.div_le_self _ _;have h8:=xX n;have e1:(aAM n)[i]'(by omega)=((n / 256 ^ i % 256:Nat):Int):=by simp[aAM]
   have e2:n / 256 ^ (i+1)=n / 256 ^ i / 256:=by rw[Nat.div_div_eq_div_mul,<- Nat.pow_succ]
   generalize hq:n / 256 ^ i=q at *;have ht:cu (q:Int) 256=((q % 256:Nat):Int):=rfl;have hd:du (q:Int) 256=((q / 256:Nat):Int):=rfl;rw[fP,dt (by omega),cond_true,h2,ht,rM (by omega) (by omega),hJ (by rw[h1,bw,cf];omega),aa,hd,aU (by omega) (by omega),cV (by omega)]
   refine hk (_,_) ⟨?_,?_⟩
   ·show s.1++[_]=_;rw[h1,ez (show i < (aAM n).length by omega),e1]
   ·show((q / 256:Nat):Int)=_;rw[e2]
  ·rw[fP,df (by omega),cond_false]
   exact T.ret (by rw[hr.1,bj (by rw[xX];omega)])
 obtain⟨r,e,rfl⟩:=main;rw[e,aa]
theorem aK2{n i:Nat}(hn:n<=1000000)(hi:i < 8):U8 (shr .i64 (n:Int) ((8*i:Nat):Int))=(aAM n).getD i 0:=by
 have e:(aAM n).getD i 0=((n / 256 ^ i % 256:Nat):Int):=by
  rw[List.getD_eq_getElem?_getD,ag (by rw[xX];omega)]
  simp[aAM]
 rw[e,wF .i64 _ _ (8*i) rfl (by show 8*i<=64;omega),aAP,Int.pow_mul]
 show((n:Int) / 256 ^ i) % 256=_;rw[show((256:Int) ^ i)=((256 ^ i:Nat):Int) by simp]
 rfl
theorem lensE(N:Nat)(hN:20 < N){a c:List Int}(ha:a.length<=1000000)(hc:c.length<=1000000):∃v,lW N a c N (ah 16 0) 0=some v/\v.toList=aAM a.length++aAM c.length:=by
 have la:=xX a.length;have lc:=xX c.length;refine T.mono (T.loop0 (n:=8) (by decide) (λi (v:Vector Int 16)=>∀j,j < 16->v.toList[j]? = some (if j < i then(aAM a.length).getD j 0 else if j < 8 then 0 else if j < 8+i then(aAM c.length).getD (j - 8) 0 else 0)) (F:=lW N a c) (λk s i hi hs Q hk=>?_) (λk s=>by rw[lW,df (by omega),cond_false]) (by omega) (λj hj=>?_)) λv hv=>?_
 ·have ti:((i:Nat):Int).toNat=i:=rfl;have ti8:((8+i:Nat):Int).toNat=8+i:=rfl;have hset:(s.setIfInBounds i ((aAM a.length).getD i 0)).toList[8+i]? = s.toList[8+i]? := by
   rw[bq,cv,if_neg (by omega)]
  rw[lW,dt (by omega),cond_true,show(8:Int)=((8:Nat):Int) from rfl,i4 (by omega),ia (by omega),cV (by omega),lX .i64 (by omega),aa,lX .i64 (by omega),aa,aK2 ha hi,aK2 hc hi,dP (by omega) (by omega),aa,ti,hs i (by omega),aa,dP (by omega) (by omega),aa,ti8,hset,hs (8+i) (by omega),aa]
  refine hk _ λj hj=>?_;rw[bq,cv]
  by_cases c1:8+i=j
  ·subst c1;rw[if_pos rfl,if_pos (by simp;omega),if_neg (by omega),if_neg (by omega),if_pos (by omega),Nat.add_sub_cancel_left]
  ·rw[if_neg c1,bq,cv]
   by_cases c2:i=j
   ·subst c2;rw[if_pos rfl,if_pos (by simp;omega),if_pos (by omega)]
   ·rw[if_neg c2,hs j hj]
    by_cases c3:j < i
    ·rw[if_pos c3,if_pos (by omega)]
    ·rw[if_neg c3,if_neg (show ¬j < i+1 by omega)]
     by_cases c4:j < 8
     ·rw[if_pos c4,if_pos c4]
     ·rw[if_neg c4,if_neg c4]
      by_cases c5:j < 8+i
      ·rw[if_pos c5,if_pos (show j < 8+(i+1) by omega)]
      ·rw[if_neg c5,if_neg (show ¬j < 8+(i+1) by omega)]
 ·have z:(ah 16 (0:Int)).toList=ap 16 0:=rfl;rw[z,cz,if_pos hj,if_neg (by omega)]
  by_cases c4:j < 8
  ·rw[if_pos c4]
  ·rw[if_neg c4,if_neg (by omega)]
 ·apply dr;intro j;by_cases c1:j < 16
  ·rw[hv j c1]
   by_cases c2:j < 8
   ·rw[if_pos c2,List.getElem?_append_left (by omega),pH (by omega)]
   ·rw[if_neg c2,if_neg c2,if_pos (by omega),List.getElem?_append_right (by omega),la,pH (by omega)]
  ·rw[au (by simp;omega),au (by rw[ai];omega)]
theorem macE(N:Nat)(hN:70000 < N){key:Vector Int 32}(hk:aR key.toList){n:Vector Int 12}(hn:aR n.toList){a c:List Int}(ha:aR a)(hc:aR c)(la:a.length<=20000)(lc:c.length<=20000):pA N key n a c=some (aAh N key n a c):=by
 obtain⟨k,e1,e2,hkb⟩:=keyE N (by omega) hk hn;obtain⟨v,e3,hv⟩:=lensE N (by omega) (a:=a) (c:=c) (by omega) (by omega)
 have hs:eD v.toList 0 16=some v.toList:=slcV (m:=16) v;have pa:=aIg a;have pc:=aIg c;have qa:=aFC a;have qc:=aFC c;rw[ai] at pa pc;have la8:=xX a.length;have lc8:=xX c.length;have ef:[a,vX a,c,vX c,v.toList].flatten=(a++vX a)++(c++vX c)++aAM a.length++aAM c.length:=by
  rw[hv];simp[am]
 have el:[a,vX a,c,vX c,v.toList].flatten.length=16*((a.length+(vX a).length) / 16+(c.length+(vX c).length) / 16+1):=by
  rw[ef];simp only[ai,la8,lc8];omega
 have eb:aR [a,vX a,c,vX c,v.toList].flatten:=by
  rw[ef]
  exact(((ha.app (aMy a)).app (hc.app (aMy c))).app (aNw _)).app (aNw _)
 obtain⟨t,e4,e5⟩:=tagE N hN hkb (ms:=[a,vX a,c,vX c,v.toList]) (by simp) eb el (by omega)
 have em:rA N key n a c=some t:=by
  unfold rA;rw[e3,aa,e1,aa,aQY N a (by omega),aa,aQY N c (by omega),aa,hs,aa,e4,aa]
 have er:pA N key n a c=some t:=by
  unfold pA;rw[ef] at e5;rw[aQh N (by omega) a (by omega),aa,aQh N (by omega) c (by omega),aa,hJ (by simp only[ai];omega),aa,aP8 N (by omega) (by omega),aa,hJ (by simp only[ai];omega),aa,e2,aa,aP8 N (by omega) (by omega),aa,hJ (by simp only[ai];omega),aa,e5,aa]
 have:=(macP N (by omega) key n a c (by omega) (by omega)).1;rw[em] at this;rw[er,this]
end Go.UK
