/- A part of the proof: what the functions of the program compute. -/
import Derived.Test.YtogkmakcedgneaaGreatJ3
import Derived.Test.YtogkmakcedgneaaGreatJ4
open Bool renaming decide_or→ci,eq_iff_iff→j8,or_eq_false_iff→n6,or_eq_true→kq,or_false→ja,or_true→pf
open Int renaming ediv_one→lr,emod_eq_of_lt→il,tdiv→eg,tdiv_eq_ediv_of_nonneg→ed,tmod→cp,tmod_eq_emod_of_nonneg→dw,toNat_natCast→bo,toNat_of_nonneg→fh
open List renaming any_cons→jq,any_nil→mj,append_assoc→am,append_nil→cf,drop_take→mz,drop_zero→eu,ext_getElem?→du,flatMap_cons→dm,getD_eq_getElem?_getD→ap,getElem?_append_left→cj,getElem?_append_right→ck,getElem?_eq_getElem→af,getElem?_eq_none→ar,getElem?_replicate→de,getElem?_set→cz,getElem_mem→co,getElem_of_mem→nf,length_append→ah,length_eq_zero_iff→gq,length_replicate→mh,length_singleton→cn,length_take→ca,mem_map→fa,nil_append→ee,range→ce,replicate→ak,take_of_length_le→bf,take_succ_eq_append_getElem→fj,take_zero→j3
open Option renaming bind→ae,bind_assoc→fu,bind_some→aa,getD_some→nk
open Vector renaming replicate→ai,toList_inj→ez,toList_setIfInBounds→bu
namespace Go.UK
open Go Go.Proofs
set_option maxRecDepth 20000
set_option maxHeartbeats 16000000
set_option linter.all false
def trn(x n:Int):Int:=bor .u32 (shl .u32 x n) (shr .u32 x (32 - n))
theorem rotE(N:Nat)(x:Int):bN N x 16=some (trn x 16)/\bN N x 12=some (trn x 12)/\bN N x 8=some (trn x 8)/\bN N x 7=some (trn x 7):=by
 have k:∀n m:Int,cI .u64 (U64 n) 31=n->U64 (32 - n)=m->0<=n->0<=m->m=32 - n->bN N x n=some (trn x n):=by
  intro n m h1 h2 h3 h4 h5;unfold bN trn;rw[h1,tU .u32 h3,aa,aC,h2,jB .u32 h4,aa,h5]
 exact⟨k 16 16 (by decide) (by decide) (by decide) (by decide) (by decide),k 12 20 (by decide) (by decide) (by decide) (by decide) (by decide),k 8 24 (by decide) (by decide) (by decide) (by decide) (by decide),k 7 25 (by decide) (by decide) (by decide) (by decide) (by decide)⟩
theorem aPT(N:Nat)(x:Int):eC N x 16=some (trn x 16)/\eC N x 12=some (trn x 12)/\eC N x 8=some (trn x 8)/\eC N x 7=some (trn x 7):=by
 have k:∀n m:Int,I64 (32 - n)=m->0<=n->0<=m->m=32 - n->eC N x n=some (trn x n):=by
  intro n m h2 h3 h4 h5;unfold eC trn;rw[tU .u32 h3,aa,h2,jB .u32 h4,aa,h5]
 exact⟨k 16 16 (by decide) (by decide) (by decide) (by decide),k 12 20 (by decide) (by decide) (by decide) (by decide),k 8 24 (by decide) (by decide) (by decide) (by decide),k 7 25 (by decide) (by decide) (by decide) (by decide)⟩
theorem v4_0(a b c d:Int):(#v[a,b,c,d]:Vector Int 4).toList[((0:Int).toNat)]? = some a:=rfl
theorem v4_1(a b c d:Int):(#v[a,b,c,d]:Vector Int 4).toList[((1:Int).toNat)]? = some b:=rfl
theorem v4_2(a b c d:Int):(#v[a,b,c,d]:Vector Int 4).toList[((2:Int).toNat)]? = some c:=rfl
theorem v4_3(a b c d:Int):(#v[a,b,c,d]:Vector Int 4).toList[((3:Int).toNat)]? = some d:=rfl
theorem w4_0(a b c d x:Int):(#v[a,b,c,d]:Vector Int 4).setIfInBounds ((0:Int).toNat) x=#v[x,b,c,d]:=rfl
theorem w4_1(a b c d x:Int):(#v[a,b,c,d]:Vector Int 4).setIfInBounds ((1:Int).toNat) x=#v[a,x,c,d]:=rfl
theorem w4_2(a b c d x:Int):(#v[a,b,c,d]:Vector Int 4).setIfInBounds ((2:Int).toNat) x=#v[a,b,x,d]:=rfl
theorem w4_3(a b c d x:Int):(#v[a,b,c,d]:Vector Int 4).setIfInBounds ((3:Int).toNat) x=#v[a,b,c,x]:=rfl
theorem aUL : aS 0 4=some ():=rfl
theorem aUn : aS 1 4=some ():=rfl
theorem aUp : aS 2 4=some ():=rfl
theorem aVG : aS 3 4=some ():=rfl
theorem ix4_0(a b c d:Int):idx (#v[a,b,c,d]:Vector Int 4).toList 0=some a:=rfl
theorem ix4_1(a b c d:Int):idx (#v[a,b,c,d]:Vector Int 4).toList 1=some b:=rfl
theorem ix4_2(a b c d:Int):idx (#v[a,b,c,d]:Vector Int 4).toList 2=some c:=rfl
theorem ix4_3(a b c d:Int):idx (#v[a,b,c,d]:Vector Int 4).toList 3=some d:=rfl
def qr(a b c d:Int):Vector Int 4:=
 let a1:=U32 (a+b)
 let d1:=trn (eT .u32 d a1) 16
 let c1:=U32 (c+d1)
 let b1:=trn (eT .u32 b c1) 12
 let a2:=U32 (a1+b1)
 let d2:=trn (eT .u32 d1 a2) 8
 let c2:=U32 (c1+d2)
 let b2:=trn (eT .u32 b1 c2) 7
 #v[a2,b2,c2,d2]
theorem aWn(N:Nat)(a b c d:Int):pL N #v[a,b,c,d]=some (qr a b c d):=by
 unfold pL;rw[ix4_0,aa,ix4_1,aa,ix4_2,aa,ix4_3,aa,aC,(rotE N _).1,aa,aC,(rotE N _).2.1,aa,aC,(rotE N _).2.2.1,aa,aC,(rotE N _).2.2.2,aa]
 rfl
theorem aWG(N:Nat)(a b c d:Int):qU N #v[a,b,c,d]=some (qr a b c d):=by
 unfold qU;simp only[aUL,aUn,aUp,aVG,v4_0,v4_1,v4_2,v4_3,w4_0,w4_1,w4_2,w4_3,aa,(aPT N _).1,(aPT N _).2.1,(aPT N _).2.2.1,(aPT N _).2.2.2]
 rfl
theorem aGy(N k:Nat)(s:Vector Int 16){i:Nat}{p0 p1 p2 p3:Int}(hi:i < 8)(ht:idx (#v[#v[0,4,8,12],#v[1,5,9,13],#v[2,6,10,14],#v[3,7,11,15],#v[0,5,10,15],#v[1,6,11,12],#v[2,7,8,13],#v[3,4,9,14]]:Vector (Vector Int 4) 8).toList (i:Int)=some #v[p0,p1,p2,p3]) :
  aZ N (k+1) s (i:Int)=ae (bE N s p0 p1 p2 p3) λr=>aZ N k r ((i+1:Nat):Int):=by
 rw[aZ,dt,cond_true,ht,aa,cF]
 unfold bE;simp only[aUL,aUn,aUp,aVG,v4_0,v4_1,v4_2,v4_3,aa,fu,aWn,aWG]
theorem sC0(N k:Nat)(s:Vector Int 16):aZ N (k+1) s 0=ae (bE N s 0 4 8 12) λr=>aZ N k r 1:=aGy N k s (i:=0) (by decide) rfl
theorem sC1(N k:Nat)(s:Vector Int 16):aZ N (k+1) s 1=ae (bE N s 1 5 9 13) λr=>aZ N k r 2:=aGy N k s (i:=1) (by decide) rfl
theorem sC2(N k:Nat)(s:Vector Int 16):aZ N (k+1) s 2=ae (bE N s 2 6 10 14) λr=>aZ N k r 3:=aGy N k s (i:=2) (by decide) rfl
theorem sC3(N k:Nat)(s:Vector Int 16):aZ N (k+1) s 3=ae (bE N s 3 7 11 15) λr=>aZ N k r 4:=aGy N k s (i:=3) (by decide) rfl
theorem sC4(N k:Nat)(s:Vector Int 16):aZ N (k+1) s 4=ae (bE N s 0 5 10 15) λr=>aZ N k r 5:=aGy N k s (i:=4) (by decide) rfl
theorem sC5(N k:Nat)(s:Vector Int 16):aZ N (k+1) s 5=ae (bE N s 1 6 11 12) λr=>aZ N k r 6:=aGy N k s (i:=5) (by decide) rfl
theorem sC6(N k:Nat)(s:Vector Int 16):aZ N (k+1) s 6=ae (bE N s 2 7 8 13) λr=>aZ N k r 7:=aGy N k s (i:=6) (by decide) rfl
theorem sC7(N k:Nat)(s:Vector Int 16):aZ N (k+1) s 7=ae (bE N s 3 4 9 14) λr=>aZ N k r 8:=aGy N k s (i:=7) (by decide) rfl
theorem sC8(N k:Nat)(s:Vector Int 16):aZ N (k+1) s 8=some s:=by rw[aZ,df (by decide),cond_false]
theorem sR0(N k:Nat)(s:Vector Int 16):bJ N (k+1) s 0=ae (bE N s 0 4 8 12) λr=>bJ N k r 1:=by
 rw[bJ,dt (by decide),cond_true]
 rfl
theorem sR1(N k:Nat)(s:Vector Int 16):bJ N (k+1) s 1=ae (bE N s 1 5 9 13) λr=>bJ N k r 2:=by
 rw[bJ,dt (by decide),cond_true]
 rfl
theorem sR2(N k:Nat)(s:Vector Int 16):bJ N (k+1) s 2=ae (bE N s 2 6 10 14) λr=>bJ N k r 3:=by
 rw[bJ,dt (by decide),cond_true]
 rfl
theorem sR3(N k:Nat)(s:Vector Int 16):bJ N (k+1) s 3=ae (bE N s 3 7 11 15) λr=>bJ N k r 4:=by
 rw[bJ,dt (by decide),cond_true]
 rfl
theorem sR4(N k:Nat)(s:Vector Int 16):bJ N (k+1) s 4=some s:=by rw[bJ,df (by decide),cond_false]
theorem sT0(N k:Nat)(s:Vector Int 16):bI N (k+1) s 0=ae (bE N s 0 5 10 15) λr=>bI N k r 1:=by
 rw[bI,dt (by decide),cond_true]
 rfl
theorem sT1(N k:Nat)(s:Vector Int 16):bI N (k+1) s 1=ae (bE N s 1 6 11 12) λr=>bI N k r 2:=by
 rw[bI,dt (by decide),cond_true]
 rfl
theorem sT2(N k:Nat)(s:Vector Int 16):bI N (k+1) s 2=ae (bE N s 2 7 8 13) λr=>bI N k r 3:=by
 rw[bI,dt (by decide),cond_true]
 rfl
theorem sT3(N k:Nat)(s:Vector Int 16):bI N (k+1) s 3=ae (bE N s 3 4 9 14) λr=>bI N k r 4:=by
 rw[bI,dt (by decide),cond_true]
 rfl
theorem sT4(N k:Nat)(s:Vector Int 16):bI N (k+1) s 4=some s:=by rw[bI,df (by decide),cond_false]
theorem aWF(N:Nat)(hN:20 < N)(s:Vector Int 16):aZ N N s 0=ae (bJ N N s 0) λp=>bI N N p 0:=by
 obtain⟨k,hk⟩:∃k,N=k+8+1:=⟨N - 9,by omega⟩
 have a:∀s,aZ N (k+8+1) s 0=ae (bJ N (k+8+1) s 0) λp=>bI N (k+8+1) p 0:=by
  intro s;rw[sC0,sR0]
  simp only[fu]
  congr 1;funext s;rw[show k+8=k+7+1 from rfl,sC1,sR1]
  simp only[fu]
  congr 1;funext s;rw[show k+7=k+6+1 from rfl,sC2,sR2]
  simp only[fu]
  congr 1;funext s;rw[show k+6=k+5+1 from rfl,sC3,sR3]
  simp only[fu]
  congr 1;funext s;rw[show k+5=k+4+1 from rfl,sR4,aa,sC4,sT0]
  congr 1;funext s;rw[show k+4=k+3+1 from rfl,sC5,sT1]
  congr 1;funext s;rw[show k+3=k+2+1 from rfl,sC6,sT2]
  congr 1;funext s;rw[show k+2=k+1+1 from rfl,sC7,sT3]
  refine congrArg _ (funext λs=>?_)
  rw[sC8,sT4]
 have:=a s;rw[<- hk] at this;exact this
theorem aON(N:Nat)(hN:20 < N):∀(k:Nat) (s:Vector Int 16) (i:Int),iH N k s i=nK N k s i
 | 0,_,_=>rfl
 | k+1,s,i=>by
  rw[iH,nK,aWF N hN]
  cases decide (i < 10) with
  | false=>rfl
  | true=>
   rw[cond_true,cond_true,fu]
   refine congrArg _ (funext λp=>congrArg _ (funext λq=>?_))
   exact aON N hN k q _
theorem or4{a b:Int}(m:Nat)(hm:m<=24)(ha:0<=a/\a < ((2 ^ m:Nat):Int))(hb:isB b):bor .u32 a (shl .u32 (U32 b) (m:Int))=a+b*((2 ^ m:Nat):Int):=by
 unfold isB at hb;have le:2 ^ m<=2 ^ 24:=Nat.pow_le_pow_right (by decide) hm;have c24:2 ^ 24=16777216:=by decide
 have pe:(2:Int) ^ m=((2 ^ m:Nat):Int):=by rw[Int.natCast_pow];rfl
 have ub:U32 b=b:=xL;rw[ub,aHR b _ m rfl (by omega),pe]
 have mb:=aOE (n:=b.toNat) (B:=255) (C:=16777216) (by omega) (by decide) (x:=((2 ^ m:Nat):Int))
 rw[fh hb.1] at mb;have q:(b.toNat:Int)=b:=fh hb.1;have q2:b*((2 ^ m:Nat):Int)=((2 ^ m*b.toNat:Nat):Int):=by rw[Int.natCast_mul,q,Int.mul_comm]
 rw[il mb.1 (by omega),aKC,aC0 m ⟨mb.1,by omega⟩ ha.1 ha.2 (by omega) ⟨b.toNat,?_⟩]
 ·omega
 ·rw[q2,bo]
theorem numC4(N:Nat){a b c d:Int}{t:List Int}(ha:isB a)(hb:isB b)(hc:isB c)(hd:isB d):nA N (a :: b :: c :: d :: t)=some (leV [a,b,c,d]):=by
 have ua:U32 a=a:=by unfold isB at ha;exact xL
 unfold nA;rw[show idx (a :: b :: c :: d :: t) 0=some a from rfl,aa,show idx (a :: b :: c :: d :: t) 1=some b from rfl,aa,aC,show idx (a :: b :: c :: d :: t) 2=some c from rfl,aa,aC,show idx (a :: b :: c :: d :: t) 3=some d from rfl,aa,aC]
 unfold isB at ha;have h1:=or4 (a:=a) (b:=b) 8 (by decide) ⟨ha.1,ha.2⟩ hb;have e8:((8:Nat):Int)=8:=rfl;have p8:((2 ^ 8:Nat):Int)=256:=by decide
 rw[e8,p8] at h1;rw[ua,h1]
 have hb':=hb;have hc':=hc;unfold isB at hb' hc';have p16:((2 ^ 16:Nat):Int)=65536:=by decide
 have h2:=or4 (a:=a+b*256) (b:=c) 16 (by decide) (by rw[p16];omega) hc;rw[show((16:Nat):Int)=16 from rfl,p16] at h2;rw[h2]
 have p24:((2 ^ 24:Nat):Int)=16777216:=by decide
 have h3:=or4 (a:=a+b*256+c*65536) (b:=d) 24 (by decide) (by rw[p24];omega) hd;rw[show((24:Nat):Int)=24 from rfl,p24] at h3;rw[h3]
 congr 1;simp only[leV]
 omega
theorem numR4(N:Nat)(hN:10 < N){a b c d:Int}(ha:isB a)(hb:isB b)(hc:isB c)(hd:isB d):kF N [a,b,c,d]=some (leV [a,b,c,d]):=by
 obtain⟨k,rfl⟩:∃k,N=k+5:=⟨N - 5,by omega⟩
 unfold isB at *;unfold kF;rw[dX,dt (by decide),cond_true,show idx [a,b,c,d] 3=some d from rfl,aa,aC,show I64 (3 - 1)=2 from by decide]
 rw[dX,dt (by decide),cond_true,show idx [a,b,c,d] 2=some c from rfl,aa,aC,show I64 (2 - 1)=1 from by decide]
 rw[dX,dt (by decide),cond_true,show idx [a,b,c,d] 1=some b from rfl,aa,aC,show I64 (1 - 1)=0 from by decide]
 rw[dX,dt (by decide),cond_true,show idx [a,b,c,d] 0=some a from rfl,aa,aC,show I64 (0 - 1) = -1 from by decide]
 rw[dX,df (by decide),cond_false,aa]
 have u:∀{x:Int},0<=x/\x < 4294967296->U32 x=x:=λh=>xL h.1 h.2;rw[u (x:=0*256) (by omega),u (x:=d) (by omega),u (x:=0*256+d) (by omega),u (x:=(0*256+d)*256) (by omega),u (x:=c) (by omega),u (x:=(0*256+d)*256+c) (by omega),u (x:=((0*256+d)*256+c)*256) (by omega),u (x:=b) (by omega),u (x:=((0*256+d)*256+c)*256+b) (by omega),u (x:=(((0*256+d)*256+c)*256+b)*256) (by omega),u (x:=a) (by omega),u (by omega)]
 congr 1;simp only[leV]
 omega
def kw(l:List Int)(i:Nat):Int:=leV ((l.drop (4*i)).take 4)
theorem four(l:List Int)(h:4<=l.length):∃a b c d t,l=a :: b :: c :: d :: t:=by
 match l with
 | a :: b :: c :: d :: t=>exact⟨a,b,c,d,t,rfl⟩
 | []=>simp at h
 | [_]=>simp at h
 | [_,_]=>simp at h
 | [_,_,_]=>simp at h
theorem kwC(N:Nat)(hN:10 < N){l:List Int}(hb:aN l){i:Nat}(hi:4*i+4<=l.length:=by omega):nA N (l.drop (4*i))=some (kw l i)/\kF N ((l.drop (4*i)).take 4)=some (kw l i):=by
 obtain⟨a,b,c,d,t,e⟩:=four (l.drop (4*i)) (by rw[List.length_drop];omega)
 have hx:∀x∈a :: b :: c :: d :: t,isB x:=λx hx=>hb x (List.mem_of_mem_drop (by rw[e];exact hx))
 have ha:=hx a (by simp)
 have h2:=hx b (by simp)
 have h3:=hx c (by simp)
 have h4:=hx d (by simp)
 unfold kw;rw[e]
 exact⟨numC4 N ha h2 h3 h4,numR4 N hN ha h2 h3 h4⟩
theorem stC(N:Nat)(hN:10 < N){key:Vector Int 32}(hk:aN key.toList)(k:Nat)(s:Vector Int 16){i:Nat}(hi:i < 8:=by decide):dS N key (k+1) s (i:Int)=dS N key k (s.setIfInBounds (4+i) (kw key.toList i)) ((i+1:Nat):Int):=by
 have kl:key.toList.length=32:=by simp
 have e4:I64 (4*(i:Int))=((4*i:Nat):Int):=by rw[aP];omega
 have e5:I64 (4+(i:Int))=((4+i:Nat):Int):=by rw[aP];omega
 have sl:cR key.toList ((4*i:Nat):Int) 32=some (key.toList.drop (4*i)):=by
  rw[qC,show(32:Int).toNat=32 from rfl,bf (by omega)];rfl
 have ti:((4+i:Nat):Int).toNat=4+i:=rfl;rw[dS,dt,cond_true,e4,e5,sl,aa,(kwC N hN hk (i:=i)).1,aa,bQ,aa,ti,zI s,aa,cF]
theorem stC2(N:Nat)(hN:10 < N){n:Vector Int 12}(hk:aN n.toList)(k:Nat)(s:Vector Int 16){i:Nat}(hi:i < 3:=by decide):dW N n (k+1) s (i:Int)=dW N n k (s.setIfInBounds (13+i) (kw n.toList i)) ((i+1:Nat):Int):=by
 have kl:n.toList.length=12:=by simp
 have e4:I64 (4*(i:Int))=((4*i:Nat):Int):=by rw[aP];omega
 have e5:I64 (13+(i:Int))=((13+i:Nat):Int):=by rw[aP];omega
 have sl:cR n.toList ((4*i:Nat):Int) 12=some (n.toList.drop (4*i)):=by
  rw[qC,show(12:Int).toNat=12 from rfl,bf (by omega)];rfl
 have ti:((13+i:Nat):Int).toNat=13+i:=rfl;rw[dW,dt,cond_true,e4,e5,sl,aa,(kwC N hN hk (i:=i)).1,aa,bQ,aa,ti,zI s,aa,cF]
theorem stR(N:Nat)(hN:10 < N){key:Vector Int 32}(hk:aN key.toList)(k:Nat)(s:Vector Int 16){i:Nat}(hi:i < 8:=by decide):eN N key (k+1) s (i:Int)=eN N key k (s.setIfInBounds (4+i) (kw key.toList i)) ((i+1:Nat):Int):=by
 have kl:key.toList.length=32:=by simp
 have e4:I64 (4*(i:Int))=((4*i:Nat):Int):=by rw[aP];omega
 have e6:I64 (((4*i:Nat):Int)+4)=((4*i+4:Nat):Int):=by rw[aP];omega
 have e5:I64 (4+(i:Int))=((4+i:Nat):Int):=by rw[aP];omega
 have sl:cR key.toList ((4*i:Nat):Int) ((4*i+4:Nat):Int)=some ((key.toList.drop (4*i)).take 4):=by
  rw[qC,bo,bo,mz,show 4*i+4 - 4*i=4 by omega]
 have ti:((4+i:Nat):Int).toNat=4+i:=rfl;rw[eN,dt,cond_true,e4,aC,e6,e5,sl,aa,(kwC N hN hk (i:=i)).2,aa,bQ,aa,ti,zI s,aa,cF]
theorem stR2(N:Nat)(hN:10 < N){n:Vector Int 12}(hk:aN n.toList)(k:Nat)(s:Vector Int 16){i:Nat}(hi:i < 3:=by decide):eQ N n (k+1) s (i:Int)=eQ N n k (s.setIfInBounds (13+i) (kw n.toList i)) ((i+1:Nat):Int):=by
 have kl:n.toList.length=12:=by simp
 have e4:I64 (4*(i:Int))=((4*i:Nat):Int):=by rw[aP];omega
 have e6:I64 (((4*i:Nat):Int)+4)=((4*i+4:Nat):Int):=by rw[aP];omega
 have e5:I64 (13+(i:Int))=((13+i:Nat):Int):=by rw[aP];omega
 have sl:cR n.toList ((4*i:Nat):Int) ((4*i+4:Nat):Int)=some ((n.toList.drop (4*i)).take 4):=by
  rw[qC,bo,bo,mz,show 4*i+4 - 4*i=4 by omega]
 have ti:((13+i:Nat):Int).toNat=13+i:=rfl;rw[eQ,dt,cond_true,e4,aC,e6,e5,sl,aa,(kwC N hN hk (i:=i)).2,aa,bQ,aa,ti,zI s,aa,cF]
theorem stR0(k N:Nat)(hN:N=k+20):qG N N (ai 16 0) 0=some #v[1634760805,857760878,2036477234,1797285236,0,0,0,0,0,0,0,0,0,0,0,0]:=by
 subst hN;rfl
theorem wa0(x0 x1 x2 x3 x4 x5 x6 x7 x8 x9 x10 x11 x12 x13 x14 x15 y:Int):(#v[x0,x1,x2,x3,x4,x5,x6,x7,x8,x9,x10,x11,x12,x13,x14,x15]:Vector Int 16).setIfInBounds (4+0) y=#v[x0,x1,x2,x3,y,x5,x6,x7,x8,x9,x10,x11,x12,x13,x14,x15]:=rfl
theorem wa1(x0 x1 x2 x3 x4 x5 x6 x7 x8 x9 x10 x11 x12 x13 x14 x15 y:Int):(#v[x0,x1,x2,x3,x4,x5,x6,x7,x8,x9,x10,x11,x12,x13,x14,x15]:Vector Int 16).setIfInBounds (4+1) y=#v[x0,x1,x2,x3,x4,y,x6,x7,x8,x9,x10,x11,x12,x13,x14,x15]:=rfl
theorem wa2(x0 x1 x2 x3 x4 x5 x6 x7 x8 x9 x10 x11 x12 x13 x14 x15 y:Int):(#v[x0,x1,x2,x3,x4,x5,x6,x7,x8,x9,x10,x11,x12,x13,x14,x15]:Vector Int 16).setIfInBounds (4+2) y=#v[x0,x1,x2,x3,x4,x5,y,x7,x8,x9,x10,x11,x12,x13,x14,x15]:=rfl
theorem wa3(x0 x1 x2 x3 x4 x5 x6 x7 x8 x9 x10 x11 x12 x13 x14 x15 y:Int):(#v[x0,x1,x2,x3,x4,x5,x6,x7,x8,x9,x10,x11,x12,x13,x14,x15]:Vector Int 16).setIfInBounds (4+3) y=#v[x0,x1,x2,x3,x4,x5,x6,y,x8,x9,x10,x11,x12,x13,x14,x15]:=rfl
theorem wa4(x0 x1 x2 x3 x4 x5 x6 x7 x8 x9 x10 x11 x12 x13 x14 x15 y:Int):(#v[x0,x1,x2,x3,x4,x5,x6,x7,x8,x9,x10,x11,x12,x13,x14,x15]:Vector Int 16).setIfInBounds (4+4) y=#v[x0,x1,x2,x3,x4,x5,x6,x7,y,x9,x10,x11,x12,x13,x14,x15]:=rfl
theorem wa5(x0 x1 x2 x3 x4 x5 x6 x7 x8 x9 x10 x11 x12 x13 x14 x15 y:Int):(#v[x0,x1,x2,x3,x4,x5,x6,x7,x8,x9,x10,x11,x12,x13,x14,x15]:Vector Int 16).setIfInBounds (4+5) y=#v[x0,x1,x2,x3,x4,x5,x6,x7,x8,y,x10,x11,x12,x13,x14,x15]:=rfl
theorem wa6(x0 x1 x2 x3 x4 x5 x6 x7 x8 x9 x10 x11 x12 x13 x14 x15 y:Int):(#v[x0,x1,x2,x3,x4,x5,x6,x7,x8,x9,x10,x11,x12,x13,x14,x15]:Vector Int 16).setIfInBounds (4+6) y=#v[x0,x1,x2,x3,x4,x5,x6,x7,x8,x9,y,x11,x12,x13,x14,x15]:=rfl
theorem wa7(x0 x1 x2 x3 x4 x5 x6 x7 x8 x9 x10 x11 x12 x13 x14 x15 y:Int):(#v[x0,x1,x2,x3,x4,x5,x6,x7,x8,x9,x10,x11,x12,x13,x14,x15]:Vector Int 16).setIfInBounds (4+7) y=#v[x0,x1,x2,x3,x4,x5,x6,x7,x8,x9,x10,y,x12,x13,x14,x15]:=rfl
theorem wb(x0 x1 x2 x3 x4 x5 x6 x7 x8 x9 x10 x11 x12 x13 x14 x15 y:Int):(#v[x0,x1,x2,x3,x4,x5,x6,x7,x8,x9,x10,x11,x12,x13,x14,x15]:Vector Int 16).setIfInBounds (12) y=#v[x0,x1,x2,x3,x4,x5,x6,x7,x8,x9,x10,x11,y,x13,x14,x15]:=rfl
theorem wc0(x0 x1 x2 x3 x4 x5 x6 x7 x8 x9 x10 x11 x12 x13 x14 x15 y:Int):(#v[x0,x1,x2,x3,x4,x5,x6,x7,x8,x9,x10,x11,x12,x13,x14,x15]:Vector Int 16).setIfInBounds (13+0) y=#v[x0,x1,x2,x3,x4,x5,x6,x7,x8,x9,x10,x11,x12,y,x14,x15]:=rfl
theorem wc1(x0 x1 x2 x3 x4 x5 x6 x7 x8 x9 x10 x11 x12 x13 x14 x15 y:Int):(#v[x0,x1,x2,x3,x4,x5,x6,x7,x8,x9,x10,x11,x12,x13,x14,x15]:Vector Int 16).setIfInBounds (13+1) y=#v[x0,x1,x2,x3,x4,x5,x6,x7,x8,x9,x10,x11,x12,x13,y,x15]:=rfl
theorem wc2(x0 x1 x2 x3 x4 x5 x6 x7 x8 x9 x10 x11 x12 x13 x14 x15 y:Int):(#v[x0,x1,x2,x3,x4,x5,x6,x7,x8,x9,x10,x11,x12,x13,x14,x15]:Vector Int 16).setIfInBounds (13+2) y=#v[x0,x1,x2,x3,x4,x5,x6,x7,x8,x9,x10,x11,x12,x13,x14,y]:=rfl
theorem asmC(c k0 k1 k2 k3 k4 k5 k6 k7 n0 n1 n2:Int):((((((((((((#v[1634760805,857760878,2036477234,1797285236,0,0,0,0,0,0,0,0,c,0,0,0]).setIfInBounds (4+0) k0).setIfInBounds (4+1) k1).setIfInBounds (4+2) k2).setIfInBounds (4+3) k3).setIfInBounds (4+4) k4).setIfInBounds (4+5) k5).setIfInBounds (4+6) k6).setIfInBounds (4+7) k7).setIfInBounds (13+0) n0).setIfInBounds (13+1) n1).setIfInBounds (13+2) n2:Vector Int 16)=#v[1634760805,857760878,2036477234,1797285236,k0,k1,k2,k3,k4,k5,k6,k7,c,n0,n1,n2]:=by rw[wa0,wa1,wa2,wa3,wa4,wa5,wa6,wa7,wc0,wc1,wc2]
theorem asmR(c k0 k1 k2 k3 k4 k5 k6 k7 n0 n1 n2:Int):(((((((((((((#v[1634760805,857760878,2036477234,1797285236,0,0,0,0,0,0,0,0,0,0,0,0]).setIfInBounds (4+0) k0).setIfInBounds (4+1) k1).setIfInBounds (4+2) k2).setIfInBounds (4+3) k3).setIfInBounds (4+4) k4).setIfInBounds (4+5) k5).setIfInBounds (4+6) k6).setIfInBounds (4+7) k7).setIfInBounds 12 c).setIfInBounds (13+0) n0).setIfInBounds (13+1) n1).setIfInBounds (13+2) n2:Vector Int 16)=#v[1634760805,857760878,2036477234,1797285236,k0,k1,k2,k3,k4,k5,k6,k7,c,n0,n1,n2]:=by rw[wa0,wa1,wa2,wa3,wa4,wa5,wa6,wa7,wb,wc0,wc1,wc2]
theorem aQr(N:Nat)(hN:30 < N){key:Vector Int 32}(hk:aN key.toList){n:Vector Int 12}(hn:aN n.toList)(c:Int):∃s,sE N key c n=some s/\qA N key c n=some s:=by
 obtain⟨kk,hK⟩:∃kk,N=kk+20:=⟨N - 20,by omega⟩
 have z:((0:Nat):Int)=0:=rfl;have c8:∀s,dS N key (kk+20) s 0=some (((((((((s.setIfInBounds (4+0) (kw key.toList 0)).setIfInBounds (4+1) (kw key.toList 1)).setIfInBounds (4+2) (kw key.toList 2)).setIfInBounds (4+3) (kw key.toList 3)).setIfInBounds (4+4) (kw key.toList 4)).setIfInBounds (4+5) (kw key.toList 5)).setIfInBounds (4+6) (kw key.toList 6)).setIfInBounds (4+7) (kw key.toList 7))):=by
  intro s;rw[<- z,stC N (by omega) hk (kk+19) s,stC N (by omega) hk (kk+18) _,stC N (by omega) hk (kk+17) _,stC N (by omega) hk (kk+16) _,stC N (by omega) hk (kk+15) _,stC N (by omega) hk (kk+14) _,stC N (by omega) hk (kk+13) _,stC N (by omega) hk (kk+12) _,dS,df (by decide),cond_false]
 have r8:∀s,eN N key (kk+20) s 0=some (((((((((s.setIfInBounds (4+0) (kw key.toList 0)).setIfInBounds (4+1) (kw key.toList 1)).setIfInBounds (4+2) (kw key.toList 2)).setIfInBounds (4+3) (kw key.toList 3)).setIfInBounds (4+4) (kw key.toList 4)).setIfInBounds (4+5) (kw key.toList 5)).setIfInBounds (4+6) (kw key.toList 6)).setIfInBounds (4+7) (kw key.toList 7))):=by
  intro s;rw[<- z,stR N (by omega) hk (kk+19) s,stR N (by omega) hk (kk+18) _,stR N (by omega) hk (kk+17) _,stR N (by omega) hk (kk+16) _,stR N (by omega) hk (kk+15) _,stR N (by omega) hk (kk+14) _,stR N (by omega) hk (kk+13) _,stR N (by omega) hk (kk+12) _,eN,df (by decide),cond_false]
 have c3:∀s,dW N n (kk+20) s 0=some (((s.setIfInBounds (13+0) (kw n.toList 0)).setIfInBounds (13+1) (kw n.toList 1)).setIfInBounds (13+2) (kw n.toList 2)):=by
  intro s;rw[<- z,stC2 N (by omega) hn (kk+19) s,stC2 N (by omega) hn (kk+18) _,stC2 N (by omega) hn (kk+17) _,dW,df (by decide),cond_false]
 have r3:∀s,eQ N n (kk+20) s 0=some (((s.setIfInBounds (13+0) (kw n.toList 0)).setIfInBounds (13+1) (kw n.toList 1)).setIfInBounds (13+2) (kw n.toList 2)):=by
  intro s;rw[<- z,stR2 N (by omega) hn (kk+19) s,stR2 N (by omega) hn (kk+18) _,stR2 N (by omega) hn (kk+17) _,eQ,df (by decide),cond_false]
 rw[<- hK] at c8 r8 c3 r3;unfold sE qA;rw[stR0 kk N hK,aa,c8,aa,c3,aa,r8,aa,show aS 12 16=some () from rfl,aa,show(12:Int).toNat=12 from rfl,zI _ (by decide),aa,r3,aa]
 generalize kw key.toList 0=k0;generalize kw key.toList 1=k1;generalize kw key.toList 2=k2;generalize kw key.toList 3=k3;generalize kw key.toList 4=k4;generalize kw key.toList 5=k5;generalize kw key.toList 6=k6;generalize kw key.toList 7=k7;generalize kw n.toList 0=n0;generalize kw n.toList 1=n1;generalize kw n.toList 2=n2;exact⟨_,congrArg some (asmC c k0 k1 k2 k3 k4 k5 k6 k7 n0 n1 n2),congrArg some (asmR c k0 k1 k2 k3 k4 k5 k6 k7 n0 n1 n2)⟩
def ob(p r:Vector Int 16)(j:Nat):Int:=U8 (shr .u32 (U32 (vg p (j / 4)+vg r (j / 4))) ((8*(j % 4):Nat):Int))
def ObI(p r:Vector Int 16)(i:Nat)(v:Vector Int 64):Prop:=∀j,j < 64->v.toList[j]? = some (if j < i then ob p r j else 0)
theorem aH8(v:Vector Int 64){j:Nat}(h:j < 64:=by omega):∃x,v.toList[j]? = some x:=⟨_,af (by simp;omega)⟩
theorem aLg{p r:Vector Int 16}{i:Nat}{v:Vector Int 64}(h:ObI p r i v)(hi:i < 64){x:Int}(hx:x=ob p r i):ObI p r (i+1) (v.setIfInBounds i x):=by
 intro j hj;rw[bu,cz]
 by_cases c:i=j
 ·subst c;rw[if_pos rfl,if_pos (by simp;omega),if_pos (by omega),hx]
 ·rw[if_neg c,h j hj]
  by_cases c2:j < i
  ·rw[if_pos c2,if_pos (by omega)]
  ·rw[if_neg c2,if_neg (by omega)]
theorem shr00(x:Int):shr .u32 x 0=x:=by rw[show(0:Int)=((0:Nat):Int) from rfl,zC .u32 x _ 0 rfl];exact lr x
theorem obC(N:Nat)(hN:80 < N)(p r:Vector Int 16):T (fD N p r N (ai 64 0) 0) (ObI p r 64):=by
 refine T.loop0 (n:=16) (by decide) (λi v=>ObI p r (4*i) v) (F:=fD N p r) (λk s i hi hs Q hk=>?_) (λk s=>by rw[fD,df,cond_false]) (by omega) (λj hj=>?_)
 ·have e4:I64 (4*(i:Int))=((4*i:Nat):Int):=by rw[aP];omega
  have e1:I64 (((4*i:Nat):Int)+1)=((4*i+1:Nat):Int):=by rw[aP];omega
  have e2:I64 (((4*i:Nat):Int)+2)=((4*i+2:Nat):Int):=by rw[aP];omega
  have e3:I64 (((4*i:Nat):Int)+3)=((4*i+3:Nat):Int):=by rw[aP];omega
  have t:∀n:Nat,((n:Nat):Int).toNat=n:=λn=>rfl;rw[fD,dt,cond_true,kX,zI p hi,aa,bQ (i:=(i:Int)),aa,t,zI r hi,aa,e4,aC,e1,aC,e2,aC,e3,aC,aC,aC,cF]
  obtain⟨x0,h0⟩:=aH8 s (j:=4*i)
  rw[bQ (i:=((4*i:Nat):Int)),aa,t,h0,aa]
  have s1:=aLg hs (x:=U8 (U32 (vg p i+vg r i))) (by omega) (by unfold ob;rw[show 4*i / 4=i by omega,show 4*i % 4=0 by omega];rw[show((8*0:Nat):Int)=0 from rfl,shr00])
  obtain⟨x1,h1⟩:=aH8 (s.setIfInBounds (4*i) (U8 (U32 (vg p i+vg r i)))) (j:=4*i+1)
  rw[bQ (i:=((4*i+1:Nat):Int)),aa,t,h1,aa]
  have s2:=aLg s1 (x:=U8 (shr .u32 (U32 (vg p i+vg r i)) 8)) (by omega) (by unfold ob;rw[show(4*i+1) / 4=i by omega,show(4*i+1) % 4=1 by omega];rfl)
  obtain⟨x2,h2⟩:=aH8 ((s.setIfInBounds (4*i) (U8 (U32 (vg p i+vg r i)))).setIfInBounds (4*i+1) (U8 (shr .u32 (U32 (vg p i+vg r i)) 8))) (j:=4*i+2)
  rw[bQ (i:=((4*i+2:Nat):Int)),aa,t,h2,aa]
  have s3:=aLg s2 (x:=U8 (shr .u32 (U32 (vg p i+vg r i)) 16)) (by omega) (by unfold ob;rw[show(4*i+1+1) / 4=i by omega,show(4*i+1+1) % 4=2 by omega];rfl)
  obtain⟨x3,h3⟩:=aH8 (((s.setIfInBounds (4*i) (U8 (U32 (vg p i+vg r i)))).setIfInBounds (4*i+1) (U8 (shr .u32 (U32 (vg p i+vg r i)) 8))).setIfInBounds (4*i+2) (U8 (shr .u32 (U32 (vg p i+vg r i)) 16))) (j:=4*i+3)
  rw[bQ (i:=((4*i+3:Nat):Int)),aa,t,h3,aa]
  have s4:=aLg s3 (x:=U8 (shr .u32 (U32 (vg p i+vg r i)) 24)) (by omega) (by unfold ob;rw[show(4*i+1+1+1) / 4=i by omega,show(4*i+1+1+1) % 4=3 by omega];rfl)
  exact hk _ s4
 ·have z:(ai 64 (0:Int)).toList=ak 64 0:=rfl;rw[z,de,if_pos hj,if_neg (by omega)]
theorem obR(N:Nat)(hN:80 < N)(p r:Vector Int 16):T (iF N p r N (ai 64 0) 0) (ObI p r 64):=by
 refine T.loop0 (n:=64) (by decide) (λi v=>ObI p r i v) (F:=iF N p r) (λk s i hi hs Q hk=>?_) (λk s=>by rw[iF,df,cond_false]) (by omega) (λj hj=>?_)
 ·have td:eg (i:Int) 4=((i / 4:Nat):Int):=by rw[ed (by omega)];omega
  have tm:cp (i:Int) 4=((i % 4:Nat):Int):=by rw[dw (by omega)];omega
  have e1:I64 (((i / 4:Nat):Int))=((i / 4:Nat):Int):=aP;have e2:I64 (8*((i % 4:Nat):Int))=((8*(i % 4):Nat):Int):=by rw[aP];omega
  have t:∀n:Nat,((n:Nat):Int).toNat=n:=λn=>rfl;obtain⟨x0,h0⟩:=aH8 s (j:=i) hi;rw[iF,dt,cond_true,td,tm,e1,bQ (i:=((i / 4:Nat):Int)),aa,t,zI p,aa,aa,zI r,aa,aC,e2,jB .u32,aa,bQ (i:=(i:Int)),aa,t,h0,aa,cF]
  exact hk _ (aLg hs hi rfl)
 ·have z:(ai 64 (0:Int)).toList=ak 64 0:=rfl;rw[z,de,if_pos hj,if_neg (by omega)]
theorem aRw(N:Nat)(hN:80 < N){key:Vector Int 32}(hk:aN key.toList){n:Vector Int 12}(hn:aN n.toList)(c:Int):mI N key c n=pY N key c n:=by
 obtain⟨s,e1,e2⟩:=aQr N (by omega) hk hn c;unfold mI pY;rw[e1,e2,aa,aa,aON N (by omega)]
 refine congrArg _ (funext λp=>?_)
 rw[aa]
 obtain⟨u,f1,g1⟩:=obC N hN p s;obtain⟨w,f2,g2⟩:=obR N hN p s;have:u=w:=by
  apply ez.1;apply du;intro j;by_cases hj:j < 64
  ·rw[g1 j hj,g2 j hj]
  ·rw[ar (by simp;omega),ar (by simp;omega)]
 rw[f1,f2,this]
theorem aVo(N:Nat)(hN:80 < N){n i:Nat}(hn:n<=65536)(hi:i < n)(b:Vector Int 64){s:List Int}(hs:s.length<=65536):dV N (i:Int) (n:Int) b N s 0=some (s++b.toList.take (min 64 (n - i))):=by
 have bl:b.toList.length=64:=by simp
 have main:T (dV N (i:Int) (n:Int) b N s 0) (λr=>r=s++b.toList.take (min 64 (n - i))):=by
  refine T.loopG0 (n:=min 64 (n - i)) (λj r=>r=s++b.toList.take j) _ (F:=λk r j=>dV N (i:Int) (n:Int) b k r j) (λk r j hj hr hk=>?_) (λk r hr=>?_) (by omega) (s:=s)
  ·have e:I64 ((i:Int)+(j:Int))=((i+j:Nat):Int):=by rw[aP];omega
   have ti:((j:Nat):Int).toNat=j:=rfl;have g:b.toList[j]? = some b.toList[j]:=af (by omega)
   rw[dV,e,aC,dt (show((i+j:Nat):Int) < (n:Int) by omega),dt (show(j:Int) < 64 by omega),cond_true,aC,cond_true,bQ,aa,ti,g,aa,cK (by rw[hr,ah,ca,cn];omega),aa,cF]
   refine hk _ ?_;rw[hr,fj (show j < b.toList.length by omega),am]
  ·rw[dV,aC]
   have c:(cond (decide (((min 64 (n - i):Nat):Int) < 64)) (decide (I64 ((i:Int)+((min 64 (n - i):Nat):Int)) < (n:Int))) false)=false:=by
    by_cases h:n - i < 64
    ·have e:I64 ((i:Int)+((min 64 (n - i):Nat):Int))=(n:Int):=by rw[aP];omega
     rw[e,dt,cond_true,df]
    ·rw[df,cond_false]
   rw[aC,c,cond_false]
   exact T.ret hr
 obtain⟨r,e,rfl⟩:=main;exact e
theorem aU5(N:Nat)(hN:80 < N){key:Vector Int 32}(hk:aN key.toList){nc:Vector Int 12}(hn:aN nc.toList){n:Nat}(hl:n<=65536):∀(k i:Nat) (s:List Int) (c:Int),s.length=min i n->i<=65600->lF N (n:Int) key nc k s c=mM N (n:Int) key nc k s c (i:Int)
 | 0,_,_,_,_,_=>rfl
 | k+1,i,s,c,hs,hi=>by
  have im:nE (n:Int) 65536=(n:Int):=by unfold nE;split <;> omega
  rw[lF,mM,aC,im]
  by_cases h:i < n
  ·have sl:s.length=i:=by omega
   rw[dt,dt,cond_true,cond_true,aRw N hN hk hn]
   refine congrArg _ (funext λb=>?_)
   have bl:b.toList.length=64:=by simp
   have e1:I64 ((n:Int) - (s.length:Int))=((n - i:Nat):Int):=by rw[aP];omega
   have e2:nE 64 ((n - i:Nat):Int)=((min 64 (n - i):Nat):Int):=by unfold nE;split <;> omega
   have e3:I64 ((i:Int)+64)=((i+64:Nat):Int):=by rw[aP];omega
   rw[aC,e1,e2,nQ,aa,cK (by rw[ca];omega),aa,aVo N hN hl h b (by omega),aa,e3]
   exact aU5 N hN hk hn hl k (i+64) _ _ (by rw[ah,ca];omega) (by omega)
  ·rw[df,df,cond_false,cond_false]
theorem strmE(N:Nat)(hN:80 < N){key:Vector Int 32}(hk:aN key.toList){nc:Vector Int 12}(hn:aN nc.toList){n:Nat}(hl:n<=65536)(c:Int):nD N key c nc (n:Int)=rE N key c nc (n:Int):=by
 unfold nD rE;rw[df,cond_false,aa]
 have:=aU5 N hN hk hn hl N 0 [] c (by simp) (by omega)
 rw[show((0:Nat):Int)=0 from rfl] at this;rw[this]
theorem refX1(N:Nat)(hN:70000<=N){d st:List Int}(hs:st.length=d.length)(hl:d.length<=65536):hZ N d st N [] 0=some (xP d st):=by
 have xl:(xP d st).length=d.length:=aEg hs;have xg:∀i (h:i < d.length),(xP d st)[i]? = some (eT .u8 d[i] (st[i]'(by omega))):=by
  intro i h;unfold xP;rw[List.getElem?_zipWith,af h,af (show i < st.length by omega)]
 have main:T (hZ N d st N [] 0) (λr=>r=xP d st):=by
  refine T.loopG0 (n:=d.length) (λi r=>r=(xP d st).take i) _ (F:=λk r i=>hZ N d st k r i) (λk r i hi hr hk=>?_) (λk r hr=>?_) (by omega) (s:=[])
  ·rw[hZ,aC,dt,cond_true,kX,af hi,aa,kX,af (show i < st.length by omega),aa,cK (by rw[hr,ca,cn];omega),aa,cF]
   refine hk _ ?_;have g:=xg i hi;rw[af (by omega)] at g;rw[hr,fj (show i < (xP d st).length by omega),Option.some.inj g]
  ·rw[hZ,aC,df,cond_false]
   exact T.ret (by rw[hr,bf (by omega)])
 obtain⟨r,e,rfl⟩:=main;exact e
theorem xorR(N:Nat)(hN:70000<=N){key:Vector Int 32}(hk:aN key.toList){n:Vector Int 12}(hn:aN n.toList){d:List Int}(hl:d.length<=65536):rX N key 1 n d=some (aJp N key n d):=by
 obtain⟨e1,e2⟩:=aKS N hN key n d.length hl;unfold rX;rw[aC,df,cond_false,aa,<- strmE N (by omega) hk hn hl,e1,aa,refX1 N hN e2 hl,aa]
 rfl
theorem aWm(N:Nat)(hN:80 < N){key:Vector Int 32}(hk:aN key.toList){n:Vector Int 12}(hn:aN n.toList)(c:Int):∃v,mI N key c n=some v/\eD v:=by
 obtain⟨v,hv,_⟩:=aNi N (by omega) key c n;refine⟨v,hv,?_⟩
 obtain⟨s,e1,e2⟩:=aQr N (by omega) hk hn c;unfold mI at hv;rw[e1,aa] at hv;cases hp:iH N N s 0 with
 | none=>rw[hp,Option.bind_none] at hv;cases hv
 | some p=>
  rw[hp,aa] at hv;obtain⟨u,f1,g1⟩:=obC N hN p s;rw[f1,aa] at hv;obtain rfl:=Option.some.inj hv;intro x hx;obtain⟨j,hj,rfl⟩:=nf hx;have hj':j < 64:=by simpa using hj
  have g:=g1 j hj';rw[if_pos hj',af hj] at g;rw[Option.some.inj g]
  exact aHl _
theorem keyE(N:Nat)(hN:80 < N){key:Vector Int 32}(hk:aN key.toList){n:Vector Int 12}(hn:aN n.toList):∃k,xX N key n=some k/\vI N key n=some k/\eD k:=by
 obtain⟨v,e1,hv⟩:=aWm N hN hk hn 0;obtain⟨w,e2,hw⟩:=T.vec (n:=32) (l:=v.toList.take 32) (by simp)
 have hw':w.toList=v.toList.take 32:=by rw[hw,List.take_take];rfl
 have vl:v.toList.length=64:=by simp
 refine⟨w,?_,?_,?_⟩
 ·unfold xX;have hs:cR v.toList 0 32=some (v.toList.take 32):=nQ (n:=32)
  rw[e1,aa,hs,aa,e2,aa]
 ·unfold vI;rw[<- aRw N hN hk hn,e1,aa]
  have main:T (kB N v N (ai 32 0) 0) (λu=>u=w):=by
   refine T.mono (T.loop0 (n:=32) (by decide) (λi (u:Vector Int 32)=>∀j,j < 32->u.toList[j]? = some (if j < i then v.toList.getD j 0 else 0)) (F:=kB N v) (λk s i hi hs Q hk=>?_) (λk s=>by rw[kB,df,cond_false]) (by omega) (λj hj=>?_)) λu hu=>?_
   ·have ti:((i:Nat):Int).toNat=i:=rfl;rw[kB,dt,cond_true,bQ (i:=(i:Int)) (n:=64),aa,ti,fI,aa,bQ,aa,hs i (by omega),aa,cF]
    refine hk _ λj hj=>?_;rw[bu,cz]
    by_cases c:i=j
    ·subst c;rw[if_pos rfl,if_pos (by simp;omega),if_pos (by omega)]
    ·rw[if_neg c,hs j hj]
     by_cases c3:j < i
     ·rw[if_pos c3,if_pos (by omega)]
     ·rw[if_neg c3,if_neg (by omega)]
   ·have z:(ai 32 (0:Int)).toList=ak 32 0:=rfl;rw[z,de,if_pos hj,if_neg (by omega)]
   ·apply ez.1;apply du;intro j;by_cases c1:j < 32
    ·rw[hu j c1,if_pos c1,hw',List.getElem?_take,if_pos c1,fI]
    ·rw[ar (by simp;omega),ar (by simp;omega)]
  obtain⟨u,f,rfl⟩:=main;rw[f,aa]
 ·unfold eD;rw[hw']
  exact hv.take 32
def zF(l:List Int):List Int:=ak ((16 - l.length % 16) % 16) 0
theorem aLZ(l:List Int):(l++zF l).length % 16=0:=by rw[ah,zF,mh];omega
theorem aHQ(l:List Int):(zF l).length < 16:=by rw[zF,mh];omega
theorem aQw(l:List Int):aN (zF l):=λx hx=>by
 rw[(List.mem_replicate.1 hx).2];exact⟨by decide,by decide⟩
theorem aVA(N:Nat)(l:List Int)(hl:l.length<=1000000:=by omega):sP N l=some (zF l):=by
 unfold sP;have hx:cp ((l.length:Int)) 16=((l.length % 16:Nat):Int):=rfl;have e:I64 (16 - ((l.length % 16:Nat):Int))=((16 - l.length % 16:Nat):Int):=by rw[aP];omega
 have hy:cp ((16 - l.length % 16:Nat):Int) 16=(((16 - l.length % 16) % 16:Nat):Int):=rfl;rw[aC,hx,e,aC,hy,bo]
 have m1:mkO 1 (((16 - l.length % 16) % 16:Nat):Int)=some ():=by
  unfold mkO;rw[dt,dt,dt]
  rfl
 have m2:aG7 (ak ((16 - l.length % 16) % 16) (0:Int)) ((16 - l.length % 16) % 16)=some ():=by
  unfold aG7;rw[show((ak ((16 - l.length % 16) % 16) (0:Int)).length.beq ((16 - l.length % 16) % 16))=true by simp]
  rfl
 rw[m1,aa,m2,aa]
 rfl
theorem aVe{l:List Int}(h:0 < l.length % 16):zF l=0 :: zF (l++[0]):=by
 unfold zF;rw[ah,cn,<- List.replicate_succ]
 congr 1;omega
theorem aVK(N:Nat):∀(k:Nat) (l:List Int),l.length<=2000000->(zF l).length < k->mE N k l=some (l++zF l)
 | 0,_,_,h=>by omega
 | k+1,l,hl,h=>by
  have hx:cp ((l.length:Int)) 16=((l.length % 16:Nat):Int):=rfl;rw[mE,aC,hx]
  by_cases c:0 < l.length % 16
  ·have hp:=aVe c;rw[dt,cond_true,cK (by rw[cn];omega),aa,aVK N k (l++[0]) ?_ ?_]
   ·rw[hp,am];rfl
   ·have:=aHQ l;by_cases c2:l.length<=1999999
    ·rw[ah,cn];omega
    ·exfalso;omega
   ·rw[hp,List.length_cons] at h;omega
  ·rw[df,cond_false]
   have:zF l=[]:=by unfold zF;rw[show l.length % 16=0 by omega];rfl
   rw[this,cf]
theorem aUz(N:Nat)(hN:20 < N)(l:List Int)(hl:l.length<=1000000:=by omega):oR N l=some (l++zF l):=by
 unfold oR;rw[cK (by simp;omega),aa,ee,aVK N N l (by omega) (by have:=aHQ l;omega),aa]
def aBJ(n:Nat):List Int:=(ce 8).map λi=>((n / 256 ^ i % 256:Nat):Int)
theorem yK(n:Nat):(aBJ n).length=8:=by simp[aBJ]
theorem aR2(n:Nat):aN (aBJ n):=λx hx=>by
 obtain⟨i,_,rfl⟩:=fa.1 hx;exact⟨by omega,by omega⟩
theorem aRI(N:Nat)(hN:20 < N:=by omega){n:Nat}(hn:n<=1000000:=by omega):mX N (n:Int)=some (aBJ n):=by
 unfold mX;have main:T (cY N N [] (n:Int) 0) (λr=>r=aBJ n):=by
  refine T.loopG0 (n:=8) (λi (s:List Int×Int)=>s.1=(aBJ n).take i/\s.2=((n / 256 ^ i:Nat):Int)) _ (F:=λk s i=>cY N k s.1 s.2 i) (λk s i hi hr hk=>?_) (λk s hr=>?_) (by omega) (s:=([],(n:Int))) ⟨rfl,by simp⟩
  ·obtain⟨h1,h2⟩:=hr;have hle:n / 256 ^ i<=n:=Nat.div_le_self _ _;have h8:=yK n;have e1:(aBJ n)[i]'(by omega)=((n / 256 ^ i % 256:Nat):Int):=by simp[aBJ]
   have e2:n / 256 ^ (i+1)=n / 256 ^ i / 256:=by rw[Nat.div_div_eq_div_mul,<- Nat.pow_succ]
   generalize hq:n / 256 ^ i=q at *;have ht:cp (q:Int) 256=((q % 256:Nat):Int):=rfl;have hd:eg (q:Int) 256=((q / 256:Nat):Int):=rfl;rw[cY,dt,cond_true,h2,ht,sG,cK (by rw[h1,ca,cn];omega),aa,hd,aP,cF]
   refine hk (_,_) ⟨?_,?_⟩
   ·show s.1++[_]=_;rw[h1,fj (show i < (aBJ n).length by omega),e1]
   ·show((q / 256:Nat):Int)=_;rw[e2]
  ·rw[cY,df,cond_false]
   exact T.ret (by rw[hr.1,bf (by rw[yK];omega)])
 obtain⟨r,e,rfl⟩:=main;rw[e,aa]
theorem aLG{n i:Nat}(hn:n<=1000000)(hi:i < 8):U8 (shr .i64 (n:Int) ((8*i:Nat):Int))=(aBJ n).getD i 0:=by
 have e:(aBJ n).getD i 0=((n / 256 ^ i % 256:Nat):Int):=by
  rw[ap,af (by rw[yK];omega)]
  simp[aBJ]
 rw[e,zC .i64 _ _ (8*i) rfl (by show 8*i<=64;omega),aBu,Int.pow_mul]
 show((n:Int) / 256 ^ i) % 256=_;rw[show((256:Int) ^ i)=((256 ^ i:Nat):Int) by simp]
 rfl
theorem lensE(N:Nat)(hN:20 < N){a c:List Int}(ha:a.length<=1000000)(hc:c.length<=1000000):∃v,mB N a c N (ai 16 0) 0=some v/\v.toList=aBJ a.length++aBJ c.length:=by
 have la:=yK a.length;have lc:=yK c.length;refine T.mono (T.loop0 (n:=8) (by decide) (λi (v:Vector Int 16)=>∀j,j < 16->v.toList[j]? = some (if j < i then(aBJ a.length).getD j 0 else if j < 8 then 0 else if j < 8+i then(aBJ c.length).getD (j - 8) 0 else 0)) (F:=mB N a c) (λk s i hi hs Q hk=>?_) (λk s=>by rw[mB,df,cond_false]) (by omega) (λj hj=>?_)) λv hv=>?_
 ·have ti:((i:Nat):Int).toNat=i:=rfl;have ti8:((8+i:Nat):Int).toNat=8+i:=rfl;have hset:(s.setIfInBounds i ((aBJ a.length).getD i 0)).toList[8+i]? = s.toList[8+i]? := by
   rw[bu,cz,if_neg (by omega)]
  rw[mB,dt,cond_true,show(8:Int)=((8:Nat):Int) from rfl,i4,ia,cF,jB .i64,aa,jB .i64,aa,aLG ha hi,aLG hc hi,bQ,aa,ti,hs i (by omega),aa,bQ,aa,ti8,hset,hs (8+i) (by omega),aa]
  refine hk _ λj hj=>?_;rw[bu,cz]
  by_cases c1:8+i=j
  ·subst c1;rw[if_pos rfl,if_pos (by simp;omega),if_neg (by omega),if_neg (by omega),if_pos (by omega),Nat.add_sub_cancel_left]
  ·rw[if_neg c1,bu,cz]
   by_cases c2:i=j
   ·subst c2;rw[if_pos rfl,if_pos (by simp;omega),if_pos (by omega)]
   ·rw[if_neg c2,hs j hj]
    by_cases c3:j < i
    ·rw[if_pos c3,if_pos (by omega)]
    ·rw[if_neg c3,if_neg (show ¬j < i+1 by omega)]
     by_cases c4:j < 8
     ·rw[if_pos c4,if_pos c4]
     ·rw[if_neg c4,if_neg c4]
      by_cases c5:j < 8+i
      ·rw[if_pos c5,if_pos (show j < 8+(i+1) by omega)]
      ·rw[if_neg c5,if_neg (show ¬j < 8+(i+1) by omega)]
 ·have z:(ai 16 (0:Int)).toList=ak 16 0:=rfl;rw[z,de,if_pos hj,if_neg (by omega)]
  by_cases c4:j < 8
  ·rw[if_pos c4]
  ·rw[if_neg c4,if_neg (by omega)]
 ·apply du;intro j;by_cases c1:j < 16
  ·rw[hv j c1]
   by_cases c2:j < 8
   ·rw[if_pos c2,cj (by omega),fI]
   ·rw[if_neg c2,if_neg c2,if_pos (by omega),ck (by omega),la,fI]
  ·rw[ar (by simp;omega),ar (by rw[ah];omega)]
theorem macE(N:Nat)(hN:70000 < N){key:Vector Int 32}(hk:aN key.toList){n:Vector Int 12}(hn:aN n.toList){a c:List Int}(ha:aN a)(hc:aN c)(la:a.length<=20000)(lc:c.length<=20000):rS N key n a c=some (aCD N key n a c):=by
 obtain⟨k,e1,e2,hkb⟩:=keyE N (by omega) hk hn;obtain⟨v,e3,hv⟩:=lensE N (by omega) (a:=a) (c:=c) (by omega) (by omega)
 have hs:cR v.toList 0 16=some v.toList:=aP2 (m:=16) v;have pa:=aLZ a;have pc:=aLZ c;have qa:=aHQ a;have qc:=aHQ c;rw[ah] at pa pc;have la8:=yK a.length;have lc8:=yK c.length;have ef:[a,zF a,c,zF c,v.toList].flatten=(a++zF a)++(c++zF c)++aBJ a.length++aBJ c.length:=by
  rw[hv];simp[am]
 have el:[a,zF a,c,zF c,v.toList].flatten.length=16*((a.length+(zF a).length) / 16+(c.length+(zF c).length) / 16+1):=by
  rw[ef];simp only[ah,la8,lc8];omega
 have eb:aN [a,zF a,c,zF c,v.toList].flatten:=by
  rw[ef]
  exact(((ha.app (aQw a)).app (hc.app (aQw c))).app (aR2 _)).app (aR2 _)
 obtain⟨t,e4,e5⟩:=tagE N hN hkb (ms:=[a,zF a,c,zF c,v.toList]) (by simp) eb el (by omega)
 have em:sN N key n a c=some t:=by
  unfold sN;rw[e3,aa,e1,aa,aVA N a,aa,aVA N c,aa,hs,aa,e4,aa]
 have er:rS N key n a c=some t:=by
  unfold rS;rw[ef] at e5;rw[aUz N (by omega) a,aa,aUz N (by omega) c,aa,cK (by simp only[ah];omega),aa,aRI N,aa,cK (by simp only[ah];omega),aa,e2,aa,aRI N,aa,cK (by simp only[ah];omega),aa,e5,aa]
 have:=(macP N (by omega) key n a c).1;rw[em] at this;rw[er,this]
theorem pG(a b:Bool):cond a true b=(a||b):=by cases a <;> rfl
theorem yL{α:Type}(c:Bool)(x y:α):(cond c (some x) (some y))=some (cond c x y):=by cases c <;> rfl
theorem aQe(a b c m:Int):uK (uK a b) c > m↔a > m\/b > m\/c > m:=by unfold uK;split <;> split <;> omega
theorem aNd(a b c m:Int):nE (nE a b) c < m↔a < m\/b < m\/c < m:=by unfold nE;split <;> split <;> omega
theorem aVx(a b c m:Int):uK (uK a b) c>=m↔a>=m\/b>=m\/c>=m:=by unfold uK;split <;> split <;> omega
theorem aV4(a b m:Int):uK a b > m↔a > m\/b > m:=by unfold uK;split <;> omega
theorem aW3(a b m:Int):nE a b < m↔a < m\/b < m:=by unfold nE;split <;> omega
theorem dcg{p q:Prop}[Decidable p][Decidable q](h:p↔q:=by omega):decide p=decide q:=by simp[h]
theorem aQ2{α:Type}(l:List α)(hl:l.length < 9223372036854775807)(q:α->Bool){F:Nat->Int->Option (Sum Unit Int)}
  (hstep:∀k i (h:i < l.length),F (k+1) (i:Int)=cond (q l[i]) (some (Sum.inr (i:Int))) (F k (I64 ((i:Int)+1)))) (hend:∀k,F (k+1) (l.length:Int)=some (Sum.inl ())) :
  ∀(k i:Nat),i<=l.length->l.length - i < k->(ae (ae (F k (i:Int)) λo=>mZ o (λp1=>some (-1)) (λr=>some r)) λr1:Int=>some (decide (r1>=0)))=some ((l.drop i).any q)
 | 0,i,_,h=>by omega
 | k+1,i,hi,hk=>by
  by_cases h:i < l.length
  ·rw[hstep k i h,List.drop_eq_getElem_cons h,jq]
   cases q l[i] with
   | true=>
    show some (decide ((i:Int)>=0))=some true;rw[dt]
   | false=>rw[cond_false,cF,aQ2 l hl q hstep hend k (i+1) (by omega) (by omega)];rfl
  ·obtain rfl:i=l.length:=by omega
   rw[hend,List.drop_length]
   rfl
theorem aFI{α:Type}(l:List α)(hl:l.length < 9223372036854775807)(q:α->Bool){F:Nat->Int->Option (Sum Unit Int)}
  (hstep:∀k i (h:i < l.length),F (k+1) (i:Int)=cond (q l[i]) (some (Sum.inr (i:Int))) (F k (I64 ((i:Int)+1)))) (hend:∀k,F (k+1) (l.length:Int)=some (Sum.inl ())) {N:Nat} (hN:l.length < N:=by omega) :
  (ae (ae (F N 0) λo=>mZ o (λp1=>some (-1)) (λr=>some r)) λr1:Int=>some (decide (r1>=0)))=some (l.any q):=by
 have:=aQ2 l hl q hstep hend N 0 (by omega) (by omega)
 rwa[eu] at this
def aBC(p:aA):Bool:=decide ((p.gX > 4096\/p.gX < -4096)\/(p.gY > 4096\/p.gY < -4096)\/(p.gZ > 4096\/p.gZ < -4096))
theorem aUw(N:Nat)(p:aA):sA N p=some (aBC p):=by
 unfold sA;rw[aC,aC,yL,aa,pG,dcg (aQe _ _ _ _),dcg (aNd _ _ _ _),<- ci]
 exact congrArg some (dcg)
theorem aQU(N:Nat)(p:aA):qN N p=some (aBC p):=aUw N p
theorem offR(N:Nat)(p:aA):nN N p 4096=some (aBC p):=by
 unfold nN;rw[show I64 (0 - 4096) = -4096 from by decide]
 simp only[aC,pG,<- ci]
 exact congrArg some (dcg)
def uvX(v:Vector Int 2):Bool:=decide ((v[0] < 0\/v[0] > 65535)\/(v[1] < 0\/v[1] > 65535))
theorem pairE(N:Nat)(v:Vector Int 2):rV N v=some (uvX v):=by
 unfold rV;simp only[aRH,aRr,aa,aC,yL,pG]
 rw[dcg (aW3 _ _ _),dcg (aV4 _ _ _),<- ci]
 exact congrArg some (dcg)
def trX(n:Int)(v:Vector Int 3):Bool:=decide ((v[0] < 0\/v[0]>=n\/v[0]=v[1])\/(v[1] < 0\/v[1]>=n\/v[1]=v[2])\/(v[2] < 0\/v[2]>=n\/v[2]=v[0]))
theorem yY(a b:Int):(a==b)=decide (a=b):=by cases h:decide (a=b) <;> simp_all
theorem triE(N:Nat)(v:Vector Int 3)(m:aK):oJ N v m=some (trX (m.gG.length:Int) v):=by
 unfold oJ;simp only[aJe,aJi,aJR,aa,aC,yL,pG,yY]
 rw[dcg (aNd _ _ _ _),dcg (aVx _ _ _ _)]
 simp only[<- ci]
 exact congrArg some (dcg)
def aCZ(m:aK):Int:=
 if m.gG.length > 64\/m.gJ.length > 64 then 3 else if m.gG.length=0\/m.gJ.length=0\/m.gL.length≠m.gG.length then 5 else if m.gG.any aBC=true then 8 else if m.gL.any uvX=true\/m.gJ.any (trX (m.gG.length:Int))=true then 5 else 0
theorem cif{α:Type}{p:Prop}[Decidable p]{b:Bool}(h:b=true↔p)(x y:α):cond b x y=if p then x else y:=by
 cases b with
 | true=>rw[if_pos (h.1 rfl)];rfl
 | false=>rw[if_neg (λq=>by simpa using h.2 q)];rfl
theorem aDZ(a b:Int):(a != b)=decide (a≠b):=by rw[bne,yY];simp
theorem aQl(N:Nat)(hN:1000 < N)(m:aK)(hu:m.gL.length<=500):iI N m=some (aCZ m):=by
 unfold iI aCZ;rw[aC,aC,aC]
 by_cases c1:m.gG.length > 64\/m.gJ.length > 64
 ·rw[if_pos c1,pG,<- ci,dt,cond_true]
 rw[if_neg c1,pG,<- ci,df,cond_false,aC,aC,aC,aC,aC]
 by_cases c2:m.gG.length=0\/m.gJ.length=0\/m.gL.length≠m.gG.length
 ·rw[if_pos c2,pG,pG,yY,yY,aDZ,<- ci,<- ci,dt,cond_true]
 rw[if_neg c2,pG,pG,yY,yY,aDZ,<- ci,<- ci,df,cond_false]
 unfold cG dF dE cP dU dY;rw[aFI m.gG (by omega) aBC (F:=aY N m.gG) (λk i h=>by rw[aY,aC,dt,cond_true,cN h,aa,aUw,aa]) (λk=>by rw[aY,aC,df,cond_false]),aa]
 rw[aFI m.gL (by omega) uvX (F:=bG N m.gL) (λk i h=>by rw[bG,aC,dt,cond_true,cN h,aa,pairE,aa]) (λk=>by rw[bG,aC,df,cond_false]),aa]
 rw[aFI m.gJ (by omega) (trX (m.gG.length:Int)) (F:=bH N m.gJ m) (λk i h=>by rw[bH,aC,dt,cond_true,cN h,aa,triE,aa]) (λk=>by rw[bH,aC,df,cond_false]),aa]
 cases m.gG.any aBC <;> cases m.gL.any uvX <;> cases m.gJ.any (trX (m.gG.length:Int)) <;> rfl
theorem r13L3(N:Nat)(m:aK)(k:Nat){i:Nat}(h:i < m.gL.length):iC N m (i:Int) (k+3) 0=some (cond (uvX m.gL[i]) (Sum.inr 5) (Sum.inl ())):=by
 have e1:I64 (0+1)=1:=by decide
 have e2:I64 (1+1)=2:=by decide
 rw[iC,dt (by decide),cond_true,iC,e1,dt (by decide),cond_true,iC,e2,df (by decide),cond_false]
 simp only[cN h,aa,aRH,aRr,yL,pG,<- ci]
 rw[show uvX m.gL[i]=(decide (m.gL[i][0] < 0\/m.gL[i][0] > 65535)||decide (m.gL[i][1] < 0\/m.gL[i][1] > 65535)) from by rw[<- ci];rfl]
 cases decide (m.gL[i][0] < 0\/m.gL[i][0] > 65535) <;> cases decide (m.gL[i][1] < 0\/m.gL[i][1] > 65535) <;> rfl
theorem r13L5(N:Nat)(m:aK)(k:Nat){i:Nat}(h:i < m.gJ.length):eK N m (i:Int) (k+4) 0=some (cond (trX (m.gG.length:Int) m.gJ[i]) (Sum.inr 5) (Sum.inl ())):=by
 have e1:I64 (0+1)=1:=by decide
 have e2:I64 (1+1)=2:=by decide
 have e3:I64 (2+1)=3:=by decide
 have f1:cp 1 3=1:=by decide
 have f2:cp 2 3=2:=by decide
 have f3:cp 3 3=0:=by decide
 rw[eK,dt (by decide),cond_true,eK,e1,dt (by decide),cond_true,eK,e2,dt (by decide),cond_true,eK,e3,df (by decide),cond_false]
 simp only[cN h,aa,aC,f1,f2,f3,aJe,aJi,aJR,yL,pG,yY,<- ci]
 generalize m.gJ[i]=v;rw[show trX (m.gG.length:Int) v=(decide (v[0] < 0\/v[0]>=(m.gG.length:Int)\/v[0]=v[1])||(decide (v[1] < 0\/v[1]>=(m.gG.length:Int)\/v[1]=v[2])||decide (v[2] < 0\/v[2]>=(m.gG.length:Int)\/v[2]=v[0]))) from by rw[<- ci,<- ci];rfl]
 cases decide (v[0] < 0\/v[0]>=(m.gG.length:Int)\/v[0]=v[1]) <;> cases decide (v[1] < 0\/v[1]>=(m.gG.length:Int)\/v[1]=v[2]) <;> cases decide (v[2] < 0\/v[2]>=(m.gG.length:Int)\/v[2]=v[0]) <;> rfl
theorem aNR(N:Nat)(hN:1000 < N)(m:aK)(hu:m.gL.length<=500):nR N m=some (aCZ m):=by
 unfold nR aCZ;rw[aC,aC,aC]
 by_cases c1:m.gG.length > 64\/m.gJ.length > 64
 ·rw[if_pos c1,pG,<- ci,dt,cond_true]
 rw[if_neg c1,pG,<- ci,df,cond_false,aC,aC,aC,aC,aC]
 by_cases c2:m.gG.length=0\/m.gJ.length=0\/m.gL.length≠m.gG.length
 ·rw[if_pos c2,pG,pG,aDZ,<- ci,<- ci,dt,cond_true]
 rw[if_neg c2,pG,pG,aDZ,<- ci,<- ci,df,cond_false]
 obtain⟨k,rfl⟩:∃k,N=k+4:=⟨N - 4,by omega⟩
 rw[sD m.gG aBC 8 (kL (k+4) m) (by omega) (λk i h=>by rw[kL,aC,dt,cond_true,cN h,aa,offR,aa]) (λk=>by rw[kL,aC,df,cond_false]),aa]
 rw[sD m.gL uvX 5 (kK (k+4) m) (by omega) (λj i h=>by
  rw[kK,aC,dt,cond_true,r13L3 (k+4) m (k+1) h,aa];cases uvX m.gL[i] <;> rfl) (λk=>by rw[kK,aC,df,cond_false]),aa]
 rw[sD m.gJ (trX (m.gG.length:Int)) 5 (kT (k+4) m) (by omega) (λj i h=>by
  rw[kT,aC,dt,cond_true,r13L5 (k+4) m k h,aa];cases trX (m.gG.length:Int) m.gJ[i] <;> rfl) (λk=>by rw[kT,aC,df,cond_false]),aa]
 cases m.gG.any aBC <;> cases m.gL.any uvX <;> cases m.gJ.any (trX (m.gG.length:Int)) <;> rfl
theorem g3_0(v:Vector Int 3):v.toList[((0:Int).toNat)]? = some v[0]:=oV v 0
theorem g3_1(v:Vector Int 3):v.toList[((1:Int).toNat)]? = some v[1]:=oV v 1
theorem g3_2(v:Vector Int 3):v.toList[((2:Int).toNat)]? = some v[2]:=oV v 2
theorem aUa : aS 0 3=some ():=rfl
theorem aVJ : aS 1 3=some ():=rfl
theorem aUk : aS 2 3=some ():=rfl
def aCS(most:Int)(v:Vector Int 3):Bool:=decide ((v[0] < 0\/v[0] > most)\/(v[1] < 0\/v[1] > most)\/(v[2] < 0\/v[2] > most))
def aG1(s:Int):Bool:=decide (¬(s=1\/s=2\/s=4\/s=8\/s=16))
def aGC(t:aJ):Int:=if aG1 t.gM=true\/(t.gK.length:Int)≠I64 (t.gM*t.gM) then 5 else if t.gK.any (aCS 255)=true then 5 else 0
theorem aSK(N:Nat)(hN:1000 < N)(t:aJ)(ht:t.gK.length+10 < N)(ht2:t.gK.length<=1000000):cH N t=some (aGC t):=by
 unfold cH aGC jT oZ;rw[aFI [1,2,4,8,16] (by decide) (λe=>t.gM==e) (F:=cU N [1,2,4,8,16] t.gM) (λk i h=>by rw[cU,aC,dt,cond_true,cN h,aa]) (λk=>by rw[cU,aC,df,cond_false]) (by show 5 < N;omega),aa]
 have e:(!(([1,2,4,8,16]:List Int).any λe=>t.gM==e))=aG1 t.gM:=by
  rw[j8]
  simp[aG1]
 rw[e,aC,aC,aC,pG,aDZ]
 by_cases c:aG1 t.gM=true\/(t.gK.length:Int)≠I64 (t.gM*t.gM)
 ·rw[if_pos c]
  rcases c with c | c
  ·rw[c,Bool.true_or,cond_true]
  ·rw[dt c,pf,cond_true]
 rw[if_neg c]
 rw[show aG1 t.gM=false by simpa using λh=>c (.inl h),df (λh=>c (.inr h)),ja,cond_false,aC]
 rw[sD t.gK (aCS 255) 5 (iP N (t.gK.length:Int) t) (by omega) (λk i h=>by
  rw[iP,dt,cond_true,cN h,aa]
  simp only[aUa,aVJ,aUk,g3_0,g3_1,g3_2,aa,aC,yL,pG]
  rw[dcg (aNd _ _ _ _),dcg (aQe _ _ _ _),<- ci]
  congr 1;exact dcg) (λk=>by rw[iP,df,cond_false]),aa]
 cases t.gK.any (aCS 255) <;> rfl
theorem texCE(N:Nat)(hN:1000 < N)(t:aJ)(ht:t.gK.length<=500):cH N t=some (aGC t):=aSK N hN t (by omega) (by omega)
theorem aQa(most:Int)(v:Vector Int 3):aCS most v=(decide (v[0] < 0\/v[0] > most)||(decide (v[1] < 0\/v[1] > most)||decide (v[2] < 0\/v[2] > most))):=by rw[<- ci,<- ci];rfl
theorem r14L2(N:Nat)(t:aJ)(k:Nat){i:Nat}(h:i < t.gK.length):eP N t (i:Int) (k+4) 0=some (cond (aCS 255 t.gK[i]) (Sum.inr 5) (Sum.inl ())):=by
 have e1:I64 (0+1)=1:=by decide
 have e2:I64 (1+1)=2:=by decide
 have e3:I64 (2+1)=3:=by decide
 rw[eP,dt (by decide),cond_true,eP,e1,dt (by decide),cond_true,eP,e2,dt (by decide),cond_true,eP,e3,df (by decide),cond_false]
 simp only[cN h,aa,aC,aJe,aJi,aJR,yL,pG,<- ci]
 generalize t.gK[i]=v;rw[aQa]
 cases decide (v[0] < 0\/v[0] > 255) <;> cases decide (v[1] < 0\/v[1] > 255) <;> cases decide (v[2] < 0\/v[2] > 255) <;> rfl
theorem aVI(a b:Bool):cond a b false=(a&&b):=by cases a <;> rfl
theorem aRM(N:Nat)(hN:1000 < N)(t:aJ)(ht:t.gK.length+10 < N)(ht2:t.gK.length<=1000000):lH N t=some (aGC t):=by
 unfold lH aGC;simp only[aC,aVI,pG,aDZ,<- Bool.decide_and,<- ci]
 obtain⟨k,rfl⟩:∃k,N=k+4:=⟨N - 4,by omega⟩
 have e:aG1 t.gM=true↔((((t.gM≠1/\t.gM≠2)/\t.gM≠4)/\t.gM≠8)/\t.gM≠16):=by
  unfold aG1;rw[decide_eq_true_eq]
  omega
 by_cases c:aG1 t.gM=true\/(t.gK.length:Int)≠I64 (t.gM*t.gM)
 ·rw[if_pos c]
  rw[e] at c;rw[dt c,cond_true]
 ·rw[if_neg c]
  rw[e] at c;rw[df c,cond_false]
  rw[sD t.gK (aCS 255) 5 (kO (k+4) t) (by omega) (λj i h=>by
   rw[kO,aC,dt,cond_true,r14L2 (k+4) t k h,aa];cases aCS 255 t.gK[i] <;> rfl) (λk=>by rw[kO,aC,df,cond_false]),aa]
  cases t.gK.any (aCS 255) <;> rfl
theorem aUO(N:Nat)(hN:1000 < N)(t:aJ)(ht:t.gK.length<=500):lH N t=some (aGC t):=aRM N hN t (by omega) (by omega)
def oX(most x:Int):Bool:=decide (x < 0\/x > most)
theorem aOp(N:Nat)(hN:1000 < N)(most:Int)(l:List Int)(hl:l.length<=500:=by simp):lB N most l=some (l.any (oX most)):=by
 unfold lB dO eU;rw[aFI l (by omega) (oX most) (F:=bK N l most) (λk i h=>by
  rw[bK,aC,dt,cond_true,cN h,aa,uY,aC,pG,<- ci,aa];rfl) (λk=>by rw[bK,aC,df,cond_false]),aa]
def aLn(m:aG):Int:=if (oX 4 m.gA||(aCS 65535 m.gF||oX 65535 m.gW))=true then 5 else 0
theorem matCE(N:Nat)(hN:1000 < N)(m:aG):pJ N m=some (aLn m):=by
 unfold pJ aLn;rw[aOp N hN 4 _,aa]
 simp only[aJe,aJi,aJR,aa]
 rw[aOp N hN 65535 _,aa,yL,pG,aa,yL]
 simp only[jq,mj,ja]
 rw[aQa,<- Bool.or_assoc (decide (m.gF[0] < 0\/m.gF[0] > 65535))]
 unfold oX;cases decide (m.gA < 0\/m.gA > 4) <;> cases decide (m.gF[0] < 0\/m.gF[0] > 65535) <;> cases decide (m.gF[1] < 0\/m.gF[1] > 65535) <;> cases decide (m.gF[2] < 0\/m.gF[2] > 65535) <;> cases decide (m.gW < 0\/m.gW > 65535) <;> rfl
theorem r15M(N:Nat)(m:aG)(k:Nat):dA N m (k+4) 0=some (cond (aCS 65535 m.gF) (Sum.inr 5) (Sum.inl ())):=by
 have e1:I64 (0+1)=1:=by decide
 have e2:I64 (1+1)=2:=by decide
 have e3:I64 (2+1)=3:=by decide
 rw[dA,dt (by decide),cond_true,dA,e1,dt (by decide),cond_true,dA,e2,dt (by decide),cond_true,dA,e3,df (by decide),cond_false]
 simp only[aa,aC,aJe,aJi,aJR,yL,pG,<- ci]
 generalize m.gF=v;rw[aQa]
 cases decide (v[0] < 0\/v[0] > 65535) <;> cases decide (v[1] < 0\/v[1] > 65535) <;> cases decide (v[2] < 0\/v[2] > 65535) <;> rfl
theorem matCR(N:Nat)(hN:1000 < N)(m:aG):qD N m=some (aLn m):=by
 unfold qD aLn;obtain⟨k,rfl⟩:∃k,N=k+4:=⟨N - 4,by omega⟩
 simp only[aC,pG,<- ci]
 rw[r15M,aa,show(decide (((m.gA < 0\/m.gA > 4)\/m.gW < 0)\/m.gW > 65535))=(oX 4 m.gA||oX 65535 m.gW) from by unfold oX;rw[<- ci];exact dcg]
 cases oX 4 m.gA <;> cases aCS 65535 m.gF <;> cases oX 65535 m.gW <;> rfl
def pN(p:aA):Bool := !(aA.eq p (aA.mk 0 0 0))
def aMK(l:aL):Int:=if (oX 2 l.gA||aCS 1048576 l.gF)=true then 5 else if (aBC l.gAt||(aBC l.gU||aBC l.gV))=true then 8 else if (l.gA=2/\pN l.gAt=true)\/(l.gA≠1/\(pN l.gU||pN l.gV)=true) then 5 else 0
theorem slc3(v:Vector Int 3):cR v.toList 0 3=some [v[0],v[1],v[2]]:=by
 have h:cR v.toList 0 3=some v.toList:=aP2 (m:=3) v;rw[h]
 congr 1;apply List.ext_getElem (by simp)
 intro i h1 h2;have:i < 3:=by simpa using h1
 match i,this with
 | 0,_=>simp
 | 1,_=>simp
 | 2,_=>simp
theorem out3l(most:Int)(v:Vector Int 3):[v[0],v[1],v[2]].any (oX most)=aCS most v:=by
 rw[aQa]
 simp only[jq,mj,ja]
 rfl
theorem ligCE(N:Nat)(hN:1000 < N)(l:aL):tI N l=some (aMK l):=by
 unfold tI aMK;rw[aOp N hN 2 _,aa,slc3,aa,aOp N hN 1048576 _,aa,out3l,aQU,aa,aQU,aa,aQU,aa]
 simp only[jq,mj,ja,yL,pG,aa,aC]
 change _=some (if _ then _ else if _ then _ else _)
 have k2:(l.gA==2)=decide (l.gA=2):=yY _ _;have k0:(l.gA==0)=decide (l.gA=0):=yY _ _;rw[k2,k0]
 cases hx:(oX 2 l.gA||aCS 1048576 l.gF) with
 | true=>rfl
 | false=>
  have kr:0<=l.gA/\l.gA<=2:=by
   have:=(n6.1 hx).1;unfold oX at this;have:=of_decide_eq_false this;omega
  rw[cond_false,if_neg (by decide)]
  cases (aBC l.gAt||(aBC l.gU||aBC l.gV)) with
  | true=>rfl
  | false=>
   rw[cond_false,if_neg (by decide)]
   show mZ (cond (decide (l.gA=2)) (cond (pN l.gAt) (Sum.inr (5:Int)) (cond (pN l.gU||pN l.gV) (Sum.inr 5) (Sum.inl ()))) (cond (decide (l.gA=0)) (cond (pN l.gU||pN l.gV) (Sum.inr 5) (Sum.inl ())) (Sum.inl ()))) (λ_=>some (0:Int)) (λr=>some r)=_;by_cases q2:l.gA=2
   ·rw[dt q2,cond_true]
    cases h1:pN l.gAt with
    | true=>rw[if_pos (.inl ⟨q2,rfl⟩)];rfl
    | false=>
     cases h2:(pN l.gU||pN l.gV) with
     | true=>rw[if_pos (.inr ⟨by omega,rfl⟩)];rfl
     | false=>rw[if_neg (by simp)];rfl
   ·rw[df q2,cond_false]
    by_cases q0:l.gA=0
    ·rw[dt q0,cond_true]
     cases h2:(pN l.gU||pN l.gV) with
     | true=>rw[if_pos (.inr ⟨by omega,rfl⟩)];rfl
     | false=>rw[if_neg (by simp;intro h;exact absurd h q2)];rfl
    ·rw[df q0,cond_false,if_neg (by rintro(⟨h,_⟩ | ⟨h,_⟩) <;> omega)]
     rfl
theorem r15L(N:Nat)(m:aL)(k:Nat):eJ N m (k+4) 0=some (cond (aCS 1048576 m.gF) (Sum.inr 5) (Sum.inl ())):=by
 have e1:I64 (0+1)=1:=by decide
 have e2:I64 (1+1)=2:=by decide
 have e3:I64 (2+1)=3:=by decide
 rw[eJ,dt (by decide),cond_true,eJ,e1,dt (by decide),cond_true,eJ,e2,dt (by decide),cond_true,eJ,e3,df (by decide),cond_false]
 simp only[aa,aC,aJe,aJi,aJR,yL,pG,<- ci]
 generalize m.gF=v;rw[aQa]
 cases decide (v[0] < 0\/v[0] > 1048576) <;> cases decide (v[1] < 0\/v[1] > 1048576) <;> cases decide (v[2] < 0\/v[2] > 1048576) <;> rfl
theorem ligCR(N:Nat)(hN:1000 < N)(l:aL):sX N l=some (aMK l):=by
 unfold sX aMK;obtain⟨k,rfl⟩:∃k,N=k+4:=⟨N - 4,by omega⟩
 rw[r15L,offR,aa,offR,aa,offR,aa]
 simp only[aC,pG,yL,<- ci,aa]
 have k2:(l.gA==2)=decide (l.gA=2):=yY _ _;have k1:(l.gA != 1)=decide (l.gA≠1):=aDZ _ _;rw[k2,k1]
 show cond (oX 2 l.gA) (some (5:Int)) (mZ (cond (aCS 1048576 l.gF) (Sum.inr (5:Int)) (Sum.inl ())) (λ_=>some (cond (aBC l.gAt||(aBC l.gU||aBC l.gV)) (8:Int) (cond (cond (decide (l.gA=2)) (pN l.gAt||cond (decide (l.gA≠1)) (pN l.gU||pN l.gV) false) (cond (decide (l.gA≠1)) (pN l.gU||pN l.gV) false)) 5 0))) (λr=>some r))=_;cases hx:oX 2 l.gA with
 | true=>rfl
 | false=>
  rw[cond_false,Bool.false_or]
  cases aCS 1048576 l.gF with
  | true=>rfl
  | false=>
   cases (aBC l.gAt||(aBC l.gU||aBC l.gV)) with
   | true=>rfl
   | false=>
    rw[if_neg (by decide),if_neg (by decide)]
    show some (cond _ (5:Int) 0)=_;congr 1;refine cif ?_ _ _;by_cases q2:l.gA=2
    ·rw[dt q2,cond_true,dt,cond_true,kq]
     constructor
     ·rintro(h | h)
      ·exact .inl ⟨q2,h⟩
      ·exact .inr ⟨by omega,h⟩
     ·rintro(h | h)
      ·exact .inl h.2
      ·exact .inr h.2
    ·rw[df q2,cond_false,aVI,Bool.and_eq_true,decide_eq_true_eq]
     constructor
     ·exact .inr
     ·rintro(h | h)
      ·exact absurd h.1 q2
      ·exact h
theorem tsm3{n:Nat}(B:Nat->Int){t:Nat}(h:t < n):((ce n).map B).take (t+1)=((ce n).map B).take t++[B t]:=by
 rw[List.take_succ,List.getElem?_map,List.getElem?_range h]
 rfl
theorem aUg(N w:Nat)(hw:w<=8):∀(k i:Nat),i<=w->w - i < k->nU N (w:Int) k (bL i - 1) (i:Int)=some (bL w - 1)
 | 0,_,_,h=>by omega
 | k+1,i,hi,hk=>by
  rw[nU]
  by_cases h:i < w
  ·have hb:bL i<=72057594037927936:=by
    have:∀i:Fin 8,bL i.val<=72057594037927936:=by decide
    exact this ⟨i,by omega⟩
   have hp:=wT i;have e:U64 (U64 ((bL i - 1)*256)+255)=bL (i+1) - 1:=by rw[aEC,jW (x:=(bL i - 1)*256),jW];omega
   rw[dt,cond_true,aC,e,cF]
   exact aUg N w hw k (i+1) (by omega) (by omega)
  ·obtain rfl:i=w:=by omega
   rw[df,cond_false]
theorem aOz(N:Nat)(hN:8 < N)(w:Nat)(hw:w<=8):iK N (w:Int)=some (bL w - 1):=by
 unfold iK;have:=aUg N w hw N 0 (by omega) (by omega)
 rw[show bL 0 - 1=0 from rfl,show((0:Nat):Int)=0 from rfl] at this;rw[this,aa]
theorem aRn(N w:Nat)(hw:w<=8)(x:Int)(hx:0<=x/\x < 18446744073709551616)(s:List Int)(hs:s.length<=100000000000000):∀(k i:Nat),i<=w->w - i < k->oM N (w:Int) k (s++(leB w x).take i) (x / bL i) (i:Int)=some (s++leB w x)
 | 0,_,_,h=>by omega
 | k+1,i,hi,hk=>by
  rw[oM]
  by_cases h:i < w
  ·have hp:=wT i;have h0:0<=x / bL i:=Int.ediv_nonneg hx.1 (by omega)
   have h1:x / bL i<=x:=Int.ediv_le_self _ hx.1;have e1:U8 (cp (x / bL i) 256)=U8 (shr .u64 x ((8*i:Nat):Int)):=by
    rw[aKi _ _,dw h0,aBu,aBu];omega
   have e2:U64 (eg (x / bL i) 256)=x / bL (i+1):=by
    rw[div_s,ed h0,jW]
   have e3:(leB w x).take (i+1)=(leB w x).take i++[U8 (shr .u64 x ((8*i:Nat):Int))]:=tsm3 _ h;rw[dt,cond_true,cK (by simp[bM];omega),aa,e1,e2,cF,am,<- e3]
   exact aRn N w hw x hx s hs k (i+1) (by omega) (by omega)
  ·obtain rfl:i=w:=by omega
   rw[df,cond_false,bf (by rw[bM];omega)]
theorem putR(N:Nat)(b:List Int)(w:Nat)(hw0:1<=w)(hw:w<=8)(ns:List Int)(hns:u64L ns)(hb:b.length<=10000000000000)(hl:ns.length<=1000000000000)(hN:8 < N)(hlN:ns.length < N):lO N b (w:Int) ns=some (aJw b w ns):=by
 unfold lO;rw[df (show ¬(w:Int) < 1 by omega),df (show ¬(w:Int) > 8 by omega),cond_false,aC,cond_false,cK (by simp;omega),aa,ee]
 have:=aE0 ns (by omega) (big w) (leB w) (([],3):List Int×Int) (λs i=>s.length<=10000000000000+8*i) (λk s i=>mT N ns (w:Int) k s i) (by intro s i h hs;simp[bM];omega) (λk s i h hs=>by
  have hx:=hns _ (co h)
  rw[mT,aC,dt,cond_true,cN h,aa,aOz N hN w hw,aa]
  have e:decide (ns[i] > bL w - 1)=big w ns[i]:=by
   unfold big;by_cases hb:bL w<=ns[i]
   ·rw[dt hb,dt]
   ·rw[df hb,df]
  rw[e]
  cases hbg:big w ns[i] with
  | true=>rfl
  | false=>
   have:=aRn N w hw ns[i] hx s (by omega) N 0 (by omega) (by omega)
   rw[j3,cf,show bL 0=1 from rfl,lr,show((0:Nat):Int)=0 from rfl] at this;rw[cond_false,cond_false,aa,this,aa]) (λk s=>by rw[mT,aC,df,cond_false]) N 0 b (by omega) (by omega) (by omega)
 rw[show((0:Nat):Int)=0 from rfl,eu] at this;rw[this,aa]
 unfold aJw;cases ns.any (big w) <;> rfl
theorem sgnR(N:Nat)(b:List Int)(w:Nat)(hw0:1<=w)(hw:w<=8)(ns:List Int)(hns:aSC ns)(hb:b.length<=10000000000000)(hl:ns.length<=1000000000000)(hN:8 < N)(hlN:ns.length < N):oN N b (w:Int) ns=some (aRN b w ns):=by
 unfold oN;have hp:=wT w;have hp2:bL w / 2*2=bL w:=by
  have:∀i:Fin 9,1<=i.val->bL i.val / 2*2=bL i.val:=by decide
  exact this ⟨w,by omega⟩ hw0
 have hp3:bL w<=18446744073709551616:=by
  have:∀i:Fin 9,bL i.val<=18446744073709551616:=by decide
  exact this ⟨w,by omega⟩
 have e3:I64 (U64 (eg (bL w - 1) 2))=bL w / 2 - 1:=by
  rw[ed (by omega),jW,aP];omega
 rw[df (show ¬(w:Int) < 1 by omega),df (show ¬(w:Int) > 8 by omega),cond_false,aC,cond_false,aOz N hN w hw,aa,aC,e3]
 have:=aE0 ns (by omega) (aFJ w) (λx=>[x % bL w]) (([],3):List Int×Int) (λs i=>s.length=i) (λk s i=>jQ N ns (bL w / 2 - 1) (w:Int) k s i) (by intro s i h hs;simp;omega) (λk s i h hs=>by
  have hx:=hns _ (co h)
  obtain⟨x0,x1⟩:=hx;have f:I64 (I64 (0 - (bL w / 2 - 1)) - 1) = -(bL w / 2):=by rw[aP (x:=0 - (bL w / 2 - 1)),aP];omega
  rw[jQ,aC,dt,cond_true,cN h,aa,aa,aC,f]
  generalize ns[i]=x at *;have e:(cond (decide (x > bL w / 2 - 1)) (some true) (some (decide (x < -(bL w / 2)))))=some (aFJ w x):=by
   unfold aFJ;by_cases h1:bL w / 2<=x
   ·rw[dt (show x > bL w / 2 - 1 by omega),dt h1,pf];rfl
   ·rw[df (show ¬x > bL w / 2 - 1 by omega),df h1,ja];rfl
  rw[e,aa]
  cases hbg:aFJ w x with
  | true=>rfl
  | false=>
   unfold aFJ at hbg;rw[n6,decide_eq_false_iff_not,decide_eq_false_iff_not] at hbg;obtain⟨b1,b2⟩:=hbg;have e2:(cond (decide (x < 0)) (ae (iK N (w:Int)) λr15=>ae (some x) λe16=>aM (I64 (0 - I64 (e16+1))) λx17=>some (U64 (r15 - U64 x17))) (some (U64 x)))=some (x % bL w):=by
    by_cases hneg:x < 0
    ·rw[dt hneg,cond_true,aOz N hN w hw,aa,aa,aC,aP (x:=x+1),aP (x:=0 - (x+1)),jW (x:=0 - (x+1)),jW]
     have:x % bL w=x+bL w:=by
      rw[<- Int.add_emod_right,il (by omega) (by omega)]
     rw[this]
     congr 1;omega
    ·rw[df hneg,cond_false,jW,il (by omega) (by omega)]
   rw[cond_false,cond_false,aa,aa,e2,aa,cK (by simp;omega),aa]) (λk s=>by rw[jQ,aC,df,cond_false]) N 0 [] rfl (by omega) (by omega)
 rw[show((0:Nat):Int)=0 from rfl,eu,ee] at this;rw[this,aa]
 unfold aRN;cases ns.any (aFJ w) with
 | true=>rfl
 | false=>
  rw[cond_false,cond_false]
  show ae (lO N b (w:Int) (ns.flatMap λx=>[x % bL w])) _=_;rw[show(ns.flatMap λx=>[x % bL w])=ns.map (λx=>x % bL w) by
   clear this hns hl hlN
   induction ns with
   | nil=>rfl
   | cons a l ih=>simp[dm,ih]]
  rw[putR N b w hw0 hw _ (by intro y hy;obtain⟨x,_,rfl⟩:=fa.1 hy;exact modU w hw x) hb (by simpa using hl) hN (by simpa using hlN),aa]
theorem putEq(N:Nat)(b:List Int)(w:Nat)(hw0:1<=w)(hw:w<=8)(ns:List Int)(hns:u64L ns)(hb:b.length<=1000000)(hl:ns.length<=100)(hN:100 < N):lO N b (w:Int) ns=bW N b (w:Int) ns:=by
 rw[putR N b w hw0 hw ns hns (by omega) (by omega) (by omega) (by omega),aQI N b w hw0 hw ns hns (by omega) (by omega) (by omega) (by omega)]
theorem aLW(N:Nat)(hN:100 < N)(b:List Int)(p:aA)(h:ptG p)(hb:b.length<=1000000):lI N b p=some (b++ptB p):=by
 obtain⟨hx,hy,hz⟩:=h;have hi:aSC [p.gX,p.gY,p.gZ]:=by intro q hq;simp at hq;unfold aEw;rcases hq with rfl | rfl | rfl <;> omega
 have e1:=sgnP N b 2 (by decide) (by decide) [p.gX,p.gY,p.gZ] hi (by omega) (by simp) (by omega) (by simp;omega)
 have e2:=sgnR N b 2 (by decide) (by decide) [p.gX,p.gY,p.gZ] hi (by omega) (by simp) (by omega) (by simp;omega)
 have e3:=sgn3 N (by omega) b p ⟨hx,hy,hz⟩ hb;rw[show oA N b 2 [p.gX,p.gY,p.gZ]=_ from e1] at e3;unfold lI;rw[show oN N b 2 [p.gX,p.gY,p.gZ]=_ from e2,e3]
 rfl
theorem aRz{x:Int}(h:0<=x/\x < 65536):leB 2 x=[U8 (cp x 256),U8 (I64 (eg x 256))]:=by
 rw[show leB 2 x=[U8 (shr .u64 x ((8*0:Nat):Int)),U8 (shr .u64 x ((8*1:Nat):Int))] from rfl,aKi x 0 (by decide),aKi x 1 (by decide),show bL 0=1 from rfl,show bL 1=256 from rfl,dw h.1,ed h.1,aP,lr,aBu,aBu,aBu]
 congr 1;omega
theorem trB1{v:Vector Int 3}(h:trG 256 v):trB 1 v=[v[0],v[1],v[2]]:=by
 obtain⟨q0,q1,q2⟩:=h;unfold trB;rw[aAf q0,aAf q1,aAf q2]
 rfl
theorem aWt(N:Nat)(hN:1000 < N)(m:aK)(g:aDq m)(h0:aCZ m=0):rK N m=some (wX m,0):=by
 have nv:=g.nv;have nt:=g.nt;have nu:=g.nu;unfold rK;rw[aNR N hN m (by omega),h0,aa,show((0:Int) != 0)=false from rfl,cond_false,aC,aC,sG (x:=(m.gG.length:Int)),sG (x:=(m.gJ.length:Int))]
 have e1:I64 (0+1)=1:=by decide
 have e2:I64 (1+1)=2:=by decide
 have e3:I64 (2+1)=3:=by decide
 obtain⟨kN,rfl⟩:∃k,N=k+4:=⟨N - 4,by omega⟩
 have l1:=oI m.gG.length (by omega) (λi=>ptB (m.gG.getD i ⟨0,0,0⟩)) (λs i=>s.length<=100+6*i) (jF (kN+4) m) (by intro s i hi hs;simp[qX];omega) (λk s i hi hs=>by
  have hp:=g.v _ (co hi)
  rw[jF,aC,dt,cond_true,cN hi,aa,aLW (kN+4) (by omega) s _ hp (by omega),aa]
  rw[ap,af hi]
  rfl) (λk s=>by rw[jF,aC,df,cond_false]) (N:=kN+4) (by omega) (s:=[(m.gG.length:Int),(m.gJ.length:Int)])
 rw[l1,aa,hflat m.gG ⟨0,0,0⟩ ptB]
 have hlen1:=vA qX m.gG;have l2:=oI m.gL.length (by omega) (λi=>uvB (m.gL.getD i #v[0,0])) (λs i=>s.length<=1000+4*i) (jJ (kN+4) m) (by intro s i hi hs;simp[aAv];omega) (λk s i hi hs=>by
  have hp:=g.u _ (co hi)
  rw[jJ,aC,dt,cond_true]
  rw[jL,dt (by decide),cond_true,cN hi,aa,aRH,aa,aa,aRH,aa,aC,xG,aa,<- aRz hp.1,e1,jL,dt (by decide),cond_true,cN hi,aa,aRr,aa,aa,aRr,aa,aC,xG (by rw[ah,bM];omega),aa,<- aRz hp.2,e2,jL,df (by decide),cond_false,aa,am,ap,af hi]
  rfl) (λk s=>by rw[jJ,aC,df,cond_false]) (N:=kN+4) (by omega) (s:=[(m.gG.length:Int),(m.gJ.length:Int)]++m.gG.flatMap ptB) (by simp at hlen1 ⊢;omega)
 rw[l2,aa,hflat m.gL #v[0,0] uvB]
 have hlen2:=vA aAv m.gL;have l3:=oI m.gJ.length (by omega) (λi=>trB 1 (m.gJ.getD i #v[0,0,0])) (λs i=>s.length<=2000+3*i) (jC (kN+4) m) (by intro s i hi hs;simp[qE];omega) (λk s i hi hs=>by
  have hp:=g.t _ (co hi)
  obtain⟨q0,q1,q2⟩:=hp;rw[jC,aC,dt,cond_true]
  rw[fQ,dt (by decide),cond_true,cN hi,aa,aJe,aa,xG,aa,e1,fQ,dt (by decide),cond_true,cN hi,aa,aJi,aa,xG (by rw[ah,cn];omega),aa,e2,fQ,dt (by decide),cond_true,cN hi,aa,aJR,aa,xG (by simp only[ah,cn];omega),aa,e3,fQ,df (by decide),cond_false,aa,sG q0.1 q0.2,sG q1.1 q1.2,sG q2.1 q2.2,am,am,ap,af hi,nk,trB1 ⟨q0,q1,q2⟩]
  rfl) (λk s=>by rw[jC,aC,df,cond_false]) (N:=kN+4) (by omega) (s:=[(m.gG.length:Int),(m.gJ.length:Int)]++m.gG.flatMap ptB++m.gL.flatMap uvB) (by simp at hlen1 hlen2 ⊢;omega)
 rw[l3,aa,hflat m.gJ #v[0,0,0] (trB 1)]
 unfold wX;rw[aAf (x:=(m.gG.length:Int)) ⟨by omega,by omega⟩,aAf (x:=(m.gJ.length:Int)) ⟨by omega,by omega⟩]
 simp[am]
theorem texER(N:Nat)(hN:1000 < N)(t:aJ)(g:aJO t)(h0:aGC t=0):rG N t=some (aBg t,0):=by
 unfold rG;have n1:=g.side;have n2:=g.n;have n3:t.gM*t.gM<=16*16:=Int.mul_le_mul n1.2 n1.2 (by omega) (by decide)
 rw[aUO N hN t (by omega),h0,aa,show((0:Int) != 0)=false from rfl,cond_false,sG (x:=t.gM)]
 have e1:I64 (0+1)=1:=by decide
 have e2:I64 (1+1)=2:=by decide
 have e3:I64 (2+1)=3:=by decide
 obtain⟨kN,rfl⟩:∃k,N=k+4:=⟨N - 4,by omega⟩
 have l3:=oI t.gK.length (by omega) (λi=>trB 1 (t.gK.getD i #v[0,0,0])) (λs i=>s.length<=2000+3*i) (iX (kN+4) t) (by intro s i hi hs;simp[qE];omega) (λk s i hi hs=>by
  have hp:=g.t _ (co hi)
  obtain⟨q0,q1,q2⟩:=hp;rw[iX,aC,dt,cond_true]
  rw[fM,dt (by decide),cond_true,cN hi,aa,aJe,aa,xG,aa,e1,fM,dt (by decide),cond_true,cN hi,aa,aJi,aa,xG (by rw[ah,cn];omega),aa,e2,fM,dt (by decide),cond_true,cN hi,aa,aJR,aa,xG (by simp only[ah,cn];omega),aa,e3,fM,df (by decide),cond_false,aa,sG q0.1 q0.2,sG q1.1 q1.2,sG q2.1 q2.2,am,am,ap,af hi,nk,trB1 ⟨q0,q1,q2⟩]
  rfl) (λk s=>by rw[iX,aC,df,cond_false]) (N:=kN+4) (by omega) (s:=[t.gM])
 rw[l3,aa,hflat t.gK #v[0,0,0] (trB 1)]
 unfold aBg;rw[aAf (x:=t.gM) ⟨by omega,by omega⟩]
theorem aVa(N:Nat)(hN:1000 < N)(a:aI)(g:aLe a)(h1:a.gA=1->aCZ a.gP=0)(h2:a.gA=2->aGC a.gR=0):pX N a=some (xB a):=by
 unfold pX xB;rcases g with ⟨k,g⟩ | ⟨k,g⟩ | ⟨k,g⟩ | ⟨k,g⟩
 ·rw[k,show((1:Int)==1)=true from rfl,cond_true,aWt N hN _ g (h1 k),if_pos rfl]
  rfl
 ·rw[k,show((2:Int)==1)=false from rfl,show((2:Int)==2)=true from rfl,cond_false,cond_true,texER N hN _ g (h2 k),if_neg (by decide),if_pos rfl]
  rfl
 ·rw[k,show((3:Int)==1)=false from rfl,show((3:Int)==2)=false from rfl,show((3:Int)==3)=true from rfl,cond_false,cond_false,cond_true,if_neg (by decide),if_neg (by decide),if_pos rfl]
  obtain⟨g1,⟨g2,g3,g4⟩,g5⟩:=g;rw[aUa,aa,g3_0,aa,aVJ,aa,g3_1,aa,aUk,aa,g3_2,aa,sG g1.1 g1.2]
  have l:=oI 4 (by decide) (λi=>leB 2 ([a.gI.gF[0],a.gI.gF[1],a.gI.gF[2],a.gI.gW].getD i 0)) (λs i=>s.length<=100+2*i) (kH N a.gI.gF[0] a.gI.gF[1] a.gI.gF[2] a) (by intro s i hi hs;simp[bM];omega) (λk s i hi hs=>by
   have hx:0<=[a.gI.gF[0],a.gI.gF[1],a.gI.gF[2],a.gI.gW].getD i 0/\[a.gI.gF[0],a.gI.gF[1],a.gI.gF[2],a.gI.gW].getD i 0 < 65536:=by
    have:i=0\/i=1\/i=2\/i=3:=by omega
    rcases this with rfl | rfl | rfl | rfl
    ·exact g2
    ·exact g3
    ·exact g4
    ·exact g5
   rw[kH,dt,cond_true,sK (by simp;omega),aa,aa,aC,<- aRz hx,xG (by omega) (by rw[bM];omega),aa]) (λk s=>by rw[kH,df,cond_false]) (N:=N) (by omega) (s:=[a.gI.gA])
  rw[l,aa]
  unfold aFr trB;rw[aAf g1]
  rfl
 ·rw[k,show((4:Int)==1)=false from rfl,show((4:Int)==2)=false from rfl,show((4:Int)==3)=false from rfl,cond_false,cond_false,cond_false,if_neg (by decide),if_neg (by decide),if_neg (by decide)]
  obtain⟨g1,⟨g2,g3,g4⟩,g5,g6,g7⟩:=g;rw[sG g1.1 g1.2]
  have l:=oI 3 (by decide) (λi=>leB 4 (a.gD.gF.toList.getD i 0)) (λs i=>s.length<=100+4*i) (kS N a) (by intro s i hi hs;simp[bM];omega) (λk s i hi hs=>by
   have hx:0<=a.gD.gF.toList.getD i 0/\a.gD.gF.toList.getD i 0 < 4294967296:=by
    have:i=0\/i=1\/i=2:=by omega
    rcases this with rfl | rfl | rfl
    ·rw[uQ _ 0];exact g2
    ·rw[uQ _ 1];exact g3
    ·rw[uQ _ 2];exact g4
   have ti:((i:Nat):Int).toNat=i:=rfl;have e:=put1 N (by omega) s 4 (by decide) (by decide) _ hx.1 hx.2;rw[<- putEq N s 4 (by decide) (by decide) _ (by intro q hq;rw[List.mem_singleton.1 hq];exact⟨hx.1,by omega⟩) (by omega) (by simp) (by omega)] at e;rw[kS,dt,cond_true,bQ,aa,ti,fI (by simp;omega),aa,jW hx.1,show lO N s 4 _=_ from e,aa]) (λk s=>by rw[kS,df,cond_false]) (N:=N) (by omega) (s:=[a.gD.gA])
  have lw:([a.gD.gA]++(ce 3).flatMap (λi=>leB 4 (a.gD.gF.toList.getD i 0)))=leB 1 a.gD.gA++trB 4 a.gD.gF:=by
   rw[aAf g1,show(ce 3)=[0,1,2] from rfl]
   simp only[dm,List.flatMap_nil,cf]
   rw[uQ _ 0,uQ _ 1,uQ _ 2]
   rfl
  rw[l,lw,aa]
  have lt:=qE 4 a.gD.gF;have l1:=bM 1 a.gD.gA;have la:=qX a.gD.gAt;have lu:=qX a.gD.gU;rw[aLW N (by omega) _ _ g5 (by rw[ah];omega),aa,aLW N (by omega) _ _ g6 (by simp only[ah];omega),aa,aLW N (by omega) _ _ g7 (by simp only[ah];omega),aa]
  unfold aFl;simp only[am]
def aBY(a:aI):Int:=if a.gA=1 then aCZ a.gP else if a.gA=2 then aGC a.gR else if a.gA=3 then aLn a.gI else if a.gA=4 then aMK a.gD else 12
theorem aUV(N:Nat)(hN:1000 < N)(a:aI)(h:aEU a):nC N a=some (aBY a):=by
 unfold nC aBY;rw[yY,yY,yY,yY,aQl N hN _ h.u,texCE N hN _ h.x,matCE N hN,ligCE N hN]
 by_cases k1:a.gA=1
 ·rw[dt k1,if_pos k1];rfl
 rw[df k1,if_neg k1]
 by_cases k2:a.gA=2
 ·rw[dt k2,if_pos k2];rfl
 rw[df k2,if_neg k2]
 by_cases k3:a.gA=3
 ·rw[dt k3,if_pos k3];rfl
 rw[df k3,if_neg k3]
 by_cases k4:a.gA=4
 ·rw[dt k4,if_pos k4];rfl
 rw[df k4,if_neg k4]
 rfl
theorem aWq{a:aI}(k:a.gA=1):tQ a↔(a.gR=wI/\a.gI=zW/\a.gD=aAA):=by
 obtain⟨gk,gm,gt,ga,gl⟩:=a;dsimp only at k;subst k;unfold tQ;simp
theorem aVX{a:aI}(k:a.gA=2):tQ a↔(a.gP=lV/\a.gI=zW/\a.gD=aAA):=by
 obtain⟨gk,gm,gt,ga,gl⟩:=a;dsimp only at k;subst k;unfold tQ;simp
theorem aWA{a:aI}(k:a.gA=3):tQ a↔(a.gP=lV/\a.gR=wI/\a.gD=aAA):=by
 obtain⟨gk,gm,gt,ga,gl⟩:=a;dsimp only at k;subst k;unfold tQ;simp
theorem aV3{a:aI}(k:a.gA=4):tQ a↔(a.gP=lV/\a.gR=wI/\a.gI=zW):=by
 obtain⟨gk,gm,gt,ga,gl⟩:=a;dsimp only at k;subst k;unfold tQ;simp
theorem tex15(N:Nat)(t:aJ):∃b,nT N t=some b/\(b=true↔¬t=wI):=by
 refine⟨_,rfl,?_⟩
 obtain⟨s,l⟩:=t;show(cond (s != 0) true (decide ((l.length:Int) > 0)))=true↔_;rw[pG,aDZ,<- ci,decide_eq_true_eq]
 unfold wI;rw[aJ.mk.injEq,<- gq]
 omega
theorem aVr(N:Nat)(m:aK)(hv:m.gG.length<=500)(hu:m.gL.length<=500)(ht:m.gJ.length<=500):∃b,rA N m=some b/\(b=true↔¬m=lV):=by
 refine⟨_,rfl,?_⟩
 obtain⟨v,u,t⟩:=m;dsimp only at hv hu ht ⊢;show decide (I64 (I64 ((v.length:Int)+(u.length:Int))+(t.length:Int)) > 0)=true↔_;rw[aP (x:=(v.length:Int)+(u.length:Int)),aP,decide_eq_true_eq]
 unfold lV;rw[aK.mk.injEq,<- gq,<- gq,<- gq]
 omega
theorem aQS{b:Bool}{p:Prop}(h:b=true↔p):(!b)=true↔¬p:=by
 rw[<- h];cases b <;> simp
theorem or3{a b c:Bool}{p q r:Prop}(ha:a=true↔¬p)(hb:b=true↔¬q)(hc:c=true↔¬r):(cond a true (cond b true c))=true↔¬(p/\q/\r):=by
 rw[pG,pG,kq,kq,ha,hb,hc]
 constructor
 ·rintro(h | h | h) ⟨h1,h2,h3⟩
  ·exact h h1
  ·exact h h2
  ·exact h h3
 ·intro h;by_cases hp:p
  ·by_cases hq:q
   ·exact .inr (.inr λhr=>h ⟨hp,hq,hr⟩)
   ·exact .inr (.inl hq)
  ·exact .inl hp
theorem aOy(c:Int)(a b d:Bool):(cond a (some (c,true)) (cond b (some (c,true)) (some (c,d))))=some (c,cond a true (cond b true d)):=by cases a <;> cases b <;> rfl
theorem aVW{a:aI}(h1:¬a.gA=1)(h2:¬a.gA=2)(h3:¬a.gA=3)(h4:¬a.gA=4):aBY a=12:=by
 unfold aBY;rw[if_neg h1,if_neg h2,if_neg h3,if_neg h4]
theorem aVf(N:Nat)(hN:1000 < N)(a:aI)(h:aEU a):∃c,kU N a=some c/\lG N a=some c:=by
 have zl:=aQS (aKM a.gD aAA)
 have zm:=aQS (aKf a.gI zW)
 obtain⟨bt,et,ht⟩:=tex15 N a.gR;obtain⟨bm,em,hm⟩:=aVr N a.gP h.v h.u h.t
 -- what the document has: the error of its own part, and whether there is another
 have key:∃o:Bool,(o=true↔¬tQ a/\aBY a≠12\/aBY a=12/\o=true)/\lG N a=(cond (aBY a != 0) (some (aBY a)) (cond o (some 5) (ae (pX N a) λr18=>ae (jO N a.gA) λr19=>aM (decide (((r18.length:Int)) > r19)) λx20=>cond x20 (some 9) (some 0)))):=by
  unfold lG;rw[yY,yY,yY,yY,aNR N hN _ h.u,aUO N hN _ h.x,matCR N hN,ligCR N hN,et,em]
  by_cases k1:a.gA=1
  ·have e:aBY a=aCZ a.gP:=by unfold aBY;rw[if_pos k1]
   have o:=or3 ht zm zl;rw[<- aWq k1] at o;refine⟨_,?_,by rw[dt k1,cond_true,aa,aa,aC,aC,aOy,aa,<- e]⟩
   rw[show(cond bt true (cond (!(aG.eq a.gI (aG.mk 0 (#v[0,0,0]) 0))) true (!(aL.eq a.gD (aL.mk 0 (#v[0,0,0]) (aA.mk 0 0 0) (aA.mk 0 0 0) (aA.mk 0 0 0))))))=true↔¬tQ a from o]
   have:aCZ a.gP≠12:=by unfold aCZ;split;decide;split;decide;split;decide;split <;> decide
   rw[e]
   constructor
   ·intro q;exact .inl ⟨q,this⟩
   ·rintro(q | q)
    ·exact q.1
    ·exact absurd q.1 this
  rw[df k1,cond_false]
  by_cases k2:a.gA=2
  ·have e:aBY a=aGC a.gR:=by unfold aBY;rw[if_neg k1,if_pos k2]
   have o:=or3 hm zm zl;rw[<- aVX k2] at o;refine⟨_,?_,by rw[dt k2,cond_true,aa,aa,aC,aC,aOy,aa,<- e]⟩
   rw[show(cond bm true (cond (!(aG.eq a.gI (aG.mk 0 (#v[0,0,0]) 0))) true (!(aL.eq a.gD (aL.mk 0 (#v[0,0,0]) (aA.mk 0 0 0) (aA.mk 0 0 0) (aA.mk 0 0 0))))))=true↔¬tQ a from o]
   have:aGC a.gR≠12:=by unfold aGC;split;decide;split <;> decide
   rw[e]
   constructor
   ·intro q;exact .inl ⟨q,this⟩
   ·rintro(q | q)
    ·exact q.1
    ·exact absurd q.1 this
  rw[df k2,cond_false]
  by_cases k3:a.gA=3
  ·have e:aBY a=aLn a.gI:=by unfold aBY;rw[if_neg k1,if_neg k2,if_pos k3]
   have o:=or3 hm ht zl;rw[<- aWA k3] at o;refine⟨_,?_,by rw[dt k3,cond_true,aa,aa,aa,aC,aOy,aa,<- e]⟩
   rw[show(cond bm true (cond bt true (!(aL.eq a.gD (aL.mk 0 (#v[0,0,0]) (aA.mk 0 0 0) (aA.mk 0 0 0) (aA.mk 0 0 0))))))=true↔¬tQ a from o]
   have:aLn a.gI≠12:=by unfold aLn;split <;> decide
   rw[e]
   constructor
   ·intro q;exact .inl ⟨q,this⟩
   ·rintro(q | q)
    ·exact q.1
    ·exact absurd q.1 this
  rw[df k3,cond_false]
  by_cases k4:a.gA=4
  ·have e:aBY a=aMK a.gD:=by unfold aBY;rw[if_neg k1,if_neg k2,if_neg k3,if_pos k4]
   have o:=or3 hm ht zm;rw[<- aV3 k4] at o;refine⟨_,?_,by rw[dt k4,cond_true,aa,aa,aa,aC,aOy,aa,<- e]⟩
   rw[show(cond bm true (cond bt true (!(aG.eq a.gI (aG.mk 0 (#v[0,0,0]) 0)))))=true↔¬tQ a from o]
   have:aMK a.gD≠12:=by unfold aMK;split;decide;split;decide;split <;> decide
   rw[e]
   constructor
   ·intro q;exact .inl ⟨q,this⟩
   ·rintro(q | q)
    ·exact q.1
    ·exact absurd q.1 this
  rw[df k4,cond_false]
  have e:=aVW k1 k2 k3 k4;refine⟨false,?_,by rw[e];rfl⟩
  rw[e]
  simp
 obtain⟨o,ho,hr⟩:=key;by_cases h0:aBY a=0
 ·rw[h0] at ho;have ho:o=true↔¬tQ a:=by
   rw[ho];simp
  have own0:nC N a=some 0:=by rw[aUV N hN a h,h0]
  obtain⟨r1,e1,h1⟩:=ownT N hN a h;have hown:aLe a:=h1 (by rw[own0] at e1;exact(Option.some.inj e1).symm)
  obtain⟨b,eb,hb1,hb2,hb3⟩:=aUZ N a h;obtain⟨r3,e3,h3⟩:=aVN N hN b (zA a.gA) hb1;have h3':r3=true↔tQ a:=⟨λq=>hb2 (h3.1 q),λq=>h3.2 (hb3 q hown)⟩
  have hro:(!r3)=o:=by rw[j8,aQS h3',ho]
  have m0:a.gA=1->aCZ a.gP=0:=by
   intro k;unfold aBY at h0;rw[if_pos k] at h0;exact h0
  have t0:a.gA=2->aGC a.gR=0:=by
   intro k;unfold aBY at h0;rw[if_neg (by omega),if_pos k] at h0;exact h0
  have capE:jO N a.gA=some (aAJ a.gA):=by
   unfold jO aAJ;rw[yY,yY,yY,yY]
   by_cases k1:a.gA=1
   ·rw[dt k1,if_pos k1];rfl
   rw[df k1,if_neg k1]
   by_cases k2:a.gA=2
   ·rw[dt k2,if_pos k2];rfl
   rw[df k2,if_neg k2]
   by_cases k3:a.gA=3
   ·rw[dt k3,if_pos k3];rfl
   rw[df k3,if_neg k3]
   by_cases k4:a.gA=4
   ·rw[dt k4,if_pos k4];rfl
   rw[df k4,if_neg k4]
   rfl
  refine⟨cond o 5 (cond (decide (((xB a).length:Int) > aAJ a.gA)) 9 0),?_,?_⟩
  ·unfold kU;rw[own0,aa,show((0:Int) != 0)=false from rfl,cond_false,eb,aa,show vG N b (aI.mk a.gA (aK.mk [] [] []) (aJ.mk 0 []) (aG.mk 0 (#v[0,0,0]) 0) (aL.mk 0 (#v[0,0,0]) (aA.mk 0 0 0) (aA.mk 0 0 0) (aA.mk 0 0 0)))=some r3 from e3,aa,hro,assE N hN a hown own0,aa,capP,aa,aC,yL,yL]
  ·rw[hr,h0,show((0:Int) != 0)=false from rfl,cond_false,aVa N hN a hown m0 t0,aa,capE,aa,aC,yL,yL]
 ·refine⟨aBY a,?_,?_⟩
  ·unfold kU;rw[aUV N hN a h,aa,aDZ,dt h0,cond_true]
  ·rw[hr,aDZ,dt h0,cond_true]
def aHJ(base:Vector Int 8)(n:Int)(i j:Nat):Int:=if j < 8 then base.toList.getD j 0 else if j < 8+i then U8 (shr .i64 n ((8*(j - 8):Nat):Int)) else 0
theorem aVY{n:Int}(h:aEw n){j:Nat}(hj:j < 4):U8 (shr .u32 (U32 n) ((8*j:Nat):Int))=U8 (shr .i64 n ((8*j:Nat):Int)):=by
 rw[zC .u32 _ _ (8*j) rfl (by show 8*j<=32;omega),zC .i64 _ _ (8*j) rfl (by show 8*j<=64;omega),aBu,aBu,aMs]
 rcases(show j=0\/j=1\/j=2\/j=3 by omega) with rfl | rfl | rfl | rfl
 ·rw[show(2:Int) ^ (8*0)=1 from rfl];omega
 ·rw[show(2:Int) ^ (8*1)=256 from rfl];omega
 ·rw[show(2:Int) ^ (8*2)=65536 from rfl];omega
 ·rw[show(2:Int) ^ (8*3)=16777216 from rfl];omega
theorem aO2{base:Vector Int 8}{n:Int}{i:Nat}(hi:i < 4){s:Vector Int 12}(hs:∀j,j < 12->s.toList[j]? = some (aHJ base n i j)):∀j,j < 12->(s.setIfInBounds (8+i) (U8 (shr .i64 n ((8*i:Nat):Int)))).toList[j]? = some (aHJ base n (i+1) j):=by
 intro j hj;rw[bu,cz]
 unfold aHJ;by_cases c:8+i=j
 ·subst c;rw[if_pos rfl,if_pos (by simp;omega),if_neg (by omega),if_pos (by omega),Nat.add_sub_cancel_left]
 ·rw[if_neg c,hs j hj]
  unfold aHJ;by_cases c3:j < 8
  ·rw[if_pos c3,if_pos c3]
  ·rw[if_neg c3,if_neg c3]
   by_cases c5:j < 8+i
   ·rw[if_pos c5,if_pos (show j < 8+(i+1) by omega)]
   ·rw[if_neg c5,if_neg (show ¬j < 8+(i+1) by omega)]
theorem nonC(N:Nat)(hN:20 < N)(base:Vector Int 8)(n:Int):T (iS N base n) (λv=>∀j,j < 12->v.toList[j]? = some (aHJ base n 4 j)):=by
 have b8:base.toList.length=8:=by simp
 unfold iS;refine T.bind (o:=aEB 12 0 12) (P:=λ_=>True) ⟨(),rfl,trivial⟩ λ_ _=>?_;rw[show cR base.toList 0 8=some base.toList from aP2 (m:=8) _,aa]
 refine T.bind (P:=λv=>∀j,j < 12->v.toList[j]? = some (aHJ base n 0 j)) ?_ λv3 h3=>?_
 ·unfold cpV;rw[dif_pos (by decide)]
  refine⟨_,rfl,λj hj=>?_⟩
  unfold cpy aHJ;have z:(ai 12 (0:Int)).toList=ak 12 0:=rfl;simp only[z,j3,ee,Nat.zero_add,b8]
  show((base.toList.take (min 12 8))++(ak 12 (0:Int)).drop (min 12 8))[j]? = _;rw[show min 12 8=8 from rfl,bf (by omega)]
  by_cases c:j < 8
  ·rw[if_pos c,cj (by omega),fI]
  ·rw[if_neg c,if_neg (by omega),ck (by omega),List.drop_replicate,de,if_pos (by omega)]
 ·refine T.bind (T.loop0 (n:=4) (by decide) (λi (v:Vector Int 12)=>∀j,j < 12->v.toList[j]? = some (aHJ base n i j)) (F:=iJ N n) (λk s i hi hs Q hk=>?_) (λk s=>by rw[iJ,df,cond_false]) (by omega) h3) λp1 h=>T.ret h;have ti:((8+i:Nat):Int).toNat=8+i:=rfl;rw[iJ,dt,cond_true,show(8:Int)=((8:Nat):Int) from rfl,i4,ia,cF,jB .i64,aa,bQ,aa,ti,hs _ (by omega),aa]
  exact hk _ (aO2 hi hs)
theorem aR3(N:Nat)(hN:20 < N){base:Vector Int 8}(hb:aN base.toList)(n:Int):aN (aHt N base n).toList:=by
 obtain⟨v,e,h⟩:=nonC N hN base n;rw[aRk N hN] at e;obtain rfl:=Option.some.inj e;intro x hx;obtain⟨j,hj,e⟩:=nf hx;have h2:=h j (by simpa using hj)
 rw[af hj,e] at h2;obtain rfl:=Option.some.inj h2;unfold aHJ;split
 ·rename_i c;exact hb _ (List.mem_of_getElem? (fI (by simpa using c)))
 split
 ·exact aHl _
 ·exact⟨by decide,by decide⟩
theorem nonR(N:Nat)(hN:20 < N)(base:Vector Int 8){n:Int}(hn:aEw n):nO N base n=some (aHt N base n):=by
 have b8:base.toList.length=8:=by simp
 have ec:=nonC N hN base n;have er:T (nO N base n) (λv=>∀j,j < 12->v.toList[j]? = some (aHJ base n 4 j)):=by
  unfold nO;refine T.bind (T.loop0 (n:=8) (by decide) (λi (v:Vector Int 12)=>∀j,j < 12->v.toList[j]? = some (if j < i then base.toList.getD j 0 else 0)) (F:=kI N base) (λk s i hi hs Q hk=>?_) (λk s=>by rw[kI,df,cond_false]) (by omega) (s:=ai 12 0) (λj hj=>?_)) λv1 h1=>?_
  ·have ti:((i:Nat):Int).toNat=i:=rfl;rw[kI,dt,cond_true,sK,aa,bQ,aa,ti,hs i (by omega),aa,cF]
   refine hk _ λj hj=>?_;rw[bu,cz]
   by_cases c:i=j
   ·subst c;rw[if_pos rfl,if_pos (by simp;omega),if_pos (by omega)]
   ·rw[if_neg c,hs j hj]
    by_cases c3:j < i
    ·rw[if_pos c3,if_pos (by omega)]
    ·rw[if_neg c3,if_neg (show ¬j < i+1 by omega)]
  ·have z:(ai 12 (0:Int)).toList=ak 12 0:=rfl;rw[z,de,if_pos hj,if_neg (by omega)]
  ·refine T.bind (T.loop0 (n:=4) (by decide) (λi (v:Vector Int 12)=>∀j,j < 12->v.toList[j]? = some (aHJ base n i j)) (F:=kJ N n) (λk s i hi hs Q hk=>?_) (λk s=>by rw[kJ,df,cond_false]) (by omega) (λj hj=>?_)) λp1 h=>T.ret h
   ·have ti:((8+i:Nat):Int).toNat=8+i:=rfl;rw[kJ,dt,cond_true,show(8:Int)=((8:Nat):Int) from rfl,i4,ia,cF,jB .u32,aa,bQ,aa,ti,hs _ (by omega),aa,aVY hn hi]
    exact hk _ (aO2 hi hs)
   ·rw[h1 j hj]
    unfold aHJ;by_cases c:j < 8
    ·rw[if_pos c,if_pos c]
    ·rw[if_neg c,if_neg c,if_neg (by omega)]
 obtain⟨v,e1,h1⟩:=ec;obtain⟨w,e2,h2⟩:=er;have hvw:v=w:=by
  apply ez.1;apply du;intro j;by_cases c:j < 12
  ·rw[h1 j c,h2 j c]
  ·rw[ar (by simp;omega),ar (by simp;omega)]
 rw[aRk N hN] at e1;rw[e2,<- hvw,e1]
theorem capE(N:Nat)(k:Int):jO N k=some (aAJ k):=by
 unfold jO aAJ;rw[yY,yY,yY,yY]
 by_cases k1:k=1
 ·rw[dt k1,if_pos k1];rfl
 rw[df k1,if_neg k1]
 by_cases k2:k=2
 ·rw[dt k2,if_pos k2];rfl
 rw[df k2,if_neg k2]
 by_cases k3:k=3
 ·rw[dt k3,if_pos k3];rfl
 rw[df k3,if_neg k3]
 by_cases k4:k=4
 ·rw[dt k4,if_pos k4];rfl
 rw[df k4,if_neg k4]
 rfl
theorem aOT(N:Nat){s:Int}:∀(k i:Nat),i<=1000->1000 - i < k->((i:Int)=0\/256*((i:Int) - 1) < s)->∃n:Nat,n<=1000/\jG N s k (i:Int)=some (n:Int)/\(n=0\/256*((n:Int) - 1) < s)/\(s<=256*(n:Int)\/n=1000)
 | 0,_,_,h,_=>by omega
 | k+1,i,h1,h2,h3=>by
  rw[jG,aC,aC,aP (x:=256*(i:Int))]
  by_cases c:s > 256*(i:Int)
  ·by_cases d:(i:Int) < 1000
   ·rw[dt c,dt d,cond_true,cond_true,cF]
    exact aOT N k (i+1) (by omega) (by omega) (.inr (by omega))
   ·rw[dt c,df d,cond_true,cond_false]
    exact⟨i,h1,rfl,by omega,by omega⟩
  ·rw[df c,cond_false,cond_false]
   exact⟨i,h1,rfl,by omega,by omega⟩
theorem aTU(N:Nat)(hN:1100 < N){s:Int}(h:aEw s):rJ N s=some (sM s):=by
 unfold rJ sM;obtain⟨h0,h1⟩:=h;obtain⟨n,hn,e,g1,g2⟩:=aOT N (s:=s) N 0 (by omega) (by omega) (.inl rfl)
 rw[show jG N s N 0=_ from e,aa,aC,aP (x:=256*(n:Int))]
 by_cases c:s > 256*(n:Int)
 ·have e1:eg s 256=s / 256:=ed (by omega)
  have e2:cp s 256=s % 256:=dw (by omega)
  rw[dt c,cond_true,aC,aC,e1,e2,aP (x:=s / 256),if_neg (by omega),aa]
  congr 1;unfold nE;split
  ·rw[aP];omega
  ·rw[aP];omega
 ·rw[df c,cond_false,aa]
  by_cases d:s < 1
  ·rw[if_pos d];congr 1;omega
  ·rw[if_neg d];congr 1;omega
theorem mchkR(N:Nat)(hN:1100 < N)(m:aE)(hs:aEw m.gT):tB N m=some (zQ m):=by
 unfold tB zQ;rw[capE,aa]
 by_cases h0:aAJ m.gA=0
 ·rw[if_pos h0,h0];rfl
 ·rw[if_neg h0,show(aAJ m.gA==0)=false by simpa using h0,cond_false]
  have hl:iB N m N 0=some (cond (m.gA2.toList.any λe=>decide (e > 15)) (Sum.inr 5) (Sum.inl ())):=by
   refine sD m.gA2.toList (λe=>decide (e > 15)) (5:Int) (iB N m) (by simp) (λk i h=>?_) (λk=>?_) (by simp;omega)
   ·have h8:i < 8:=by simpa using h
    rw[iB,dt,cond_true,cN h,aa,show decide (m.gA2.toList[i]>=16)=decide (m.gA2.toList[i] > 15) by rw[j8,decide_eq_true_eq,decide_eq_true_eq];omega]
   ·rw[iB,df (by simp),cond_false]
  rw[hl,aa]
  cases ha:(m.gA2.toList.any λe=>decide (e > 15)) with
  | true=>rw[if_pos rfl,cond_true];rfl
  | false=>
   rw[if_neg (by decide),cond_false]
   show(aM (decide (m.gQ > m.gTo)) λx5=>_)=_;rw[aC,aC]
   by_cases h1:m.gQ > m.gTo\/m.gT < 1
   ·rw[if_pos h1]
    rw[show cond (decide (m.gQ > m.gTo)) true (decide (m.gT < 1))=true by rcases h1 with h | h;rw[dt h];rfl;rw[dt h];cases decide (m.gQ > m.gTo) <;> rfl,aC,cond_true]
   ·rw[if_neg h1,df (show ¬m.gQ > m.gTo by omega),df (show ¬m.gT < 1 by omega),cond_false,aC,cond_false,aa]
    by_cases h2:m.gT > aAJ m.gA
    ·rw[dt h2,cond_true,if_pos h2]
    ·rw[df h2,cond_false,if_neg h2,aTU N hN hs,aa]
     by_cases h3:m.gA0=sM m.gT
     ·rw[if_neg (by simpa using h3),show(m.gA0 != sM m.gT)=false by simpa using h3,cond_false]
     ·rw[if_pos h3,show(m.gA0 != sM m.gT)=true by simpa using h3,cond_true]
theorem aQo{w:Nat}(h:w<=8):bL w<=18446744073709551616:=by
 unfold bL;rcases(show w=0\/w=1\/w=2\/w=3\/w=4\/w=5\/w=6\/w=7\/w=8 by omega) with rfl | rfl | rfl | rfl | rfl | rfl | rfl | rfl | rfl <;> decide
theorem fourR(N:Nat){i n:Nat}(hi:i < 65536)(hn:n < 65536):uC N (i:Int) (n:Int)=some (aDU i n):=by
 unfold uC aDU;rw[aRz ⟨by omega,by omega⟩,aRz ⟨by omega,by omega⟩]
 rfl
theorem aQ8{m:Nat}(v:Vector Int m):eqV (λa b=>a==b) v v=true:=by
 unfold eqV;exact aMN (λa=>by simp) v.toList
end Go.UK
