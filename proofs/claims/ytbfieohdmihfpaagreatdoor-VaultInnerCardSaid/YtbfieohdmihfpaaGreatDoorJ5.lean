/- A part of the proof: what the functions of the program compute. -/
import Derived.Test.YtbfieohdmihfpaaGreatDoorJ3
import Derived.Test.YtbfieohdmihfpaaGreatDoorJ4
open Bool renaming decide_or→bw,eq_iff_iff→jj,or_eq_false_iff→kz,or_eq_true→jk,or_false→i6,or_true→nl
open Int renaming ediv_one→ka,emod_eq_of_lt→j6,tdiv→de,tdiv_eq_ediv_of_nonneg→da,tmod→cj,tmod_eq_emod_of_nonneg→cv,toNat_natCast→bu,toNat_of_nonneg→dz
open List renaming any_cons→iw,any_nil→ko,append_assoc→an,append_nil→dp,drop_eq_getElem_cons→co,drop_of_length_le→ed,drop_replicate→lh,drop_take→ju,drop_zero→eu,ext_getElem?→cz,flatMap_cons→d8,flatten_cons→ip,getD_eq_getElem?_getD→ap,getElem?_append_left→bx,getElem?_append_right→cf,getElem?_drop→ff,getElem?_eq_getElem→af,getElem?_eq_none→ar,getElem?_map→ci,getElem?_range→dw,getElem?_replicate→cq,getElem?_set→cp,getElem?_take_of_lt→gw,getElem_mem→cm,getElem_of_mem→lg,length_append→ai,length_drop→cd,length_eq_zero_iff→fk,length_map→cg,length_pos_iff→ir,length_range→ii,length_replicate→kn,length_singleton→cr,length_take→bj,map→f8,map_append→j8,mem_cons→cx,mem_flatten→mu,mem_map→dh,mem_singleton→hW,nil_append→dn,not_mem_nil→dk,range→bq,replicate→aj,replicate_succ→j5,set_append_right→gf,set_cons_zero→lz,take_of_length_le→aq,take_succ→ik,take_succ_eq_append_getElem→dr,take_zero→j2
open Nat renaming add_sub_cancel_left→go,min_eq_left→fm,sub_self→ne,zero_add→fy
open Option renaming bind→ae,bind_assoc→ez,bind_some→aa,getD_some→lr
open Vector renaming ext→nm,replicate→ah,toList_inj→fb,toList_setIfInBounds→bo
namespace Go.UK
open Go Go.Proofs
set_option maxRecDepth 20000
set_option maxHeartbeats 16000000
set_option linter.all false
def trn(x n:Int):Int:=bor .u32 (shl .u32 x n) (shr .u32 x (32 - n))
theorem rotE(N:Nat)(x:Int):bG N x 16=some (trn x 16)/\bG N x 12=some (trn x 12)/\bG N x 8=some (trn x 8)/\bG N x 7=some (trn x 7):=by
 have k:∀n m:Int,cF .u64 (U64 n) 31=n->U64 (32 - n)=m->0<=n->0<=m->m=32 - n->bG N x n=some (trn x n):=by
  intro n m h1 h2 h3 h4 h5;unfold bG trn;rw[h1,uM .u32 h3,aa,aB,h2,jH .u32 h4,aa,h5]
 exact⟨k 16 16 (by decide) (by decide) (by decide) (by decide) (by decide),k 12 20 (by decide) (by decide) (by decide) (by decide) (by decide),k 8 24 (by decide) (by decide) (by decide) (by decide) (by decide),k 7 25 (by decide) (by decide) (by decide) (by decide) (by decide)⟩
theorem aN7(N:Nat)(x:Int):dA N x 16=some (trn x 16)/\dA N x 12=some (trn x 12)/\dA N x 8=some (trn x 8)/\dA N x 7=some (trn x 7):=by
 have k:∀n m:Int,I64 (32 - n)=m->0<=n->0<=m->m=32 - n->dA N x n=some (trn x n):=by
  intro n m h2 h3 h4 h5;unfold dA trn;rw[uM .u32 h3,aa,h2,jH .u32 h4,aa,h5]
 exact⟨k 16 16 (by decide) (by decide) (by decide) (by decide),k 12 20 (by decide) (by decide) (by decide) (by decide),k 8 24 (by decide) (by decide) (by decide) (by decide),k 7 25 (by decide) (by decide) (by decide) (by decide)⟩
theorem v4_0(a b c d:Int):(#v[a,b,c,d]:Vector Int 4).toList[((0:Int).toNat)]? = some a:=rfl
theorem v4_1(a b c d:Int):(#v[a,b,c,d]:Vector Int 4).toList[((1:Int).toNat)]? = some b:=rfl
theorem v4_2(a b c d:Int):(#v[a,b,c,d]:Vector Int 4).toList[((2:Int).toNat)]? = some c:=rfl
theorem v4_3(a b c d:Int):(#v[a,b,c,d]:Vector Int 4).toList[((3:Int).toNat)]? = some d:=rfl
theorem w4_0(a b c d x:Int):(#v[a,b,c,d]:Vector Int 4).setIfInBounds ((0:Int).toNat) x=#v[x,b,c,d]:=rfl
theorem w4_1(a b c d x:Int):(#v[a,b,c,d]:Vector Int 4).setIfInBounds ((1:Int).toNat) x=#v[a,x,c,d]:=rfl
theorem w4_2(a b c d x:Int):(#v[a,b,c,d]:Vector Int 4).setIfInBounds ((2:Int).toNat) x=#v[a,b,x,d]:=rfl
theorem w4_3(a b c d x:Int):(#v[a,b,c,d]:Vector Int 4).setIfInBounds ((3:Int).toNat) x=#v[a,b,c,x]:=rfl
theorem aUA : aO 0 4=some ():=rfl
theorem aT4 : aO 1 4=some ():=rfl
theorem aUS : aO 2 4=some ():=rfl
theorem aUh : aO 3 4=some ():=rfl
theorem ix4_0(a b c d:Int):idx (#v[a,b,c,d]:Vector Int 4).toList 0=some a:=rfl
theorem ix4_1(a b c d:Int):idx (#v[a,b,c,d]:Vector Int 4).toList 1=some b:=rfl
theorem ix4_2(a b c d:Int):idx (#v[a,b,c,d]:Vector Int 4).toList 2=some c:=rfl
theorem ix4_3(a b c d:Int):idx (#v[a,b,c,d]:Vector Int 4).toList 3=some d:=rfl
def qr(a b c d:Int):Vector Int 4:=
 let a1:=U32 (a+b)
 let d1:=trn (fG .u32 d a1) 16
 let c1:=U32 (c+d1)
 let b1:=trn (fG .u32 b c1) 12
 let a2:=U32 (a1+b1)
 let d2:=trn (fG .u32 d1 a2) 8
 let c2:=U32 (c1+d2)
 let b2:=trn (fG .u32 b1 c2) 7
 #v[a2,b2,c2,d2]
theorem aWR(N:Nat)(a b c d:Int):nD N #v[a,b,c,d]=some (qr a b c d):=by
 unfold nD;rw[ix4_0,aa,ix4_1,aa,ix4_2,aa,ix4_3,aa,aB,(rotE N _).1,aa,aB,(rotE N _).2.1,aa,aB,(rotE N _).2.2.1,aa,aB,(rotE N _).2.2.2,aa]
 rfl
theorem aVb(N:Nat)(a b c d:Int):oM N #v[a,b,c,d]=some (qr a b c d):=by
 unfold oM;simp only[aUA,aT4,aUS,aUh,v4_0,v4_1,v4_2,v4_3,w4_0,w4_1,w4_2,w4_3,aa,(aN7 N _).1,(aN7 N _).2.1,(aN7 N _).2.2.1,(aN7 N _).2.2.2]
 rfl
theorem aFd(N k:Nat)(s:Vector Int 16){i:Nat}{p0 p1 p2 p3:Int}(hi:i < 8)(ht:idx (#v[#v[0,4,8,12],#v[1,5,9,13],#v[2,6,10,14],#v[3,7,11,15],#v[0,5,10,15],#v[1,6,11,12],#v[2,7,8,13],#v[3,4,9,14]]:Vector (Vector Int 4) 8).toList (i:Int)=some #v[p0,p1,p2,p3]) :
  aV N (k+1) s (i:Int)=ae (bA N s p0 p1 p2 p3) λr=>aV N k r ((i+1:Nat):Int):=by
 rw[aV,dt,cond_true,ht,aa,cI]
 unfold bA;simp only[aUA,aT4,aUS,aUh,v4_0,v4_1,v4_2,v4_3,aa,ez,aWR,aVb]
theorem sC0(N k:Nat)(s:Vector Int 16):aV N (k+1) s 0=ae (bA N s 0 4 8 12) λr=>aV N k r 1:=aFd N k s (i:=0) (by decide) rfl
theorem sC1(N k:Nat)(s:Vector Int 16):aV N (k+1) s 1=ae (bA N s 1 5 9 13) λr=>aV N k r 2:=aFd N k s (i:=1) (by decide) rfl
theorem sC2(N k:Nat)(s:Vector Int 16):aV N (k+1) s 2=ae (bA N s 2 6 10 14) λr=>aV N k r 3:=aFd N k s (i:=2) (by decide) rfl
theorem sC3(N k:Nat)(s:Vector Int 16):aV N (k+1) s 3=ae (bA N s 3 7 11 15) λr=>aV N k r 4:=aFd N k s (i:=3) (by decide) rfl
theorem sC4(N k:Nat)(s:Vector Int 16):aV N (k+1) s 4=ae (bA N s 0 5 10 15) λr=>aV N k r 5:=aFd N k s (i:=4) (by decide) rfl
theorem sC5(N k:Nat)(s:Vector Int 16):aV N (k+1) s 5=ae (bA N s 1 6 11 12) λr=>aV N k r 6:=aFd N k s (i:=5) (by decide) rfl
theorem sC6(N k:Nat)(s:Vector Int 16):aV N (k+1) s 6=ae (bA N s 2 7 8 13) λr=>aV N k r 7:=aFd N k s (i:=6) (by decide) rfl
theorem sC7(N k:Nat)(s:Vector Int 16):aV N (k+1) s 7=ae (bA N s 3 4 9 14) λr=>aV N k r 8:=aFd N k s (i:=7) (by decide) rfl
theorem sC8(N k:Nat)(s:Vector Int 16):aV N (k+1) s 8=some s:=by rw[aV,df (by decide),cond_false]
theorem sR0(N k:Nat)(s:Vector Int 16):bE N (k+1) s 0=ae (bA N s 0 4 8 12) λr=>bE N k r 1:=by
 rw[bE,dt (by decide),cond_true]
 rfl
theorem sR1(N k:Nat)(s:Vector Int 16):bE N (k+1) s 1=ae (bA N s 1 5 9 13) λr=>bE N k r 2:=by
 rw[bE,dt (by decide),cond_true]
 rfl
theorem sR2(N k:Nat)(s:Vector Int 16):bE N (k+1) s 2=ae (bA N s 2 6 10 14) λr=>bE N k r 3:=by
 rw[bE,dt (by decide),cond_true]
 rfl
theorem sR3(N k:Nat)(s:Vector Int 16):bE N (k+1) s 3=ae (bA N s 3 7 11 15) λr=>bE N k r 4:=by
 rw[bE,dt (by decide),cond_true]
 rfl
theorem sR4(N k:Nat)(s:Vector Int 16):bE N (k+1) s 4=some s:=by rw[bE,df (by decide),cond_false]
theorem sT0(N k:Nat)(s:Vector Int 16):bD N (k+1) s 0=ae (bA N s 0 5 10 15) λr=>bD N k r 1:=by
 rw[bD,dt (by decide),cond_true]
 rfl
theorem sT1(N k:Nat)(s:Vector Int 16):bD N (k+1) s 1=ae (bA N s 1 6 11 12) λr=>bD N k r 2:=by
 rw[bD,dt (by decide),cond_true]
 rfl
theorem sT2(N k:Nat)(s:Vector Int 16):bD N (k+1) s 2=ae (bA N s 2 7 8 13) λr=>bD N k r 3:=by
 rw[bD,dt (by decide),cond_true]
 rfl
theorem sT3(N k:Nat)(s:Vector Int 16):bD N (k+1) s 3=ae (bA N s 3 4 9 14) λr=>bD N k r 4:=by
 rw[bD,dt (by decide),cond_true]
 rfl
theorem sT4(N k:Nat)(s:Vector Int 16):bD N (k+1) s 4=some s:=by rw[bD,df (by decide),cond_false]
theorem aVY(N:Nat)(hN:20 < N)(s:Vector Int 16):aV N N s 0=ae (bE N N s 0) λp=>bD N N p 0:=by
 obtain⟨k,hk⟩:∃k,N=k+8+1:=⟨N - 9,by omega⟩
 have a:∀s,aV N (k+8+1) s 0=ae (bE N (k+8+1) s 0) λp=>bD N (k+8+1) p 0:=by
  intro s;rw[sC0,sR0]
  simp only[ez]
  congr 1;funext s;rw[show k+8=k+7+1 from rfl,sC1,sR1]
  simp only[ez]
  congr 1;funext s;rw[show k+7=k+6+1 from rfl,sC2,sR2]
  simp only[ez]
  congr 1;funext s;rw[show k+6=k+5+1 from rfl,sC3,sR3]
  simp only[ez]
  congr 1;funext s;rw[show k+5=k+4+1 from rfl,sR4,aa,sC4,sT0]
  congr 1;funext s;rw[show k+4=k+3+1 from rfl,sC5,sT1]
  congr 1;funext s;rw[show k+3=k+2+1 from rfl,sC6,sT2]
  congr 1;funext s;rw[show k+2=k+1+1 from rfl,sC7,sT3]
  refine congrArg _ (funext λs=>?_)
  rw[sC8,sT4]
 have:=a s;rw[<- hk] at this;exact this
theorem aOJ(N:Nat)(hN:20 < N):∀(k:Nat) (s:Vector Int 16) (i:Int),fH N k s i=lG N k s i
 | 0,_,_=>rfl
 | k+1,s,i=>by
  rw[fH,lG,aVY N hN]
  cases decide (i < 10) with
  | false=>rfl
  | true=>
   rw[cond_true,cond_true,ez]
   refine congrArg _ (funext λp=>congrArg _ (funext λq=>?_))
   exact aOJ N hN k q _
theorem or4{a b:Int}(m:Nat)(hm:m<=24)(ha:0<=a/\a < ((2 ^ m:Nat):Int))(hb:isB b):bor .u32 a (shl .u32 (U32 b) (m:Int))=a+b*((2 ^ m:Nat):Int):=by
 unfold isB at hb;have le:2 ^ m<=2 ^ 24:=Nat.pow_le_pow_right (by decide) hm;have c24:2 ^ 24=16777216:=by decide
 have pe:(2:Int) ^ m=((2 ^ m:Nat):Int):=by rw[Int.natCast_pow];rfl
 have ub:U32 b=b:=aC8;rw[ub,aGH b _ m rfl (by omega),pe]
 have mb:=aNi (n:=b.toNat) (B:=255) (C:=16777216) (by omega) (by decide) (x:=((2 ^ m:Nat):Int))
 rw[dz hb.1] at mb;have q:(b.toNat:Int)=b:=dz hb.1;have q2:b*((2 ^ m:Nat):Int)=((2 ^ m*b.toNat:Nat):Int):=by rw[Int.natCast_mul,q,Int.mul_comm]
 rw[j6 mb.1 (by omega),aJA,aCC m ⟨mb.1,by omega⟩ ha.1 ha.2 (by omega) ⟨b.toNat,?_⟩]
 ·omega
 ·rw[q2,bu]
theorem numC4(N:Nat){a b c d:Int}{t:List Int}(ha:isB a)(hb:isB b)(hc:isB c)(hd:isB d):kX N (a :: b :: c :: d :: t)=some (leV [a,b,c,d]):=by
 have ua:U32 a=a:=by unfold isB at ha;exact aC8
 unfold kX;rw[show idx (a :: b :: c :: d :: t) 0=some a from rfl,aa,show idx (a :: b :: c :: d :: t) 1=some b from rfl,aa,aB,show idx (a :: b :: c :: d :: t) 2=some c from rfl,aa,aB,show idx (a :: b :: c :: d :: t) 3=some d from rfl,aa,aB]
 unfold isB at ha;have h1:=or4 (a:=a) (b:=b) 8 (by decide) ⟨ha.1,ha.2⟩ hb;have e8:((8:Nat):Int)=8:=rfl;have p8:((2 ^ 8:Nat):Int)=256:=by decide
 rw[e8,p8] at h1;rw[ua,h1]
 have hb':=hb;have hc':=hc;unfold isB at hb' hc';have p16:((2 ^ 16:Nat):Int)=65536:=by decide
 have h2:=or4 (a:=a+b*256) (b:=c) 16 (by decide) (by rw[p16];omega) hc;rw[show((16:Nat):Int)=16 from rfl,p16] at h2;rw[h2]
 have p24:((2 ^ 24:Nat):Int)=16777216:=by decide
 have h3:=or4 (a:=a+b*256+c*65536) (b:=d) 24 (by decide) (by rw[p24];omega) hd;rw[show((24:Nat):Int)=24 from rfl,p24] at h3;rw[h3]
 congr 1;simp only[leV]
 omega
theorem numR4(N:Nat)(hN:10 < N){a b c d:Int}(ha:isB a)(hb:isB b)(hc:isB c)(hd:isB d):iJ N [a,b,c,d]=some (leV [a,b,c,d]):=by
 obtain⟨k,rfl⟩:∃k,N=k+5:=⟨N - 5,by omega⟩
 unfold isB at *;unfold iJ;rw[dJ,dt (by decide),cond_true,show idx [a,b,c,d] 3=some d from rfl,aa,aB,show I64 (3 - 1)=2 from by decide]
 rw[dJ,dt (by decide),cond_true,show idx [a,b,c,d] 2=some c from rfl,aa,aB,show I64 (2 - 1)=1 from by decide]
 rw[dJ,dt (by decide),cond_true,show idx [a,b,c,d] 1=some b from rfl,aa,aB,show I64 (1 - 1)=0 from by decide]
 rw[dJ,dt (by decide),cond_true,show idx [a,b,c,d] 0=some a from rfl,aa,aB,show I64 (0 - 1) = -1 from by decide]
 rw[dJ,df (by decide),cond_false,aa]
 have u:∀{x:Int},0<=x/\x < 4294967296->U32 x=x:=λh=>aC8 h.1 h.2;rw[u (x:=0*256) (by omega),u (x:=d) (by omega),u (x:=0*256+d) (by omega),u (x:=(0*256+d)*256) (by omega),u (x:=c) (by omega),u (x:=(0*256+d)*256+c) (by omega),u (x:=((0*256+d)*256+c)*256) (by omega),u (x:=b) (by omega),u (x:=((0*256+d)*256+c)*256+b) (by omega),u (x:=(((0*256+d)*256+c)*256+b)*256) (by omega),u (x:=a) (by omega),u (by omega)]
 congr 1;simp only[leV]
 omega
def kw(l:List Int)(i:Nat):Int:=leV ((l.drop (4*i)).take 4)
theorem four(l:List Int)(h:4<=l.length):∃a b c d t,l=a :: b :: c :: d :: t:=by
 match l with
 | a :: b :: c :: d :: t=>exact⟨a,b,c,d,t,rfl⟩
 | []=>simp at h
 | [_]=>simp at h
 | [_,_]=>simp at h
 | [_,_,_]=>simp at h
theorem kwC(N:Nat)(hN:10 < N){l:List Int}(hb:aS l){i:Nat}(hi:4*i+4<=l.length:=by omega):kX N (l.drop (4*i))=some (kw l i)/\iJ N ((l.drop (4*i)).take 4)=some (kw l i):=by
 obtain⟨a,b,c,d,t,e⟩:=four (l.drop (4*i)) (by rw[cd];omega)
 have hx:∀x∈a :: b :: c :: d :: t,isB x:=λx hx=>hb x (List.mem_of_mem_drop (by rw[e];exact hx))
 have ha:=hx a (by simp)
 have h2:=hx b (by simp)
 have h3:=hx c (by simp)
 have h4:=hx d (by simp)
 unfold kw;rw[e]
 exact⟨numC4 N ha h2 h3 h4,numR4 N hN ha h2 h3 h4⟩
theorem stC(N:Nat)(hN:10 < N){key:Vector Int 32}(hk:aS key.toList)(k:Nat)(s:Vector Int 16){i:Nat}(hi:i < 8:=by decide):dD N key (k+1) s (i:Int)=dD N key k (s.setIfInBounds (4+i) (kw key.toList i)) ((i+1:Nat):Int):=by
 have kl:key.toList.length=32:=by simp
 have e4:I64 (4*(i:Int))=((4*i:Nat):Int):=by rw[aT];omega
 have e5:I64 (4+(i:Int))=((4+i:Nat):Int):=by rw[aT];omega
 have sl:dM key.toList ((4*i:Nat):Int) 32=some (key.toList.drop (4*i)):=by
  rw[pE,show(32:Int).toNat=32 from rfl,aq (by omega)];rfl
 have ti:((4+i:Nat):Int).toNat=4+i:=rfl;rw[dD,dt,cond_true,e4,e5,sl,aa,(kwC N hN hk (i:=i)).1,aa,bR,aa,ti,wU s,aa,cI]
theorem stC2(N:Nat)(hN:10 < N){n:Vector Int 12}(hk:aS n.toList)(k:Nat)(s:Vector Int 16){i:Nat}(hi:i < 3:=by decide):dF N n (k+1) s (i:Int)=dF N n k (s.setIfInBounds (13+i) (kw n.toList i)) ((i+1:Nat):Int):=by
 have kl:n.toList.length=12:=by simp
 have e4:I64 (4*(i:Int))=((4*i:Nat):Int):=by rw[aT];omega
 have e5:I64 (13+(i:Int))=((13+i:Nat):Int):=by rw[aT];omega
 have sl:dM n.toList ((4*i:Nat):Int) 12=some (n.toList.drop (4*i)):=by
  rw[pE,show(12:Int).toNat=12 from rfl,aq (by omega)];rfl
 have ti:((13+i:Nat):Int).toNat=13+i:=rfl;rw[dF,dt,cond_true,e4,e5,sl,aa,(kwC N hN hk (i:=i)).1,aa,bR,aa,ti,wU s,aa,cI]
theorem stR(N:Nat)(hN:10 < N){key:Vector Int 32}(hk:aS key.toList)(k:Nat)(s:Vector Int 16){i:Nat}(hi:i < 8:=by decide):dN N key (k+1) s (i:Int)=dN N key k (s.setIfInBounds (4+i) (kw key.toList i)) ((i+1:Nat):Int):=by
 have kl:key.toList.length=32:=by simp
 have e4:I64 (4*(i:Int))=((4*i:Nat):Int):=by rw[aT];omega
 have e6:I64 (((4*i:Nat):Int)+4)=((4*i+4:Nat):Int):=by rw[aT];omega
 have e5:I64 (4+(i:Int))=((4+i:Nat):Int):=by rw[aT];omega
 have sl:dM key.toList ((4*i:Nat):Int) ((4*i+4:Nat):Int)=some ((key.toList.drop (4*i)).take 4):=by
  rw[pE,bu,bu,ju,show 4*i+4 - 4*i=4 by omega]
 have ti:((4+i:Nat):Int).toNat=4+i:=rfl;rw[dN,dt,cond_true,e4,aB,e6,e5,sl,aa,(kwC N hN hk (i:=i)).2,aa,bR,aa,ti,wU s,aa,cI]
theorem stR2(N:Nat)(hN:10 < N){n:Vector Int 12}(hk:aS n.toList)(k:Nat)(s:Vector Int 16){i:Nat}(hi:i < 3:=by decide):dQ N n (k+1) s (i:Int)=dQ N n k (s.setIfInBounds (13+i) (kw n.toList i)) ((i+1:Nat):Int):=by
 have kl:n.toList.length=12:=by simp
 have e4:I64 (4*(i:Int))=((4*i:Nat):Int):=by rw[aT];omega
 have e6:I64 (((4*i:Nat):Int)+4)=((4*i+4:Nat):Int):=by rw[aT];omega
 have e5:I64 (13+(i:Int))=((13+i:Nat):Int):=by rw[aT];omega
 have sl:dM n.toList ((4*i:Nat):Int) ((4*i+4:Nat):Int)=some ((n.toList.drop (4*i)).take 4):=by
  rw[pE,bu,bu,ju,show 4*i+4 - 4*i=4 by omega]
 have ti:((13+i:Nat):Int).toNat=13+i:=rfl;rw[dQ,dt,cond_true,e4,aB,e6,e5,sl,aa,(kwC N hN hk (i:=i)).2,aa,bR,aa,ti,wU s,aa,cI]
theorem stR0(k N:Nat)(hN:N=k+20):nX N N (ah 16 0) 0=some #v[1634760805,857760878,2036477234,1797285236,0,0,0,0,0,0,0,0,0,0,0,0]:=by
 subst hN;rfl
theorem wa0(x0 x1 x2 x3 x4 x5 x6 x7 x8 x9 x10 x11 x12 x13 x14 x15 y:Int):(#v[x0,x1,x2,x3,x4,x5,x6,x7,x8,x9,x10,x11,x12,x13,x14,x15]:Vector Int 16).setIfInBounds (4+0) y=#v[x0,x1,x2,x3,y,x5,x6,x7,x8,x9,x10,x11,x12,x13,x14,x15]:=rfl
theorem wa1(x0 x1 x2 x3 x4 x5 x6 x7 x8 x9 x10 x11 x12 x13 x14 x15 y:Int):(#v[x0,x1,x2,x3,x4,x5,x6,x7,x8,x9,x10,x11,x12,x13,x14,x15]:Vector Int 16).setIfInBounds (4+1) y=#v[x0,x1,x2,x3,x4,y,x6,x7,x8,x9,x10,x11,x12,x13,x14,x15]:=rfl
theorem wa2(x0 x1 x2 x3 x4 x5 x6 x7 x8 x9 x10 x11 x12 x13 x14 x15 y:Int):(#v[x0,x1,x2,x3,x4,x5,x6,x7,x8,x9,x10,x11,x12,x13,x14,x15]:Vector Int 16).setIfInBounds (4+2) y=#v[x0,x1,x2,x3,x4,x5,y,x7,x8,x9,x10,x11,x12,x13,x14,x15]:=rfl
theorem wa3(x0 x1 x2 x3 x4 x5 x6 x7 x8 x9 x10 x11 x12 x13 x14 x15 y:Int):(#v[x0,x1,x2,x3,x4,x5,x6,x7,x8,x9,x10,x11,x12,x13,x14,x15]:Vector Int 16).setIfInBounds (4+3) y=#v[x0,x1,x2,x3,x4,x5,x6,y,x8,x9,x10,x11,x12,x13,x14,x15]:=rfl
theorem wa4(x0 x1 x2 x3 x4 x5 x6 x7 x8 x9 x10 x11 x12 x13 x14 x15 y:Int):(#v[x0,x1,x2,x3,x4,x5,x6,x7,x8,x9,x10,x11,x12,x13,x14,x15]:Vector Int 16).setIfInBounds (4+4) y=#v[x0,x1,x2,x3,x4,x5,x6,x7,y,x9,x10,x11,x12,x13,x14,x15]:=rfl
theorem wa5(x0 x1 x2 x3 x4 x5 x6 x7 x8 x9 x10 x11 x12 x13 x14 x15 y:Int):(#v[x0,x1,x2,x3,x4,x5,x6,x7,x8,x9,x10,x11,x12,x13,x14,x15]:Vector Int 16).setIfInBounds (4+5) y=#v[x0,x1,x2,x3,x4,x5,x6,x7,x8,y,x10,x11,x12,x13,x14,x15]:=rfl
theorem wa6(x0 x1 x2 x3 x4 x5 x6 x7 x8 x9 x10 x11 x12 x13 x14 x15 y:Int):(#v[x0,x1,x2,x3,x4,x5,x6,x7,x8,x9,x10,x11,x12,x13,x14,x15]:Vector Int 16).setIfInBounds (4+6) y=#v[x0,x1,x2,x3,x4,x5,x6,x7,x8,x9,y,x11,x12,x13,x14,x15]:=rfl
theorem wa7(x0 x1 x2 x3 x4 x5 x6 x7 x8 x9 x10 x11 x12 x13 x14 x15 y:Int):(#v[x0,x1,x2,x3,x4,x5,x6,x7,x8,x9,x10,x11,x12,x13,x14,x15]:Vector Int 16).setIfInBounds (4+7) y=#v[x0,x1,x2,x3,x4,x5,x6,x7,x8,x9,x10,y,x12,x13,x14,x15]:=rfl
theorem wb(x0 x1 x2 x3 x4 x5 x6 x7 x8 x9 x10 x11 x12 x13 x14 x15 y:Int):(#v[x0,x1,x2,x3,x4,x5,x6,x7,x8,x9,x10,x11,x12,x13,x14,x15]:Vector Int 16).setIfInBounds (12) y=#v[x0,x1,x2,x3,x4,x5,x6,x7,x8,x9,x10,x11,y,x13,x14,x15]:=rfl
theorem wc0(x0 x1 x2 x3 x4 x5 x6 x7 x8 x9 x10 x11 x12 x13 x14 x15 y:Int):(#v[x0,x1,x2,x3,x4,x5,x6,x7,x8,x9,x10,x11,x12,x13,x14,x15]:Vector Int 16).setIfInBounds (13+0) y=#v[x0,x1,x2,x3,x4,x5,x6,x7,x8,x9,x10,x11,x12,y,x14,x15]:=rfl
theorem wc1(x0 x1 x2 x3 x4 x5 x6 x7 x8 x9 x10 x11 x12 x13 x14 x15 y:Int):(#v[x0,x1,x2,x3,x4,x5,x6,x7,x8,x9,x10,x11,x12,x13,x14,x15]:Vector Int 16).setIfInBounds (13+1) y=#v[x0,x1,x2,x3,x4,x5,x6,x7,x8,x9,x10,x11,x12,x13,y,x15]:=rfl
theorem wc2(x0 x1 x2 x3 x4 x5 x6 x7 x8 x9 x10 x11 x12 x13 x14 x15 y:Int):(#v[x0,x1,x2,x3,x4,x5,x6,x7,x8,x9,x10,x11,x12,x13,x14,x15]:Vector Int 16).setIfInBounds (13+2) y=#v[x0,x1,x2,x3,x4,x5,x6,x7,x8,x9,x10,x11,x12,x13,x14,y]:=rfl
theorem asmC(c k0 k1 k2 k3 k4 k5 k6 k7 n0 n1 n2:Int):((((((((((((#v[1634760805,857760878,2036477234,1797285236,0,0,0,0,0,0,0,0,c,0,0,0]).setIfInBounds (4+0) k0).setIfInBounds (4+1) k1).setIfInBounds (4+2) k2).setIfInBounds (4+3) k3).setIfInBounds (4+4) k4).setIfInBounds (4+5) k5).setIfInBounds (4+6) k6).setIfInBounds (4+7) k7).setIfInBounds (13+0) n0).setIfInBounds (13+1) n1).setIfInBounds (13+2) n2:Vector Int 16)=#v[1634760805,857760878,2036477234,1797285236,k0,k1,k2,k3,k4,k5,k6,k7,c,n0,n1,n2]:=by rw[wa0,wa1,wa2,wa3,wa4,wa5,wa6,wa7,wc0,wc1,wc2]
theorem asmR(c k0 k1 k2 k3 k4 k5 k6 k7 n0 n1 n2:Int):(((((((((((((#v[1634760805,857760878,2036477234,1797285236,0,0,0,0,0,0,0,0,0,0,0,0]).setIfInBounds (4+0) k0).setIfInBounds (4+1) k1).setIfInBounds (4+2) k2).setIfInBounds (4+3) k3).setIfInBounds (4+4) k4).setIfInBounds (4+5) k5).setIfInBounds (4+6) k6).setIfInBounds (4+7) k7).setIfInBounds 12 c).setIfInBounds (13+0) n0).setIfInBounds (13+1) n1).setIfInBounds (13+2) n2:Vector Int 16)=#v[1634760805,857760878,2036477234,1797285236,k0,k1,k2,k3,k4,k5,k6,k7,c,n0,n1,n2]:=by rw[wa0,wa1,wa2,wa3,wa4,wa5,wa6,wa7,wb,wc0,wc1,wc2]
theorem aQo(N:Nat)(hN:30 < N){key:Vector Int 32}(hk:aS key.toList){n:Vector Int 12}(hn:aS n.toList)(c:Int):∃s,pX N key c n=some s/\nJ N key c n=some s:=by
 obtain⟨kk,hK⟩:∃kk,N=kk+20:=⟨N - 20,by omega⟩
 have z:((0:Nat):Int)=0:=rfl;have c8:∀s,dD N key (kk+20) s 0=some (((((((((s.setIfInBounds (4+0) (kw key.toList 0)).setIfInBounds (4+1) (kw key.toList 1)).setIfInBounds (4+2) (kw key.toList 2)).setIfInBounds (4+3) (kw key.toList 3)).setIfInBounds (4+4) (kw key.toList 4)).setIfInBounds (4+5) (kw key.toList 5)).setIfInBounds (4+6) (kw key.toList 6)).setIfInBounds (4+7) (kw key.toList 7))):=by
  intro s;rw[<- z,stC N (by omega) hk (kk+19) s,stC N (by omega) hk (kk+18) _,stC N (by omega) hk (kk+17) _,stC N (by omega) hk (kk+16) _,stC N (by omega) hk (kk+15) _,stC N (by omega) hk (kk+14) _,stC N (by omega) hk (kk+13) _,stC N (by omega) hk (kk+12) _,dD,df (by decide),cond_false]
 have r8:∀s,dN N key (kk+20) s 0=some (((((((((s.setIfInBounds (4+0) (kw key.toList 0)).setIfInBounds (4+1) (kw key.toList 1)).setIfInBounds (4+2) (kw key.toList 2)).setIfInBounds (4+3) (kw key.toList 3)).setIfInBounds (4+4) (kw key.toList 4)).setIfInBounds (4+5) (kw key.toList 5)).setIfInBounds (4+6) (kw key.toList 6)).setIfInBounds (4+7) (kw key.toList 7))):=by
  intro s;rw[<- z,stR N (by omega) hk (kk+19) s,stR N (by omega) hk (kk+18) _,stR N (by omega) hk (kk+17) _,stR N (by omega) hk (kk+16) _,stR N (by omega) hk (kk+15) _,stR N (by omega) hk (kk+14) _,stR N (by omega) hk (kk+13) _,stR N (by omega) hk (kk+12) _,dN,df (by decide),cond_false]
 have c3:∀s,dF N n (kk+20) s 0=some (((s.setIfInBounds (13+0) (kw n.toList 0)).setIfInBounds (13+1) (kw n.toList 1)).setIfInBounds (13+2) (kw n.toList 2)):=by
  intro s;rw[<- z,stC2 N (by omega) hn (kk+19) s,stC2 N (by omega) hn (kk+18) _,stC2 N (by omega) hn (kk+17) _,dF,df (by decide),cond_false]
 have r3:∀s,dQ N n (kk+20) s 0=some (((s.setIfInBounds (13+0) (kw n.toList 0)).setIfInBounds (13+1) (kw n.toList 1)).setIfInBounds (13+2) (kw n.toList 2)):=by
  intro s;rw[<- z,stR2 N (by omega) hn (kk+19) s,stR2 N (by omega) hn (kk+18) _,stR2 N (by omega) hn (kk+17) _,dQ,df (by decide),cond_false]
 rw[<- hK] at c8 r8 c3 r3;unfold pX nJ;rw[stR0 kk N hK,aa,c8,aa,c3,aa,r8,aa,show aO 12 16=some () from rfl,aa,show(12:Int).toNat=12 from rfl,wU _ (by decide),aa,r3,aa]
 generalize kw key.toList 0=k0;generalize kw key.toList 1=k1;generalize kw key.toList 2=k2;generalize kw key.toList 3=k3;generalize kw key.toList 4=k4;generalize kw key.toList 5=k5;generalize kw key.toList 6=k6;generalize kw key.toList 7=k7;generalize kw n.toList 0=n0;generalize kw n.toList 1=n1;generalize kw n.toList 2=n2;exact⟨_,congrArg some (asmC c k0 k1 k2 k3 k4 k5 k6 k7 n0 n1 n2),congrArg some (asmR c k0 k1 k2 k3 k4 k5 k6 k7 n0 n1 n2)⟩
def ob(p r:Vector Int 16)(j:Nat):Int:=U8 (shr .u32 (U32 (vg p (j / 4)+vg r (j / 4))) ((8*(j % 4):Nat):Int))
def ObI(p r:Vector Int 16)(i:Nat)(v:Vector Int 64):Prop:=∀j,j < 64->v.toList[j]? = some (if j < i then ob p r j else 0)
theorem aHv(v:Vector Int 64){j:Nat}(h:j < 64:=by omega):∃x,v.toList[j]? = some x:=⟨_,af (by simp;omega)⟩
theorem aK0{p r:Vector Int 16}{i:Nat}{v:Vector Int 64}(h:ObI p r i v)(hi:i < 64){x:Int}(hx:x=ob p r i):ObI p r (i+1) (v.setIfInBounds i x):=by
 intro j hj;rw[bo,cp]
 by_cases c:i=j
 ·subst c;rw[if_pos rfl,if_pos (by simp;omega),if_pos (by omega),hx]
 ·rw[if_neg c,h j hj]
  by_cases c2:j < i
  ·rw[if_pos c2,if_pos (by omega)]
  ·rw[if_neg c2,if_neg (by omega)]
theorem shr00(x:Int):shr .u32 x 0=x:=by rw[show(0:Int)=((0:Nat):Int) from rfl,zR .u32 x _ 0 rfl];exact ka x
theorem obC(N:Nat)(hN:80 < N)(p r:Vector Int 16):T (eD N p r N (ah 64 0) 0) (ObI p r 64):=by
 refine T.loop0 (n:=16) (by decide) (λi v=>ObI p r (4*i) v) (F:=eD N p r) (λk s i hi hs Q hk=>?_) (λk s=>by rw[eD,df,cond_false]) (by omega) (λj hj=>?_)
 ·have e4:I64 (4*(i:Int))=((4*i:Nat):Int):=by rw[aT];omega
  have e1:I64 (((4*i:Nat):Int)+1)=((4*i+1:Nat):Int):=by rw[aT];omega
  have e2:I64 (((4*i:Nat):Int)+2)=((4*i+2:Nat):Int):=by rw[aT];omega
  have e3:I64 (((4*i:Nat):Int)+3)=((4*i+3:Nat):Int):=by rw[aT];omega
  have t:∀n:Nat,((n:Nat):Int).toNat=n:=λn=>rfl;rw[eD,dt,cond_true,lE,wU p hi,aa,bR (i:=(i:Int)),aa,t,wU r hi,aa,e4,aB,e1,aB,e2,aB,e3,aB,aB,aB,cI]
  obtain⟨x0,h0⟩:=aHv s (j:=4*i)
  rw[bR (i:=((4*i:Nat):Int)),aa,t,h0,aa]
  have s1:=aK0 hs (x:=U8 (U32 (vg p i+vg r i))) (by omega) (by unfold ob;rw[show 4*i / 4=i by omega,show 4*i % 4=0 by omega];rw[show((8*0:Nat):Int)=0 from rfl,shr00])
  obtain⟨x1,h1⟩:=aHv (s.setIfInBounds (4*i) (U8 (U32 (vg p i+vg r i)))) (j:=4*i+1)
  rw[bR (i:=((4*i+1:Nat):Int)),aa,t,h1,aa]
  have s2:=aK0 s1 (x:=U8 (shr .u32 (U32 (vg p i+vg r i)) 8)) (by omega) (by unfold ob;rw[show(4*i+1) / 4=i by omega,show(4*i+1) % 4=1 by omega];rfl)
  obtain⟨x2,h2⟩:=aHv ((s.setIfInBounds (4*i) (U8 (U32 (vg p i+vg r i)))).setIfInBounds (4*i+1) (U8 (shr .u32 (U32 (vg p i+vg r i)) 8))) (j:=4*i+2)
  rw[bR (i:=((4*i+2:Nat):Int)),aa,t,h2,aa]
  have s3:=aK0 s2 (x:=U8 (shr .u32 (U32 (vg p i+vg r i)) 16)) (by omega) (by unfold ob;rw[show(4*i+1+1) / 4=i by omega,show(4*i+1+1) % 4=2 by omega];rfl)
  obtain⟨x3,h3⟩:=aHv (((s.setIfInBounds (4*i) (U8 (U32 (vg p i+vg r i)))).setIfInBounds (4*i+1) (U8 (shr .u32 (U32 (vg p i+vg r i)) 8))).setIfInBounds (4*i+2) (U8 (shr .u32 (U32 (vg p i+vg r i)) 16))) (j:=4*i+3)
  rw[bR (i:=((4*i+3:Nat):Int)),aa,t,h3,aa]
  have s4:=aK0 s3 (x:=U8 (shr .u32 (U32 (vg p i+vg r i)) 24)) (by omega) (by unfold ob;rw[show(4*i+1+1+1) / 4=i by omega,show(4*i+1+1+1) % 4=3 by omega];rfl)
  exact hk _ s4
 ·have z:(ah 64 (0:Int)).toList=aj 64 0:=rfl;rw[z,cq,if_pos hj,if_neg (by omega)]
theorem obR(N:Nat)(hN:80 < N)(p r:Vector Int 16):T (fC N p r N (ah 64 0) 0) (ObI p r 64):=by
 refine T.loop0 (n:=64) (by decide) (λi v=>ObI p r i v) (F:=fC N p r) (λk s i hi hs Q hk=>?_) (λk s=>by rw[fC,df,cond_false]) (by omega) (λj hj=>?_)
 ·have td:de (i:Int) 4=((i / 4:Nat):Int):=by rw[da (by omega)];omega
  have tm:cj (i:Int) 4=((i % 4:Nat):Int):=by rw[cv (by omega)];omega
  have e1:I64 (((i / 4:Nat):Int))=((i / 4:Nat):Int):=aT;have e2:I64 (8*((i % 4:Nat):Int))=((8*(i % 4):Nat):Int):=by rw[aT];omega
  have t:∀n:Nat,((n:Nat):Int).toNat=n:=λn=>rfl;obtain⟨x0,h0⟩:=aHv s (j:=i) hi;rw[fC,dt,cond_true,td,tm,e1,bR (i:=((i / 4:Nat):Int)),aa,t,wU p,aa,aa,wU r,aa,aB,e2,jH .u32,aa,bR (i:=(i:Int)),aa,t,h0,aa,cI]
  exact hk _ (aK0 hs hi rfl)
 ·have z:(ah 64 (0:Int)).toList=aj 64 0:=rfl;rw[z,cq,if_pos hj,if_neg (by omega)]
theorem aPd(N:Nat)(hN:80 < N){key:Vector Int 32}(hk:aS key.toList){n:Vector Int 12}(hn:aS n.toList)(c:Int):kE N key c n=nO N key c n:=by
 obtain⟨s,e1,e2⟩:=aQo N (by omega) hk hn c;unfold kE nO;rw[e1,e2,aa,aa,aOJ N (by omega)]
 refine congrArg _ (funext λp=>?_)
 rw[aa]
 obtain⟨u,f1,g1⟩:=obC N hN p s;obtain⟨w,f2,g2⟩:=obR N hN p s;have:u=w:=by
  apply fb.1;apply cz;intro j;by_cases hj:j < 64
  ·rw[g1 j hj,g2 j hj]
  ·rw[ar (by simp;omega),ar (by simp;omega)]
 rw[f1,f2,this]
theorem aWS(N:Nat)(hN:80 < N){n i:Nat}(hn:n<=65536)(hi:i < n)(b:Vector Int 64){s:List Int}(hs:s.length<=65536):dC N (i:Int) (n:Int) b N s 0=some (s++b.toList.take (min 64 (n - i))):=by
 have bl:b.toList.length=64:=by simp
 have main:T (dC N (i:Int) (n:Int) b N s 0) (λr=>r=s++b.toList.take (min 64 (n - i))):=by
  refine T.loopG0 (n:=min 64 (n - i)) (λj r=>r=s++b.toList.take j) _ (F:=λk r j=>dC N (i:Int) (n:Int) b k r j) (λk r j hj hr hk=>?_) (λk r hr=>?_) (by omega) (s:=s)
  ·have e:I64 ((i:Int)+(j:Int))=((i+j:Nat):Int):=by rw[aT];omega
   have ti:((j:Nat):Int).toNat=j:=rfl;have g:b.toList[j]? = some b.toList[j]:=af (by omega)
   rw[dC,e,aB,dt (show((i+j:Nat):Int) < (n:Int) by omega),dt (show(j:Int) < 64 by omega),cond_true,aB,cond_true,bR,aa,ti,g,aa,dG (by rw[hr,ai,bj,cr];omega),aa,cI]
   refine hk _ ?_;rw[hr,dr (show j < b.toList.length by omega),an]
  ·rw[dC,aB]
   have c:(cond (decide (((min 64 (n - i):Nat):Int) < 64)) (decide (I64 ((i:Int)+((min 64 (n - i):Nat):Int)) < (n:Int))) false)=false:=by
    by_cases h:n - i < 64
    ·have e:I64 ((i:Int)+((min 64 (n - i):Nat):Int))=(n:Int):=by rw[aT];omega
     rw[e,dt,cond_true,df]
    ·rw[df,cond_false]
   rw[aB,c,cond_false]
   exact T.ret hr
 obtain⟨r,e,rfl⟩:=main;exact e
theorem aT5(N:Nat)(hN:80 < N){key:Vector Int 32}(hk:aS key.toList){nc:Vector Int 12}(hn:aS nc.toList){n:Nat}(hl:n<=65536):∀(k i:Nat) (s:List Int) (c:Int),s.length=min i n->i<=65600->jO N (n:Int) key nc k s c=jZ N (n:Int) key nc k s c (i:Int)
 | 0,_,_,_,_,_=>rfl
 | k+1,i,s,c,hs,hi=>by
  have im:lH (n:Int) 65536=(n:Int):=by unfold lH;split <;> omega
  rw[jO,jZ,aB,im]
  by_cases h:i < n
  ·have sl:s.length=i:=by omega
   rw[dt,dt,cond_true,cond_true,aPd N hN hk hn]
   refine congrArg _ (funext λb=>?_)
   have bl:b.toList.length=64:=by simp
   have e1:I64 ((n:Int) - (s.length:Int))=((n - i:Nat):Int):=by rw[aT];omega
   have e2:lH 64 ((n - i:Nat):Int)=((min 64 (n - i):Nat):Int):=by unfold lH;split <;> omega
   have e3:I64 ((i:Int)+64)=((i+64:Nat):Int):=by rw[aT];omega
   rw[aB,e1,e2,qW,aa,dG (by rw[bj];omega),aa,aWS N hN hl h b (by omega),aa,e3]
   exact aT5 N hN hk hn hl k (i+64) _ _ (by rw[ai,bj];omega) (by omega)
  ·rw[df,df,cond_false,cond_false]
theorem strmE(N:Nat)(hN:80 < N){key:Vector Int 32}(hk:aS key.toList){nc:Vector Int 12}(hn:aS nc.toList){n:Nat}(hl:n<=65536)(c:Int):kZ N key c nc (n:Int)=pC N key c nc (n:Int):=by
 unfold kZ pC;rw[df,cond_false,aa]
 have:=aT5 N hN hk hn hl N 0 [] c (by simp) (by omega)
 rw[show((0:Nat):Int)=0 from rfl] at this;rw[this]
theorem refX1(N:Nat)(hN:70000<=N){d st:List Int}(hs:st.length=d.length)(hl:d.length<=65536):eX N d st N [] 0=some (xT d st):=by
 have xl:(xT d st).length=d.length:=aHl hs;have xg:∀i (h:i < d.length),(xT d st)[i]? = some (fG .u8 d[i] (st[i]'(by omega))):=by
  intro i h;unfold xT;rw[List.getElem?_zipWith,af h,af (show i < st.length by omega)]
 have main:T (eX N d st N [] 0) (λr=>r=xT d st):=by
  refine T.loopG0 (n:=d.length) (λi r=>r=(xT d st).take i) _ (F:=λk r i=>eX N d st k r i) (λk r i hi hr hk=>?_) (λk r hr=>?_) (by omega) (s:=[])
  ·rw[eX,aB,dt,cond_true,lE,af hi,aa,lE,af (show i < st.length by omega),aa,dG (by rw[hr,bj,cr];omega),aa,cI]
   refine hk _ ?_;have g:=xg i hi;rw[af (by omega)] at g;rw[hr,dr (show i < (xT d st).length by omega),Option.some.inj g]
  ·rw[eX,aB,df,cond_false]
   exact T.ret (by rw[hr,aq (by omega)])
 obtain⟨r,e,rfl⟩:=main;exact e
theorem xorR(N:Nat)(hN:70000<=N){key:Vector Int 32}(hk:aS key.toList){n:Vector Int 12}(hn:aS n.toList){d:List Int}(hl:d.length<=65536):sU N key 1 n d=some (aBE N key n d):=by
 obtain⟨e1,e2⟩:=aMp N hN key n d.length hl;unfold sU;rw[aB,df,cond_false,aa,<- strmE N (by omega) hk hn hl,e1,aa,refX1 N hN e2 hl,aa]
 rfl
theorem aWZ(N:Nat)(hN:80 < N){key:Vector Int 32}(hk:aS key.toList){n:Vector Int 12}(hn:aS n.toList)(c:Int):∃v,kE N key c n=some v/\fJ v:=by
 obtain⟨v,hv,_⟩:=aLw N (by omega) key c n;refine⟨v,hv,?_⟩
 obtain⟨s,e1,e2⟩:=aQo N (by omega) hk hn c;unfold kE at hv;rw[e1,aa] at hv;cases hp:fH N N s 0 with
 | none=>rw[hp,Option.bind_none] at hv;cases hv
 | some p=>
  rw[hp,aa] at hv;obtain⟨u,f1,g1⟩:=obC N hN p s;rw[f1,aa] at hv;obtain rfl:=Option.some.inj hv;intro x hx;obtain⟨j,hj,rfl⟩:=lg hx;have hj':j < 64:=by simpa using hj
  have g:=g1 j hj';rw[if_pos hj',af hj] at g;rw[Option.some.inj g]
  exact aId _
theorem keyE(N:Nat)(hN:80 < N){key:Vector Int 32}(hk:aS key.toList){n:Vector Int 12}(hn:aS n.toList):∃k,vF N key n=some k/\sL N key n=some k/\fJ k:=by
 obtain⟨v,e1,hv⟩:=aWZ N hN hk hn 0;obtain⟨w,e2,hw⟩:=T.vec (n:=32) (l:=v.toList.take 32) (by simp)
 have hw':w.toList=v.toList.take 32:=by rw[hw,List.take_take];rfl
 have vl:v.toList.length=64:=by simp
 refine⟨w,?_,?_,?_⟩
 ·unfold vF;have hs:dM v.toList 0 32=some (v.toList.take 32):=qW (n:=32)
  rw[e1,aa,hs,aa,e2,aa]
 ·unfold sL;rw[<- aPd N hN hk hn,e1,aa]
  have main:T (iO N v N (ah 32 0) 0) (λu=>u=w):=by
   refine T.mono (T.loop0 (n:=32) (by decide) (λi (u:Vector Int 32)=>∀j,j < 32->u.toList[j]? = some (if j < i then v.toList.getD j 0 else 0)) (F:=iO N v) (λk s i hi hs Q hk=>?_) (λk s=>by rw[iO,df,cond_false]) (by omega) (λj hj=>?_)) λu hu=>?_
   ·have ti:((i:Nat):Int).toNat=i:=rfl;rw[iO,dt,cond_true,bR (i:=(i:Int)) (n:=64),aa,ti,iG,aa,bR,aa,hs i (by omega),aa,cI]
    refine hk _ λj hj=>?_;rw[bo,cp]
    by_cases c:i=j
    ·subst c;rw[if_pos rfl,if_pos (by simp;omega),if_pos (by omega)]
    ·rw[if_neg c,hs j hj]
     by_cases c3:j < i
     ·rw[if_pos c3,if_pos (by omega)]
     ·rw[if_neg c3,if_neg (by omega)]
   ·have z:(ah 32 (0:Int)).toList=aj 32 0:=rfl;rw[z,cq,if_pos hj,if_neg (by omega)]
   ·apply fb.1;apply cz;intro j;by_cases c1:j < 32
    ·rw[hu j c1,if_pos c1,hw',List.getElem?_take,if_pos c1,iG]
    ·rw[ar (by simp;omega),ar (by simp;omega)]
  obtain⟨u,f,rfl⟩:=main;rw[f,aa]
 ·unfold fJ;rw[hw']
  exact hv.take 32
def wL(l:List Int):List Int:=aj ((16 - l.length % 16) % 16) 0
theorem aLF(l:List Int):(l++wL l).length % 16=0:=by rw[ai,wL,kn];omega
theorem aGK(l:List Int):(wL l).length < 16:=by rw[wL,kn];omega
theorem aQB(l:List Int):aS (wL l):=λx hx=>by
 rw[(List.mem_replicate.1 hx).2];exact⟨by decide,by decide⟩
theorem aUN(N:Nat)(l:List Int)(hl:l.length<=1000000:=by omega):qQ N l=some (wL l):=by
 unfold qQ;have hx:cj ((l.length:Int)) 16=((l.length % 16:Nat):Int):=rfl;have e:I64 (16 - ((l.length % 16:Nat):Int))=((16 - l.length % 16:Nat):Int):=by rw[aT];omega
 have hy:cj ((16 - l.length % 16:Nat):Int) 16=(((16 - l.length % 16) % 16:Nat):Int):=rfl;rw[aB,hx,e,aB,hy,bu]
 have m1:mkO 1 (((16 - l.length % 16) % 16:Nat):Int)=some ():=by
  unfold mkO;rw[dt,dt,dt]
  rfl
 have m2:aF7 (aj ((16 - l.length % 16) % 16) (0:Int)) ((16 - l.length % 16) % 16)=some ():=by
  unfold aF7;rw[show((aj ((16 - l.length % 16) % 16) (0:Int)).length.beq ((16 - l.length % 16) % 16))=true by simp]
  rfl
 rw[m1,aa,m2,aa]
 rfl
theorem aV1{l:List Int}(h:0 < l.length % 16):wL l=0 :: wL (l++[0]):=by
 unfold wL;rw[ai,cr,<- j5]
 congr 1;omega
theorem aUO(N:Nat):∀(k:Nat) (l:List Int),l.length<=2000000->(wL l).length < k->kG N k l=some (l++wL l)
 | 0,_,_,h=>by omega
 | k+1,l,hl,h=>by
  have hx:cj ((l.length:Int)) 16=((l.length % 16:Nat):Int):=rfl;rw[kG,aB,hx]
  by_cases c:0 < l.length % 16
  ·have hp:=aV1 c;rw[dt,cond_true,dG (by rw[cr];omega),aa,aUO N k (l++[0]) ?_ ?_]
   ·rw[hp,an];rfl
   ·have:=aGK l;by_cases c2:l.length<=1999999
    ·rw[ai,cr];omega
    ·exfalso;omega
   ·rw[hp,List.length_cons] at h;omega
  ·rw[df,cond_false]
   have:wL l=[]:=by unfold wL;rw[show l.length % 16=0 by omega];rfl
   rw[this,dp]
theorem aTw(N:Nat)(hN:20 < N)(l:List Int)(hl:l.length<=1000000:=by omega):mL N l=some (l++wL l):=by
 unfold mL;rw[dG (by simp;omega),aa,dn,aUO N N l (by omega) (by have:=aGK l;omega),aa]
def aAe(n:Nat):List Int:=(bq 8).map λi=>((n / 256 ^ i % 256:Nat):Int)
theorem wK(n:Nat):(aAe n).length=8:=by simp[aAe]
theorem aP8(n:Nat):aS (aAe n):=λx hx=>by
 obtain⟨i,_,rfl⟩:=dh.1 hx;exact⟨by omega,by omega⟩
theorem aQF(N:Nat)(hN:20 < N:=by omega){n:Nat}(hn:n<=1000000:=by omega):kO N (n:Int)=some (aAe n):=by
 unfold kO;have main:T (cM N N [] (n:Int) 0) (λr=>r=aAe n):=by
  refine T.loopG0 (n:=8) (λi (s:List Int×Int)=>s.1=(aAe n).take i/\s.2=((n / 256 ^ i:Nat):Int)) _ (F:=λk s i=>cM N k s.1 s.2 i) (λk s i hi hr hk=>?_) (λk s hr=>?_) (by omega) (s:=([],(n:Int))) ⟨rfl,by simp⟩
  ·obtain⟨h1,h2⟩:=hr;have hle:n / 256 ^ i<=n:=Nat.div_le_self _ _;have h8:=wK n;have e1:(aAe n)[i]'(by omega)=((n / 256 ^ i % 256:Nat):Int):=by simp[aAe]
   have e2:n / 256 ^ (i+1)=n / 256 ^ i / 256:=by rw[Nat.div_div_eq_div_mul,<- Nat.pow_succ]
   generalize hq:n / 256 ^ i=q at *;have ht:cj (q:Int) 256=((q % 256:Nat):Int):=rfl;have hd:de (q:Int) 256=((q / 256:Nat):Int):=rfl;rw[cM,dt,cond_true,h2,ht,rF,dG (by rw[h1,bj,cr];omega),aa,hd,aT,cI]
   refine hk (_,_) ⟨?_,?_⟩
   ·show s.1++[_]=_;rw[h1,dr (show i < (aAe n).length by omega),e1]
   ·show((q / 256:Nat):Int)=_;rw[e2]
  ·rw[cM,df,cond_false]
   exact T.ret (by rw[hr.1,aq (by rw[wK];omega)])
 obtain⟨r,e,rfl⟩:=main;rw[e,aa]
theorem aJ7{n i:Nat}(hn:n<=1000000)(hi:i < 8):U8 (shr .i64 (n:Int) ((8*i:Nat):Int))=(aAe n).getD i 0:=by
 have e:(aAe n).getD i 0=((n / 256 ^ i % 256:Nat):Int):=by
  rw[ap,af (by rw[wK];omega)]
  simp[aAe]
 rw[e,zR .i64 _ _ (8*i) rfl (by show 8*i<=64;omega),aDC,Int.pow_mul]
 show((n:Int) / 256 ^ i) % 256=_;rw[show((256:Int) ^ i)=((256 ^ i:Nat):Int) by simp]
 rfl
theorem lensE(N:Nat)(hN:20 < N){a c:List Int}(ha:a.length<=1000000)(hc:c.length<=1000000):∃v,jV N a c N (ah 16 0) 0=some v/\v.toList=aAe a.length++aAe c.length:=by
 have la:=wK a.length;have lc:=wK c.length;refine T.mono (T.loop0 (n:=8) (by decide) (λi (v:Vector Int 16)=>∀j,j < 16->v.toList[j]? = some (if j < i then(aAe a.length).getD j 0 else if j < 8 then 0 else if j < 8+i then(aAe c.length).getD (j - 8) 0 else 0)) (F:=jV N a c) (λk s i hi hs Q hk=>?_) (λk s=>by rw[jV,df,cond_false]) (by omega) (λj hj=>?_)) λv hv=>?_
 ·have ti:((i:Nat):Int).toNat=i:=rfl;have ti8:((8+i:Nat):Int).toNat=8+i:=rfl;have hset:(s.setIfInBounds i ((aAe a.length).getD i 0)).toList[8+i]? = s.toList[8+i]? := by
   rw[bo,cp,if_neg (by omega)]
  rw[jV,dt,cond_true,show(8:Int)=((8:Nat):Int) from rfl,i4,ia,cI,jH .i64,aa,jH .i64,aa,aJ7 ha hi,aJ7 hc hi,bR,aa,ti,hs i (by omega),aa,bR,aa,ti8,hset,hs (8+i) (by omega),aa]
  refine hk _ λj hj=>?_;rw[bo,cp]
  by_cases c1:8+i=j
  ·subst c1;rw[if_pos rfl,if_pos (by simp;omega),if_neg (by omega),if_neg (by omega),if_pos (by omega),go]
  ·rw[if_neg c1,bo,cp]
   by_cases c2:i=j
   ·subst c2;rw[if_pos rfl,if_pos (by simp;omega),if_pos (by omega)]
   ·rw[if_neg c2,hs j hj]
    by_cases c3:j < i
    ·rw[if_pos c3,if_pos (by omega)]
    ·rw[if_neg c3,if_neg (show ¬j < i+1 by omega)]
     by_cases c4:j < 8
     ·rw[if_pos c4,if_pos c4]
     ·rw[if_neg c4,if_neg c4]
      by_cases c5:j < 8+i
      ·rw[if_pos c5,if_pos (show j < 8+(i+1) by omega)]
      ·rw[if_neg c5,if_neg (show ¬j < 8+(i+1) by omega)]
 ·have z:(ah 16 (0:Int)).toList=aj 16 0:=rfl;rw[z,cq,if_pos hj,if_neg (by omega)]
  by_cases c4:j < 8
  ·rw[if_pos c4]
  ·rw[if_neg c4,if_neg (by omega)]
 ·apply cz;intro j;by_cases c1:j < 16
  ·rw[hv j c1]
   by_cases c2:j < 8
   ·rw[if_pos c2,bx (by omega),iG]
   ·rw[if_neg c2,if_neg c2,if_pos (by omega),cf (by omega),la,iG]
  ·rw[ar (by simp;omega),ar (by rw[ai];omega)]
theorem macE(N:Nat)(hN:70000 < N){key:Vector Int 32}(hk:aS key.toList){n:Vector Int 12}(hn:aS n.toList){a c:List Int}(ha:aS a)(hc:aS c)(la:a.length<=20000)(lc:c.length<=20000):qA N key n a c=some (aF0 N key n a c):=by
 obtain⟨k,e1,e2,hkb⟩:=keyE N (by omega) hk hn;obtain⟨v,e3,hv⟩:=lensE N (by omega) (a:=a) (c:=c) (by omega) (by omega)
 have hs:dM v.toList 0 16=some v.toList:=aKA (m:=16) v;have pa:=aLF a;have pc:=aLF c;have qa:=aGK a;have qc:=aGK c;rw[ai] at pa pc;have la8:=wK a.length;have lc8:=wK c.length;have ef:[a,wL a,c,wL c,v.toList].flatten=(a++wL a)++(c++wL c)++aAe a.length++aAe c.length:=by
  rw[hv];simp[an]
 have el:[a,wL a,c,wL c,v.toList].flatten.length=16*((a.length+(wL a).length) / 16+(c.length+(wL c).length) / 16+1):=by
  rw[ef];simp only[ai,la8,lc8];omega
 have eb:aS [a,wL a,c,wL c,v.toList].flatten:=by
  rw[ef]
  exact(((ha.app (aQB a)).app (hc.app (aQB c))).app (aP8 _)).app (aP8 _)
 obtain⟨t,e4,e5⟩:=tagE N hN hkb (ms:=[a,wL a,c,wL c,v.toList]) (by simp) eb el (by omega)
 have em:rY N key n a c=some t:=by
  unfold rY;rw[e3,aa,e1,aa,aUN N a,aa,aUN N c,aa,hs,aa,e4,aa]
 have er:qA N key n a c=some t:=by
  unfold qA;rw[ef] at e5;rw[aTw N (by omega) a,aa,aTw N (by omega) c,aa,dG (by simp only[ai];omega),aa,aQF N,aa,dG (by simp only[ai];omega),aa,e2,aa,aQF N,aa,dG (by simp only[ai];omega),aa,e5,aa]
 have:=(macP N (by omega) key n a c).1;rw[em] at this;rw[er,this]
theorem nA(a b:Bool):cond a true b=(a||b):=by cases a <;> rfl
theorem wF{α:Type}(c:Bool)(x y:α):(cond c (some x) (some y))=some (cond c x y):=by cases c <;> rfl
theorem aQx(a b c m:Int):tA (tA a b) c > m↔a > m\/b > m\/c > m:=by unfold tA;split <;> split <;> omega
theorem aM4(a b c m:Int):lH (lH a b) c < m↔a < m\/b < m\/c < m:=by unfold lH;split <;> split <;> omega
theorem aWf(a b c m:Int):tA (tA a b) c>=m↔a>=m\/b>=m\/c>=m:=by unfold tA;split <;> split <;> omega
theorem aVS(a b m:Int):tA a b > m↔a > m\/b > m:=by unfold tA;split <;> omega
theorem aVc(a b m:Int):lH a b < m↔a < m\/b < m:=by unfold lH;split <;> omega
theorem dcg{p q:Prop}[Decidable p][Decidable q](h:p↔q:=by omega):decide p=decide q:=by simp[h]
theorem aQs{α:Type}(l:List α)(hl:l.length < 9223372036854775807)(q:α->Bool){F:Nat->Int->Option (Sum Unit Int)}
  (hstep:∀k i (h:i < l.length),F (k+1) (i:Int)=cond (q l[i]) (some (Sum.inr (i:Int))) (F k (I64 ((i:Int)+1)))) (hend:∀k,F (k+1) (l.length:Int)=some (Sum.inl ())) :
  ∀(k i:Nat),i<=l.length->l.length - i < k->(ae (ae (F k (i:Int)) λo=>mW o (λp1=>some (-1)) (λr=>some r)) λr1:Int=>some (decide (r1>=0)))=some ((l.drop i).any q)
 | 0,i,_,h=>by omega
 | k+1,i,hi,hk=>by
  by_cases h:i < l.length
  ·rw[hstep k i h,co h,iw]
   cases q l[i] with
   | true=>
    show some (decide ((i:Int)>=0))=some true;rw[dt]
   | false=>rw[cond_false,cI,aQs l hl q hstep hend k (i+1) (by omega) (by omega)];rfl
  ·obtain rfl:i=l.length:=by omega
   rw[hend,List.drop_length]
   rfl
theorem aDf{α:Type}(l:List α)(hl:l.length < 9223372036854775807)(q:α->Bool){F:Nat->Int->Option (Sum Unit Int)}
  (hstep:∀k i (h:i < l.length),F (k+1) (i:Int)=cond (q l[i]) (some (Sum.inr (i:Int))) (F k (I64 ((i:Int)+1)))) (hend:∀k,F (k+1) (l.length:Int)=some (Sum.inl ())) {N:Nat} (hN:l.length < N:=by omega) :
  (ae (ae (F N 0) λo=>mW o (λp1=>some (-1)) (λr=>some r)) λr1:Int=>some (decide (r1>=0)))=some (l.any q):=by
 have:=aQs l hl q hstep hend N 0 (by omega) (by omega)
 rwa[eu] at this
def aAU(p:aA):Bool:=decide ((p.gX > 4096\/p.gX < -4096)\/(p.gY > 4096\/p.gY < -4096)\/(p.gZ > 4096\/p.gZ < -4096))
theorem aT8(N:Nat)(p:aA):pU N p=some (aAU p):=by
 unfold pU;rw[aB,aB,wF,aa,nA,dcg (aQx _ _ _ _),dcg (aM4 _ _ _ _),<- bw]
 exact congrArg some (dcg)
theorem aR7(N:Nat)(p:aA):oE N p=some (aAU p):=aT8 N p
theorem offR(N:Nat)(p:aA):lJ N p 4096=some (aAU p):=by
 unfold lJ;rw[show I64 (0 - 4096) = -4096 from by decide]
 simp only[aB,nA,<- bw]
 exact congrArg some (dcg)
def uvX(v:Vector Int 2):Bool:=decide ((v[0] < 0\/v[0] > 65535)\/(v[1] < 0\/v[1] > 65535))
theorem pairE(N:Nat)(v:Vector Int 2):qB N v=some (uvX v):=by
 unfold qB;simp only[aQg,aRo,aa,aB,wF,nA]
 rw[dcg (aVc _ _ _),dcg (aVS _ _ _),<- bw]
 exact congrArg some (dcg)
def trX(n:Int)(v:Vector Int 3):Bool:=decide ((v[0] < 0\/v[0]>=n\/v[0]=v[1])\/(v[1] < 0\/v[1]>=n\/v[1]=v[2])\/(v[2] < 0\/v[2]>=n\/v[2]=v[0]))
theorem vT(a b:Int):(a==b)=decide (a=b):=by cases h:decide (a=b) <;> simp_all
theorem triE(N:Nat)(v:Vector Int 3)(m:aP):lZ N v m=some (trX (m.gF.length:Int) v):=by
 unfold lZ;simp only[aIC,aIJ,aIR,aa,aB,wF,nA,vT]
 rw[dcg (aM4 _ _ _ _),dcg (aWf _ _ _ _)]
 simp only[<- bw]
 exact congrArg some (dcg)
def aBQ(m:aP):Int:=
 if m.gF.length > 64\/m.gJ.length > 64 then 3 else if m.gF.length=0\/m.gJ.length=0\/m.gL.length≠m.gF.length then 5 else if m.gF.any aAU=true then 8 else if m.gL.any uvX=true\/m.gJ.any (trX (m.gF.length:Int))=true then 5 else 0
theorem cif{α:Type}{p:Prop}[Decidable p]{b:Bool}(h:b=true↔p)(x y:α):cond b x y=if p then x else y:=by
 cases b with
 | true=>rw[if_pos (h.1 rfl)];rfl
 | false=>rw[if_neg (λq=>by simpa using h.2 q)];rfl
theorem aGY(a b:Int):(a != b)=decide (a≠b):=by rw[bne,vT];simp
theorem aU4(N:Nat)(hN:1000 < N)(m:aP)(hu:m.gL.length<=500):lN N m=some (aBQ m):=by
 unfold lN aBQ;rw[aB,aB,aB]
 by_cases c1:m.gF.length > 64\/m.gJ.length > 64
 ·rw[if_pos c1,nA,<- bw,dt,cond_true]
 rw[if_neg c1,nA,<- bw,df,cond_false,aB,aB,aB,aB,aB]
 by_cases c2:m.gF.length=0\/m.gJ.length=0\/m.gL.length≠m.gF.length
 ·rw[if_pos c2,nA,nA,vT,vT,aGY,<- bw,<- bw,dt,cond_true]
 rw[if_neg c2,nA,nA,vT,vT,aGY,<- bw,<- bw,df,cond_false]
 unfold cA cR cS cD dE dI;rw[aDf m.gF (by omega) aAU (F:=aU N m.gF) (λk i h=>by rw[aU,aB,dt,cond_true,cQ h,aa,aT8,aa]) (λk=>by rw[aU,aB,df,cond_false]),aa]
 rw[aDf m.gL (by omega) uvX (F:=bC N m.gL) (λk i h=>by rw[bC,aB,dt,cond_true,cQ h,aa,pairE,aa]) (λk=>by rw[bC,aB,df,cond_false]),aa]
 rw[aDf m.gJ (by omega) (trX (m.gF.length:Int)) (F:=bB N m.gJ m) (λk i h=>by rw[bB,aB,dt,cond_true,cQ h,aa,triE,aa]) (λk=>by rw[bB,aB,df,cond_false]),aa]
 cases m.gF.any aAU <;> cases m.gL.any uvX <;> cases m.gJ.any (trX (m.gF.length:Int)) <;> rfl
theorem r13L3(N:Nat)(m:aP)(k:Nat){i:Nat}(h:i < m.gL.length):fD N m (i:Int) (k+3) 0=some (cond (uvX m.gL[i]) (Sum.inr 5) (Sum.inl ())):=by
 have e1:I64 (0+1)=1:=by decide
 have e2:I64 (1+1)=2:=by decide
 rw[fD,dt (by decide),cond_true,fD,e1,dt (by decide),cond_true,fD,e2,df (by decide),cond_false]
 simp only[cQ h,aa,aQg,aRo,wF,nA,<- bw]
 rw[show uvX m.gL[i]=(decide (m.gL[i][0] < 0\/m.gL[i][0] > 65535)||decide (m.gL[i][1] < 0\/m.gL[i][1] > 65535)) from by rw[<- bw];rfl]
 cases decide (m.gL[i][0] < 0\/m.gL[i][0] > 65535) <;> cases decide (m.gL[i][1] < 0\/m.gL[i][1] > 65535) <;> rfl
theorem r13L5(N:Nat)(m:aP)(k:Nat){i:Nat}(h:i < m.gJ.length):dR N m (i:Int) (k+4) 0=some (cond (trX (m.gF.length:Int) m.gJ[i]) (Sum.inr 5) (Sum.inl ())):=by
 have e1:I64 (0+1)=1:=by decide
 have e2:I64 (1+1)=2:=by decide
 have e3:I64 (2+1)=3:=by decide
 have f1:cj 1 3=1:=by decide
 have f2:cj 2 3=2:=by decide
 have f3:cj 3 3=0:=by decide
 rw[dR,dt (by decide),cond_true,dR,e1,dt (by decide),cond_true,dR,e2,dt (by decide),cond_true,dR,e3,df (by decide),cond_false]
 simp only[cQ h,aa,aB,f1,f2,f3,aIC,aIJ,aIR,wF,nA,vT,<- bw]
 generalize m.gJ[i]=v;rw[show trX (m.gF.length:Int) v=(decide (v[0] < 0\/v[0]>=(m.gF.length:Int)\/v[0]=v[1])||(decide (v[1] < 0\/v[1]>=(m.gF.length:Int)\/v[1]=v[2])||decide (v[2] < 0\/v[2]>=(m.gF.length:Int)\/v[2]=v[0]))) from by rw[<- bw,<- bw];rfl]
 cases decide (v[0] < 0\/v[0]>=(m.gF.length:Int)\/v[0]=v[1]) <;> cases decide (v[1] < 0\/v[1]>=(m.gF.length:Int)\/v[1]=v[2]) <;> cases decide (v[2] < 0\/v[2]>=(m.gF.length:Int)\/v[2]=v[0]) <;> rfl
theorem aRL(N:Nat)(hN:1000 < N)(m:aP)(hu:m.gL.length<=500):nR N m=some (aBQ m):=by
 unfold nR aBQ;rw[aB,aB,aB]
 by_cases c1:m.gF.length > 64\/m.gJ.length > 64
 ·rw[if_pos c1,nA,<- bw,dt,cond_true]
 rw[if_neg c1,nA,<- bw,df,cond_false,aB,aB,aB,aB,aB]
 by_cases c2:m.gF.length=0\/m.gJ.length=0\/m.gL.length≠m.gF.length
 ·rw[if_pos c2,nA,nA,aGY,<- bw,<- bw,dt,cond_true]
 rw[if_neg c2,nA,nA,aGY,<- bw,<- bw,df,cond_false]
 obtain⟨k,rfl⟩:∃k,N=k+4:=⟨N - 4,by omega⟩
 rw[yQ m.gF aAU 8 (jA (k+4) m) (by omega) (λk i h=>by rw[jA,aB,dt,cond_true,cQ h,aa,offR,aa]) (λk=>by rw[jA,aB,df,cond_false]),aa]
 rw[yQ m.gL uvX 5 (iZ (k+4) m) (by omega) (λj i h=>by
  rw[iZ,aB,dt,cond_true,r13L3 (k+4) m (k+1) h,aa];cases uvX m.gL[i] <;> rfl) (λk=>by rw[iZ,aB,df,cond_false]),aa]
 rw[yQ m.gJ (trX (m.gF.length:Int)) 5 (iW (k+4) m) (by omega) (λj i h=>by
  rw[iW,aB,dt,cond_true,r13L5 (k+4) m k h,aa];cases trX (m.gF.length:Int) m.gJ[i] <;> rfl) (λk=>by rw[iW,aB,df,cond_false]),aa]
 cases m.gF.any aAU <;> cases m.gL.any uvX <;> cases m.gJ.any (trX (m.gF.length:Int)) <;> rfl
theorem g3_0(v:Vector Int 3):v.toList[((0:Int).toNat)]? = some v[0]:=mG v 0
theorem g3_1(v:Vector Int 3):v.toList[((1:Int).toNat)]? = some v[1]:=mG v 1
theorem g3_2(v:Vector Int 3):v.toList[((2:Int).toNat)]? = some v[2]:=mG v 2
theorem aUT : aO 0 3=some ():=rfl
theorem aUC : aO 1 3=some ():=rfl
theorem aT1 : aO 2 3=some ():=rfl
def aBP(most:Int)(v:Vector Int 3):Bool:=decide ((v[0] < 0\/v[0] > most)\/(v[1] < 0\/v[1] > most)\/(v[2] < 0\/v[2] > most))
def aFf(s:Int):Bool:=decide (¬(s=1\/s=2\/s=4\/s=8\/s=16))
def aEV(t:aK):Int:=if aFf t.gO=true\/(t.gK.length:Int)≠I64 (t.gO*t.gO) then 5 else if t.gK.any (aBP 255)=true then 5 else 0
theorem aVx(N:Nat)(hN:1000 < N)(t:aK)(ht:t.gK.length+10 < N)(ht2:t.gK.length<=1000000):eU N t=some (aEV t):=by
 unfold eU aEV iH mU;rw[aDf [1,2,4,8,16] (by decide) (λe=>t.gO==e) (F:=cJ N [1,2,4,8,16] t.gO) (λk i h=>by rw[cJ,aB,dt,cond_true,cQ h,aa]) (λk=>by rw[cJ,aB,df,cond_false]) (by show 5 < N;omega),aa]
 have e:(!(([1,2,4,8,16]:List Int).any λe=>t.gO==e))=aFf t.gO:=by
  rw[jj]
  simp[aFf]
 rw[e,aB,aB,aB,nA,aGY]
 by_cases c:aFf t.gO=true\/(t.gK.length:Int)≠I64 (t.gO*t.gO)
 ·rw[if_pos c]
  rcases c with c | c
  ·rw[c,Bool.true_or,cond_true]
  ·rw[dt c,nl,cond_true]
 rw[if_neg c]
 rw[show aFf t.gO=false by simpa using λh=>c (.inl h),df (λh=>c (.inr h)),i6,cond_false,aB]
 rw[yQ t.gK (aBP 255) 5 (fP N (t.gK.length:Int) t) (by omega) (λk i h=>by
  rw[fP,dt,cond_true,cQ h,aa]
  simp only[aUT,aUC,aT1,g3_0,g3_1,g3_2,aa,aB,wF,nA]
  rw[dcg (aM4 _ _ _ _),dcg (aQx _ _ _ _),<- bw]
  congr 1;exact dcg) (λk=>by rw[fP,df,cond_false]),aa]
 cases t.gK.any (aBP 255) <;> rfl
theorem texCE(N:Nat)(hN:1000 < N)(t:aK)(ht:t.gK.length<=500):eU N t=some (aEV t):=aVx N hN t (by omega) (by omega)
theorem aQS(most:Int)(v:Vector Int 3):aBP most v=(decide (v[0] < 0\/v[0] > most)||(decide (v[1] < 0\/v[1] > most)||decide (v[2] < 0\/v[2] > most))):=by rw[<- bw,<- bw];rfl
theorem r14L2(N:Nat)(t:aK)(k:Nat){i:Nat}(h:i < t.gK.length):dO N t (i:Int) (k+4) 0=some (cond (aBP 255 t.gK[i]) (Sum.inr 5) (Sum.inl ())):=by
 have e1:I64 (0+1)=1:=by decide
 have e2:I64 (1+1)=2:=by decide
 have e3:I64 (2+1)=3:=by decide
 rw[dO,dt (by decide),cond_true,dO,e1,dt (by decide),cond_true,dO,e2,dt (by decide),cond_true,dO,e3,df (by decide),cond_false]
 simp only[cQ h,aa,aB,aIC,aIJ,aIR,wF,nA,<- bw]
 generalize t.gK[i]=v;rw[aQS]
 cases decide (v[0] < 0\/v[0] > 255) <;> cases decide (v[1] < 0\/v[1] > 255) <;> cases decide (v[2] < 0\/v[2] > 255) <;> rfl
theorem aUD(a b:Bool):cond a b false=(a&&b):=by cases a <;> rfl
theorem aXC(N:Nat)(hN:1000 < N)(t:aK)(ht:t.gK.length+10 < N)(ht2:t.gK.length<=1000000):lL N t=some (aEV t):=by
 unfold lL aEV;simp only[aB,aUD,nA,aGY,<- Bool.decide_and,<- bw]
 obtain⟨k,rfl⟩:∃k,N=k+4:=⟨N - 4,by omega⟩
 have e:aFf t.gO=true↔((((t.gO≠1/\t.gO≠2)/\t.gO≠4)/\t.gO≠8)/\t.gO≠16):=by
  unfold aFf;rw[decide_eq_true_eq]
  omega
 by_cases c:aFf t.gO=true\/(t.gK.length:Int)≠I64 (t.gO*t.gO)
 ·rw[if_pos c]
  rw[e] at c;rw[dt c,cond_true]
 ·rw[if_neg c]
  rw[e] at c;rw[df c,cond_false]
  rw[yQ t.gK (aBP 255) 5 (jB (k+4) t) (by omega) (λj i h=>by
   rw[jB,aB,dt,cond_true,r14L2 (k+4) t k h,aa];cases aBP 255 t.gK[i] <;> rfl) (λk=>by rw[jB,aB,df,cond_false]),aa]
  cases t.gK.any (aBP 255) <;> rfl
theorem aUY(N:Nat)(hN:1000 < N)(t:aK)(ht:t.gK.length<=500):lL N t=some (aEV t):=aXC N hN t (by omega) (by omega)
def oX(most x:Int):Bool:=decide (x < 0\/x > most)
theorem aNp(N:Nat)(hN:1000 < N)(most:Int)(l:List Int)(hl:l.length<=500:=by simp):jF N most l=some (l.any (oX most)):=by
 unfold jF cX dU;rw[aDf l (by omega) (oX most) (F:=bF N l most) (λk i h=>by
  rw[bF,aB,dt,cond_true,cQ h,aa,rU,aB,nA,<- bw,aa];rfl) (λk=>by rw[bF,aB,df,cond_false]),aa]
def aK6(m:aD):Int:=if (oX 4 m.gC||(aBP 65535 m.gE||oX 65535 m.gA5))=true then 5 else 0
theorem matCE(N:Nat)(hN:1000 < N)(m:aD):nH N m=some (aK6 m):=by
 unfold nH aK6;rw[aNp N hN 4 _,aa]
 simp only[aIC,aIJ,aIR,aa]
 rw[aNp N hN 65535 _,aa,wF,nA,aa,wF]
 simp only[iw,ko,i6]
 rw[aQS,<- Bool.or_assoc (decide (m.gE[0] < 0\/m.gE[0] > 65535))]
 unfold oX;cases decide (m.gC < 0\/m.gC > 4) <;> cases decide (m.gE[0] < 0\/m.gE[0] > 65535) <;> cases decide (m.gE[1] < 0\/m.gE[1] > 65535) <;> cases decide (m.gE[2] < 0\/m.gE[2] > 65535) <;> cases decide (m.gA5 < 0\/m.gA5 > 65535) <;> rfl
theorem r15M(N:Nat)(m:aD)(k:Nat):cP N m (k+4) 0=some (cond (aBP 65535 m.gE) (Sum.inr 5) (Sum.inl ())):=by
 have e1:I64 (0+1)=1:=by decide
 have e2:I64 (1+1)=2:=by decide
 have e3:I64 (2+1)=3:=by decide
 rw[cP,dt (by decide),cond_true,cP,e1,dt (by decide),cond_true,cP,e2,dt (by decide),cond_true,cP,e3,df (by decide),cond_false]
 simp only[aa,aB,aIC,aIJ,aIR,wF,nA,<- bw]
 generalize m.gE=v;rw[aQS]
 cases decide (v[0] < 0\/v[0] > 65535) <;> cases decide (v[1] < 0\/v[1] > 65535) <;> cases decide (v[2] < 0\/v[2] > 65535) <;> rfl
theorem matCR(N:Nat)(hN:1000 < N)(m:aD):nV N m=some (aK6 m):=by
 unfold nV aK6;obtain⟨k,rfl⟩:∃k,N=k+4:=⟨N - 4,by omega⟩
 simp only[aB,nA,<- bw]
 rw[r15M,aa,show(decide (((m.gC < 0\/m.gC > 4)\/m.gA5 < 0)\/m.gA5 > 65535))=(oX 4 m.gC||oX 65535 m.gA5) from by unfold oX;rw[<- bw];exact dcg]
 cases oX 4 m.gC <;> cases aBP 65535 m.gE <;> cases oX 65535 m.gA5 <;> rfl
def pN(p:aA):Bool := !(aA.eq p (aA.mk 0 0 0))
def aLl(l:aJ):Int:=if (oX 2 l.gC||aBP 1048576 l.gE)=true then 5 else if (aAU l.gAt||(aAU l.gU||aAU l.gV))=true then 8 else if (l.gC=2/\pN l.gAt=true)\/(l.gC≠1/\(pN l.gU||pN l.gV)=true) then 5 else 0
theorem slc3(v:Vector Int 3):dM v.toList 0 3=some [v[0],v[1],v[2]]:=by
 have h:dM v.toList 0 3=some v.toList:=aKA (m:=3) v;rw[h]
 congr 1;apply List.ext_getElem (by simp)
 intro i h1 h2;have:i < 3:=by simpa using h1
 match i,this with
 | 0,_=>simp
 | 1,_=>simp
 | 2,_=>simp
theorem out3l(most:Int)(v:Vector Int 3):[v[0],v[1],v[2]].any (oX most)=aBP most v:=by
 rw[aQS]
 simp only[iw,ko,i6]
 rfl
theorem ligCE(N:Nat)(hN:1000 < N)(l:aJ):qV N l=some (aLl l):=by
 unfold qV aLl;rw[aNp N hN 2 _,aa,slc3,aa,aNp N hN 1048576 _,aa,out3l,aR7,aa,aR7,aa,aR7,aa]
 simp only[iw,ko,i6,wF,nA,aa,aB]
 change _=some (if _ then _ else if _ then _ else _)
 have k2:(l.gC==2)=decide (l.gC=2):=vT _ _;have k0:(l.gC==0)=decide (l.gC=0):=vT _ _;rw[k2,k0]
 cases hx:(oX 2 l.gC||aBP 1048576 l.gE) with
 | true=>rfl
 | false=>
  have kr:0<=l.gC/\l.gC<=2:=by
   have:=(kz.1 hx).1;unfold oX at this;have:=of_decide_eq_false this;omega
  rw[cond_false,if_neg (by decide)]
  cases (aAU l.gAt||(aAU l.gU||aAU l.gV)) with
  | true=>rfl
  | false=>
   rw[cond_false,if_neg (by decide)]
   show mW (cond (decide (l.gC=2)) (cond (pN l.gAt) (Sum.inr (5:Int)) (cond (pN l.gU||pN l.gV) (Sum.inr 5) (Sum.inl ()))) (cond (decide (l.gC=0)) (cond (pN l.gU||pN l.gV) (Sum.inr 5) (Sum.inl ())) (Sum.inl ()))) (λ_=>some (0:Int)) (λr=>some r)=_;by_cases q2:l.gC=2
   ·rw[dt q2,cond_true]
    cases h1:pN l.gAt with
    | true=>rw[if_pos (.inl ⟨q2,rfl⟩)];rfl
    | false=>
     cases h2:(pN l.gU||pN l.gV) with
     | true=>rw[if_pos (.inr ⟨by omega,rfl⟩)];rfl
     | false=>rw[if_neg (by simp)];rfl
   ·rw[df q2,cond_false]
    by_cases q0:l.gC=0
    ·rw[dt q0,cond_true]
     cases h2:(pN l.gU||pN l.gV) with
     | true=>rw[if_pos (.inr ⟨by omega,rfl⟩)];rfl
     | false=>rw[if_neg (by simp;intro h;exact absurd h q2)];rfl
    ·rw[df q0,cond_false,if_neg (by rintro(⟨h,_⟩ | ⟨h,_⟩) <;> omega)]
     rfl
theorem r15L(N:Nat)(m:aJ)(k:Nat):dP N m (k+4) 0=some (cond (aBP 1048576 m.gE) (Sum.inr 5) (Sum.inl ())):=by
 have e1:I64 (0+1)=1:=by decide
 have e2:I64 (1+1)=2:=by decide
 have e3:I64 (2+1)=3:=by decide
 rw[dP,dt (by decide),cond_true,dP,e1,dt (by decide),cond_true,dP,e2,dt (by decide),cond_true,dP,e3,df (by decide),cond_false]
 simp only[aa,aB,aIC,aIJ,aIR,wF,nA,<- bw]
 generalize m.gE=v;rw[aQS]
 cases decide (v[0] < 0\/v[0] > 1048576) <;> cases decide (v[1] < 0\/v[1] > 1048576) <;> cases decide (v[2] < 0\/v[2] > 1048576) <;> rfl
theorem ligCR(N:Nat)(hN:1000 < N)(l:aJ):qF N l=some (aLl l):=by
 unfold qF aLl;obtain⟨k,rfl⟩:∃k,N=k+4:=⟨N - 4,by omega⟩
 rw[r15L,offR,aa,offR,aa,offR,aa]
 simp only[aB,nA,wF,<- bw,aa]
 have k2:(l.gC==2)=decide (l.gC=2):=vT _ _;have k1:(l.gC != 1)=decide (l.gC≠1):=aGY _ _;rw[k2,k1]
 show cond (oX 2 l.gC) (some (5:Int)) (mW (cond (aBP 1048576 l.gE) (Sum.inr (5:Int)) (Sum.inl ())) (λ_=>some (cond (aAU l.gAt||(aAU l.gU||aAU l.gV)) (8:Int) (cond (cond (decide (l.gC=2)) (pN l.gAt||cond (decide (l.gC≠1)) (pN l.gU||pN l.gV) false) (cond (decide (l.gC≠1)) (pN l.gU||pN l.gV) false)) 5 0))) (λr=>some r))=_;cases hx:oX 2 l.gC with
 | true=>rfl
 | false=>
  rw[cond_false,Bool.false_or]
  cases aBP 1048576 l.gE with
  | true=>rfl
  | false=>
   cases (aAU l.gAt||(aAU l.gU||aAU l.gV)) with
   | true=>rfl
   | false=>
    rw[if_neg (by decide),if_neg (by decide)]
    show some (cond _ (5:Int) 0)=_;congr 1;refine cif ?_ _ _;by_cases q2:l.gC=2
    ·rw[dt q2,cond_true,dt,cond_true,jk]
     constructor
     ·rintro(h | h)
      ·exact .inl ⟨q2,h⟩
      ·exact .inr ⟨by omega,h⟩
     ·rintro(h | h)
      ·exact .inl h.2
      ·exact .inr h.2
    ·rw[df q2,cond_false,aUD,Bool.and_eq_true,decide_eq_true_eq]
     constructor
     ·exact .inr
     ·rintro(h | h)
      ·exact absurd h.1 q2
      ·exact h
theorem tsm3{n:Nat}(B:Nat->Int){t:Nat}(h:t < n):((bq n).map B).take (t+1)=((bq n).map B).take t++[B t]:=by
 rw[ik,ci,dw h]
 rfl
theorem aUt(N w:Nat)(hw:w<=8):∀(k i:Nat),i<=w->w - i < k->lS N (w:Int) k (cE i - 1) (i:Int)=some (cE w - 1)
 | 0,_,_,h=>by omega
 | k+1,i,hi,hk=>by
  rw[lS]
  by_cases h:i < w
  ·have hb:cE i<=72057594037927936:=by
    have:∀i:Fin 8,cE i.val<=72057594037927936:=by decide
    exact this ⟨i,by omega⟩
   have hp:=aAY i;have e:U64 (U64 ((cE i - 1)*256)+255)=cE (i+1) - 1:=by rw[aPm,eF (x:=(cE i - 1)*256),eF];omega
   rw[dt,cond_true,aB,e,cI]
   exact aUt N w hw k (i+1) (by omega) (by omega)
  ·obtain rfl:i=w:=by omega
   rw[df,cond_false]
theorem aQ3(N:Nat)(hN:8 < N)(w:Nat)(hw:w<=8):kF N (w:Int)=some (cE w - 1):=by
 unfold kF;have:=aUt N w hw N 0 (by omega) (by omega)
 rw[show cE 0 - 1=0 from rfl,show((0:Nat):Int)=0 from rfl] at this;rw[this,aa]
theorem aPv(N w:Nat)(hw:w<=8)(x:Int)(hx:0<=x/\x < 18446744073709551616)(s:List Int)(hs:s.length<=100000000000000):∀(k i:Nat),i<=w->w - i < k->mO N (w:Int) k (s++(leB w x).take i) (x / cE i) (i:Int)=some (s++leB w x)
 | 0,_,_,h=>by omega
 | k+1,i,hi,hk=>by
  rw[mO]
  by_cases h:i < w
  ·have hp:=aAY i;have h0:0<=x / cE i:=Int.ediv_nonneg hx.1 (by omega)
   have h1:x / cE i<=x:=Int.ediv_le_self _ hx.1;have e1:U8 (cj (x / cE i) 256)=U8 (shr .u64 x ((8*i:Nat):Int)):=by
    rw[aL0 _ _,cv h0,aDC,aDC];omega
   have e2:U64 (de (x / cE i) 256)=x / cE (i+1):=by
    rw[div_s,da h0,eF]
   have e3:(leB w x).take (i+1)=(leB w x).take i++[U8 (shr .u64 x ((8*i:Nat):Int))]:=tsm3 _ h;rw[dt,cond_true,dG (by simp[iT];omega),aa,e1,e2,cI,an,<- e3]
   exact aPv N w hw x hx s hs k (i+1) (by omega) (by omega)
  ·obtain rfl:i=w:=by omega
   rw[df,cond_false,aq (by rw[iT];omega)]
theorem putR(N:Nat)(b:List Int)(w:Nat)(hw0:1<=w)(hw:w<=8)(ns:List Int)(hns:aRj ns)(hb:b.length<=10000000000000)(hl:ns.length<=1000000000000)(hN:8 < N)(hlN:ns.length < N):bN N b (w:Int) ns=some (aKN b w ns):=by
 unfold bN;rw[df (show ¬(w:Int) < 1 by omega),df (show ¬(w:Int) > 8 by omega),cond_false,aB,cond_false,dG (by simp;omega),aa,dn]
 have:=aEM ns (by omega) (big w) (leB w) (([],3):List Int×Int) (λs i=>s.length<=10000000000000+8*i) (λk s i=>kT N ns (w:Int) k s i) (by intro s i h hs;simp[iT];omega) (λk s i h hs=>by
  have hx:=hns _ (cm h)
  rw[kT,aB,dt,cond_true,cQ h,aa,aQ3 N hN w hw,aa]
  have e:decide (ns[i] > cE w - 1)=big w ns[i]:=by
   unfold big;by_cases hb:cE w<=ns[i]
   ·rw[dt hb,dt]
   ·rw[df hb,df]
  rw[e]
  cases hbg:big w ns[i] with
  | true=>rfl
  | false=>
   have:=aPv N w hw ns[i] hx s (by omega) N 0 (by omega) (by omega)
   rw[j2,dp,show cE 0=1 from rfl,ka,show((0:Nat):Int)=0 from rfl] at this;rw[cond_false,cond_false,aa,this,aa]) (λk s=>by rw[kT,aB,df,cond_false]) N 0 b (by omega) (by omega) (by omega)
 rw[show((0:Nat):Int)=0 from rfl,eu] at this;rw[this,aa]
 unfold aKN;cases ns.any (big w) <;> rfl
theorem sgnR(N:Nat)(b:List Int)(w:Nat)(hw0:1<=w)(hw:w<=8)(ns:List Int)(hns:aQ2 ns)(hb:b.length<=10000000000000)(hl:ns.length<=1000000000000)(hN:8 < N)(hlN:ns.length < N):mM N b (w:Int) ns=some (aP5 b w ns):=by
 unfold mM;have hp:=aAY w;have hp2:cE w / 2*2=cE w:=by
  have:∀i:Fin 9,1<=i.val->cE i.val / 2*2=cE i.val:=by decide
  exact this ⟨w,by omega⟩ hw0
 have hp3:cE w<=18446744073709551616:=by
  have:∀i:Fin 9,cE i.val<=18446744073709551616:=by decide
  exact this ⟨w,by omega⟩
 have e3:I64 (U64 (de (cE w - 1) 2))=cE w / 2 - 1:=by
  rw[da (by omega),eF,aT];omega
 rw[df (show ¬(w:Int) < 1 by omega),df (show ¬(w:Int) > 8 by omega),cond_false,aB,cond_false,aQ3 N hN w hw,aa,aB,e3]
 have:=aEM ns (by omega) (aEL w) (λx=>[x % cE w]) (([],3):List Int×Int) (λs i=>s.length=i) (λk s i=>hZ N ns (cE w / 2 - 1) (w:Int) k s i) (by intro s i h hs;simp;omega) (λk s i h hs=>by
  have hx:=hns _ (cm h)
  obtain⟨x0,x1⟩:=hx;have f:I64 (I64 (0 - (cE w / 2 - 1)) - 1) = -(cE w / 2):=by rw[aT (x:=0 - (cE w / 2 - 1)),aT];omega
  rw[hZ,aB,dt,cond_true,cQ h,aa,aa,aB,f]
  generalize ns[i]=x at *;have e:(cond (decide (x > cE w / 2 - 1)) (some true) (some (decide (x < -(cE w / 2)))))=some (aEL w x):=by
   unfold aEL;by_cases h1:cE w / 2<=x
   ·rw[dt (show x > cE w / 2 - 1 by omega),dt h1,nl];rfl
   ·rw[df (show ¬x > cE w / 2 - 1 by omega),df h1,i6];rfl
  rw[e,aa]
  cases hbg:aEL w x with
  | true=>rfl
  | false=>
   unfold aEL at hbg;rw[kz,decide_eq_false_iff_not,decide_eq_false_iff_not] at hbg;obtain⟨b1,b2⟩:=hbg;have e2:(cond (decide (x < 0)) (ae (kF N (w:Int)) λr15=>ae (some x) λe16=>aN (I64 (0 - I64 (e16+1))) λx17=>some (U64 (r15 - U64 x17))) (some (U64 x)))=some (x % cE w):=by
    by_cases hneg:x < 0
    ·rw[dt hneg,cond_true,aQ3 N hN w hw,aa,aa,aB,aT (x:=x+1),aT (x:=0 - (x+1)),eF (x:=0 - (x+1)),eF]
     have:x % cE w=x+cE w:=by
      rw[<- Int.add_emod_right,j6 (by omega) (by omega)]
     rw[this]
     congr 1;omega
    ·rw[df hneg,cond_false,eF,j6 (by omega) (by omega)]
   rw[cond_false,cond_false,aa,aa,e2,aa,dG (by simp;omega),aa]) (λk s=>by rw[hZ,aB,df,cond_false]) N 0 [] rfl (by omega) (by omega)
 rw[show((0:Nat):Int)=0 from rfl,eu,dn] at this;rw[this,aa]
 unfold aP5;cases ns.any (aEL w) with
 | true=>rfl
 | false=>
  rw[cond_false,cond_false]
  show ae (bN N b (w:Int) (ns.flatMap λx=>[x % cE w])) _=_;rw[show(ns.flatMap λx=>[x % cE w])=ns.map (λx=>x % cE w) by
   clear this hns hl hlN
   induction ns with
   | nil=>rfl
   | cons a l ih=>simp[d8,ih]]
  rw[putR N b w hw0 hw _ (by intro y hy;obtain⟨x,_,rfl⟩:=dh.1 hy;exact modU w hw x) hb (by simpa using hl) hN (by simpa using hlN),aa]
theorem aPu(N:Nat)(b:List Int)(w:Nat)(hw0:1<=w)(hw:w<=8)(ns:List Int)(hns:aRj ns)(hb:b.length<=1000000)(hl:ns.length<=100)(hN:100 < N):bN N b (w:Int) ns=bT N b (w:Int) ns:=by
 rw[putR N b w hw0 hw ns hns (by omega) (by omega) (by omega) (by omega),aQ9 N b w hw0 hw ns hns (by omega) (by omega) (by omega) (by omega)]
theorem aJd(N:Nat)(hN:100 < N)(b:List Int)(p:aA)(h:ptG p)(hb:b.length<=1000000):jL N b p=some (b++ptB p):=by
 obtain⟨hx,hy,hz⟩:=h;have hi:aQ2 [p.gX,p.gY,p.gZ]:=by intro q hq;simp at hq;unfold aDG;rcases hq with rfl | rfl | rfl <;> omega
 have e1:=sgnP N b 2 (by decide) (by decide) [p.gX,p.gY,p.gZ] hi (by omega) (by simp) (by omega) (by simp;omega)
 have e2:=sgnR N b 2 (by decide) (by decide) [p.gX,p.gY,p.gZ] hi (by omega) (by simp) (by omega) (by simp;omega)
 have e3:=sgn3 N (by omega) b p ⟨hx,hy,hz⟩ hb;rw[show kB N b 2 [p.gX,p.gY,p.gZ]=_ from e1] at e3;unfold jL;rw[show mM N b 2 [p.gX,p.gY,p.gZ]=_ from e2,e3]
 rfl
theorem aPe{x:Int}(h:0<=x/\x < 65536):leB 2 x=[U8 (cj x 256),U8 (I64 (de x 256))]:=by
 rw[show leB 2 x=[U8 (shr .u64 x ((8*0:Nat):Int)),U8 (shr .u64 x ((8*1:Nat):Int))] from rfl,aL0 x 0 (by decide),aL0 x 1 (by decide),show cE 0=1 from rfl,show cE 1=256 from rfl,cv h.1,da h.1,aT,ka,aDC,aDC,aDC]
 congr 1;omega
theorem trB1{v:Vector Int 3}(h:trG 256 v):trB 1 v=[v[0],v[1],v[2]]:=by
 obtain⟨q0,q1,q2⟩:=h;unfold trB;rw[aAt q0,aAt q1,aAt q2]
 rfl
theorem aUw(N:Nat)(hN:1000 < N)(m:aP)(g:aIp m)(h0:aBQ m=0):pB N m=some (aK4 m,0):=by
 have nv:=g.nv;have nt:=g.nt;have nu:=g.nu;unfold pB;rw[aRL N hN m (by omega),h0,aa,show((0:Int) != 0)=false from rfl,cond_false,aB,aB,rF (x:=(m.gF.length:Int)),rF (x:=(m.gJ.length:Int))]
 have e1:I64 (0+1)=1:=by decide
 have e2:I64 (1+1)=2:=by decide
 have e3:I64 (2+1)=3:=by decide
 obtain⟨kN,rfl⟩:∃k,N=k+4:=⟨N - 4,by omega⟩
 have l1:=kU m.gF.length (by omega) (λi=>ptB (m.gF.getD i ⟨0,0,0⟩)) (λs i=>s.length<=100+6*i) (iE (kN+4) m) (by intro s i hi hs;simp[aAl];omega) (λk s i hi hs=>by
  have hp:=g.v _ (cm hi)
  rw[iE,aB,dt,cond_true,cQ hi,aa,aJd (kN+4) (by omega) s _ hp (by omega),aa]
  rw[ap,af hi]
  rfl) (λk s=>by rw[iE,aB,df,cond_false]) (N:=kN+4) (by omega) (s:=[(m.gF.length:Int),(m.gJ.length:Int)])
 rw[l1,aa,hflat m.gF ⟨0,0,0⟩ ptB]
 have hlen1:=aBK aAl m.gF;have l2:=kU m.gL.length (by omega) (λi=>uvB (m.gL.getD i #v[0,0])) (λs i=>s.length<=1000+4*i) (hU (kN+4) m) (by intro s i hi hs;simp[aGF];omega) (λk s i hi hs=>by
  have hp:=g.u _ (cm hi)
  rw[hU,aB,dt,cond_true]
  rw[fV,dt (by decide),cond_true,cQ hi,aa,aQg,aa,aa,aQg,aa,aB,oY,aa,<- aPe hp.1,e1,fV,dt (by decide),cond_true,cQ hi,aa,aRo,aa,aa,aRo,aa,aB,oY (by rw[ai,iT];omega),aa,<- aPe hp.2,e2,fV,df (by decide),cond_false,aa,an,ap,af hi]
  rfl) (λk s=>by rw[hU,aB,df,cond_false]) (N:=kN+4) (by omega) (s:=[(m.gF.length:Int),(m.gJ.length:Int)]++m.gF.flatMap ptB) (by simp at hlen1 ⊢;omega)
 rw[l2,aa,hflat m.gL #v[0,0] uvB]
 have hlen2:=aBK aGF m.gL;have l3:=kU m.gJ.length (by omega) (λi=>trB 1 (m.gJ.getD i #v[0,0,0])) (λs i=>s.length<=2000+3*i) (iD (kN+4) m) (by intro s i hi hs;simp[aDW];omega) (λk s i hi hs=>by
  have hp:=g.t _ (cm hi)
  obtain⟨q0,q1,q2⟩:=hp;rw[iD,aB,dt,cond_true]
  rw[eP,dt (by decide),cond_true,cQ hi,aa,aIC,aa,oY,aa,e1,eP,dt (by decide),cond_true,cQ hi,aa,aIJ,aa,oY (by rw[ai,cr];omega),aa,e2,eP,dt (by decide),cond_true,cQ hi,aa,aIR,aa,oY (by simp only[ai,cr];omega),aa,e3,eP,df (by decide),cond_false,aa,rF q0.1 q0.2,rF q1.1 q1.2,rF q2.1 q2.2,an,an,ap,af hi,lr,trB1 ⟨q0,q1,q2⟩]
  rfl) (λk s=>by rw[iD,aB,df,cond_false]) (N:=kN+4) (by omega) (s:=[(m.gF.length:Int),(m.gJ.length:Int)]++m.gF.flatMap ptB++m.gL.flatMap uvB) (by simp at hlen1 hlen2 ⊢;omega)
 rw[l3,aa,hflat m.gJ #v[0,0,0] (trB 1)]
 unfold aK4;rw[aAt (x:=(m.gF.length:Int)) ⟨by omega,by omega⟩,aAt (x:=(m.gJ.length:Int)) ⟨by omega,by omega⟩]
 simp[an]
theorem texER(N:Nat)(hN:1000 < N)(t:aK)(g:aO7 t)(h0:aEV t=0):oZ N t=some (aRq t,0):=by
 unfold oZ;have n1:=g.side;have n2:=g.n;have n3:t.gO*t.gO<=16*16:=Int.mul_le_mul n1.2 n1.2 (by omega) (by decide)
 rw[aUY N hN t (by omega),h0,aa,show((0:Int) != 0)=false from rfl,cond_false,rF (x:=t.gO)]
 have e1:I64 (0+1)=1:=by decide
 have e2:I64 (1+1)=2:=by decide
 have e3:I64 (2+1)=3:=by decide
 obtain⟨kN,rfl⟩:∃k,N=k+4:=⟨N - 4,by omega⟩
 have l3:=kU t.gK.length (by omega) (λi=>trB 1 (t.gK.getD i #v[0,0,0])) (λs i=>s.length<=2000+3*i) (fZ (kN+4) t) (by intro s i hi hs;simp[aDW];omega) (λk s i hi hs=>by
  have hp:=g.t _ (cm hi)
  obtain⟨q0,q1,q2⟩:=hp;rw[fZ,aB,dt,cond_true]
  rw[eR,dt (by decide),cond_true,cQ hi,aa,aIC,aa,oY,aa,e1,eR,dt (by decide),cond_true,cQ hi,aa,aIJ,aa,oY (by rw[ai,cr];omega),aa,e2,eR,dt (by decide),cond_true,cQ hi,aa,aIR,aa,oY (by simp only[ai,cr];omega),aa,e3,eR,df (by decide),cond_false,aa,rF q0.1 q0.2,rF q1.1 q1.2,rF q2.1 q2.2,an,an,ap,af hi,lr,trB1 ⟨q0,q1,q2⟩]
  rfl) (λk s=>by rw[fZ,aB,df,cond_false]) (N:=kN+4) (by omega) (s:=[t.gO])
 rw[l3,aa,hflat t.gK #v[0,0,0] (trB 1)]
 unfold aRq;rw[aAt (x:=t.gO) ⟨by omega,by omega⟩]
theorem aRi(N:Nat)(hN:1000 < N)(a:aE)(g:aOl a)(h1:a.gC=1->aBQ a.gA0=0)(h2:a.gC=2->aEV a.gA2=0):lI N a=some (rA a):=by
 unfold lI rA;rcases g with ⟨k,g⟩ | ⟨k,g⟩ | ⟨k,g⟩ | ⟨k,g⟩
 ·rw[k,show((1:Int)==1)=true from rfl,cond_true,aUw N hN _ g (h1 k),if_pos rfl]
  rfl
 ·rw[k,show((2:Int)==1)=false from rfl,show((2:Int)==2)=true from rfl,cond_false,cond_true,texER N hN _ g (h2 k),if_neg (by decide),if_pos rfl]
  rfl
 ·rw[k,show((3:Int)==1)=false from rfl,show((3:Int)==2)=false from rfl,show((3:Int)==3)=true from rfl,cond_false,cond_false,cond_true,if_neg (by decide),if_neg (by decide),if_pos rfl]
  obtain⟨g1,⟨g2,g3,g4⟩,g5⟩:=g;rw[aUT,aa,g3_0,aa,aUC,aa,g3_1,aa,aT1,aa,g3_2,aa,rF g1.1 g1.2]
  have l:=kU 4 (by decide) (λi=>leB 2 ([a.gG.gE[0],a.gG.gE[1],a.gG.gE[2],a.gG.gA5].getD i 0)) (λs i=>s.length<=100+2*i) (iX N a.gG.gE[0] a.gG.gE[1] a.gG.gE[2] a) (by intro s i hi hs;simp[iT];omega) (λk s i hi hs=>by
   have hx:0<=[a.gG.gE[0],a.gG.gE[1],a.gG.gE[2],a.gG.gA5].getD i 0/\[a.gG.gE[0],a.gG.gE[1],a.gG.gE[2],a.gG.gA5].getD i 0 < 65536:=by
    have:i=0\/i=1\/i=2\/i=3:=by omega
    rcases this with rfl | rfl | rfl | rfl
    ·exact g2
    ·exact g3
    ·exact g4
    ·exact g5
   rw[iX,dt,cond_true,rS (by simp;omega),aa,aa,aB,<- aPe hx,oY (by omega) (by rw[iT];omega),aa]) (λk s=>by rw[iX,df,cond_false]) (N:=N) (by omega) (s:=[a.gG.gC])
  rw[l,aa]
  unfold matB trB;rw[aAt g1]
  rfl
 ·rw[k,show((4:Int)==1)=false from rfl,show((4:Int)==2)=false from rfl,show((4:Int)==3)=false from rfl,cond_false,cond_false,cond_false,if_neg (by decide),if_neg (by decide),if_neg (by decide)]
  obtain⟨g1,⟨g2,g3,g4⟩,g5,g6,g7⟩:=g;rw[rF g1.1 g1.2]
  have l:=kU 3 (by decide) (λi=>leB 4 (a.gD.gE.toList.getD i 0)) (λs i=>s.length<=100+4*i) (iY N a) (by intro s i hi hs;simp[iT];omega) (λk s i hi hs=>by
   have hx:0<=a.gD.gE.toList.getD i 0/\a.gD.gE.toList.getD i 0 < 4294967296:=by
    have:i=0\/i=1\/i=2:=by omega
    rcases this with rfl | rfl | rfl
    ·rw[uI _ 0];exact g2
    ·rw[uI _ 1];exact g3
    ·rw[uI _ 2];exact g4
   have ti:((i:Nat):Int).toNat=i:=rfl;have e:=aM5 N (by omega) s 4 (by decide) (by decide) _ hx.1 hx.2;rw[<- aPu N s 4 (by decide) (by decide) _ (by intro q hq;rw[hW.1 hq];exact⟨hx.1,by omega⟩) (by omega) (by simp) (by omega)] at e;rw[iY,dt,cond_true,bR,aa,ti,iG (by simp;omega),aa,eF hx.1,show bN N s 4 _=_ from e,aa]) (λk s=>by rw[iY,df,cond_false]) (N:=N) (by omega) (s:=[a.gD.gC])
  have lw:([a.gD.gC]++(bq 3).flatMap (λi=>leB 4 (a.gD.gE.toList.getD i 0)))=leB 1 a.gD.gC++trB 4 a.gD.gE:=by
   rw[aAt g1,show(bq 3)=[0,1,2] from rfl]
   simp only[d8,List.flatMap_nil,dp]
   rw[uI _ 0,uI _ 1,uI _ 2]
   rfl
  rw[l,lw,aa]
  have lt:=aDW 4 a.gD.gE;have l1:=iT 1 a.gD.gC;have la:=aAl a.gD.gAt;have lu:=aAl a.gD.gU;rw[aJd N (by omega) _ _ g5 (by rw[ai];omega),aa,aJd N (by omega) _ _ g6 (by simp only[ai];omega),aa,aJd N (by omega) _ _ g7 (by simp only[ai];omega),aa]
  unfold ligB;simp only[an]
def yN(a:aE):Int:=if a.gC=1 then aBQ a.gA0 else if a.gC=2 then aEV a.gA2 else if a.gC=3 then aK6 a.gG else if a.gC=4 then aLl a.gD else 12
theorem aQy(N:Nat)(hN:1000 < N)(a:aE)(h:aEk a):mY N a=some (yN a):=by
 unfold mY yN;rw[vT,vT,vT,vT,aU4 N hN _ h.u,texCE N hN _ h.x,matCE N hN,ligCE N hN]
 by_cases k1:a.gC=1
 ·rw[dt k1,if_pos k1];rfl
 rw[df k1,if_neg k1]
 by_cases k2:a.gC=2
 ·rw[dt k2,if_pos k2];rfl
 rw[df k2,if_neg k2]
 by_cases k3:a.gC=3
 ·rw[dt k3,if_pos k3];rfl
 rw[df k3,if_neg k3]
 by_cases k4:a.gC=4
 ·rw[dt k4,if_pos k4];rfl
 rw[df k4,if_neg k4]
 rfl
theorem aWD{a:aE}(k:a.gC=1):qY a↔(a.gA2=zZ/\a.gG=aAK/\a.gD=aAH):=by
 obtain⟨gk,gm,gt,ga,gl⟩:=a;dsimp only at k;subst k;unfold qY;simp
theorem aWw{a:aE}(k:a.gC=2):qY a↔(a.gA0=tE/\a.gG=aAK/\a.gD=aAH):=by
 obtain⟨gk,gm,gt,ga,gl⟩:=a;dsimp only at k;subst k;unfold qY;simp
theorem aV8{a:aE}(k:a.gC=3):qY a↔(a.gA0=tE/\a.gA2=zZ/\a.gD=aAH):=by
 obtain⟨gk,gm,gt,ga,gl⟩:=a;dsimp only at k;subst k;unfold qY;simp
theorem aVd{a:aE}(k:a.gC=4):qY a↔(a.gA0=tE/\a.gA2=zZ/\a.gG=aAK):=by
 obtain⟨gk,gm,gt,ga,gl⟩:=a;dsimp only at k;subst k;unfold qY;simp
theorem tex15(N:Nat)(t:aK):∃b,lR N t=some b/\(b=true↔¬t=zZ):=by
 refine⟨_,rfl,?_⟩
 obtain⟨s,l⟩:=t;show(cond (s != 0) true (decide ((l.length:Int) > 0)))=true↔_;rw[nA,aGY,<- bw,decide_eq_true_eq]
 unfold zZ;rw[aK.mk.injEq,<- fk]
 omega
theorem aVf(N:Nat)(m:aP)(hv:m.gF.length<=500)(hu:m.gL.length<=500)(ht:m.gJ.length<=500):∃b,oQ N m=some b/\(b=true↔¬m=tE):=by
 refine⟨_,rfl,?_⟩
 obtain⟨v,u,t⟩:=m;dsimp only at hv hu ht ⊢;show decide (I64 (I64 ((v.length:Int)+(u.length:Int))+(t.length:Int)) > 0)=true↔_;rw[aT (x:=(v.length:Int)+(u.length:Int)),aT,decide_eq_true_eq]
 unfold tE;rw[aP.mk.injEq,<- fk,<- fk,<- fk]
 omega
theorem aQk{b:Bool}{p:Prop}(h:b=true↔p):(!b)=true↔¬p:=by
 rw[<- h];cases b <;> simp
theorem or3{a b c:Bool}{p q r:Prop}(ha:a=true↔¬p)(hb:b=true↔¬q)(hc:c=true↔¬r):(cond a true (cond b true c))=true↔¬(p/\q/\r):=by
 rw[nA,nA,jk,jk,ha,hb,hc]
 constructor
 ·rintro(h | h | h) ⟨h1,h2,h3⟩
  ·exact h h1
  ·exact h h2
  ·exact h h3
 ·intro h;by_cases hp:p
  ·by_cases hq:q
   ·exact .inr (.inr λhr=>h ⟨hp,hq,hr⟩)
   ·exact .inr (.inl hq)
  ·exact .inl hp
theorem aOU(c:Int)(a b d:Bool):(cond a (some (c,true)) (cond b (some (c,true)) (some (c,d))))=some (c,cond a true (cond b true d)):=by cases a <;> cases b <;> rfl
theorem aV5{a:aE}(h1:¬a.gC=1)(h2:¬a.gC=2)(h3:¬a.gC=3)(h4:¬a.gC=4):yN a=12:=by
 unfold yN;rw[if_neg h1,if_neg h2,if_neg h3,if_neg h4]
theorem aWk(N:Nat)(hN:1000 < N)(a:aE)(h:aEk a):∃c,oW N a=some c/\nI N a=some c:=by
 have zl:=aQk (aLu a.gD aAH)
 have zm:=aQk (aMm a.gG aAK)
 obtain⟨bt,et,ht⟩:=tex15 N a.gA2;obtain⟨bm,em,hm⟩:=aVf N a.gA0 h.v h.u h.t
 -- what the document has: the error of its own part, and whether there is another
 have key:∃o:Bool,(o=true↔¬qY a/\yN a≠12\/yN a=12/\o=true)/\nI N a=(cond (yN a != 0) (some (yN a)) (cond o (some 5) (ae (lI N a) λr18=>ae (iC N a.gC) λr19=>aN (decide (((r18.length:Int)) > r19)) λx20=>cond x20 (some 9) (some 0)))):=by
  unfold nI;rw[vT,vT,vT,vT,aRL N hN _ h.u,aUY N hN _ h.x,matCR N hN,ligCR N hN,et,em]
  by_cases k1:a.gC=1
  ·have e:yN a=aBQ a.gA0:=by unfold yN;rw[if_pos k1]
   have o:=or3 ht zm zl;rw[<- aWD k1] at o;refine⟨_,?_,by rw[dt k1,cond_true,aa,aa,aB,aB,aOU,aa,<- e]⟩
   rw[show(cond bt true (cond (!(aD.eq a.gG (aD.mk 0 (#v[0,0,0]) 0))) true (!(aJ.eq a.gD (aJ.mk 0 (#v[0,0,0]) (aA.mk 0 0 0) (aA.mk 0 0 0) (aA.mk 0 0 0))))))=true↔¬qY a from o]
   have:aBQ a.gA0≠12:=by unfold aBQ;split;decide;split;decide;split;decide;split <;> decide
   rw[e]
   constructor
   ·intro q;exact .inl ⟨q,this⟩
   ·rintro(q | q)
    ·exact q.1
    ·exact absurd q.1 this
  rw[df k1,cond_false]
  by_cases k2:a.gC=2
  ·have e:yN a=aEV a.gA2:=by unfold yN;rw[if_neg k1,if_pos k2]
   have o:=or3 hm zm zl;rw[<- aWw k2] at o;refine⟨_,?_,by rw[dt k2,cond_true,aa,aa,aB,aB,aOU,aa,<- e]⟩
   rw[show(cond bm true (cond (!(aD.eq a.gG (aD.mk 0 (#v[0,0,0]) 0))) true (!(aJ.eq a.gD (aJ.mk 0 (#v[0,0,0]) (aA.mk 0 0 0) (aA.mk 0 0 0) (aA.mk 0 0 0))))))=true↔¬qY a from o]
   have:aEV a.gA2≠12:=by unfold aEV;split;decide;split <;> decide
   rw[e]
   constructor
   ·intro q;exact .inl ⟨q,this⟩
   ·rintro(q | q)
    ·exact q.1
    ·exact absurd q.1 this
  rw[df k2,cond_false]
  by_cases k3:a.gC=3
  ·have e:yN a=aK6 a.gG:=by unfold yN;rw[if_neg k1,if_neg k2,if_pos k3]
   have o:=or3 hm ht zl;rw[<- aV8 k3] at o;refine⟨_,?_,by rw[dt k3,cond_true,aa,aa,aa,aB,aOU,aa,<- e]⟩
   rw[show(cond bm true (cond bt true (!(aJ.eq a.gD (aJ.mk 0 (#v[0,0,0]) (aA.mk 0 0 0) (aA.mk 0 0 0) (aA.mk 0 0 0))))))=true↔¬qY a from o]
   have:aK6 a.gG≠12:=by unfold aK6;split <;> decide
   rw[e]
   constructor
   ·intro q;exact .inl ⟨q,this⟩
   ·rintro(q | q)
    ·exact q.1
    ·exact absurd q.1 this
  rw[df k3,cond_false]
  by_cases k4:a.gC=4
  ·have e:yN a=aLl a.gD:=by unfold yN;rw[if_neg k1,if_neg k2,if_neg k3,if_pos k4]
   have o:=or3 hm ht zm;rw[<- aVd k4] at o;refine⟨_,?_,by rw[dt k4,cond_true,aa,aa,aa,aB,aOU,aa,<- e]⟩
   rw[show(cond bm true (cond bt true (!(aD.eq a.gG (aD.mk 0 (#v[0,0,0]) 0)))))=true↔¬qY a from o]
   have:aLl a.gD≠12:=by unfold aLl;split;decide;split;decide;split <;> decide
   rw[e]
   constructor
   ·intro q;exact .inl ⟨q,this⟩
   ·rintro(q | q)
    ·exact q.1
    ·exact absurd q.1 this
  rw[df k4,cond_false]
  have e:=aV5 k1 k2 k3 k4;refine⟨false,?_,by rw[e];rfl⟩
  rw[e]
  simp
 obtain⟨o,ho,hr⟩:=key;by_cases h0:yN a=0
 ·rw[h0] at ho;have ho:o=true↔¬qY a:=by
   rw[ho];simp
  have own0:mY N a=some 0:=by rw[aQy N hN a h,h0]
  obtain⟨r1,e1,h1⟩:=ownT N hN a h;have hown:aOl a:=h1 (by rw[own0] at e1;exact(Option.some.inj e1).symm)
  obtain⟨b,eb,hb1,hb2,hb3⟩:=aUu N a h;obtain⟨r3,e3,h3⟩:=aUV N hN b (zA a.gC) hb1;have h3':r3=true↔qY a:=⟨λq=>hb2 (h3.1 q),λq=>h3.2 (hb3 q hown)⟩
  have hro:(!r3)=o:=by rw[jj,aQk h3',ho]
  have m0:a.gC=1->aBQ a.gA0=0:=by
   intro k;unfold yN at h0;rw[if_pos k] at h0;exact h0
  have t0:a.gC=2->aEV a.gA2=0:=by
   intro k;unfold yN at h0;rw[if_neg (by omega),if_pos k] at h0;exact h0
  have capE:iC N a.gC=some (xM a.gC):=by
   unfold iC xM;rw[vT,vT,vT,vT]
   by_cases k1:a.gC=1
   ·rw[dt k1,if_pos k1];rfl
   rw[df k1,if_neg k1]
   by_cases k2:a.gC=2
   ·rw[dt k2,if_pos k2];rfl
   rw[df k2,if_neg k2]
   by_cases k3:a.gC=3
   ·rw[dt k3,if_pos k3];rfl
   rw[df k3,if_neg k3]
   by_cases k4:a.gC=4
   ·rw[dt k4,if_pos k4];rfl
   rw[df k4,if_neg k4]
   rfl
  refine⟨cond o 5 (cond (decide (((rA a).length:Int) > xM a.gC)) 9 0),?_,?_⟩
  ·unfold oW;rw[own0,aa,show((0:Int) != 0)=false from rfl,cond_false,eb,aa,show sP N b (aE.mk a.gC (aP.mk [] [] []) (aK.mk 0 []) (aD.mk 0 (#v[0,0,0]) 0) (aJ.mk 0 (#v[0,0,0]) (aA.mk 0 0 0) (aA.mk 0 0 0) (aA.mk 0 0 0)))=some r3 from e3,aa,hro,assE N hN a hown own0,aa,capP,aa,aB,wF,wF]
  ·rw[hr,h0,show((0:Int) != 0)=false from rfl,cond_false,aRi N hN a hown m0 t0,aa,capE,aa,aB,wF,wF]
 ·refine⟨yN a,?_,?_⟩
  ·unfold oW;rw[aQy N hN a h,aa,aGY,dt h0,cond_true]
  ·rw[hr,aGY,dt h0,cond_true]
def aGA(base:Vector Int 8)(n:Int)(i j:Nat):Int:=if j < 8 then base.toList.getD j 0 else if j < 8+i then U8 (shr .i64 n ((8*(j - 8):Nat):Int)) else 0
theorem aV9{n:Int}(h:aDG n){j:Nat}(hj:j < 4):U8 (shr .u32 (U32 n) ((8*j:Nat):Int))=U8 (shr .i64 n ((8*j:Nat):Int)):=by
 rw[zR .u32 _ _ (8*j) rfl (by show 8*j<=32;omega),zR .i64 _ _ (8*j) rfl (by show 8*j<=64;omega),aDC,aDC,aLT]
 rcases(show j=0\/j=1\/j=2\/j=3 by omega) with rfl | rfl | rfl | rfl
 ·rw[show(2:Int) ^ (8*0)=1 from rfl];omega
 ·rw[show(2:Int) ^ (8*1)=256 from rfl];omega
 ·rw[show(2:Int) ^ (8*2)=65536 from rfl];omega
 ·rw[show(2:Int) ^ (8*3)=16777216 from rfl];omega
theorem aOH{base:Vector Int 8}{n:Int}{i:Nat}(hi:i < 4){s:Vector Int 12}(hs:∀j,j < 12->s.toList[j]? = some (aGA base n i j)):∀j,j < 12->(s.setIfInBounds (8+i) (U8 (shr .i64 n ((8*i:Nat):Int)))).toList[j]? = some (aGA base n (i+1) j):=by
 intro j hj;rw[bo,cp]
 unfold aGA;by_cases c:8+i=j
 ·subst c;rw[if_pos rfl,if_pos (by simp;omega),if_neg (by omega),if_pos (by omega),go]
 ·rw[if_neg c,hs j hj]
  unfold aGA;by_cases c3:j < 8
  ·rw[if_pos c3,if_pos c3]
  ·rw[if_neg c3,if_neg c3]
   by_cases c5:j < 8+i
   ·rw[if_pos c5,if_pos (show j < 8+(i+1) by omega)]
   ·rw[if_neg c5,if_neg (show ¬j < 8+(i+1) by omega)]
theorem nonC(N:Nat)(hN:20 < N)(base:Vector Int 8)(n:Int):T (jY N base n) (λv=>∀j,j < 12->v.toList[j]? = some (aGA base n 4 j)):=by
 have b8:base.toList.length=8:=by simp
 unfold jY;refine T.bind (o:=aE7 12 0 12) (P:=λ_=>True) ⟨(),rfl,trivial⟩ λ_ _=>?_;rw[show dM base.toList 0 8=some base.toList from aKA (m:=8) _,aa]
 refine T.bind (P:=λv=>∀j,j < 12->v.toList[j]? = some (aGA base n 0 j)) ?_ λv3 h3=>?_
 ·unfold cpV;rw[dif_pos (by decide)]
  refine⟨_,rfl,λj hj=>?_⟩
  unfold cpy aGA;have z:(ah 12 (0:Int)).toList=aj 12 0:=rfl;simp only[z,j2,dn,fy,b8]
  show((base.toList.take (min 12 8))++(aj 12 (0:Int)).drop (min 12 8))[j]? = _;rw[show min 12 8=8 from rfl,aq (by omega)]
  by_cases c:j < 8
  ·rw[if_pos c,bx (by omega),iG]
  ·rw[if_neg c,if_neg (by omega),cf (by omega),lh,cq,if_pos (by omega)]
 ·refine T.bind (T.loop0 (n:=4) (by decide) (λi (v:Vector Int 12)=>∀j,j < 12->v.toList[j]? = some (aGA base n i j)) (F:=fI N n) (λk s i hi hs Q hk=>?_) (λk s=>by rw[fI,df,cond_false]) (by omega) h3) λp1 h=>T.ret h;have ti:((8+i:Nat):Int).toNat=8+i:=rfl;rw[fI,dt,cond_true,show(8:Int)=((8:Nat):Int) from rfl,i4,ia,cI,jH .i64,aa,bR,aa,ti,hs _ (by omega),aa]
  exact hk _ (aOH hi hs)
theorem aRt(N:Nat)(hN:20 < N){base:Vector Int 8}(hb:aS base.toList)(n:Int):aS (aJ1 N base n).toList:=by
 obtain⟨v,e,h⟩:=nonC N hN base n;rw[nonP N hN] at e;obtain rfl:=Option.some.inj e;intro x hx;obtain⟨j,hj,e⟩:=lg hx;have h2:=h j (by simpa using hj)
 rw[af hj,e] at h2;obtain rfl:=Option.some.inj h2;unfold aGA;split
 ·rename_i c;exact hb _ (List.mem_of_getElem? (iG (by simpa using c)))
 split
 ·exact aId _
 ·exact⟨by decide,by decide⟩
theorem nonR(N:Nat)(hN:20 < N)(base:Vector Int 8){n:Int}(hn:aDG n):lM N base n=some (aJ1 N base n):=by
 have b8:base.toList.length=8:=by simp
 have ec:=nonC N hN base n;have er:T (lM N base n) (λv=>∀j,j < 12->v.toList[j]? = some (aGA base n 4 j)):=by
  unfold lM;refine T.bind (T.loop0 (n:=8) (by decide) (λi (v:Vector Int 12)=>∀j,j < 12->v.toList[j]? = some (if j < i then base.toList.getD j 0 else 0)) (F:=iV N base) (λk s i hi hs Q hk=>?_) (λk s=>by rw[iV,df,cond_false]) (by omega) (s:=ah 12 0) (λj hj=>?_)) λv1 h1=>?_
  ·have ti:((i:Nat):Int).toNat=i:=rfl;rw[iV,dt,cond_true,rS,aa,bR,aa,ti,hs i (by omega),aa,cI]
   refine hk _ λj hj=>?_;rw[bo,cp]
   by_cases c:i=j
   ·subst c;rw[if_pos rfl,if_pos (by simp;omega),if_pos (by omega)]
   ·rw[if_neg c,hs j hj]
    by_cases c3:j < i
    ·rw[if_pos c3,if_pos (by omega)]
    ·rw[if_neg c3,if_neg (show ¬j < i+1 by omega)]
  ·have z:(ah 12 (0:Int)).toList=aj 12 0:=rfl;rw[z,cq,if_pos hj,if_neg (by omega)]
  ·refine T.bind (T.loop0 (n:=4) (by decide) (λi (v:Vector Int 12)=>∀j,j < 12->v.toList[j]? = some (aGA base n i j)) (F:=iU N n) (λk s i hi hs Q hk=>?_) (λk s=>by rw[iU,df,cond_false]) (by omega) (λj hj=>?_)) λp1 h=>T.ret h
   ·have ti:((8+i:Nat):Int).toNat=8+i:=rfl;rw[iU,dt,cond_true,show(8:Int)=((8:Nat):Int) from rfl,i4,ia,cI,jH .u32,aa,bR,aa,ti,hs _ (by omega),aa,aV9 hn hi]
    exact hk _ (aOH hi hs)
   ·rw[h1 j hj]
    unfold aGA;by_cases c:j < 8
    ·rw[if_pos c,if_pos c]
    ·rw[if_neg c,if_neg c,if_neg (by omega)]
 obtain⟨v,e1,h1⟩:=ec;obtain⟨w,e2,h2⟩:=er;have hvw:v=w:=by
  apply fb.1;apply cz;intro j;by_cases c:j < 12
  ·rw[h1 j c,h2 j c]
  ·rw[ar (by simp;omega),ar (by simp;omega)]
 rw[nonP N hN] at e1;rw[e2,<- hvw,e1]
theorem capE(N:Nat)(k:Int):iC N k=some (xM k):=by
 unfold iC xM;rw[vT,vT,vT,vT]
 by_cases k1:k=1
 ·rw[dt k1,if_pos k1];rfl
 rw[df k1,if_neg k1]
 by_cases k2:k=2
 ·rw[dt k2,if_pos k2];rfl
 rw[df k2,if_neg k2]
 by_cases k3:k=3
 ·rw[dt k3,if_pos k3];rfl
 rw[df k3,if_neg k3]
 by_cases k4:k=4
 ·rw[dt k4,if_pos k4];rfl
 rw[df k4,if_neg k4]
 rfl
theorem aNT(N:Nat){s:Int}:∀(k i:Nat),i<=1000->1000 - i < k->((i:Int)=0\/256*((i:Int) - 1) < s)->∃n:Nat,n<=1000/\iB N s k (i:Int)=some (n:Int)/\(n=0\/256*((n:Int) - 1) < s)/\(s<=256*(n:Int)\/n=1000)
 | 0,_,_,h,_=>by omega
 | k+1,i,h1,h2,h3=>by
  rw[iB,aB,aB,aT (x:=256*(i:Int))]
  by_cases c:s > 256*(i:Int)
  ·by_cases d:(i:Int) < 1000
   ·rw[dt c,dt d,cond_true,cond_true,cI]
    exact aNT N k (i+1) (by omega) (by omega) (.inr (by omega))
   ·rw[dt c,df d,cond_true,cond_false]
    exact⟨i,h1,rfl,by omega,by omega⟩
  ·rw[df c,cond_false,cond_false]
   exact⟨i,h1,rfl,by omega,by omega⟩
theorem aOI(N:Nat)(hN:1100 < N){s:Int}(h:aDG s):mP N s=some (qE s):=by
 unfold mP qE;obtain⟨h0,h1⟩:=h;obtain⟨n,hn,e,g1,g2⟩:=aNT N (s:=s) N 0 (by omega) (by omega) (.inl rfl)
 rw[show iB N s N 0=_ from e,aa,aB,aT (x:=256*(n:Int))]
 by_cases c:s > 256*(n:Int)
 ·have e1:de s 256=s / 256:=da (by omega)
  have e2:cj s 256=s % 256:=cv (by omega)
  rw[dt c,cond_true,aB,aB,e1,e2,aT (x:=s / 256),if_neg (by omega),aa]
  congr 1;unfold lH;split
  ·rw[aT];omega
  ·rw[aT];omega
 ·rw[df c,cond_false,aa]
  by_cases d:s < 1
  ·rw[if_pos d];congr 1;omega
  ·rw[if_neg d];congr 1;omega
theorem mchkR(N:Nat)(hN:1100 < N)(m:aF)(hs:aDG m.gA1):qK N m=some (rP m):=by
 unfold qK rP;rw[capE,aa]
 by_cases h0:xM m.gC=0
 ·rw[if_pos h0,h0];rfl
 ·rw[if_neg h0,show(xM m.gC==0)=false by simpa using h0,cond_false]
  have hl:fE N m N 0=some (cond (m.gA3.toList.any λe=>decide (e > 15)) (Sum.inr 5) (Sum.inl ())):=by
   refine yQ m.gA3.toList (λe=>decide (e > 15)) (5:Int) (fE N m) (by simp) (λk i h=>?_) (λk=>?_) (by simp;omega)
   ·have h8:i < 8:=by simpa using h
    rw[fE,dt,cond_true,cQ h,aa,show decide (m.gA3.toList[i]>=16)=decide (m.gA3.toList[i] > 15) by rw[jj,decide_eq_true_eq,decide_eq_true_eq];omega]
   ·rw[fE,df (by simp),cond_false]
  rw[hl,aa]
  cases ha:(m.gA3.toList.any λe=>decide (e > 15)) with
  | true=>rw[if_pos rfl,cond_true];rfl
  | false=>
   rw[if_neg (by decide),cond_false]
   show(aN (decide (m.gA4 > m.gTo)) λx5=>_)=_;rw[aB,aB]
   by_cases h1:m.gA4 > m.gTo\/m.gA1 < 1
   ·rw[if_pos h1]
    rw[show cond (decide (m.gA4 > m.gTo)) true (decide (m.gA1 < 1))=true by rcases h1 with h | h;rw[dt h];rfl;rw[dt h];cases decide (m.gA4 > m.gTo) <;> rfl,aB,cond_true]
   ·rw[if_neg h1,df (show ¬m.gA4 > m.gTo by omega),df (show ¬m.gA1 < 1 by omega),cond_false,aB,cond_false,aa]
    by_cases h2:m.gA1 > xM m.gC
    ·rw[dt h2,cond_true,if_pos h2]
    ·rw[df h2,cond_false,if_neg h2,aOI N hN hs,aa]
     by_cases h3:m.gA8=qE m.gA1
     ·rw[if_neg (by simpa using h3),show(m.gA8 != qE m.gA1)=false by simpa using h3,cond_false]
     ·rw[if_pos h3,show(m.gA8 != qE m.gA1)=true by simpa using h3,cond_true]
theorem u64L1{x:Int}(h:0<=x/\x < 18446744073709551616):aRj [x]:=by
 intro y hy;rw[hW] at hy;rw[hy];exact h
theorem u64L3{x y z:Int}(h:0<=x/\x < 18446744073709551616)(h':0<=y/\y < 18446744073709551616)(h'':0<=z/\z < 18446744073709551616):aRj [x,y,z]:=by
 intro w hw;simp only[cx,dk,or_false] at hw;rcases hw with rfl | rfl | rfl <;> assumption
theorem aKg{w:Nat}(h:w<=8):cE w<=18446744073709551616:=by
 unfold cE;rcases(show w=0\/w=1\/w=2\/w=3\/w=4\/w=5\/w=6\/w=7\/w=8 by omega) with rfl | rfl | rfl | rfl | rfl | rfl | rfl | rfl | rfl <;> decide
theorem aNR(N:Nat)(hN:100 < N)(b:List Int)(w:Nat)(hw0:1<=w)(hw:w<=8)(x:Int)(hx:0<=x)(hx2:x < cE w)(hb:b.length<=1000000):bN N b (w:Int) [x]=some (b++leB w x,0):=by
 have:=aKg hw;rw[aPu N b w hw0 hw _ (u64L1 ⟨hx,by omega⟩) hb (by simp) hN,aM5 N (by omega) b w hw0 hw x hx hx2 hb]
theorem put3R(N:Nat)(hN:100 < N)(b:List Int)(w:Nat)(hw0:1<=w)(hw:w<=8)(x y z:Int)(hx:0<=x/\x < cE w)(hy:0<=y/\y < cE w)(hz:0<=z/\z < cE w)(hb:b.length<=1000000):bN N b (w:Int) [x,y,z]=some (b++(leB w x++(leB w y++leB w z)),0):=by
 have:=aKg hw;rw[aPu N b w hw0 hw _ (u64L3 ⟨hx.1,by omega⟩ ⟨hy.1,by omega⟩ ⟨hz.1,by omega⟩) hb (by simp) hN,put3 N (by omega) b w hw0 hw x y z hx hy hz hb]
theorem mapD{l:List Int}{n:Nat}(h:l.length=n:=by simp):(bq n).flatMap (λi=>[l.getD i 0])=l:=by
 rw[yJ]
 apply cz;intro i;rw[ci]
 by_cases c:i < n
 ·rw[dw c,iG];rfl
 ·rw[ar (by rw[ii];omega),ar (by omega)];rfl
theorem fourR(N:Nat){i n:Nat}(hi:i < 65536)(hn:n < 65536):rJ N (i:Int) (n:Int)=some (aEp i n):=by
 unfold rJ aEp;rw[aPe ⟨by omega,by omega⟩,aPe ⟨by omega,by omega⟩]
 rfl
theorem mencR(N:Nat)(hN:1100 < N)(m:aF)(t:aHD m):mJ N m=some (if rP m=0 then(aF6 m,0) else([],rP m)):=by
 unfold mJ;rw[mchkR N hN m t.size,aa]
 have hN':100 < N:=by omega
 by_cases h:rP m=0
 ·have r:=t.r h;rw[if_pos h,h,show((0:Int) != 0)=false from rfl,cond_false]
  have k1:=r.kind;have k2:=r.size;have k3:=r.chunks;have k4:=r.label;have k5:=r.fr;have k6:=r.to;have e1:=aNR N hN' [] 8 (by decide) (by decide) m.gId r.id.1 r.id.2 (by simp)
  rw[show bN N [] 8 [m.gId]=_ from e1,aa,eF (x:=m.gC),eF (x:=m.gA6) k4.1 (by have:=k4.2;omega),eF (x:=m.gA4) k5.1 (by have:=k5.2;omega),eF (x:=m.gTo) k6.1 (by have:=k6.2;omega),eF (x:=m.gA1),eF (x:=m.gA8)]
  have e2:=aNR N hN' ([]++leB 8 m.gId) 1 (by decide) (by decide) m.gC k1.1 k1.2 (by simp[iT])
  rw[show bN N ([]++leB 8 m.gId) 1 [m.gC]=_ from e2,aa]
  have e3:=aNR N hN' ([]++leB 8 m.gId++leB 1 m.gC) 4 (by decide) (by decide) m.gA6 k4.1 k4.2 (by simp[iT])
  rw[show bN N ([]++leB 8 m.gId++leB 1 m.gC) 4 [m.gA6]=_ from e3,aa]
  have el:eT N m N ([]++leB 8 m.gId++leB 1 m.gC++leB 4 m.gA6) 0=some ([]++leB 8 m.gId++leB 1 m.gC++leB 4 m.gA6++m.gA3.toList):=by
   rw[kU 8 (by decide) (λi=>[m.gA3.toList.getD i 0]) (λs i=>s.length=13+i) (eT N m) (λs i _ hs=>by rw[ai,hs];rfl) (λk s i hi hs=>?_) (λk s=>by rw[eT,df,cond_false]) (by omega) (by simp[iT]),mapD]
   rw[eT,dt,cond_true,rS (by simp;omega),aa,oY,aa]
  rw[el,aa]
  have e4:=put3R N hN' ([]++leB 8 m.gId++leB 1 m.gC++leB 4 m.gA6++m.gA3.toList) 4 (by decide) (by decide) m.gA4 m.gTo m.gA1 ⟨k5.1,k5.2⟩ ⟨k6.1,k6.2⟩ k2 (by simp[iT])
  rw[show bN N ([]++leB 8 m.gId++leB 1 m.gC++leB 4 m.gA6++m.gA3.toList) 4 [m.gA4,m.gTo,m.gA1]=_ from e4,aa]
  have e5:=aNR N hN' ([]++leB 8 m.gId++leB 1 m.gC++leB 4 m.gA6++m.gA3.toList++(leB 4 m.gA4++(leB 4 m.gTo++leB 4 m.gA1))) 2 (by decide) (by decide) m.gA8 k3.1 k3.2 (by simp[iT])
  rw[show bN N ([]++leB 8 m.gId++leB 1 m.gC++leB 4 m.gA6++m.gA3.toList++(leB 4 m.gA4++(leB 4 m.gTo++leB 4 m.gA1))) 2 [m.gA8]=_ from e5,aa]
  congr 2;unfold aF6;simp[an]
 ·rw[if_neg h,show(rP m != 0)=true by simpa using h,cond_true]
theorem aUr(N:Nat)(hN:70000 < N){key:Vector Int 32}(hk:aS key.toList){n:Vector Int 12}(hn:aS n.toList){a p:List Int}(ha:aS a)(la:a.length<=16384)(lp:p.length<=16384):oR N key n a p=some (aA6 N key n a p,0):=by
 have hx:=aEJ N (by omega) key n (d:=p)
 have hm:=(macP N (by omega) key n a (aBE N key n p)).2;have l16:(aF0 N key n a (aBE N key n p)).toList.length=16:=by simp
 unfold oR;rw[aB,aB,df,df,cond_false,cond_false,xorR N (by omega) hk hn (by omega),aa,macE N hN hk hn ha (show aS (aBE N key n p) from aH3 _ _) (by omega) (by omega),aa]
 have main:T (fQ N (aF0 N key n a (aBE N key n p)) N (aBE N key n p) 0) (λr=>r=aA6 N key n a p):=by
  refine T.loopG0 (n:=16) (λi r=>r=aBE N key n p++(aF0 N key n a (aBE N key n p)).toList.take i) _ (F:=λk r i=>fQ N (aF0 N key n a (aBE N key n p)) k r i) (λk r i hi hr hk=>?_) (λk r hr=>?_) (by omega) (s:=aBE N key n p)
  ·have ti:((i:Nat):Int).toNat=i:=rfl;rw[fQ,dt,cond_true,bR,aa,ti,af (by omega),aa,dG (by rw[hr,ai,bj,cr];omega),aa,cI]
   refine hk _ ?_;rw[hr,an,dr (by omega)]
  ·rw[fQ,df,cond_false]
   refine T.ret ?_;rw[hr,aq (by omega)]
   rfl
 obtain⟨r,e,rfl⟩:=main;rw[e,aa]
theorem rawL(N:Nat)(hN:70000 < N){key:Vector Int 32}(hk:aS key.toList){base:Vector Int 8}(hb:aS base.toList){mark:List Int}(hm:mark.length=16)(hmb:aS mark){p:List Int}(hp:p.length<=2048):∀(k i:Nat) (s:List Int),nCh (p.drop (256*i)).length < k->i<=9->s.length+300*nCh (p.drop (256*i)).length<=100000 ->
  kS N p base (mark,0) key k s (i:Int)=some (s++aCd N key base mark (nCh (p.drop (256*i)).length) i (p.drop (256*i)))
 | 0,_,_,h,_,_=>by omega
 | k+1,i,s,h,hi,hs=>by
  have e1:I64 ((i:Int)*256)=((256*i:Nat):Int):=by rw[aT];omega
  have e2:I64 (((256*i:Nat):Int)+256)=((256*i+256:Nat):Int):=by rw[aT];omega
  rw[kS,aB,e1]
  have ld:=cd (i:=256*i) (l:=p)
  by_cases c:256*i < p.length
  ·have hn:nCh (p.drop (256*i)).length=nCh (p.drop (256*(i+1))).length+1:=by unfold nCh;rw[cd,cd];omega
   have sl:dM p ((256*i:Nat):Int) ((min (256*i+256) p.length:Nat):Int)=some ((p.drop (256*i)).take 256):=by
    rw[pE,bu,bu,ju]
    congr 1;by_cases d:256*i+256<=p.length
    ·rw[fm d,show 256*i+256 - 256*i=256 by omega]
    ·rw[Nat.min_eq_right (by omega),aq (by omega),aq (by omega)]
   have lt:((p.drop (256*i)).take 256).length<=256:=by rw[bj];omega
   rw[dt,cond_true,e2,aB,aDc,aB,sl,aa,fourR N (by omega) (by omega),aa,nonR N (by omega) base ⟨aVT _,by have:=aVe ((i:Int)+1);omega⟩,aa,oY (by simp) (by rw[sC];omega),aa,dn]
   dsimp only;rw[oY (by rw[sC];omega) (by omega),aa,aUr N hN hk (aRt N (by omega) hb _) ((aHw _ _).app hmb) (by rw[ai,sC];omega) (by omega),aa,oY (by omega) (by rw[sC];omega),aa]
   dsimp only;rw[cI]
   have e5:(aEp i ((p.drop (256*i)).take 256).length++aA6 N key (aJ1 N base ((i+1:Nat):Int)) (aEp i ((p.drop (256*i)).take 256).length++mark) ((p.drop (256*i)).take 256))=aEr N key base mark i ((p.drop (256*i)).take 256):=rfl;rw[oY (by rw[ai,sC];omega) (by rw[aB4 N (by omega) key _ _];omega),aa,an,e5,rawL N hN hk hb hm hmb hp k (i+1) _ (by omega) (by omega) (by rw[ai,aGc N (by omega) key base mark i (by omega)];omega),hn,aCd,List.drop_drop,show 256*i+256=256*(i+1) by omega,an]
  ·rw[df,cond_false,show nCh (p.drop (256*i)).length=0 by unfold nCh;omega,aCd,dp]
theorem rawE(N:Nat)(hN:70000 < N){key:Vector Int 32}(hk:aS key.toList){base:Vector Int 8}(hb:aS base.toList){m:aF}(r:aO0 m){p:List Int}(hp:p.length<=2048):sJ N key base (aF6 m) p=some (aB7 N key base m p):=by
 unfold sJ;have el:iK N base N [85,77,66,49] 0=some ([85,77,66,49]++base.toList):=by
  rw[kU 8 (by decide) (λi=>[base.toList.getD i 0]) (λs i=>s.length=4+i) (iK N base) (λs i _ hs=>by rw[ai,hs];rfl) (λk s i hi hs=>?_) (λk s=>by rw[iK,df,cond_false]) (by omega) rfl,mapD]
  rw[iK,dt,cond_true,rS (by simp;omega),aa,oY,aa]
 have hm:=aAJ N (by omega) key base m;have hmb:=aFJ N (by omega) key base m;rw[el,aa,oY (by simp) (by rw[aHz];omega),aa,show [85,77,66,49]++base.toList++aF6 m=uX base m from an _ _ _,nonR N (by omega) base ⟨by decide,by decide⟩,aa,aUr N hN hk (aRt N (by omega) hb _) (aFl hb r) (by rw[sK];omega) (by simp),aa]
 dsimp only;rw[show aA6 N key (aJ1 N base 0) (uX base m) []=wC N key base m from rfl,oY (by rw[sK];omega) (by omega),aa]
 have e:=rawL N hN hk hb hm hmb hp N 0 (uX base m++wC N key base m) (by unfold nCh;rw[cd];omega) (by omega) (by rw[ai,sK,hm];unfold nCh;rw[cd];omega)
 rw[Nat.mul_zero,eu] at e;rw[show kS N p base (wC N key base m,0) key N (uX base m++wC N key base m) 0=_ from e,aa]
 unfold aB7;rw[an]
theorem encE(N:Nat)(hN:1000 < N)(a:aE)(h:aEk a):pG N a=pK N a:=by
 obtain⟨c,e1,e2⟩:=aWk N hN a h;unfold pG pK;rw[e1,e2,aa,aa]
 by_cases c0:c=0
 ·subst c0;obtain⟨c',e',hc⟩:=aQu N hN a h;rw[e1] at e';obtain rfl:=Option.some.inj e';have g:=hc.1 rfl;have own0:yN a=0:=by have:=g.own0;rw[aQy N hN a h] at this;exact Option.some.inj this
  rw[show((0:Int) != 0)=false from rfl,cond_false,cond_false,assE N hN a g.own g.own0,aRi N hN a g.own (λk=>by unfold yN at own0;rw[if_pos k] at own0;exact own0) (λk=>by unfold yN at own0;rw[if_neg (by omega),if_pos k] at own0;exact own0)]
 ·rw[aGY,dt c0,cond_true,cond_true]
theorem sealE(N:Nat)(hN:70000 < N){key:Vector Int 32}(hk:aS key.toList){base:Vector Int 8}(hb:aS base.toList)(m:aF)(a:aE)(t:aHD m)(hA:aEk a):rK N key base m a=oU N key base m a:=by
 obtain⟨r1,e1,h1⟩:=aNd N (by omega) a hA;obtain⟨r,es,hs⟩:=aUj N (by omega) key base m a t hA;rw[es]
 unfold rK;unfold oU at es;rw[encE N (by omega) a hA,e1,aa]
 rw[e1,aa] at es;by_cases c:r1.2=0
 rotate_left
 ·rw[show(r1.2 != 0)=true by simpa using c,cond_true] at es ⊢;exact es
 rw[show(r1.2 != 0)=false by simpa using c,cond_false] at es ⊢;by_cases hkd:m.gC=a.gC
 rotate_left
 ·rw[show(m.gC != a.gC)=true by simpa using hkd,cond_true] at es ⊢;exact es
 rw[show(m.gC != a.gC)=false by simpa using hkd,cond_false] at es ⊢;rcases h1 with ⟨_,g,h⟩ | ⟨c',_⟩
 rotate_left
 ·exact absurd c c'
 have hl:=g.len;have e3:=aUa N (by omega) (tZ m (rA a).length) (aEI t hl)
 have e4:=mencR N (by omega) (tZ m (rA a).length) (aEI t hl)
 rw[h,aJO N ⟨by omega,by omega⟩,aa,aRm,show mA N (aF.mk m.gId m.gC m.gA6 m.gA3 m.gA4 m.gTo ((rA a).length:Int) (nCh (rA a).length:Int))=_ from e3,aa] at es;rw[h,aOI N (by omega) ⟨by omega,by omega⟩,aa,aRm,show mJ N (aF.mk m.gId m.gC m.gA6 m.gA3 m.gA4 m.gTo ((rA a).length:Int) (nCh (rA a).length:Int))=_ from e4,aa]
 by_cases hc:rP (tZ m (rA a).length)=0
 rotate_left
 ·rw[if_neg hc] at es ⊢;dsimp only at es ⊢;rw[show(rP (tZ m (rA a).length) != 0)=true by simpa using hc,cond_true] at es ⊢;exact es
 rw[if_pos hc]
 dsimp only;rw[show((0:Int) != 0)=false from rfl,cond_false,rawE N hN hk hb ((aEI t hl).r hc) hl,aa]
 rcases hs with ⟨q1,_,_,_,q5⟩ | ⟨_,_,q3⟩
 ·rw[<- q5,<- q1]
 ·exact absurd ⟨g,hkd,hc⟩ q3
set_option maxHeartbeats 2000000
def xX(x:Int)(n:Nat):Int:=bor .u32 (shr .u32 x n) (shl .u32 x (32 - n:Nat))
theorem aVP(n:Nat)(h1:1<=n)(h2:n<=31):cF .u64 (U64 (I64 (0 - (n:Int)))) 31=((32 - n:Nat):Int):=by
 have:∀n:Fin 32,1<=n.val->cF .u64 (U64 (I64 (0 - (n.val:Int)))) 31=((32 - n.val:Nat):Int):=by decide +kernel
 exact this ⟨n,by omega⟩ h1
theorem aIZ(N:Nat)(x:Int)(n:Nat)(h1:1<=n:=by decide)(h2:n<=31:=by decide):fW N x n=some (xX x n):=by
 unfold fW bG;rw[aVP n h1 h2,uM .u32,aa,aB,eF,jH .u32,aa,aa,aJA,show(32 - ((32 - n:Nat):Int))=(n:Int) by omega]
 rfl
def aTx(b:Vector Int 64)(i:Nat):Int:=b.toList.getD (4*i) 0*16777216+b.toList.getD (4*i+1) 0*65536+b.toList.getD (4*i+2) 0*256+b.toList.getD (4*i+3) 0
def sig0(x:Int):Int:=fG .u32 (fG .u32 (xX x 7) (xX x 18)) (shr .u32 x 3)
def sig1(x:Int):Int:=fG .u32 (fG .u32 (xX x 17) (xX x 19)) (shr .u32 x 10)
def aFT(b:Vector Int 64)(l:List Int)(i:Nat):Int:=
 if i < 16 then aTx b i else(l.getD (i - 16) 0+sig0 (l.getD (i - 15) 0)+l.getD (i - 7) 0+sig1 (l.getD (i - 2) 0)) % 4294967296
def oK(b:Vector Int 64):Nat->List Int
 | 0=>[]
 | i+1=>oK b i++[aFT b (oK b i) i]
theorem aCE(b:Vector Int 64):∀i,(oK b i).length=i
 | 0=>rfl
 | i+1=>by simp[oK,aCE b i]
def aAN(b:Vector Int 64):Prop:=∀i,i < 64->isB (b.toList.getD i 0)
theorem wordE{a b c d:Int}(ha:isB a)(hb:isB b)(hc:isB c)(hd:isB d) :
  bor .u32 (bor .u32 (bor .u32 (shl .u32 (U32 a) 24) (shl .u32 (U32 b) 16)) (shl .u32 (U32 c) 8)) (U32 d)=a*16777216+b*65536+c*256+d:=by
 obtain⟨a0,a1⟩:=ha;obtain⟨b0,b1⟩:=hb;obtain⟨c0,c1⟩:=hc;obtain⟨d0,d1⟩:=hd;rw[aC8 a0,aC8 b0,aC8 c0,aC8 d0,aGH a 24 24 rfl,aGH b 16 16 rfl,aGH c 8 8 rfl]
 have e1:(a*(2:Int) ^ 24) % 4294967296=a*16777216:=by rw[show(2:Int) ^ 24=16777216 from rfl];omega
 have e2:(b*(2:Int) ^ 16) % 4294967296=b*65536:=by rw[show(2:Int) ^ 16=65536 from rfl];omega
 have e3:(c*(2:Int) ^ 8) % 4294967296=c*256:=by rw[show(2:Int) ^ 8=256 from rfl];omega
 have p24:(2 ^ 24:Nat)=16777216:=rfl;have p16:(2 ^ 16:Nat)=65536:=rfl;have p8:(2 ^ 8:Nat)=256:=rfl;have h1:bor .u32 (a*16777216) (b*65536)=a*16777216+b*65536:=aCC 24 ⟨by omega,by omega⟩ (by omega) (by rw[p24];omega) (by decide) (by rw[p24];omega)
 have h2:bor .u32 (a*16777216+b*65536) (c*256)=a*16777216+b*65536+c*256:=aCC 16 ⟨by omega,by omega⟩ (by omega) (by rw[p16];omega) (by decide) (by rw[p16];omega)
 have h3:bor .u32 (a*16777216+b*65536+c*256) d=a*16777216+b*65536+c*256+d:=aCC 8 ⟨by omega,by omega⟩ (by omega) (by rw[p8];omega) (by decide) (by rw[p8];omega)
 rw[e1,e2,e3,h1,h2,h3]
theorem aW4{a b c d:Int}(ha:isB a)(hb:isB b)(hc:isB c)(hd:isB d) :
  U32 (U32 (U32 (U32 (U32 (U32 (U32 a*256)+U32 b)*256)+U32 c)*256)+U32 d)=a*16777216+b*65536+c*256+d:=by
 obtain⟨a0,a1⟩:=ha;obtain⟨b0,b1⟩:=hb;obtain⟨c0,c1⟩:=hc;obtain⟨d0,d1⟩:=hd;simp only[aLT]
 omega
theorem cmpL1(N:Nat)(b:Vector Int 64)(hb:aAN b)(hN:64 < N):∃v,kD N b N (ah 64 0) 0=some v/\v.toList=oK b 64:=by
 obtain⟨v,h1,h2⟩:=aEF 64 (by decide) (λi (v:Vector Int 64)=>v.toList.take i=oK b i) (λk v i=>kD N b k v i) (λk v i hi hv=>by
  rw[kD,dt (show(i:Int) < 64 by omega),cond_true]
  by_cases h16:i < 16
  ·refine⟨v.setIfInBounds i (aTx b i),?_,?_⟩
   ·rw[aLo hv hi,oK,aFT,if_pos h16]
   ·rw[dt (show(i:Int) < 16 by omega),cond_true]
    have e0:I64 (4*(i:Int))=((4*i:Nat):Int):=by rw[aT];omega
    have e1:I64 (((4*i:Nat):Int)+1)=((4*i+1:Nat):Int):=by rw[aT];omega
    have e2:I64 (((4*i:Nat):Int)+2)=((4*i+2:Nat):Int):=by rw[aT];omega
    have e3:I64 (((4*i:Nat):Int)+3)=((4*i+3:Nat):Int):=by rw[aT];omega
    simp only[e0,e1,e2,e3,aB]
    rw[rS (by simp;omega),aa,rS (by simp;omega),aa,rS (by simp;omega),aa,rS (by simp;omega),aa,
     bR,aa,bu,mG v i hi,aa,aa,
     wordE (hb _ (by omega)) (hb _ (by omega)) (hb _ (by omega)) (hb _ (by omega))]
    rfl
  ·refine⟨v.setIfInBounds i (aFT b (oK b i) i),?_,?_⟩
   ·rw[aLo hv hi,oK]
   ·rw[df (show ¬(i:Int) < 16 by omega),cond_false]
    have f15:I64 ((i:Int) - 15)=((i - 15:Nat):Int):=by rw[aT];omega
    have f2:I64 ((i:Int) - 2)=((i - 2:Nat):Int):=by rw[aT];omega
    have f16:I64 ((i:Int) - 16)=((i - 16:Nat):Int):=by rw[aT];omega
    have f7:I64 ((i:Int) - 7)=((i - 7:Nat):Int):=by rw[aT];omega
    rw[f15,f2,f16,f7]
    simp only[aB,bu]
    rw[bR (i:=((i - 15:Nat):Int)),aa,aNO hv (show i - 15 < i by omega),aa,
     bR (i:=((i - 2:Nat):Int)),aa,aNO hv (show i - 2 < i by omega),aa,
     bR (i:=((i - 16:Nat):Int)),aa,aNO hv (show i - 16 < i by omega),aa,
     show(7:Int)=((7:Nat):Int) from rfl,aIZ N _ 7,aa,show(18:Int)=((18:Nat):Int) from rfl,aIZ N _ 18,aa,
     bR (i:=((i - 7:Nat):Int)),aa,aNO hv (show i - 7 < i by omega),aa,
     show(17:Int)=((17:Nat):Int) from rfl,aIZ N _ 17,aa,show(19:Int)=((19:Nat):Int) from rfl,aIZ N _ 19,aa,
     bR (i:=(i:Int)),aa,mG v i hi,aa,aa]
    have:U32 (U32 (U32 ((oK b i).getD (i - 16) 0+sig0 ((oK b i).getD (i - 15) 0))+(oK b i).getD (i - 7) 0)+sig1 ((oK b i).getD (i - 2) 0))=aFT b (oK b i) i:=by
     unfold aFT;rw[if_neg h16]
     simp only[aLT]
     omega
    rw[<- this]
    rfl) (λk v=>by rw[kD,df,cond_false]) N 0 (ah 64 0) (by simp[oK]) (by omega) (by omega)
 refine⟨v,h2,?_⟩
 rw[<- h1,aq (by simp)]
theorem aUE{l r:List Int}(h:l.length<=100)(h':r.length<=100:=by simp):fL 4 l r=some (l++r):=dG
theorem vec8(s:Vector Int 8):s=#v[s[0],s[1],s[2],s[3],s[4],s[5],s[6],s[7]]:=by
 apply nm;intro i hi
 match i,hi with
 | 0,_=>rfl
 | 1,_=>rfl
 | 2,_=>rfl
 | 3,_=>rfl
 | 4,_=>rfl
 | 5,_=>rfl
 | 6,_=>rfl
 | 7,_=>rfl
def sum1(x:Int):Int:=fG .u32 (fG .u32 (xX x 6) (xX x 11)) (xX x 25)
def sum0(x:Int):Int:=fG .u32 (fG .u32 (xX x 2) (xX x 13)) (xX x 22)
def t1V(s:Vector Int 8)(k w:Int):Int:=U32 (U32 (U32 (U32 (s[7]+sum1 s[4])+fG .u32 (cF .u32 s[4] s[5]) (cF .u32 (bnot .u32 s[4]) s[6]))+k)+w)
def t2V(s:Vector Int 8):Int:=U32 (sum0 s[0]+fG .u32 (fG .u32 (cF .u32 s[0] s[1]) (cF .u32 s[0] s[2])) (cF .u32 s[1] s[2]))
def stp(s:Vector Int 8)(k w:Int):Vector Int 8:=#v[U32 (t1V s k w+t2V s),s[0],s[1],s[2],U32 (s[3]+t1V s k w),s[4],s[5],s[6]]
def kV(i:Nat):Int:=eJ.toList.getD i 0
def aIT(w:List Int)(h:Vector Int 8):Nat->Vector Int 8
 | 0=>h
 | i+1=>stp (aIT w h i) (kV i) (w.getD i 0)
theorem cmpL2(N:Nat)(p:Vector Int 64)(h:Vector Int 8)(hN:64 < N):kC N p N h 0=some (aIT p.toList h 64):=by
 obtain⟨v,h1,h2⟩:=aEF 64 (by decide) (λi (v:Vector Int 8)=>v=aIT p.toList h i) (λk v i=>kC N p k v i) (λk v i hi hv=>by
  refine⟨_,rfl,?_⟩
  subst hv;rw[kC,dt (show(i:Int) < 64 by omega),cond_true]
  generalize hs:aIT p.toList h i=s;have r0:aO 0 8=some ():=rfl;have r1:aO 1 8=some ():=rfl;have r2:aO 2 8=some ():=rfl;have r3:aO 3 8=some ():=rfl;have r4:aO 4 8=some ():=rfl;have r5:aO 5 8=some ():=rfl;have r6:aO 6 8=some ():=rfl;have r7:aO 7 8=some ():=rfl;have g0:s.toList[((0:Int).toNat)]? = some s[0]:=mG s 0;have g1:s.toList[((1:Int).toNat)]? = some s[1]:=mG s 1;have g2:s.toList[((2:Int).toNat)]? = some s[2]:=mG s 2;have g3:s.toList[((3:Int).toNat)]? = some s[3]:=mG s 3;have g4:s.toList[((4:Int).toNat)]? = some s[4]:=mG s 4;have g5:s.toList[((5:Int).toNat)]? = some s[5]:=mG s 5;have g6:s.toList[((6:Int).toNat)]? = some s[6]:=mG s 6;have g7:s.toList[((7:Int).toNat)]? = some s[7]:=mG s 7;have q6:∀x,fW N x 6=some (xX x 6):=λx=>aIZ N x 6;have q11:∀x,fW N x 11=some (xX x 11):=λx=>aIZ N x 11;have q25:∀x,fW N x 25=some (xX x 25):=λx=>aIZ N x 25;have q2:∀x,fW N x 2=some (xX x 2):=λx=>aIZ N x 2;have q13:∀x,fW N x 13=some (xX x 13):=λx=>aIZ N x 13;have q22:∀x,fW N x 22=some (xX x 22):=λx=>aIZ N x 22;have ri:aO (i:Int) 64=some ():=bR;have gk:eJ.toList[i]? = some (kV i):=iG (by simp;omega)
  have gp:p.toList[i]? = some (p.toList.getD i 0):=iG (by simp;omega)
  rw[r0,r4,r7,g0,g4,g7]
  simp only[aa,q6,q11,q25,q2,q13,q22,aB,r0,r1,r2,r3,r4,r5,r6,r7,g0,g1,g2,g3,g4,g5,g6,g7,ri,bu,gk,gp]
  rw[aIT,hs]
  rfl) (λk v=>by rw[kC,df,cond_false]) N 0 h rfl (by omega) (by omega)
 rw[<- h1];exact h2
def aEe(s h:Vector Int 8):Nat->Int:=λi=>U32 (s.toList.getD i 0+h.toList.getD i 0)
def endV(s h:Vector Int 8):Vector Int 8:=#v[aEe s h 0,aEe s h 1,aEe s h 2,aEe s h 3,aEe s h 4,aEe s h 5,aEe s h 6,aEe s h 7]
theorem vext8{a:Vector Int 8}{f:Nat->Int}(h:a.toList=(bq 8).map f):a=#v[f 0,f 1,f 2,f 3,f 4,f 5,f 6,f 7]:=by
 have e:∀i (hi:i < 8),a[i]=f i:=by
  intro i hi;have h1:=mG a i hi;rw[h,ci,dw hi] at h1;simpa using h1.symm
 rw[vec8 a,e 0 (by decide),e 1 (by decide),e 2 (by decide),e 3 (by decide),e 4 (by decide),e 5 (by decide),e 6 (by decide),e 7 (by decide)]
theorem aOO(h:Vector Int 8)(F:Nat->Vector Int 8->Int->Option (Vector Int 8))(hF:∀k v i,F (k+1) v i=cond (decide (i < 8)) (ae (aO i 8) λ_=>ae (v.toList[i.toNat]?) λe=>ae (idx h.toList i) λe'=>ae (aO i 8) λ_=>ae (v.toList[i.toNat]?) λ_=>F k (v.setIfInBounds i.toNat (U32 (e+e'))) (I64 (i+1))) (some v))
  (N:Nat) (s:Vector Int 8) (hN:8 < N:=by omega):F N s 0=some (endV s h):=by
 obtain⟨v,h1,h2⟩:=aEF 8 (by decide) (λi (v:Vector Int 8)=>v.toList=(bq i).map (aEe s h)++s.toList.drop i) (λk v i=>F k v i) (λk v i hi hv=>by
  refine⟨v.setIfInBounds i (aEe s h i),?_,?_⟩
  ·have e:(v.setIfInBounds i (aEe s h i)).toList=v.toList.set i (aEe s h i):=by simp
   rw[e,hv,gf _ _ (by simp),cg,ii,ne,List.range_succ,j8,an]
   congr 1;rw[co (by simp;omega)]
   rfl
  ·have hl:=mG v i hi;have he:v[i]=s.toList.getD i 0:=by
    have:=hl;rw[hv,cf (by simp),cg,ii,ne,ff,Nat.add_zero,iG (by simp;omega)] at this;exact(Option.some.inj this).symm
   rw[hF,dt (show(i:Int) < 8 by omega),cond_true,bR,aa,bu,hl,aa,rS (by simp;omega),aa,aa,aa,he]
   rfl) (λk v=>by rw[hF,df,cond_false]) N 0 s (by simp) (by omega) (by omega)
 have e:v.toList=(bq 8).map (aEe s h):=by rw[h1,ed (by simp)];simp
 rw[vext8 e] at h2;exact h2
def aMR(h:Vector Int 8)(b:Vector Int 64):Vector Int 8:=endV (aIT (oK b 64) h 64) h
theorem cmpP(N:Nat)(hN:64 < N)(h:Vector Int 8)(b:Vector Int 64)(hb:aAN b):uB N h b=some (aMR h b):=by
 unfold uB;obtain⟨v,h1,h2⟩:=cmpL1 N b hb hN;rw[h1,aa,cmpL2 N v h hN,aa,h2,aOO h (λk v i=>oG N h k v i) (λk v i=>by rw[oG]) N _,aa]
 rfl
theorem tl4(a0 a1 a2 a3 a4 a5 a6 a7:Int):(#v[a0,a1,a2,a3,a4,a5,a6,a7]:Vector Int 8).toList[((4:Int).toNat)]? = some a4:=rfl
theorem tl0(a0 a1 a2 a3 a4 a5 a6 a7 x:Int):((#v[a0,a1,a2,a3,a4,a5,a6,a7]:Vector Int 8).setIfInBounds ((4:Int).toNat) x).toList[((0:Int).toNat)]? = some a0:=rfl
theorem tls(a0 a1 a2 a3 a4 a5 a6 a7 x y:Int):((#v[a0,a1,a2,a3,a4,a5,a6,a7]:Vector Int 8).setIfInBounds ((4:Int).toNat) x).setIfInBounds ((0:Int).toNat) y=#v[y,a1,a2,a3,x,a5,a6,a7]:=rfl
def H0 : Vector Int 8:=#v[1779033703,3144134277,1013904242,2773480762,1359893119,2600822924,528734635,1541459225]
def uC(m:List Int)(j:Nat):Vector Int 64:=Vector.ofFn (λi:Fin 64=>m.getD (64*j+i.val) 0)
theorem vY(m:List Int)(j i:Nat)(h:i < 64):(uC m j).toList.getD i 0=m.getD (64*j+i) 0:=by
 rw[uI _ i h]
 unfold uC;simp
theorem aJM{a b:Vector Int 64}(h:∀i,i < 64->a.toList.getD i 0=b.toList.getD i 0):a=b:=by
 apply nm;intro i hi;have:=h i hi;rwa[uI _ i hi,uI _ i hi] at this
theorem aS.block{m:List Int}(h:aS m)(j:Nat):aAN (uC m j):=λi hi=>by rw[vY _ _ _ hi];exact h.getD _
def aGj(m:List Int):Nat->Vector Int 8
 | 0=>H0
 | j+1=>aMR (aGj m j) (uC m j)
theorem zS{m x:List Int}{i:Nat}(h:i < m.length:=by omega):(m++x).getD i 0=m.getD i 0:=by
 rw[ap,ap,bx h]
theorem aFQ{m x:List Int}{i:Nat}(h:m.length<=i):(m++x).getD i 0=x.getD (i - m.length) 0:=by
 rw[ap,ap,cf h]
attribute [local irreducible] aMR
theorem aHm(m x:List Int):∀j,64*j<=m.length->aGj (m++x) j=aGj m j
 | 0,_=>rfl
 | j+1,h=>by
  have e:uC (m++x) j=uC m j:=by
   apply aJM;intro i hi;rw[vY _ _ _ hi,vY _ _ _ hi,zS]
  show aMR (aGj (m++x) j) (uC (m++x) j)=aMR (aGj m j) (uC m j)
  rw[e,aHm m x j (by omega)]
structure HOK(m:List Int)(h:Vector Int 8)(blk:Vector Int 64)(n:Int):Prop where
 n:n=(m.length:Int)
 h:h=aGj m (m.length / 64)
 b:∀i,i < m.length % 64->blk.toList.getD i 0=m.getD (64*(m.length / 64)+i) 0
theorem aQA{blk:Vector Int 64}{d:List Int}{lo len:Nat}(h:lo+len<=64:=by omega):∃v,cpV blk d lo len=some v/\v.toList=cpy blk.toList d lo len:=by
 unfold cpV;rw[dif_pos h]
 exact⟨_,rfl,rfl⟩
theorem aWV{l d:List Int}{lo len i:Nat}(hl:lo<=l.length)(h:i < lo):(cpy l d lo len).getD i 0=l.getD i 0:=by
 unfold cpy;rw[an,zS (by simp;omega),ap,ap,gw h]
theorem aW0{l d:List Int}{lo len i:Nat}(hl:lo<=l.length)(h:lo<=i)(h':i < lo+min d.length len):(cpy l d lo len).getD i 0=d.getD (i - lo) 0:=by
 unfold cpy;rw[an,aFQ (by simp;omega),zS (by simp;omega),ap,ap,gw (by simp;omega)]
 simp only[bj]
 rw[fm hl]
theorem aQz{m d:List Int}{h:Vector Int 8}{blk v:Vector Int 64}{n:Int}(H:HOK m h blk n)(hv:v.toList=cpy blk.toList d (m.length % 64) (64 - m.length % 64))(hd:d≠[]) :
  let c:=min d.length (64 - m.length % 64)
  ((m.length+c) % 64≠0->HOK (m++d.take c) h v (n+c))/\((m.length+c) % 64=0->v=uC (m++d.take c) (m.length / 64)/\HOK (m++d.take c) (aMR h v) v (n+c)):=by
 intro c;have hd0:0 < d.length:=ir.2 hd;have hlen:(m++d.take c).length=m.length+c:=by simp[c]
 have hb:∀i,i < m.length % 64+c->v.toList.getD i 0=(m++d.take c).getD (64*(m.length / 64)+i) 0:=by
  intro i hi;rw[hv]
  by_cases h1:i < m.length % 64
  ·rw[aWV (by simp;omega) h1,H.b i h1,zS]
  ·rw[aW0 (by simp;omega) (by omega) (by omega),aFQ (by omega),ap,ap,gw (by omega)]
   congr 2;omega
 have hc:c<=64 - m.length % 64:=Nat.min_le_right _ _;have hc0:0 < c:=by simp only[c];omega
 constructor
 ·intro hne;have e:(m.length+c) / 64=m.length / 64:=by omega
  refine⟨by rw[hlen,H.n];omega,?_,?_⟩
  ·rw[hlen,e,aHm _ _ _ (by omega)];exact H.h
  ·rw[hlen,e]
   intro i hi;exact hb i (by omega)
 ·intro h0;have e:(m.length+c) / 64=m.length / 64+1:=by omega
  have hvb:v=uC (m++d.take c) (m.length / 64):=by
   apply aJM;intro i hi;rw[vY _ _ _ hi]
   exact hb i (by omega)
  refine⟨hvb,by rw[hlen,H.n];omega,?_,?_⟩
  ·rw[hlen,e,aGj,aHm _ _ _ (by omega),<- H.h,<- hvb]
  ·rw[hlen,h0]
   intro i hi;omega
theorem aSS{m:Nat}{lo hi:Int}(h0:0<=lo)(h1:lo<=hi)(h2:hi<=(m:Int))(h3:lo < (m:Int)):aRy m lo hi=some ():=by
 unfold aRy;rw[dt h0,dt h1,dt h2,dt h3];rfl
theorem aSk{m:Nat}{lo hi:Int}(h0:0<=lo)(h1:lo<=hi)(h2:hi<=(m:Int)):aE7 m lo hi=some ():=by
 unfold aE7;rw[dt h0,dt h1,dt h2];rfl
theorem aAO(a b:Nat):cj (a:Int) (b:Int)=((a % b:Nat):Int):=by
 rw[cv (by omega)];rfl
theorem aJX(N:Nat)(hN:64 < N):∀(k:Nat) (m d:List Int) (h:Vector Int 8) (blk:Vector Int 64) (n:Int),HOK m h blk n->aS m->aS d->d.length < k->m.length+d.length < 4611686018427387904 ->
  ∃h' blk' n',iF N k h blk n d=some (h',blk',n')/\HOK (m++d) h' blk' n'
 | 0,_,_,_,_,_,_,_,_,hk,_=>by omega
 | k+1,m,d,h,blk,n,H,hm,hd,hk,hl=>by
  rw[iF,aB]
  by_cases h0:d=[]
  ·subst h0;rw[df (by simp),cond_false]
   exact⟨h,blk,n,rfl,by rwa[dp]⟩
  ·have hd0:0 < d.length:=ir.2 h0;have hn:=H.n;subst hn;rw[dt,cond_true,show(64:Int)=((64:Nat):Int) from rfl,aAO,aSS (by omega) (by omega) (by omega) (by omega),aa,bu,bu]
   obtain⟨v,hv1,hv2⟩:=aQA (blk:=blk) (d:=d) (lo:=m.length % 64) (len:=64 - m.length % 64)
   rw[hv1,aa,aB]
   obtain⟨s1,s2⟩:=aQz H hv2 h0;generalize hc:min d.length (64 - m.length % 64)=c at s1 s2;have hc1:c<=d.length:=by omega
   have hc0:0 < c:=by omega
   rw[aIj hc1,aa]
   have e1:I64 ((m.length:Int)+(c:Int))=((m.length+c:Nat):Int):=by rw[aT];omega
   rw[e1,aAO,aB]
   have e2:m++d=(m++d.take c)++d.drop c:=by rw[an,List.take_append_drop]
   have hl2:(m++d.take c).length=m.length+c:=by simp;omega
   by_cases hz:(m.length+c) % 64=0
   ·obtain⟨hvb,s2⟩:=s2 hz;rw[hz,show((((0:Nat):Int))==0)=true from rfl,cond_true,cmpP N hN h v (by rw[hvb];exact(hm.app (hd.take c)).block _),aa]
    rw[e2]
    exact aJX N hN k _ _ _ _ _ (by have:=s2;rwa[show((m.length:Int)+(c:Int))=((m.length+c:Nat):Int) by omega] at this) (hm.app (hd.take c)) (hd.drop c) (by simp;omega) (by simp;omega)
   ·rw[show((((m.length+c) % 64:Nat):Int)==0)=false by simp;omega,cond_false]
    rw[e2]
    exact aJX N hN k _ _ _ _ _ (by have:=s1 hz;rwa[show((m.length:Int)+(c:Int))=((m.length+c:Nat):Int) by omega] at this) (hm.app (hd.take c)) (hd.drop c) (by simp;omega) (by simp;omega)
theorem aN9(N:Nat)(hN:64 < N)(ps:List (List Int))(hb:∀p∈ps,aS p)(hlen:∀p∈ps,p.length < N)(hps:ps.length < 4611686018427387904):∀(k i:Nat) (m:List Int) (h:Vector Int 8) (blk:Vector Int 64) (n:Int),HOK m h blk n->aS m->i<=ps.length->ps.length - i < k->m.length+(ps.drop i).flatten.length < 4611686018427387904 ->
  ∃h' blk' n',iA N ps k h blk n (i:Int)=some (h',blk',n')/\HOK (m++(ps.drop i).flatten) h' blk' n'
 | 0,_,_,_,_,_,_,_,_,hk,_=>by omega
 | k+1,i,m,h,blk,n,H,hm,hi,hk,hl=>by
  rw[iA,aB]
  by_cases h0:i < ps.length
  ·have hd:=co h0;rw[hd,ip] at hl ⊢;rw[ai] at hl;obtain⟨h',blk',n',e1,e2⟩:=aJX N hN N m ps[i] h blk n H hm (hb _ (cm h0)) (hlen _ (cm h0)) (by omega)
   rw[dt,cond_true,cQ h0,aa,e1,aa,cI,<- an]
   exact aN9 N hN ps hb hlen hps k (i+1) _ _ _ _ e2 (hm.app (hb _ (cm h0))) (by omega) (by omega) (by simp;simp at hl;omega)
  ·rw[df,cond_false,ed (by omega)]
   exact⟨h,blk,n,rfl,by simpa using H⟩
theorem H0_nz : eqV (λa b=>a==b) H0 (ah 8 0)=false:=rfl
theorem aNx(N:Nat){m:List Int}{h:Vector Int 8}{blk:Vector Int 64}{n:Int}(H:HOK m h blk n):oL N (dL.mk h blk n)=some false:=by
 unfold oL;simp only[aB]
 by_cases h0:m=[]
 ·subst h0;have:h=H0:=H.h;rw[this,H0_nz]
  rfl
 ·have:(n==0)=false:=by rw[H.n];have:=ir.2 h0;simp;exact h0
  rw[this]
  cases eqV (λa b=>a==b) h (ah 8 0) <;> rfl
theorem aJt(N:Nat)(hN:64 < N){m:List Int}{h:Vector Int 8}{blk:Vector Int 64}{n:Int}(H:HOK m h blk n)(hm:aS m)(ps:List (List Int))(hb:∀p∈ps,aS p)(hlen:∀p∈ps,p.length < N)(hps:ps.length < N)(hps2:ps.length < 4611686018427387904)(hl:m.length+ps.flatten.length < 4611686018427387904) :
  ∃h' blk' n',dW N ps (dL.mk h blk n)=some (h',blk',n')/\HOK (m++ps.flatten) h' blk' n':=by
 unfold dW;obtain⟨h',blk',n',e1,e2⟩:=aN9 N hN ps hb hlen hps2 N 0 m h blk n H hm (by omega) (by omega) (by simpa using hl)
 refine⟨h',blk',n',?_,by simpa using e2⟩
 rw[aNx N H,aa,cond_false]
 show ae (iA N ps N h blk n 0) _=_;rw[show((0:Nat):Int)=0 from rfl] at e1;rw[e1]
 rfl
def aIy(n:Nat):Int:=shl .u64 (U64 (n:Int)) 3
def beB(n j:Nat):Int:=U8 (shr .u64 (aIy n) ((8*(7 - j):Nat):Int))
def lW(n:Nat):Nat:=(119 - n % 64) % 64
def aFx(n:Nat):List Int:=(128 :: aj (lW n) 0)++(bq 8).map (beB n)
theorem aBl(n:Nat):(aFx n).length=lW n+9:=by unfold aFx;simp
theorem aG2(n:Nat):aS (aFx n):=by
 intro x hx;unfold aFx at hx;rcases List.mem_append.1 hx with h | h
 ·rcases cx.1 h with h | h
  ·subst h;exact⟨by decide,by decide⟩
  ·have:=List.eq_of_mem_replicate h;subst this;exact⟨by decide,by decide⟩
 ·obtain⟨j,_,rfl⟩:=dh.1 h;exact aId _
def aFm(B:Nat->Int)(i:Nat):List Int:=(bq 8).map (λj=>if 8<=j+i then B j else 0)
theorem aOr(B:Nat->Int):∀i,i < 8->(aFm B i).set (7 - i) (B (7 - i))=aFm B (i+1)
 | 0,_=>rfl
 | 1,_=>rfl
 | 2,_=>rfl
 | 3,_=>rfl
 | 4,_=>rfl
 | 5,_=>rfl
 | 6,_=>rfl
 | 7,_=>rfl
theorem aTB(B:Nat->Int):aFm B 8=(bq 8).map B:=rfl
theorem aS1(B:Nat->Int):aFm B 0=aj 8 0:=rfl
theorem padP(N:Nat)(hN:8 < N)(n:Nat)(hn:n < 4611686018427387904):aAW N (n:Int)=some (aFx n):=by
 unfold aAW;have hz:lW n < 64:=by unfold lW;omega
 have e0:tA (n:Int) 0=(n:Int):=by unfold tA;split <;> omega
 have e1:cj (I64 (119 - (((n % 64:Nat)):Int))) 64=(lW n:Int):=by
  rw[show I64 (119 - ((n % 64:Nat):Int))=((119 - n % 64:Nat):Int) by rw[aT];omega,show(64:Int)=((64:Nat):Int) from rfl,aAO]
  rfl
 have e2:I64 (I64 (1+(lW n:Int))+8)=((lW n+9:Nat):Int):=by
  rw[aT (x:=1+(lW n:Int)),aT];omega
 rw[aB,e0,show cj (n:Int) 64=((n % 64:Nat):Int) from aAO n 64,aB,e1,aB,e2,bu]
 have e3:mkO 1 ((lW n+9:Nat):Int)=some ():=by
  unfold mkO;rw[dt (show(0:Int)<=((lW n+9:Nat):Int) by omega),dt (show((lW n+9:Nat):Int)<=140737488355328 by omega),dt (show((lW n+9:Nat):Int)*((1:Nat):Int)<=140737488355328 by omega)]
  rfl
 rw[e3,aa,bR,aa,show((0:Int).toNat)=0 from rfl,cq,if_pos (by omega),aa]
 have e4:(aj (lW n+9) (0:Int)).set 0 128=(128 :: aj (lW n) 0)++aFm (beB n) 0:=by
  rw[aS1,show lW n+9=(lW n+8)+1 by omega,j5,lz,List.cons_append,List.replicate_append_replicate]
 rw[e4]
 obtain⟨v,h1,h2⟩:=aEF 8 (by decide) (λi (l:List Int)=>l=(128 :: aj (lW n) 0)++aFm (beB n) i) (λk l i=>qO N ((lW n+9:Nat):Int) (n:Int) k l i) (λk l i hi hl=>by
  refine⟨_,rfl,?_⟩
  have hlen:l.length=lW n+9:=by rw[hl];simp[aFm]
  have f1:I64 (((lW n+9:Nat):Int) - 1)=((lW n+8:Nat):Int):=by rw[aT];omega
  have f2:I64 (((lW n+8:Nat):Int) - (i:Int))=((lW n+8 - i:Nat):Int):=by rw[aT];omega
  have f3:I64 (8*(i:Int))=((8*i:Nat):Int):=by rw[aT];omega
  rw[qO,dt (show(i:Int) < 8 by omega),cond_true,bu,aB,f1,aB,e0,f3,jH .u64,aa,f2,bR,aa,bu,iG,aa]
  have hset:l.set (lW n+8 - i) (U8 (shr .u64 (aIy n) ((8*i:Nat):Int)))=(128 :: aj (lW n) 0)++aFm (beB n) (i+1):=by
   rw[hl,gf _ _ (by simp;omega),<- aOr _ i hi,show lW n+8 - i - (128 :: aj (lW n) (0:Int)).length=7 - i by simp;omega]
   unfold beB;rw[show 8*(7 - (7 - i))=8*i by omega]
  show qO N ((lW n+9:Nat):Int) (n:Int) k (l.set (lW n+8 - i) (U8 (shr .u64 (aIy n) ((8*i:Nat):Int)))) _=_;rw[hset]) (λk l=>by rw[qO,df,cond_false]) N 0 _ rfl (by omega) (by omega)
 rw[show((0:Nat):Int)=0 from rfl] at h2;rw[h2,aa,h1,aTB]
 have:aF7 (128 :: aj (lW n) 0++f8 (beB n) (bq 8)) (lW n+9)=some ():=by
  unfold aF7;rw[show(128 :: aj (lW n) (0:Int)++f8 (beB n) (bq 8)).length=lW n+9 by simp,show Nat.beq (lW n+9) (lW n+9)=true from Nat.beq_refl _]
  rfl
 rw[this,aa]
 rfl
theorem aS8(n:Nat):U64 (U64 (n:Int)*8)=aIy n:=by
 unfold aIy;rw[aNz _ 3 3 rfl,aIo (U64 (n:Int)*8)]
 rfl
theorem aIB{n:Nat}(B:Nat->Int){t:Nat}(h:t < n):((bq n).map B).take (t+1)=((bq n).map B).take t++[B t]:=by
 rw[ik,ci,dw h]
 rfl
def aPS(h:Vector Int 8):Vector Int 32:=#v[U8 (shr .u32 h[0] 24),U8 (shr .u32 h[0] 16),U8 (shr .u32 h[0] 8),U8 h[0],U8 (shr .u32 h[1] 24),U8 (shr .u32 h[1] 16),U8 (shr .u32 h[1] 8),U8 h[1],
 U8 (shr .u32 h[2] 24),U8 (shr .u32 h[2] 16),U8 (shr .u32 h[2] 8),U8 h[2],U8 (shr .u32 h[3] 24),U8 (shr .u32 h[3] 16),U8 (shr .u32 h[3] 8),U8 h[3],
 U8 (shr .u32 h[4] 24),U8 (shr .u32 h[4] 16),U8 (shr .u32 h[4] 8),U8 h[4],U8 (shr .u32 h[5] 24),U8 (shr .u32 h[5] 16),U8 (shr .u32 h[5] 8),U8 h[5],
 U8 (shr .u32 h[6] 24),U8 (shr .u32 h[6] 16),U8 (shr .u32 h[6] 8),U8 h[6],U8 (shr .u32 h[7] 24),U8 (shr .u32 h[7] 16),U8 (shr .u32 h[7] 8),U8 h[7]]
theorem shr0(a:Int):shr .u32 a 0=a:=by unfold shr;simp
theorem outP(N K:Nat)(h:Vector Int 8)(blk:Vector Int 64)(n:Int):pA N (h,blk,n) (K+9) (ah 32 0) 0=some (aPS h):=by
 rw[vec8 h]
 generalize h[0]=a0;generalize h[1]=a1;generalize h[2]=a2;generalize h[3]=a3;generalize h[4]=a4;generalize h[5]=a5;generalize h[6]=a6;generalize h[7]=a7
 kernel_rfl
theorem aMc(h:Vector Int 8):aS (aPS h).toList:=by
 intro x hx;unfold aPS at hx;simp only[Vector.toList_mk,cx,dk,or_false] at hx;rcases hx with h | h | h | h | h | h | h | h | h | h | h | h | h | h | h | h | h | h | h | h | h | h | h | h | h | h | h | h | h | h | h | h <;> (subst h;exact aId _)
def endM(m:List Int):Vector Int 8:=aGj (m++aFx m.length) ((m.length+(lW m.length+9)) / 64)
def aBe(m:List Int):Vector Int 32:=aPS (endM m)
theorem aAi(m:List Int):aS (aBe m).toList:=aMc _
theorem hok0 : HOK [] H0 (ah 64 0) 0:=⟨rfl,rfl,by intro i hi;simp at hi⟩
theorem sumP(N:Nat)(hN:100 < N){m:List Int}{h:Vector Int 8}{blk:Vector Int 64}{n:Int}(H:HOK m h blk n)(hm:aS m)(hl:m.length < 4000000000000000000):nE N (dL.mk h blk n)=some (aBe m):=by
 have hz:lW m.length < 64:=by unfold lW;omega
 obtain⟨M,rfl⟩:∃M,N=M+9:=⟨N - 9,by omega⟩
 unfold nE;rw[aNx _ H,aa,cond_false]
 show ae (aAW (M+9) n) _=_;obtain⟨h',blk',n',e1,e2⟩:=aJt (M+9) (by omega) H hm [aFx m.length] (by intro p hp;simp at hp;subst hp;exact aG2 _) (by intro p hp;simp at hp;subst hp;rw[aBl];omega) (by simp) (by simp) (by simp[aBl];omega)
 rw[H.n] at e1 ⊢;rw[padP (M+9) (by omega) m.length (by omega),aa,e1,aa,outP,aa]
 have e3:=e2.h;simp only[ip,List.flatten_nil,dp,ai,aBl] at e3;rw[e3]
 rfl
theorem shaP(N:Nat)(hN:100 < N)(ps:List (List Int))(hb:∀p∈ps,aS p)(hlen:∀p∈ps,p.length < N)(hps:ps.length < N)(hl:ps.flatten.length < 4000000000000000000)(hps2:ps.length < 4000000000000000000:=by simp):sF N ps=some (aBe ps.flatten):=by
 unfold sF;obtain⟨h',blk',n',e1,e2⟩:=aJt N (by omega) hok0 (by intro x hx;cases hx) ps hb hlen hps (by omega) (by simp;simp at hl;omega)
 rw[show aAV N=some () from rfl,aa]
 show ae (dW N ps (dL.mk H0 (ah 64 0) 0)) _=_;rw[e1,aa]
 have hb':aS ps.flatten:=by
  intro x hx;obtain⟨p,hp,hx⟩:=mu.1 hx;exact hb p hp x hx
 rw[dn] at e2;show ae (nE N (dL.mk h' blk' n')) _=_;rw[sumP N hN e2 hb' hl,aa]
theorem aPL{m:Nat}(v:Vector Int m):(bq m).flatMap (λi=>[v.toList.getD i 0])=v.toList:=by
 rw[yJ]
 apply cz;intro i;rw[ci]
 by_cases h:i < m
 ·rw[dw h,iG (by simp;omega)];rfl
 ·rw[ar (by simp;omega),ar (by simp;omega)];rfl
theorem aCz{m:Nat}(hm:m<=1000)(v:Vector Int m)(F:Nat->List Int->Int->Option (List Int))(h1:∀k s i,i < m->s.length<=10000000000000+1000->F (k+1) s (i:Int)=F k (s++[v.toList.getD i 0]) (I64 ((i:Int)+1)))(h2:∀k s,F (k+1) s (m:Int)=some s)
  {N:Nat} (hN:m < N) {s:List Int} (hs:s.length<=10000000000000:=by simp):F N s 0=some (s++v.toList):=by
 have:=kU m (by omega) (λi=>[v.toList.getD i 0]) (λs i=>s.length<=10000000000000+i) F (by intro s i hi hs;simp;omega) (λk s i hi hs=>h1 k s i hi (by omega)) h2 hN (s:=s) (by omega)
 rw[this,aPL]
theorem aLs(v:Vector Int 32):dM v.toList 0 32=some v.toList:=aKA v
theorem aRU(v:Vector Int 64):dM v.toList 0 64=some v.toList:=aKA v
def aEB(key:List Int):List Int:=if 64 < key.length then(aBe key).toList else key
theorem aHI(key:List Int):(aEB key).length<=64:=by
 unfold aEB;split
 ·simp
 ·omega
def uY(key:List Int):List Int:=aEB key++aj (64 - (aEB key).length) 0
theorem vZ(key:List Int):(uY key).length=64:=by have:=aHI key;unfold uY;simp;omega
def yH(key:List Int):List Int:=(uY key).map (λx=>fG .u8 x 54)
def aBZ(key:List Int):List Int:=(uY key).map (λx=>fG .u8 x 92)
theorem zP(key:List Int):aS (yH key):=by intro x hx;obtain⟨y,_,rfl⟩:=dh.1 hx;exact aId _
theorem aFq(key:List Int):aS (aBZ key):=by intro x hx;obtain⟨y,_,rfl⟩:=dh.1 hx;exact aId _
theorem vD(key:List Int):(yH key).length=64:=by unfold yH;rw[cg,vZ]
theorem aAa(key:List Int):(aBZ key).length=64:=by unfold aBZ;rw[cg,vZ]
def aLb(key msg:List Int):Vector Int 32:=aBe (aBZ key++(aBe (yH key++msg)).toList)
theorem aLi(key msg:List Int):fJ (aLb key msg):=aAi _
theorem aT3(m:List Int):[m].flatten=m:=by simp
theorem aUk(N:Nat)(hN:100 < N)(m:List Int)(hm:aS m)(hl:m.length < N)(hl2:m.length < 4000000000000000000):sF N [m]=some (aBe m):=by
 have:=shaP N hN [m] (by intro p hp;simp at hp;subst hp;exact hm) (by intro p hp;simp at hp;subst hp;exact hl) (by simp;omega) (by simpa using hl2)
 rwa[aT3] at this
theorem aER{l:List Int}{f:Int->Int}{n i:Nat}(hl:l.length=n)(hi:i < n):((l.take i).map f++l.drop i).set i (f (l.getD i 0))=(l.take (i+1)).map f++l.drop (i+1):=by
 rw[gf _ _ (by simp;omega)]
 have:i - ((l.take i).map f).length=0:=by simp;omega
 rw[this,co (by omega),lz,ik,j8,an,ap,af (by omega)]
 rfl
theorem padsP(N:Nat)(hN:100 < N)(key:List Int)(hk:aS key)(hl:key.length < N)(hl2:key.length < 4000000000000000000):∃a b,aAu N key=some (a,b)/\a.toList=yH key/\b.toList=aBZ key:=by
 unfold aAu;have e1:(aN (decide ((key.length:Int) > 64)) λx2=>cond x2 (ae (sF N [key]) λr3=>ae (dM r3.toList 0 32) λs5=>some s5) (some key))=some (aEB key):=by
  rw[aB]
  unfold aEB;by_cases h:64 < key.length
  ·rw[if_pos h,dt,cond_true,aUk N hN key hk hl hl2,aa,aLs,aa]
  ·rw[if_neg h,df,cond_false]
 obtain⟨v,hv1,hv2⟩:=aQA (blk:=ah 64 0) (d:=aEB key) (lo:=0) (len:=64)
 have hv:v.toList=uY key:=by
  have:=aHI key;rw[hv2]
  unfold cpy uY;rw[j2,dn,fy,fm this,aq (Nat.le_refl _),show(ah 64 (0:Int)).toList=aj 64 0 from rfl,lh]
 rw[e1,aa,aSk (by omega) (by omega) (by omega),aa,hv1,aa]
 obtain⟨⟨a,b⟩,h1,h2⟩:=aEF 64 (by decide) (λi (p:Vector Int 64×Vector Int 64)=>p.1.toList=((uY key).take i).map (λx=>fG .u8 x 54)++(uY key).drop i/\p.2.toList=((uY key).take i).map (λx=>fG .u8 x 92)++(uY key).drop i) (λk p i=>qU N k p.1 p.2 i) (λk p i hi ⟨g1,g2⟩=>by
  have hlen:=vZ key;refine⟨(p.1.setIfInBounds i (fG .u8 ((uY key).getD i 0) 54),p.2.setIfInBounds i (fG .u8 ((uY key).getD i 0) 92)),⟨?_,?_⟩,?_⟩
  ·rw[show(p.1.setIfInBounds i (fG .u8 ((uY key).getD i 0) 54)).toList=p.1.toList.set i (fG .u8 ((uY key).getD i 0) 54) by simp,g1]
   exact aER (f:=λx=>fG .u8 x 54) hlen hi
  ·rw[show(p.2.setIfInBounds i (fG .u8 ((uY key).getD i 0) 92)).toList=p.2.toList.set i (fG .u8 ((uY key).getD i 0) 92) by simp,g2]
   exact aER (f:=λx=>fG .u8 x 92) hlen hi
  ·have f1:∀f:Int->Int,(((uY key).take i).map f++(uY key).drop i)[i]? = some ((uY key).getD i 0):=by
    intro f;rw[cf (by simp;omega),ff]
    have:i+(i - (((uY key).take i).map f).length)=i:=by simp;omega
    rw[this,iG]
   have f2:=f1 (λx=>fG .u8 x 54)
   have f3:=f1 (λx=>fG .u8 x 92)
   rw[<- g1] at f2;rw[<- g2] at f3;rw[qU,dt (show(i:Int) < 64 by omega),cond_true,bR,aa,bu,f2,aa,aa,aa,aa,f3,aa,aa,aa]) (λk p=>by rw[qU,df,cond_false]) N 0 (v,v) ⟨by simp[hv],by simp[hv]⟩ (by omega) (by omega)
 rw[show((0:Nat):Int)=0 from rfl] at h2;refine⟨a,b,?_,?_,?_⟩
 ·rw[h2,aa]
 ·rw[h1.1,aq (by rw[vZ];omega),ed (by rw[vZ];omega),dp];rfl
 ·rw[h1.2,aq (by rw[vZ];omega),ed (by rw[vZ];omega),dp];rfl
theorem hmacP(N:Nat)(hN:200 < N)(key:List Int)(ps:List (List Int))(hk:aS key)(hl:key.length < N)(hl2:key.length < 4000000000000000000)(hb:∀p∈ps,aS p)(hlen:∀p∈ps,p.length < N)(hps:ps.length < N)(hps2:ps.length < 4000000000000000000)(hpl:ps.flatten.length < 3000000000000000000):aB2 N key ps=some (aLb key ps.flatten):=by
 unfold aB2;obtain⟨a,b,e1,e2,e3⟩:=padsP N (by omega) key hk hl hl2;rw[e1,aa,show aAV N=some () from rfl,aa]
 dsimp only;rw[aRU,aa,e2]
 obtain⟨h1,b1,n1,f1,f2⟩:=aJt N (by omega) hok0 (by intro x hx;cases hx) [yH key] (by intro p hp;simp at hp;subst hp;exact zP key) (by intro p hp;simp at hp;subst hp;rw[vD];omega) (by simp;omega) (by simp) (by simp[vD])
 rw[aT3,dn] at f2;show ae (dW N [yH key] (dL.mk H0 (ah 64 0) 0)) _=_;rw[f1,aa]
 obtain⟨h2,b2,n2,f3,f4⟩:=aJt N (by omega) f2 (zP key) ps hb hlen hps (by omega) (by rw[vD];omega)
 dsimp only;rw[f3,aa]
 dsimp only;have hpb:aS ps.flatten:=by
  intro x hx;obtain⟨p,hp,hx⟩:=mu.1 hx;exact hb p hp x hx
 rw[sumP N (by omega) f4 ((zP key).app hpb) (by rw[ai,vD];omega),aa,aRU,aa,aLs,aa,e3,
  shaP N (by omega) [aBZ key,(aBe (yH key++ps.flatten)).toList] (by intro p hp;simp at hp;rcases hp with rfl | rfl;exact aFq key;exact aAi _) (by intro p hp;simp at hp;rcases hp with rfl | rfl;rw[aAa];omega;simp;omega) (by simp;omega) (by simp[aAa]),aa]
 unfold aLb;simp
end Go.UK
