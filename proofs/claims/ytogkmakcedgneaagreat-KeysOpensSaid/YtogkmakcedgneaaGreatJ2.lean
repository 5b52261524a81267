/- A part of the proof: what the functions of the program compute. -/
import Derived.Test.YtogkmakcedgneaaGreatJ1
import Derived.Test.YtogkmakcedgneaaGreatAJ2
open BitVec renaming ofInt→au,toNat_ofInt→mu,toNat_or→nw
open Int renaming emod_lt_of_pos→jx,emod_nonneg→lf,eq_ofNat_of_zero_le→br,le_of_lt→j5,mul_ediv_add_emod→mv,mul_le_mul_of_nonneg_right→ke,mul_nonneg→kc,pow_pos→nj,toNat_natCast→bo
open List renaming drop_eq_getElem_cons→cg,drop_length→iw,drop_zero→eu,flatMap_cons→dm,flatten_cons→ji,getD_eq_getElem?_getD→ap,getElem?_eq_getElem→af,getElem_mem→co,length_append→ah,length_cons→cx,mem_map→fa,mem_of_mem_take→cu,nil_append→ee,take_of_length_le→bf,take_succ→jg
open Option renaming bind→ae,bind_some→aa
namespace Go.UK
open Go Go.Proofs
set_option maxRecDepth 20000
set_option maxHeartbeats 2000000
set_option linter.all false
theorem aMs(x:Int):U32 x=x % 4294967296:=IntKind.wrap_u32 x
theorem aBu(x:Int):U8 x=x % 256:=IntKind.wrap_u8 x
theorem xL{x:Int}(h:0<=x:=by omega)(h':x < 4294967296:=by omega):U32 x=x:=by rw[aMs];omega
theorem sG{x:Int}(h:0<=x:=by omega)(h':x < 256:=by omega):U8 x=x:=by rw[aBu];omega
theorem aKC(k:IntKind)(a b:Int):bor k a b=bor k b a:=by unfold bor;rw[BitVec.or_comm]
def isW(x:Int):Prop:=0<=x/\x < 4294967296
def isB(x:Int):Prop:=0<=x/\x < 256
theorem isB.w{x:Int}(h:isB x):isW x:=⟨h.1,by have:=h.2;omega⟩
theorem aHl(x:Int):isB (U8 x):=by rw[aBu];exact⟨by omega,by omega⟩
theorem aLo(n:Nat)(h:n < 4294967296):(au 32 (n:Int)).toNat=n:=by
 rw[mu];simp;omega
theorem aSq{a b:Int}(ha:isW a)(hb:isW b):bor .u32 a b=((a.toNat ||| b.toNat:Nat):Int):=by
 obtain⟨ha,ha'⟩:=ha;obtain⟨hb,hb'⟩:=hb;obtain⟨A,rfl⟩:=br ha;obtain⟨B,rfl⟩:=br hb;unfold bor;have h:A ||| B < 2 ^ 32:=Nat.or_lt_two_pow (by omega) (by omega)
 rw[show(au IntKind.u32.bits (A:Int) ||| au IntKind.u32.bits (B:Int)).toNat=A ||| B by
  rw[nw];congr 1 <;> exact aLo _ (by omega),IntKind.wrap_u32]
 simp only[bo]
 omega
theorem aC0{a b:Int}(m:Nat)(ha:isW a)(hb:0<=b)(hb':b < (2 ^ m:Nat))(hm:m<=32)(hd:(2 ^ m:Nat) ∣ a.toNat):bor .u32 a b=a+b:=by
 have h32:(2 ^ m:Nat)<=2 ^ 32:=Nat.pow_le_pow_right (by decide) hm;rw[aSq ha ⟨hb,by omega⟩]
 obtain⟨A,rfl⟩:=br ha.1;obtain⟨B,rfl⟩:=br hb;obtain⟨C,hC⟩:=hd;simp only[bo] at hC ⊢;have:A ||| B=A+B:=by
  rw[hC,Nat.mul_comm,<- Nat.shiftLeft_eq,Nat.shiftLeft_add_eq_or_of_lt (by omega)]
 rw[this]
 omega
theorem aHR(a b:Int)(m:Nat)(hb:b=m)(hm:m<=32:=by decide):shl .u32 a b=(a*(2:Int) ^ m) % 4294967296:=by
 subst hb;unfold shl;rw[show min (m:Int).toNat IntKind.u32.bits=m by simp[IntKind.bits];omega]
 exact IntKind.wrap_u32 _
theorem aRJ{a b:Int}:isB (eT .u8 a b):=aHl _
theorem oV{α:Type}{m:Nat}(v:Vector α m)(i:Nat)(h:i < m:=by decide):v.toList[i]? = some v[i]:=by simp[h]
theorem uQ{m:Nat}(v:Vector Int m)(i:Nat)(h:i < m:=by decide):v.toList.getD i 0=v[i]:=by rw[ap,oV v i h];rfl
theorem fI{l:List Int}{i:Nat}(h:i < l.length:=by omega):l[i]? = some (l.getD i 0):=by rw[ap,af h];rfl
theorem sK{l:List Int}{i:Nat}(h:i < l.length:=by omega):idx l (i:Int)=some (l.getD i 0):=by rw[kX,fI h]
theorem aPO{m:Nat}{v:Vector Int m}{l:List Int}{i j:Nat}(h:v.toList.take i=l)(hj:j < i)(hi:i<=m:=by omega):v.toList[j]? = some (l.getD j 0):=by
 rw[<- h,<- fI (by simp;omega),List.getElem?_take_of_lt hj]
theorem aMd{m:Nat}{v:Vector Int m}{l:List Int}{i:Nat}{x:Int}(h:v.toList.take i=l)(hi:i < m):(v.setIfInBounds i x).toList.take (i+1)=l++[x]:=by
 have e:(v.setIfInBounds i x).toList=v.toList.set i x:=by simp
 rw[e,jg,List.take_set_of_le (Nat.le_refl _),h,List.getElem?_set_self (by simp;omega)]
 rfl
theorem aFb{σ:Type}(n:Nat)(hn:n < 9223372036854775807)(I:Nat->σ->Prop)(F:Nat->σ->Int->Option σ)
  (hstep:∀k s i,i < n->I i s->∃s',I (i+1) s'/\F (k+1) s (i:Int)=F k s' (I64 ((i:Int)+1))) (hend:∀k s,F (k+1) s (n:Int)=some s) :
  ∀(k i:Nat) (s:σ),I i s->i<=n->n - i < k->∃s',I n s'/\F k s (i:Int)=some s'
 | 0,i,_,_,_,h=>by omega
 | k+1,i,s,hs,hi,hk=>by
  by_cases h:i < n
  ·obtain⟨s',h1,h2⟩:=hstep k s i h hs;rw[h2,cF]
   exact aFb n hn I F hstep hend k (i+1) s' h1 (by omega) (by omega)
  ·obtain rfl:i=n:=by omega
   exact⟨s,hs,hend _ _⟩
theorem aU9{σ:Type}(m n:Nat)(hn:n < 9223372036854775807)(I:Nat->σ->Prop)(F:Nat->σ->Int->Option σ)
  (hstep:∀k s i,m<=i->i < n->I i s->∃s',I (i+1) s'/\F (k+1) s (i:Int)=F k s' (I64 ((i:Int)+1))) (hend:∀k s,F (k+1) s (n:Int)=some s) :
  ∀(k i:Nat) (s:σ),I i s->m<=i->i<=n->n - i < k->∃s',I n s'/\F k s (i:Int)=some s'
 | 0,i,_,_,_,_,h=>by omega
 | k+1,i,s,hs,hm,hi,hk=>by
  by_cases h:i < n
  ·obtain⟨s',h1,h2⟩:=hstep k s i hm h hs;rw[h2,cF]
   exact aU9 m n hn I F hstep hend k (i+1) s' h1 (by omega) (by omega) (by omega)
  ·obtain rfl:i=n:=by omega
   exact⟨s,hs,hend _ _⟩
def aN(m:List Int):Prop:=∀x∈m,isB x
theorem aN.app{a b:List Int}(ha:aN a)(hb:aN b):aN (a++b):=λx hx=>by
 rcases List.mem_append.1 hx with h | h
 ·exact ha x h
 ·exact hb x h
theorem aN.getD{m:List Int}(h:aN m)(i:Nat):isB (m.getD i 0):=by
 rw[ap]
 by_cases hi:i < m.length
 ·rw[af hi];exact h _ (co hi)
 ·rw[List.getElem?_eq_none (by omega)];exact⟨by simp,by simp⟩
theorem aN.take{m:List Int}(h:aN m)(n:Nat):aN (m.take n):=λx hx=>h x (cu hx)
theorem aN.drop{m:List Int}(h:aN m)(n:Nat):aN (m.drop n):=λx hx=>h x (List.mem_of_mem_drop hx)
theorem aBT{α:Type}{l:List α}{n:Nat}(h:n<=l.length:=by omega):cR l (n:Int) (l.length:Int)=some (l.drop n):=by
 rw[qC];simp
theorem xG{l r:List Int}(h:l.length<=1000000:=by omega)(h':r.length<=1000000:=by simp):fT 1 l r=some (l++r):=cK
def leB(w:Nat)(x:Int):List Int:=(List.range w).map (λi=>U8 (shr .u64 x ((8*i:Nat):Int)))
theorem bM(w:Nat)(x:Int):(leB w x).length=w:=by unfold leB;simp
theorem aBE(w:Nat)(x:Int):aN (leB w x):=by
 intro y hy;unfold leB at hy;obtain⟨i,_,rfl⟩:=fa.1 hy;exact aHl _
def bL(w:Nat):Int:=256 ^ w
theorem aKW(w:Nat):(2:Int) ^ (8*w)=bL w:=by unfold bL;rw[Int.pow_mul];rfl
theorem aKi(x:Int)(i:Nat)(h:i<=8:=by omega):shr .u64 x ((8*i:Nat):Int)=x / bL i:=by
 rw[zC .u64 x _ (8*i) rfl (by show 8*i<=64;omega),aKW]
theorem wT(w:Nat):0 < bL w:=nj (by decide)
theorem aEC(w:Nat):bL (w+1)=bL w*256:=Int.pow_succ _ _
theorem div_s{x:Int}(i:Nat):x / bL (i+1)=x / bL i / 256:=by
 rw[aEC,Int.ediv_ediv_of_nonneg (j5 (wT i))]
theorem aE0{α β ρ:Type}(l:List α)(hl:l.length < 9223372036854775807)(bad:α->Bool)(f:α->List β)(r:ρ)(I:List β->Nat->Prop)(F:Nat->List β->Int->Option (Sum (List β) ρ))
  (hI:∀s i (h:i < l.length),I s i->I (s++f l[i]) (i+1)) (h1:∀k s i (h:i < l.length),I s i->F (k+1) s (i:Int)=cond (bad l[i]) (some (.inr r)) (F k (s++f l[i]) (I64 ((i:Int)+1)))) (h2:∀k s,F (k+1) s (l.length:Int)=some (.inl s)) :
  ∀(k i:Nat) (s:List β),I s i->i<=l.length->l.length - i < k->F k s (i:Int)=some (cond ((l.drop i).any bad) (.inr r) (.inl (s++(l.drop i).flatMap f)))
 | 0,i,_,_,_,h=>by omega
 | k+1,i,s,hs,hi,hk=>by
  by_cases h:i < l.length
  ·rw[h1 k s i h hs,cg h,List.any_cons]
   cases hb:bad l[i] with
   | true=>rfl
   | false=>
    rw[cond_false,cF,aE0 l hl bad f r I F hI h1 h2 k (i+1) _ (hI s i h hs) (by omega) (by omega),Bool.false_or,dm,List.append_assoc]
  ·obtain rfl:i=l.length:=by omega
   rw[h2,iw];simp
def big(w:Nat)(x:Int):Bool:=decide (bL w<=x)
def aJw(b:List Int)(w:Nat)(ns:List Int):List Int×Int:=cond (ns.any (big w)) ([],3) (b++ns.flatMap (leB w),0)
def u64L(ns:List Int):Prop:=∀x∈ns,0<=x/\x < 18446744073709551616
theorem putL2(N w:Nat)(hw:w<=8)(x:Int)(s:List Int)(hs:s.length<=100000000000000)(hN:8 < N):pU N (w:Int) x N s 0=some (s++leB w x):=by
 have:=oI w (by omega) (λi=>[U8 (shr .u64 x ((8*i:Nat):Int))]) (λs i=>s.length<=100000000000000+i) (pU N (w:Int) x) (by intro s i hi hs;simp;omega) (λk s i hi hs=>by
  have f:I64 (8*(i:Int))=((8*i:Nat):Int):=by rw[aP];omega
  rw[pU,dt,cond_true,f,jB .u64,aa,cK (by simp;omega),aa]) (λk s=>by rw[pU,df,cond_false]) (N:=N) (by omega) (s:=s) (by simpa using hs)
 rw[this,aCf]
 rfl
theorem aQX(N:Nat)(l:List Int)(h:l.length<=100000000000000):kW N l=some l:=by
 unfold kW;rw[cK (by simp;omega),aa,ee]
theorem big8{x:Int}(h:x < 18446744073709551616):big 8 x=false:=by
 unfold big;rw[show bL 8=18446744073709551616 from rfl]
 exact df
theorem aQI(N:Nat)(b:List Int)(w:Nat)(hw0:1<=w)(hw:w<=8)(ns:List Int)(hns:u64L ns)(hb:b.length<=10000000000000)(hl:ns.length<=1000000000000)(hN:8 < N)(hlN:ns.length < N):bW N b (w:Int) ns=some (aJw b w ns):=by
 unfold bW;rw[df (show ¬(w:Int) < 1 by omega),df (show ¬(w:Int) > 8 by omega),cond_false,aC,cond_false,aQX N b (by omega),aa]
 have:=aE0 ns (by omega) (big w) (leB w) (([],3):List Int×Int) (λs i=>s.length<=10000000000000+8*i) (λk s i=>sF N ns (w:Int) k s i) (by intro s i h hs;simp[bM];omega) (λk s i h hs=>by
  have hx:=hns _ (co h)
  have f:I64 (8*(w:Int))=((8*w:Nat):Int):=by rw[aP];omega
  rw[sF,aC,dt,cond_true,cN h,aa]
  have e:(cond (decide ((w:Int) < 8)) (ae (yR .u64 ns[i] (I64 (8*(w:Int)))) λx9=>some (decide (x9 > 0))) (some false))=some (big w ns[i]):=by
   by_cases h8:w < 8
   ·rw[dt,cond_true,f,jB .u64,aa,aKi _ _]
    congr 1;unfold big;have hp:=wT w;by_cases hb:bL w<=ns[i]
    ·have:1<=ns[i] / bL w:=(Int.le_ediv_iff_mul_le hp).2 (by omega)
     rw[dt hb,dt]
    ·have:ns[i] / bL w < 1:=Int.ediv_lt_of_lt_mul hp (by omega)
     rw[df hb,df]
   ·obtain rfl:w=8:=by omega
    rw[df,cond_false,big8 hx.2]
  rw[e,aa]
  cases hbg:big w ns[i] with
  | true=>rfl
  | false=>rw[cond_false,cond_false,putL2 N w hw _ _ (by omega) hN,aa]) (λk s=>by rw[sF,aC,df,cond_false]) N 0 b (by omega) (by omega) (by omega)
 rw[show((0:Nat):Int)=0 from rfl,eu] at this;rw[this,aa]
 unfold aJw;cases ns.any (big w) <;> rfl
def aFJ(w:Nat)(x:Int):Bool:=decide (x < -(bL w / 2))||decide (bL w / 2<=x)
def aSC(ns:List Int):Prop:=∀x∈ns,aEw x
def aRN(b:List Int)(w:Nat)(ns:List Int):List Int×Int:=cond (ns.any (aFJ w)) ([],3) (aJw b w (ns.map (λx=>x % bL w)))
theorem w8{w:Nat}(h0:1<=w)(h:w<=8):w=1\/w=2\/w=3\/w=4\/w=5\/w=6\/w=7\/w=8:=by omega
theorem aPo(x:Int)(m:Nat)(h:m<=64:=by omega):shl .i64 x (m:Int)=I64 (x*(2:Int) ^ m):=by
 unfold shl;rw[show min (m:Int).toNat IntKind.i64.bits=m by simp[IntKind.bits];omega]
theorem sgnA{w:Nat}(h0:1<=w)(h:w<=8){x:Int}(hx:aEw x):(shr .i64 (shl .i64 x ((64 - 8*w:Nat):Int)) ((64 - 8*w:Nat):Int) != x)=aFJ w x:=by
 obtain⟨x0,x1⟩:=hx;rw[zC .i64 _ _ (64 - 8*w) rfl (by show 64 - 8*w<=64;omega),aPo _ _,aPD]
 have key:∀b:Bool,(b=true↔((x*(2:Int) ^ (64 - 8*w)+9223372036854775808) % 18446744073709551616 - 9223372036854775808) / (2:Int) ^ (64 - 8*w)≠x)->(((x*(2:Int) ^ (64 - 8*w)+9223372036854775808) % 18446744073709551616 - 9223372036854775808) / (2:Int) ^ (64 - 8*w) != x)=b:=by
  intro b hb;cases b with
  | true=>simpa using hb
  | false=>simpa using hb
 apply key;unfold aFJ;rw[Bool.or_eq_true,decide_eq_true_eq,decide_eq_true_eq]
 rcases w8 h0 h with rfl | rfl | rfl | rfl | rfl | rfl | rfl | rfl
 ·rw[show(2:Int) ^ (64 - 8*1)=72057594037927936 from rfl,show bL 1 / 2=128 from rfl];omega
 ·rw[show(2:Int) ^ (64 - 8*2)=281474976710656 from rfl,show bL 2 / 2=32768 from rfl];omega
 ·rw[show(2:Int) ^ (64 - 8*3)=1099511627776 from rfl,show bL 3 / 2=8388608 from rfl];omega
 ·rw[show(2:Int) ^ (64 - 8*4)=4294967296 from rfl,show bL 4 / 2=2147483648 from rfl];omega
 ·rw[show(2:Int) ^ (64 - 8*5)=16777216 from rfl,show bL 5 / 2=549755813888 from rfl];omega
 ·rw[show(2:Int) ^ (64 - 8*6)=65536 from rfl,show bL 6 / 2=140737488355328 from rfl];omega
 ·rw[show(2:Int) ^ (64 - 8*7)=256 from rfl,show bL 7 / 2=36028797018963968 from rfl];omega
 ·rw[show(2:Int) ^ (64 - 8*8)=1 from rfl,show bL 8 / 2=9223372036854775808 from rfl];omega
theorem sgnB{w:Nat}(h0:1<=w)(h:w<=8){x:Int}(hx:aEw x):shr .u64 (shl .u64 (U64 x) ((64 - 8*w:Nat):Int)) ((64 - 8*w:Nat):Int)=x % bL w:=by
 obtain⟨x0,x1⟩:=hx;rw[zC .u64 _ _ (64 - 8*w) rfl (by show 64 - 8*w<=64;omega),aLb _ _ (64 - 8*w) rfl,aH0]
 rcases w8 h0 h with rfl | rfl | rfl | rfl | rfl | rfl | rfl | rfl
 ·rw[show(2:Int) ^ (64 - 8*1)=72057594037927936 from rfl,show bL 1=256 from rfl];omega
 ·rw[show(2:Int) ^ (64 - 8*2)=281474976710656 from rfl,show bL 2=65536 from rfl];omega
 ·rw[show(2:Int) ^ (64 - 8*3)=1099511627776 from rfl,show bL 3=16777216 from rfl];omega
 ·rw[show(2:Int) ^ (64 - 8*4)=4294967296 from rfl,show bL 4=4294967296 from rfl];omega
 ·rw[show(2:Int) ^ (64 - 8*5)=16777216 from rfl,show bL 5=1099511627776 from rfl];omega
 ·rw[show(2:Int) ^ (64 - 8*6)=65536 from rfl,show bL 6=281474976710656 from rfl];omega
 ·rw[show(2:Int) ^ (64 - 8*7)=256 from rfl,show bL 7=72057594037927936 from rfl];omega
 ·rw[show(2:Int) ^ (64 - 8*8)=1 from rfl,show bL 8=18446744073709551616 from rfl];omega
theorem modU(w:Nat)(h:w<=8)(x:Int):0<=x % bL w/\x % bL w < 18446744073709551616:=by
 have hp:=wT w;have h1:=lf x (Int.ne_of_gt hp)
 have h2:=jx x hp;have h3:bL w<=18446744073709551616:=by
  have:∀i:Fin 9,bL i.val<=18446744073709551616:=by decide
  exact this ⟨w,by omega⟩
 omega
theorem sgnP(N:Nat)(b:List Int)(w:Nat)(hw0:1<=w)(hw:w<=8)(ns:List Int)(hns:aSC ns)(hb:b.length<=10000000000000)(hl:ns.length<=1000000000000)(hN:8 < N)(hlN:ns.length < N):oA N b (w:Int) ns=some (aRN b w ns):=by
 unfold oA;rw[df (show ¬(w:Int) < 1 by omega),df (show ¬(w:Int) > 8 by omega),cond_false,aC,cond_false]
 have:=aE0 ns (by omega) (aFJ w) (λx=>[x % bL w]) (([],3):List Int×Int) (λs i=>s.length=i) (λk s i=>oC N ns (w:Int) k s i) (by intro s i h hs;simp;omega) (λk s i h hs=>by
  have hx:=hns _ (co h)
  have f:I64 (64 - I64 (8*(w:Int)))=((64 - 8*w:Nat):Int):=by rw[aP (x:=8*(w:Int)),aP];omega
  rw[oC,aC,dt,cond_true,cN h,aa,f,aC,tU .i64,aa,aC,jB .i64,aa,sgnA hw0 hw hx]
  cases hbg:aFJ w ns[i] with
  | true=>rfl
  | false=>
   rw[cond_false,cond_false,aC,tU .u64,aa,aC,jB .u64,aa,sgnB hw0 hw hx,cK (by simp;omega),aa]) (λk s=>by rw[oC,aC,df,cond_false]) N 0 [] rfl (by omega) (by omega)
 rw[show((0:Nat):Int)=0 from rfl,eu,ee] at this;rw[this,aa]
 unfold aRN;cases ns.any (aFJ w) with
 | true=>rfl
 | false=>
  rw[cond_false,cond_false]
  show ae (bW N b (w:Int) (ns.flatMap λx=>[x % bL w])) _=_;rw[show(ns.flatMap λx=>[x % bL w])=ns.map (λx=>x % bL w) by
   clear this hns hl hlN
   induction ns with
   | nil=>rfl
   | cons a l ih=>simp[dm,ih]]
  rw[aQI N b w hw0 hw _ (by intro y hy;obtain⟨x,_,rfl⟩:=fa.1 hy;exact modU w hw x) hb (by simpa using hl) hN (by simpa using hlN),aa]
theorem aP2{m:Nat}(v:Vector Int m):cR v.toList 0 (m:Int)=some v.toList:=by
 rw[qC (by omega) (by omega) (by simp)]
 simp[bf]
def eD{m:Nat}(v:Vector Int m):Prop:=aN v.toList
theorem aMG{α σ:Type}(l:List α)(hl:l.length < 9223372036854775807)(st:σ->α->σ)(I:σ->Prop)(F:Nat->σ->Int->Option σ)(hI:∀s a,a∈l->I s->I (st s a))
  (h1:∀k s i (h:i < l.length),I s->F (k+1) s (i:Int)=F k (st s l[i]) (I64 ((i:Int)+1))) (h2:∀k s,F (k+1) s (l.length:Int)=some s) :
  ∀(k i:Nat) (s:σ),I s->i<=l.length->l.length - i < k->F k s (i:Int)=some ((l.drop i).foldl st s)/\I ((l.drop i).foldl st s)
 | 0,i,_,_,_,h=>by omega
 | k+1,i,s,hs,hi,hk=>by
  by_cases h:i < l.length
  ·rw[h1 k s i h hs,cF,cg h,List.foldl_cons]
   exact aMG l hl st I F hI h1 h2 k (i+1) _ (hI s _ (co h) hs) (by omega) (by omega)
  ·obtain rfl:i=l.length:=by omega
   rw[h2,iw]
   exact⟨rfl,hs⟩
theorem aQO{α σ:Type}(l:List α)(hl:l.length < 9223372036854775807)(st:σ->α->σ)(I:σ->Prop)(F:Nat->σ->Int->Option σ)(hI:∀s a,a∈l->I s->I (st s a))
  (h1:∀k s i (h:i < l.length),I s->F (k+1) s (i:Int)=F k (st s l[i]) (I64 ((i:Int)+1))) (h2:∀k s,F (k+1) s (l.length:Int)=some s) {N:Nat} (hN:l.length < N) {s:σ} (hs:I s):F N s 0=some (l.foldl st s)/\I (l.foldl st s):=by
 have:=aMG l hl st I F hI h1 h2 N 0 s hs (by omega) (by omega)
 rwa[eu] at this
theorem aO1{α:Type}{eq:α->α->Bool}(h:∀a b,eq a b=true↔a=b):∀(l r:List α),eqL eq l r=true↔l=r
 | [],[]=>by simp[eqL]
 | [],_ :: _=>by simp[eqL]
 | _ :: _,[]=>by simp[eqL]
 | a :: l,b :: r=>by simp[eqL,h,aO1 h l r]
theorem aFX{m:Nat}(a b:Vector Int m):eqV (λa b=>a==b) a b=true↔a=b:=by
 unfold eqV;rw[aO1 (λa b=>by simp)]
 constructor
 ·intro h;exact Vector.toList_inj.1 h
 ·intro h;rw[h]
theorem aIq{a:Int}(h:isB a):(au 8 a).toNat=a.toNat:=by
 obtain⟨h0,h1⟩:=h;rw[mu]
 simp;omega
theorem bxor8{a b:Int}(ha:isB a)(hb:isB b):eT .u8 a b=0↔a=b:=by
 have e:eT .u8 a b=((au 8 a ^^^ au 8 b).toNat:Int):=by
  unfold eT;have:(au 8 a ^^^ au 8 b).toNat < 256:=(au 8 a ^^^ au 8 b).isLt;exact sG (by omega) (by show((au 8 a ^^^ au 8 b).toNat:Int) < 256;omega)
 rw[e]
 constructor
 ·intro h;have h1:(au 8 a ^^^ au 8 b)=0#8:=by
   apply BitVec.eq_of_toNat_eq;simp only[BitVec.toNat_ofNat]
   omega
  have h2:au 8 a=au 8 b:=BitVec.xor_eq_zero_iff.1 h1;have h3:=congrArg BitVec.toNat h2;rw[aIq ha,aIq hb] at h3;have:=ha.1;have:=hb.1;omega
 ·rintro rfl;rw[BitVec.xor_self]
  rfl
theorem bor8{a b:Int}(ha:isB a)(hb:isB b):isB (bor .u8 a b)/\(bor .u8 a b=0↔a=0/\b=0):=by
 refine⟨aHl _,?_⟩
 have e:bor .u8 a b=((au 8 a ||| au 8 b).toNat:Int):=by
  unfold bor;have:(au 8 a ||| au 8 b).toNat < 256:=(au 8 a ||| au 8 b).isLt;exact sG (by omega) (by show((au 8 a ||| au 8 b).toNat:Int) < 256;omega)
 rw[e,nw,aIq ha,aIq hb]
 have h0:=ha.1;have h1:=hb.1;constructor
 ·intro h;have h:a.toNat ||| b.toNat=0:=by omega
  have:=Nat.or_eq_zero_iff.1 h;omega
 ·rintro⟨rfl,rfl⟩
  rfl
theorem vext{m:Nat}{a b:Vector Int m}(h:∀j,j < m->a.toList.getD j 0=b.toList.getD j 0):a=b:=by
 apply Vector.ext;intro i hi;have:=h i hi;rwa[uQ _ i hi,uQ _ i hi] at this
theorem aQi(N:Nat)(ls:List (List Int))(hl:ls.length < 1000000000)(hb:∀l∈ls,l.length<=1000000000):∀(k i:Nat) (t:Nat),i<=ls.length->ls.length - i < k->t<=1000000000*i->fU N ls k (t:Int) (i:Int)=some ((t+(ls.drop i).flatten.length:Nat):Int)
 | 0,_,_,_,h,_=>by omega
 | k+1,i,t,hi,hk,ht=>by
  rw[fU,aC]
  by_cases h:i < ls.length
  ·have hx:=hb _ (co h)
   have e:I64 ((t:Int)+(ls[i].length:Int))=((t+ls[i].length:Nat):Int):=by rw[aP];omega
   rw[dt,cond_true,cN h,aa,e,aC,df,cond_false,cF,aQi N ls hl hb k (i+1) _ (by omega) (by omega) (by omega),cg h,ji,ah]
   congr 2;omega
  ·rw[df,cond_false,List.drop_of_length_le (by omega)]
   simp
theorem concP(N:Nat)(ls:List (List Int))(hl:ls.length < 1000)(hN:ls.length < N)(hb:∀l∈ls,l.length<=1000000000):cT N ls=some ls.flatten:=by
 unfold cT;have h1:=aQi N ls (by omega) hb N 0 0 (by omega) (by omega) (by omega)
 rw[show((0:Nat):Int)=0 from rfl,eu,Nat.zero_add] at h1;have hfl:∀(l:List (List Int)),(∀x∈l,x.length<=1000000000)->l.flatten.length<=1000000000*l.length:=by
  intro l
  induction l with
  | nil=>intro _;simp
  | cons a l ih=>
   intro h;rw[ji,ah,cx]
   have:=h a (by simp)
   have:=ih (λx hx=>h x (by simp[hx]))
   omega
 have hfl2:=hfl ls hb;have h2:=aQO ls (by omega) (λs a=>s++a) (λs=>True) (dR N ls) (λ_ _ _ _=>trivial)
 have h3:∀(k i:Nat) (s:List Int),s=(ls.take i).flatten->i<=ls.length->ls.length - i < k->dR N ls k s (i:Int)=some ls.flatten:=by
  intro k
  induction k with
  | zero=>intro i s _ _ h;omega
  | succ k ih=>
   intro i s hs hi hk;rw[dR,aC]
   by_cases h:i < ls.length
   ·have e1:s++ls[i]=(ls.take (i+1)).flatten:=by rw[hs,jg,af h,List.flatten_append];simp
    have e2:=hfl (ls.take (i+1)) (λx hx=>hb x (cu hx))
    rw[<- e1,ah,List.length_take] at e2;rw[dt,cond_true,cN h,aa,cK,aa,cF,e1]
    exact ih (i+1) _ rfl (by omega) (by omega)
   ·rw[df,cond_false,hs,bf (by omega)]
 rw[h1,aa,aQk (by omega) (by omega) (by omega),aa]
 have h4:=h3 N 0 [] (by simp) (by omega) (by omega)
 rw[show((0:Nat):Int)=0 from rfl] at h4;rw[h4,aa]
theorem aRa{α:Type}{l:List α}{n:Nat}(h:n<=l.length):aIz l 0 (n:Int) (n:Int)=some (l.take n):=by
 unfold aIz;rw[dt (show(0:Int)<=0 by omega),dt (show(0:Int)<=(n:Int) by omega),dt (show(n:Int)<=(n:Int) by omega),dt (show(n:Int)<=(l.length:Int) by omega)]
 simp
def oB(b:List Int):Int:=b.foldr (λx a=>x+256*a) 0
theorem aIM(x:Int):∀(l:List Int),oB (l++[x])=oB l+x*bL l.length
 | []=>by simp[oB,bL]
 | a :: l=>by
  have h:=aIM x l;have e:oB (a :: l++[x])=a+256*oB (l++[x]):=rfl;have e2:oB (a :: l)=a+256*oB l:=rfl;rw[e,e2,h,cx,aEC]
  grind
theorem aAF : ∀(l:List Int),aN l->0<=oB l/\oB l < bL l.length
 | [],_=>⟨by simp[oB],by simp[oB,bL]⟩
 | a :: l,h=>by
  obtain⟨h1,h2⟩:=aAF l (λx hx=>h x (by simp[hx]))
  obtain⟨h3,h4⟩:=h a (by simp)
  have e2:oB (a :: l)=a+256*oB l:=rfl;rw[e2,cx,aEC]
  omega
theorem aFY{i:Nat}(h:i<=8):bL i<=18446744073709551616:=by
 have:∀i:Fin 9,bL i.val<=18446744073709551616:=by decide
 exact this ⟨i,by omega⟩
theorem aT3{x p:Int}(hx:isB x)(hp:0 < p):0<=x*p/\x*p<=255*p:=by
 have h1:=kc hx.1 (j5 hp)
 have h2:x*p<=255*p:=ke (by have:=hx.2;omega) (j5 hp)
 exact⟨h1,h2⟩
theorem numL(N:Nat)(b:List Int)(t:List Int×Int×List Int)(ht:t.2.2=b)(hb:aN b)(hl:b.length<=8):∀(k i:Nat),i<=b.length->b.length - i < k->cZ N t k (oB (b.take i)) (i:Int)=some (oB b)
 | 0,_,_,h=>by omega
 | k+1,i,hi,hk=>by
  rw[cZ,aC,ht]
  by_cases h:i < b.length
  ·have hx:=hb _ (co h)
   have f:I64 (8*(i:Int))=((8*i:Nat):Int):=by rw[aP];omega
   have ht':(b.take i).length=i:=by simp;omega
   have e1:oB (b.take (i+1))=oB (b.take i)+b[i]*bL i:=by
    rw[jg,af h]
    have:=aIM b[i] (b.take i)
    rw[ht'] at this;exact this
   obtain⟨l1,l2⟩:=aAF (b.take i) (hb.take i)
   rw[ht'] at l2;have hp:=wT i;have hp8:bL (i+1)<=18446744073709551616:=aFY (by omega)
   rw[aEC] at hp8;obtain⟨m1,m2⟩:=aT3 hx hp;have e2:shl .u64 (U64 b[i]) ((8*i:Nat):Int)=b[i]*bL i:=by
    rw[jW hx.1 (by have:=hx.2;omega),aLb _ _ (8*i) rfl,aKW]
    omega
   have e3:bor .u64 (oB (b.take i)) (b[i]*bL i)=oB (b.take i)+b[i]*bL i:=by
    rw[aIF,aKR (8*i) m1 (by omega) l1 (by have:=aKW i;rw[<- this] at l2;push_cast;exact l2) (by omega) ?_]
    ·omega
    ·have h2:(bL i).toNat=2 ^ (8*i):=by rw[<- aKW];rw[<- bo (2 ^ (8*i))];congr 1
     rw[Int.toNat_mul hx.1 (j5 hp),h2]
     exact Nat.dvd_mul_left _ _
   rw[dt,cond_true,cN h,aa,f,tU .u64,aa,e2,e3,<- e1,cF]
   exact numL N b t ht hb hl k (i+1) (by omega) (by omega)
  ·rw[df,cond_false,bf (by omega)]
theorem aSn(x p:Int)(hp:0 < p):x % p+(x / p % 256)*p=x % (p*256):=by
 have e1:x=p*(x / p)+x % p:=(mv x p).symm;have e2:x / p=256*(x / p / 256)+x / p % 256:=(mv (x / p) 256).symm;have b1:0<=x % p:=lf _ (by omega)
 have b2:x % p < p:=jx _ hp;have b3:0<=x / p % 256:=lf _ (by decide)
 have b4:x / p % 256 < 256:=jx _ (by decide)
 generalize x / p % 256=c at *;generalize x / p / 256=q at *;have e3:x=(x % p+c*p)+(p*256)*q:=by
  have h1:p*(x / p)=p*(256*q+c):=by rw[<- e2]
  rw[h1] at e1;have:p*(256*q+c)=(p*256)*q+c*p:=by rw[Int.mul_add,<- Int.mul_assoc,Int.mul_comm p c]
  rw[this] at e1;omega
 have h1:0<=c*p:=kc b3 (by omega)
 have h2:c*p<=255*p:=ke (by omega) (by omega)
 have h3:x % (p*256)=(x % p+c*p) % (p*256):=by
  conv=>lhs;rw[e3]
  rw[Int.add_mul_emod_self_left]
 rw[h3]
 exact(Int.emod_eq_of_lt (by omega) (by omega)).symm
theorem aOL(x:Int):∀w:Nat,w<=8->oB (leB w x)=x % bL w
 | 0,_=>by
  show(0:Int)=x % bL 0;rw[show bL 0=1 from rfl]
  omega
 | w+1,h=>by
  have e:leB (w+1) x=leB w x++[U8 (shr .u64 x ((8*w:Nat):Int))]:=by unfold leB;rw[List.range_succ,List.map_append];rfl
  rw[e,aIM,aOL x w (by omega),bM,aKi x w,aBu,aEC,aSn x _ (wT w)]
def isU(x:Int):Prop:=0<=x/\x < 18446744073709551616
def vV{m:Nat}(v:Vector Int m):Prop:=∀x∈v.toList,isU x
theorem tD(x:Int):isU (U64 x):=⟨aCa x,aGH x⟩
theorem aAI : isU 0:=⟨by decide,by decide⟩
theorem vV.set{m:Nat}{v:Vector Int m}{i:Nat}{x:Int}(h:vV v)(hx:isU x):vV (v.setIfInBounds i x):=by
 intro y hy;have e:(v.setIfInBounds i x).toList=v.toList.set i x:=by simp
 rw[e] at hy;rcases List.mem_or_eq_of_mem_set hy with h' | h'
 ·exact h y h'
 ·rw[h'];exact hx
theorem aSS{α:Type}{m:Nat}(v:Vector α m){i:Nat}(h:i < m:=by decide):v[i]∈v.toList:=by simp
theorem T.vget{m:Nat}{v:Vector Int m}{i:Nat}(h:i < m:=by omega):T (v.toList[i]?) (λ_=>True):=⟨_,Go.UK.oV v i h,trivial⟩
theorem T.vgetU{m:Nat}{v:Vector Int m}{i:Nat}(hv:vV v)(h:i < m:=by decide):T (v.toList[i]?) isU:=⟨_,Go.UK.oV v i h,hv _ (aSS v h)⟩
theorem T.add64{x y c:Int}(hx:isU x)(hy:isU y)(hc:0<=c/\c<=1):T (cW x y c) (λr=>isU r.1/\(0<=r.2/\r.2<=1)):=by
 obtain⟨x0,x1⟩:=hx;obtain⟨y0,y1⟩:=hy;obtain⟨c0,c1⟩:=hc;unfold cW;rw[dt x0,dt y0,dt c0,dt c1]
 refine⟨_,rfl,⟨?_,?_⟩,?_,?_⟩ <;> dsimp only <;> omega
theorem aOJ(N:Nat)(a b:Int):T (cB N a b) (λr=>isU r.1/\isU r.2):=by
 unfold cB;simp only[aC]
 exact⟨_,rfl,tD _,tD _⟩
theorem aB0{k:IntKind}{a:Int}(ha:isU a)(b:Int):isU (shr k a b):=by
 unfold shr;rw[Int.fdiv_eq_ediv_of_nonneg _ (j5 (nj (by decide)))]
 have:=Int.ediv_le_self ((2:Int) ^ min b.toNat k.bits) ha.1;exact⟨Int.ediv_nonneg ha.1 (j5 (nj (by decide))),by have:=ha.2;omega⟩
theorem sJ(a b:Int):isU (bor .u64 a b):=aSp a b
theorem tO(a b:Int):isU (cI .u64 a b):=tD _
theorem wE(a b:Int):isU (aJL .u64 a b):=tD _
theorem T.loop{σ:Type}{n:Nat}(hn:n < 9223372036854775807)(I:Nat->σ->Prop){F:Nat->σ->Int->Option σ}
  (hstep:∀k s i,i < n->I i s->∀Q:σ->Prop,(∀s',I (i+1) s'->T (F k s' ((i+1:Nat):Int)) Q)->T (F (k+1) s (i:Int)) Q) (hend:∀k s,F (k+1) s (n:Int)=some s) :
  ∀(k i:Nat) (s:σ),I i s->i<=n->n - i < k->T (F k s (i:Int)) (I n)
 | 0,i,_,_,_,h=>by omega
 | k+1,i,s,hs,hi,hk=>by
  by_cases h:i < n
  ·exact hstep k s i h hs _ λs' h'=>T.loop hn I hstep hend k (i+1) s' h' (by omega) (by omega)
  ·obtain rfl:i=n:=by omega
   exact⟨s,hend _ _,hs⟩
theorem T.loop0{σ:Type}{n:Nat}(hn:n < 9223372036854775807)(I:Nat->σ->Prop){F:Nat->σ->Int->Option σ}
  (hstep:∀k s i,i < n->I i s->∀Q:σ->Prop,(∀s',I (i+1) s'->T (F k s' ((i+1:Nat):Int)) Q)->T (F (k+1) s (i:Int)) Q) (hend:∀k s,F (k+1) s (n:Int)=some s) {N:Nat} (hN:n < N) {s:σ} (hs:I 0 s):T (F N s 0) (I n):=
 T.loop hn I hstep hend N 0 s hs (by omega) (by omega)
theorem numC(N:Nat)(b:List Int)(h:4<=b.length:=by omega):T (nA N b) (λ_=>True):=by
 unfold nA;refine T.bind (T.idx) λ_ _=>T.bind (T.idx) λ_ _=>?_;refine T.letO λ_ _=>T.bind (T.idx) λ_ _=>T.letO λ_ _=>T.bind (T.idx) λ_ _=>T.letO λ_ _=>T.ret trivial
theorem i4{a i:Nat}(h:a*i < 1000000:=by omega):I64 ((a:Int)*(i:Int))=((a*i:Nat):Int):=by
 have e:(a:Int)*(i:Int)=((a*i:Nat):Int):=by push_cast;rfl
 rw[e];exact aP
theorem ia{a i:Nat}(h:a+i < 1000000:=by omega):I64 ((a:Int)+(i:Int))=((a+i:Nat):Int):=by
 rw[aP];omega
theorem aVd(N:Nat)(hN:20 < N)(key:Vector Int 32)(c:Int)(n:Vector Int 12):T (sE N key c n) (λ_=>True):=by
 unfold sE;refine T.bind (T.loop0 (n:=8) (by decide) (λ_ _=>True) (F:=dS N key) (λk s i hi _ Q hk=>?_) (λk s=>by rw[dS,df,cond_false]) (by omega) trivial) λv _=>?_
 ·rw[dS,dt,cond_true,show(4:Int)=((4:Nat):Int) from rfl,i4,ia]
  refine T.bind (T.slc (by omega) (by omega)) λs4 h4=>T.bind (numC N s4) λr _=>T.bind (T.inRO) λ_ _=>T.bind (T.vget) λe _=>?_;rw[cF]
  exact hk _ trivial
 refine T.bind (T.loop0 (n:=3) (by decide) (λ_ _=>True) (F:=dW N n) (λk s i hi _ Q hk=>?_) (λk s=>by rw[dW,df,cond_false]) (by omega) trivial) λv _=>T.ret trivial;rw[dW,dt,cond_true,show(4:Int)=((4:Nat):Int) from rfl,i4,show(13:Int)=((13:Nat):Int) from rfl,ia]
 refine T.bind (T.slc (by omega) (by omega)) λs4 h4=>T.bind (numC N s4) λr _=>T.bind (T.inRO) λ_ _=>T.bind (T.vget) λe _=>?_;rw[cF]
 exact hk _ trivial
theorem rotT(N:Nat)(x:Int)(n:Nat)(h1:1<=n:=by decide)(h2:n<=31:=by decide):T (bN N x (n:Int)) (λ_=>True):=by
 have b:∀n:Fin 32,cI .u64 (U64 (n.val:Int)) 31=(n.val:Int):=by decide +kernel
 have hb:cI .u64 (U64 (n:Int)) 31=(n:Int):=b ⟨n,by omega⟩
 unfold bN;rw[hb,tU .u32,aa,aC,jW,jB .u32]
 exact T.ret trivial
theorem aRx(N:Nat)(v:Vector Int 4):T (pL N v) (λ_=>True):=by
 unfold pL;refine T.bind (T.idx (by omega) (by simp)) λ_ _=>T.bind (T.idx (by omega) (by simp)) λ_ _=>T.bind (T.idx (by omega) (by simp)) λ_ _=>T.bind (T.idx (by omega) (by simp)) λ_ _=>?_;refine T.letO λ_ _=>T.bind (rotT N _ 16) λ_ _=>T.letO λ_ _=>T.bind (rotT N _ 12) λ_ _=>T.letO λ_ _=>T.bind (rotT N _ 8) λ_ _=>T.letO λ_ _=>T.bind (rotT N _ 7) λ_ _=>T.ret trivial
def aK1 : List (Vector Int 4):=(#v[#v[0,4,8,12],#v[1,5,9,13],#v[2,6,10,14],#v[3,7,11,15],#v[0,5,10,15],#v[1,6,11,12],#v[2,7,8,13],#v[3,4,9,14]]:Vector (Vector Int 4) 8).toList
theorem aQG : ∀v∈aK1,∀x∈v.toList,0<=x/\x < 16:=by unfold aK1;decide
theorem T.place{v:Vector Int 4}(hv:v∈aK1){i:Nat}(h:i < 4:=by decide):T (v.toList[i]?) (λx=>0<=x/\x < 16):=
 ⟨_,Go.UK.oV v i h,aQG v hv _ (aSS v h)⟩
theorem aTt(N:Nat)(hN:20 < N)(s:Vector Int 16):T (aZ N N s 0) (λ_=>True):=by
 refine T.loop0 (n:=8) (by decide) (λ_ _=>True) (F:=aZ N) (λk s i hi _ Q hk=>?_) (λk s=>by rw[aZ,df,cond_false]) (by omega) trivial;rw[aZ,dt,cond_true]
 refine T.bind (T.idx (by omega) (by simp;omega)) λe8 he=>?_;have hm:e8∈aK1:=List.mem_of_getElem? he
 iterate 4 refine T.bind (T.inRO (by decide) (by decide)) λ_ _=>T.bind (T.place hm) λ_ h=>T.bind (T.inRO h.1 h.2) λ_ _=>T.bind (T.vget) λ_ _=>?_
 refine T.bind (aRx N _) λr25 _=>?_;refine T.bind (T.inRO (by decide) (by decide)) λ_ _=>T.bind (T.place hm) λ_ h0=>?_;refine T.bind (T.inRO (by decide) (by decide)) λ_ _=>T.bind (T.place hm) λ_ h1=>?_;refine T.bind (T.inRO (by decide) (by decide)) λ_ _=>T.bind (T.place hm) λ_ h2=>?_;refine T.bind (T.inRO (by decide) (by decide)) λ_ _=>T.bind (T.place hm) λ_ h3=>?_
 iterate 4 refine T.bind (T.inRO (by decide) (by decide)) λ_ _=>T.bind (T.vget (by decide)) λ_ _=>?_
 refine T.bind (T.inRO h0.1 h0.2) λ_ _=>T.bind (T.vget) λ_ _=>T.bind (T.inRO h1.1 h1.2) λ_ _=>T.bind (T.vget) λ_ _=>T.bind (T.inRO h2.1 h2.2) λ_ _=>T.bind (T.vget) λ_ _=>T.bind (T.inRO h3.1 h3.2) λ_ _=>T.bind (T.vget) λ_ _=>?_;rw[cF]
 exact hk _ trivial
theorem aNi(N:Nat)(hN:20 < N)(key:Vector Int 32)(c:Int)(n:Vector Int 12):T (mI N key c n) (λ_=>True):=by
 unfold mI;refine T.bind (aVd N hN key c n) λr1 _=>?_;refine T.bind (T.loop0 (n:=10) (by decide) (λ_ _=>True) (F:=iH N) (λk s i hi _ Q hk=>?_) (λk s=>by rw[iH,df,cond_false]) (by omega) trivial) λp2 _=>?_
 ·rw[iH,dt,cond_true,cF]
  exact T.bind (aTt N hN s) λ_ _=>hk _ trivial
 refine T.bind (T.loop0 (n:=16) (by decide) (λ_ _=>True) (F:=fD N p2 r1) (λk s i hi _ Q hk=>?_) (λk s=>by rw[fD,df,cond_false]) (by omega) trivial) λp3 _=>T.ret trivial;rw[fD,dt,cond_true,show(4:Int)=((4:Nat):Int) from rfl,i4]
 have f1:I64 (((4*i:Nat):Int)+1)=((4*i+1:Nat):Int):=by rw[aP];omega
 have f2:I64 (((4*i:Nat):Int)+2)=((4*i+2:Nat):Int):=by rw[aP];omega
 have f3:I64 (((4*i:Nat):Int)+3)=((4*i+3:Nat):Int):=by rw[aP];omega
 refine T.bind (T.idx (by omega) (by simp;omega)) λ_ _=>T.bind (T.inRO) λ_ _=>T.bind (T.vget) λ_ _=>?_;simp only[aC,f1,f2,f3]
 iterate 4 refine T.bind (T.inRO) λ_ _=>T.bind (T.vget) λ_ _=>?_
 rw[cF]
 exact hk _ trivial
set_option maxHeartbeats 4000000
theorem aEi : isU 5:=⟨by decide,by decide⟩
theorem aG2{a b c:Int}(ha:isU a)(hb:isU b)(hc:isU c):vV (#v[a,b,c]:Vector Int 3):=by
 intro x hx;simp at hx;rcases hx with rfl | rfl | rfl <;> assumption
theorem aGx(N:Nat)(hN:20 < N)(b:List Int)(h:8<=b.length):T (dD N b) isU:=by
 unfold dD;refine T.bind (T.loop0 (n:=8) (by decide) (λ_ x=>isU x) (F:=iY N b) (λk s i hi _ Q hk=>?_) (λk s=>by rw[iY,df,cond_false]) (by omega) aAI) λv h=>T.ret h;rw[iY,dt,cond_true,show(8:Int)=((8:Nat):Int) from rfl,i4]
 refine T.bind (T.idx) λe _=>?_;rw[tU .u64,aa,cF]
 exact hk _ (sJ _ _)
attribute [local irreducible] aS idx cR cW cB dD aM
theorem aP6(N:Nat)(a0 a1:Int)(a2:aT)(h1:isU a0)(h2:isU a1)(h3:vV a2.gA1.gh):T (iR N a0 a1 a2) vV:=by
 unfold iR
 repeat' first
  | refine T.bind (T.inRO (by decide) (by decide)) λ_ _=>?_
  | refine T.bind (T.vgetU (by repeat first | assumption | refine vV.set ?_ ?_ | exact tD _ | refine aG2 ?_ ?_ ?_ | exact tO _ _)) λ_ _=>?_
  | refine T.bind (T.add64 (by first | assumption | exact tD _ | exact aAI | exact aEi | exact sJ _ _ | exact tO _ _ | exact wE _ _ | (refine aB0 ?_ _;first | assumption | exact sJ _ _)) (by first | assumption | exact tD _ | exact aAI | exact aEi | exact sJ _ _ | exact tO _ _ | exact wE _ _ | (refine aB0 ?_ _;first | assumption | exact sJ _ _)) (by first | assumption | exact⟨by decide,by decide⟩)) λ_ ⟨_,_⟩=>?_
  | refine T.bind (aOJ N _ _) λ_ ⟨_,_⟩=>?_
  | refine T.bind (T.slc) λ_ hs=>T.bind (aGx N hN _ (by have:=hs.2;omega)) λ_ _=>?_
  | refine T.bind (T.idx (by decide) (by simp)) λ_ _=>?_
  | refine T.letO λ_ hx=>?_
  | refine T.bind (T.ret trivial) λ_ _=>?_
 exact T.ret (vV.set (vV.set (vV.set (by assumption) (by assumption)) (by assumption)) (tD _))
theorem aMP(N:Nat)(a0 a1:Int)(a2:aO)(h1:isU a0)(h2:isU a1)(h3:vV a2.gh):T (cA N a0 a1 a2) vV:=by
 unfold cA
 repeat' first
  | refine T.bind (T.inRO (by decide) (by decide)) λ_ _=>?_
  | refine T.bind (T.vgetU (by repeat first | assumption | refine vV.set ?_ ?_ | exact tD _ | refine aG2 ?_ ?_ ?_ | exact tO _ _)) λ_ _=>?_
  | refine T.bind (T.add64 (by first | assumption | exact tD _ | exact aAI | exact aEi | exact sJ _ _ | exact tO _ _ | exact wE _ _ | (refine aB0 ?_ _;first | assumption | exact sJ _ _)) (by first | assumption | exact tD _ | exact aAI | exact aEi | exact sJ _ _ | exact tO _ _ | exact wE _ _ | (refine aB0 ?_ _;first | assumption | exact sJ _ _)) (by first | assumption | exact⟨by decide,by decide⟩)) λ_ ⟨_,_⟩=>?_
  | refine T.bind (aOJ N _ _) λ_ ⟨_,_⟩=>?_
  | refine T.bind (T.slc) λ_ hs=>T.bind (aGx N hN _ (by have:=hs.2;omega)) λ_ _=>?_
  | refine T.bind (T.idx (by decide) (by simp)) λ_ _=>?_
  | refine T.letO λ_ hx=>?_
  | refine T.bind (T.ret trivial) λ_ _=>?_
 exact T.ret (vV.set (vV.set (vV.set (by assumption) (by assumption)) (by assumption)) (tD _))
attribute [local irreducible] iR cA
theorem aLX(N:Nat)(hN:20 < N)(b:Vector Int 17)(r0 r1:Int)(m:aT)(hm:vV m.gA1.gh):T (jN N b r0 r1 m) (λr=>vV r.1/\r.2=(m.gC,m.gr0,m.gr1,m.gs0,m.gs1,m.gN,m.gO)):=by
 unfold jN
 repeat' first
  | refine T.bind (T.inRO (by decide) (by decide)) λ_ _=>?_
  | refine T.bind (T.vgetU (by repeat first | assumption | refine vV.set ?_ ?_ | exact tD _ | refine aG2 ?_ ?_ ?_ | exact tO _ _)) λ_ _=>?_
  | refine T.bind (T.add64 (by first | assumption | exact tD _ | exact aAI | exact aEi | exact sJ _ _ | exact tO _ _ | exact wE _ _ | (refine aB0 ?_ _;first | assumption | exact sJ _ _)) (by first | assumption | exact tD _ | exact aAI | exact aEi | exact sJ _ _ | exact tO _ _ | exact wE _ _ | (refine aB0 ?_ _;first | assumption | exact sJ _ _)) (by first | assumption | exact⟨by decide,by decide⟩)) λ_ ⟨_,_⟩=>?_
  | refine T.bind (aOJ N _ _) λ_ ⟨_,_⟩=>?_
  | refine T.bind (T.slc) λ_ hs=>T.bind (aGx N hN _ (by have:=hs.2;omega)) λ_ _=>?_
  | refine T.bind (T.idx (by decide) (by simp)) λ_ _=>?_
  | refine T.bind (aP6 N _ _ _ (by first | assumption | exact tD _ | exact aAI | exact aEi | exact sJ _ _ | (subst_vars;exact sJ _ _) | exact tO _ _ | exact wE _ _ | (refine aB0 ?_ _;first | assumption | exact sJ _ _)) (by first | assumption | exact tD _ | exact aAI | exact aEi | exact sJ _ _ | exact tO _ _ | exact wE _ _ | (refine aB0 ?_ _;first | assumption | exact sJ _ _)) (by repeat first | assumption | refine vV.set ?_ ?_ | exact tD _ | refine aG2 ?_ ?_ ?_ | exact tO _ _)) λ_ _=>?_
  | refine T.letO λ_ hx=>?_
  | refine T.bind (T.ret trivial) λ_ _=>?_
 exact T.ret ⟨by assumption,rfl⟩
theorem aJl(N:Nat)(hN:20 < N)(b:Vector Int 17)(r0 r1:Int)(m:aO)(hm:vV m.gh):T (dB N b r0 r1 m) vV:=by
 unfold dB
 repeat' first
  | refine T.bind (T.inRO (by decide) (by decide)) λ_ _=>?_
  | refine T.bind (T.vgetU (by repeat first | assumption | refine vV.set ?_ ?_ | exact tD _ | refine aG2 ?_ ?_ ?_ | exact tO _ _)) λ_ _=>?_
  | refine T.bind (T.add64 (by first | assumption | exact tD _ | exact aAI | exact aEi | exact sJ _ _ | exact tO _ _ | exact wE _ _ | (refine aB0 ?_ _;first | assumption | exact sJ _ _)) (by first | assumption | exact tD _ | exact aAI | exact aEi | exact sJ _ _ | exact tO _ _ | exact wE _ _ | (refine aB0 ?_ _;first | assumption | exact sJ _ _)) (by first | assumption | exact⟨by decide,by decide⟩)) λ_ ⟨_,_⟩=>?_
  | refine T.bind (aOJ N _ _) λ_ ⟨_,_⟩=>?_
  | refine T.bind (T.slc) λ_ hs=>T.bind (aGx N hN _ (by have:=hs.2;omega)) λ_ _=>?_
  | refine T.bind (T.idx (by decide) (by simp)) λ_ _=>?_
  | refine T.bind (aMP N _ _ _ (by first | assumption | exact tD _ | exact aAI | exact aEi | exact sJ _ _ | (subst_vars;exact sJ _ _) | exact tO _ _ | exact wE _ _ | (refine aB0 ?_ _;first | assumption | exact sJ _ _)) (by first | assumption | exact tD _ | exact aAI | exact aEi | exact sJ _ _ | exact tO _ _ | exact wE _ _ | (refine aB0 ?_ _;first | assumption | exact sJ _ _)) (by repeat first | assumption | refine vV.set ?_ ?_ | exact tD _ | refine aG2 ?_ ?_ ?_ | exact tO _ _)) λ_ _=>?_
  | refine T.letO λ_ hx=>?_
  | refine T.bind (T.ret trivial) λ_ _=>?_
 exact T.ret (by assumption)
end Go.UK
