/- A part of the proof: what the functions of the program compute. -/
import Derived.Test.YtbifjcmhomoppaaGreatJ1
import Derived.Test.YtbifjcmhomoppaaGreatAJ2
open Int renaming eq_ofNat_of_zero_le→bw,le_of_lt→jp,pow_pos→kg,toNat_natCast→bx
open List renaming drop_eq_getElem_cons→cp,drop_length→f8,drop_zero→eu,flatMap_cons→cx,flatten_cons→i5,getD_eq_getElem?_getD→an,getElem?_eq_getElem→ah,getElem_mem→ck,length_append→ai,mem_map→dn,mem_of_mem_take→ce,nil_append→dm,take_of_length_le→ar,take_succ→j5
open Option renaming bind→ae,bind_some→aa
namespace Go.UK
open Go Go.Proofs
set_option maxRecDepth 20000
set_option maxHeartbeats 2000000
set_option linter.all false
theorem aKy(x:Int):U32 x=x % 4294967296:=IntKind.wrap_u32 x
theorem aAz(x:Int):U8 x=x % 256:=IntKind.wrap_u8 x
theorem aDR{x:Int}(h:0<=x)(h':x < 4294967296):U32 x=x:=by rw[aKy];omega
theorem tO{x:Int}(h:0<=x)(h':x < 256):U8 x=x:=by rw[aAz];omega
theorem aJK(k:IntKind)(a b:Int):bor k a b=bor k b a:=by unfold bor;rw[BitVec.or_comm]
def isW(x:Int):Prop:=0<=x/\x < 4294967296
def isB(x:Int):Prop:=0<=x/\x < 256
theorem isB.w{x:Int}(h:isB x):isW x:=⟨h.1,by have:=h.2;omega⟩
theorem aIa(x:Int):isB (U8 x):=by rw[aAz];exact⟨by omega,by omega⟩
theorem aKw(n:Nat)(h:n < 4294967296):(BitVec.ofInt 32 (n:Int)).toNat=n:=by
 rw[BitVec.toNat_ofInt];simp;omega
theorem aSB{a b:Int}(ha:isW a)(hb:isW b):bor .u32 a b=((a.toNat ||| b.toNat:Nat):Int):=by
 obtain⟨ha,ha'⟩:=ha;obtain⟨hb,hb'⟩:=hb;obtain⟨A,rfl⟩:=bw ha;obtain⟨B,rfl⟩:=bw hb;unfold bor;have h:A ||| B < 2 ^ 32:=Nat.or_lt_two_pow (by omega) (by omega)
 rw[show(BitVec.ofInt IntKind.u32.bits (A:Int) ||| BitVec.ofInt IntKind.u32.bits (B:Int)).toNat=A ||| B by
  rw[BitVec.toNat_or];congr 1 <;> exact aKw _ (by omega),IntKind.wrap_u32]
 simp only[bx]
 omega
theorem aCZ{a b:Int}(m:Nat)(ha:isW a)(hb:0<=b)(hb':b < (2 ^ m:Nat))(hm:m<=32)(hd:(2 ^ m:Nat) ∣ a.toNat):bor .u32 a b=a+b:=by
 have h32:(2 ^ m:Nat)<=2 ^ 32:=Nat.pow_le_pow_right (by decide) hm;rw[aSB ha ⟨hb,by omega⟩]
 obtain⟨A,rfl⟩:=bw ha.1;obtain⟨B,rfl⟩:=bw hb;obtain⟨C,hC⟩:=hd;simp only[bx] at hC ⊢;have:A ||| B=A+B:=by
  rw[hC,Nat.mul_comm,<- Nat.shiftLeft_eq,Nat.shiftLeft_add_eq_or_of_lt (by omega)]
 rw[this]
 omega
theorem aG3(a b:Int)(m:Nat)(hb:b=m)(hm:m<=32):shl .u32 a b=(a*(2:Int) ^ m) % 4294967296:=by
 subst hb;unfold shl;rw[show min (m:Int).toNat IntKind.u32.bits=m by simp[IntKind.bits];omega]
 exact IntKind.wrap_u32 _
theorem aTi{a b:Int}:isB (eZ .u8 a b):=aIa _
theorem oT{α:Type}{m:Nat}(v:Vector α m)(i:Nat)(h:i < m):v.toList[i]? = some v[i]:=by simp[h]
theorem wN{m:Nat}(v:Vector Int m)(i:Nat)(h:i < m):v.toList.getD i 0=v[i]:=by rw[an,oT v i h];rfl
theorem lG{l:List Int}{i:Nat}(h:i < l.length):l[i]? = some (l.getD i 0):=by rw[an,ah h];rfl
theorem tY{l:List Int}{i:Nat}(h:i < l.length):idx l (i:Int)=some (l.getD i 0):=by rw[mX,lG h]
theorem aNl{m:Nat}{v:Vector Int m}{l:List Int}{i j:Nat}(h:v.toList.take i=l)(hj:j < i)(hi:i<=m):v.toList[j]? = some (l.getD j 0):=by
 rw[<- h,<- lG (by simp;omega),List.getElem?_take_of_lt hj]
theorem aLm{m:Nat}{v:Vector Int m}{l:List Int}{i:Nat}{x:Int}(h:v.toList.take i=l)(hi:i < m):(v.setIfInBounds i x).toList.take (i+1)=l++[x]:=by
 have e:(v.setIfInBounds i x).toList=v.toList.set i x:=by simp
 rw[e,j5,List.take_set_of_le (Nat.le_refl _),h,List.getElem?_set_self (by simp;omega)]
 rfl
theorem aEK{σ:Type}(n:Nat)(hn:n < 9223372036854775807)(I:Nat->σ->Prop)(F:Nat->σ->Int->Option σ)
  (hstep:∀k s i,i < n->I i s->∃s',I (i+1) s'/\F (k+1) s (i:Int)=F k s' (I64 ((i:Int)+1))) (hend:∀k s,F (k+1) s (n:Int)=some s) :
  ∀(k i:Nat) (s:σ),I i s->i<=n->n - i < k->∃s',I n s'/\F k s (i:Int)=some s'
 | 0,i,_,_,_,h=>by omega
 | k+1,i,s,hs,hi,hk=>by
  by_cases h:i < n
  ·obtain⟨s',h1,h2⟩:=hstep k s i h hs;rw[h2,cZ (by omega)]
   exact aEK n hn I F hstep hend k (i+1) s' h1 (by omega) (by omega)
  ·obtain rfl:i=n:=by omega
   exact⟨s,hs,hend _ _⟩
theorem aTL{σ:Type}(m n:Nat)(hn:n < 9223372036854775807)(I:Nat->σ->Prop)(F:Nat->σ->Int->Option σ)
  (hstep:∀k s i,m<=i->i < n->I i s->∃s',I (i+1) s'/\F (k+1) s (i:Int)=F k s' (I64 ((i:Int)+1))) (hend:∀k s,F (k+1) s (n:Int)=some s) :
  ∀(k i:Nat) (s:σ),I i s->m<=i->i<=n->n - i < k->∃s',I n s'/\F k s (i:Int)=some s'
 | 0,i,_,_,_,_,h=>by omega
 | k+1,i,s,hs,hm,hi,hk=>by
  by_cases h:i < n
  ·obtain⟨s',h1,h2⟩:=hstep k s i hm h hs;rw[h2,cZ (by omega)]
   exact aTL m n hn I F hstep hend k (i+1) s' h1 (by omega) (by omega) (by omega)
  ·obtain rfl:i=n:=by omega
   exact⟨s,hs,hend _ _⟩
def aQ(m:List Int):Prop:=∀x∈m,isB x
theorem aQ.app{a b:List Int}(ha:aQ a)(hb:aQ b):aQ (a++b):=λx hx=>by
 rcases List.mem_append.1 hx with h | h
 ·exact ha x h
 ·exact hb x h
theorem aQ.getD{m:List Int}(h:aQ m)(i:Nat):isB (m.getD i 0):=by
 rw[an]
 by_cases hi:i < m.length
 ·rw[ah hi];exact h _ (ck hi)
 ·rw[List.getElem?_eq_none (by omega)];exact⟨by simp,by simp⟩
theorem aQ.take{m:List Int}(h:aQ m)(n:Nat):aQ (m.take n):=λx hx=>h x (ce hx)
theorem aQ.drop{m:List Int}(h:aQ m)(n:Nat):aQ (m.drop n):=λx hx=>h x (List.mem_of_mem_drop hx)
theorem aJO{α:Type}{l:List α}{n:Nat}(h:n<=l.length):dU l (n:Int) (l.length:Int)=some (l.drop n):=by
 rw[rP (by omega) (by omega) (by omega)];simp
theorem rE{l r:List Int}(h:l.length<=1000000)(h':r.length<=1000000):iB 1 l r=some (l++r):=eF (by omega)
def leB(w:Nat)(x:Int):List Int:=(List.range w).map (λi=>U8 (shr .u64 x ((8*i:Nat):Int)))
theorem iI(w:Nat)(x:Int):(leB w x).length=w:=by unfold leB;simp
theorem pG(w:Nat)(x:Int):aQ (leB w x):=by
 intro y hy;unfold leB at hy;obtain⟨i,_,rfl⟩:=dn.1 hy;exact aIa _
def cH(w:Nat):Int:=256 ^ w
theorem aUl(w:Nat):(2:Int) ^ (8*w)=cH w:=by unfold cH;rw[Int.pow_mul];rfl
theorem aHH(x:Int)(i:Nat)(h:i<=8):shr .u64 x ((8*i:Nat):Int)=x / cH i:=by
 rw[aAg .u64 x _ (8*i) rfl (by show 8*i<=64;omega),aUl]
theorem aA9(w:Nat):0 < cH w:=kg (by decide)
theorem aPv(w:Nat):cH (w+1)=cH w*256:=Int.pow_succ _ _
theorem div_s{x:Int}(i:Nat):x / cH (i+1)=x / cH i / 256:=by
 rw[aPv,Int.ediv_ediv_of_nonneg (jp (aA9 i))]
theorem aEC{α β ρ:Type}(l:List α)(hl:l.length < 9223372036854775807)(bad:α->Bool)(f:α->List β)(r:ρ)(I:List β->Nat->Prop)(F:Nat->List β->Int->Option (Sum (List β) ρ))
  (hI:∀s i (h:i < l.length),I s i->I (s++f l[i]) (i+1)) (h1:∀k s i (h:i < l.length),I s i->F (k+1) s (i:Int)=cond (bad l[i]) (some (.inr r)) (F k (s++f l[i]) (I64 ((i:Int)+1)))) (h2:∀k s,F (k+1) s (l.length:Int)=some (.inl s)) :
  ∀(k i:Nat) (s:List β),I s i->i<=l.length->l.length - i < k->F k s (i:Int)=some (cond ((l.drop i).any bad) (.inr r) (.inl (s++(l.drop i).flatMap f)))
 | 0,i,_,_,_,h=>by omega
 | k+1,i,s,hs,hi,hk=>by
  by_cases h:i < l.length
  ·rw[h1 k s i h hs,cp h,List.any_cons]
   cases hb:bad l[i] with
   | true=>rfl
   | false=>
    rw[cond_false,cZ (by omega),aEC l hl bad f r I F hI h1 h2 k (i+1) _ (hI s i h hs) (by omega) (by omega),Bool.false_or,cx,List.append_assoc]
  ·obtain rfl:i=l.length:=by omega
   rw[h2,f8];simp
def big(w:Nat)(x:Int):Bool:=decide (cH w<=x)
def aI1(b:List Int)(w:Nat)(ns:List Int):List Int×Int:=cond (ns.any (big w)) ([],3) (b++ns.flatMap (leB w),0)
def aPd(ns:List Int):Prop:=∀x∈ns,0<=x/\x < 18446744073709551616
theorem putL2(N w:Nat)(hw:w<=8)(x:Int)(s:List Int)(hs:s.length<=100000000000000)(hN:8 < N):qA N (w:Int) x N s 0=some (s++leB w x):=by
 have:=mL w (by omega) (λi=>[U8 (shr .u64 x ((8*i:Nat):Int))]) (λs i=>s.length<=100000000000000+i) (qA N (w:Int) x) (by intro s i hi hs;simp;omega) (λk s i hi hs=>by
  have f:I64 (8*(i:Int))=((8*i:Nat):Int):=by rw[aR (by omega) (by omega)];omega
  rw[qA,dt (by omega),cond_true,f,kS .u64 (by omega),aa,eF (by simp;omega),aa]) (λk s=>by rw[qA,df (by omega),cond_false]) (N:=N) (by omega) (s:=s) (by simpa using hs)
 rw[this,aAE]
 rfl
theorem aUY(N:Nat)(l:List Int)(h:l.length<=100000000000000):fY N l=some l:=by
 unfold fY;rw[eF (by simp;omega),aa,dm]
theorem big8{x:Int}(h:x < 18446744073709551616):big 8 x=false:=by
 unfold big;rw[show cH 8=18446744073709551616 from rfl]
 exact df (by omega)
theorem aOX(N:Nat)(b:List Int)(w:Nat)(hw0:1<=w)(hw:w<=8)(ns:List Int)(hns:aPd ns)(hb:b.length<=10000000000000)(hl:ns.length<=1000000000000)(hN:8 < N)(hlN:ns.length < N):bO N b (w:Int) ns=some (aI1 b w ns):=by
 unfold bO;rw[df (show ¬(w:Int) < 1 by omega),df (show ¬(w:Int) > 8 by omega),cond_false,aC,cond_false,aUY N b (by omega),aa]
 have:=aEC ns (by omega) (big w) (leB w) (([],3):List Int×Int) (λs i=>s.length<=10000000000000+8*i) (λk s i=>sD N ns (w:Int) k s i) (by intro s i h hs;simp[iI];omega) (λk s i h hs=>by
  have hx:=hns _ (ck h)
  have f:I64 (8*(w:Int))=((8*w:Nat):Int):=by rw[aR (by omega) (by omega)];omega
  rw[sD,aC,dt (by omega),cond_true,dJ h,aa]
  have e:(cond (decide ((w:Int) < 8)) (ae (yW .u64 ns[i] (I64 (8*(w:Int)))) λx9=>some (decide (x9 > 0))) (some false))=some (big w ns[i]):=by
   by_cases h8:w < 8
   ·rw[dt (by omega),cond_true,f,kS .u64 (by omega),aa,aHH _ _ (by omega)]
    congr 1;unfold big;have hp:=aA9 w;by_cases hb:cH w<=ns[i]
    ·have:1<=ns[i] / cH w:=(Int.le_ediv_iff_mul_le hp).2 (by omega)
     rw[dt hb,dt (by omega)]
    ·have:ns[i] / cH w < 1:=Int.ediv_lt_of_lt_mul hp (by omega)
     rw[df hb,df (by omega)]
   ·obtain rfl:w=8:=by omega
    rw[df (by omega),cond_false,big8 hx.2]
  rw[e,aa]
  cases hbg:big w ns[i] with
  | true=>rfl
  | false=>rw[cond_false,cond_false,putL2 N w hw _ _ (by omega) hN,aa]) (λk s=>by rw[sD,aC,df (by omega),cond_false]) N 0 b (by omega) (by omega) (by omega)
 rw[show((0:Nat):Int)=0 from rfl,eu] at this;rw[this,aa]
 unfold aI1;cases ns.any (big w) <;> rfl
def aES(w:Nat)(x:Int):Bool:=decide (x < -(cH w / 2))||decide (cH w / 2<=x)
def aQR(ns:List Int):Prop:=∀x∈ns,aDQ x
def aQS(b:List Int)(w:Nat)(ns:List Int):List Int×Int:=cond (ns.any (aES w)) ([],3) (aI1 b w (ns.map (λx=>x % cH w)))
theorem w8{w:Nat}(h0:1<=w)(h:w<=8):w=1\/w=2\/w=3\/w=4\/w=5\/w=6\/w=7\/w=8:=by omega
theorem shlI(x:Int)(m:Nat)(h:m<=64):shl .i64 x (m:Int)=I64 (x*(2:Int) ^ m):=by
 unfold shl;rw[show min (m:Int).toNat IntKind.i64.bits=m by simp[IntKind.bits];omega]
theorem sgnA{w:Nat}(h0:1<=w)(h:w<=8){x:Int}(hx:aDQ x):(shr .i64 (shl .i64 x ((64 - 8*w:Nat):Int)) ((64 - 8*w:Nat):Int) != x)=aES w x:=by
 obtain⟨x0,x1⟩:=hx;rw[aAg .i64 _ _ (64 - 8*w) rfl (by show 64 - 8*w<=64;omega),shlI _ _ (by omega),aNu]
 have key:∀b:Bool,(b=true↔((x*(2:Int) ^ (64 - 8*w)+9223372036854775808) % 18446744073709551616 - 9223372036854775808) / (2:Int) ^ (64 - 8*w)≠x)->(((x*(2:Int) ^ (64 - 8*w)+9223372036854775808) % 18446744073709551616 - 9223372036854775808) / (2:Int) ^ (64 - 8*w) != x)=b:=by
  intro b hb;cases b with
  | true=>simpa using hb
  | false=>simpa using hb
 apply key;unfold aES;rw[Bool.or_eq_true,decide_eq_true_eq,decide_eq_true_eq]
 rcases w8 h0 h with rfl | rfl | rfl | rfl | rfl | rfl | rfl | rfl
 ·rw[show(2:Int) ^ (64 - 8*1)=72057594037927936 from rfl,show cH 1 / 2=128 from rfl];omega
 ·rw[show(2:Int) ^ (64 - 8*2)=281474976710656 from rfl,show cH 2 / 2=32768 from rfl];omega
 ·rw[show(2:Int) ^ (64 - 8*3)=1099511627776 from rfl,show cH 3 / 2=8388608 from rfl];omega
 ·rw[show(2:Int) ^ (64 - 8*4)=4294967296 from rfl,show cH 4 / 2=2147483648 from rfl];omega
 ·rw[show(2:Int) ^ (64 - 8*5)=16777216 from rfl,show cH 5 / 2=549755813888 from rfl];omega
 ·rw[show(2:Int) ^ (64 - 8*6)=65536 from rfl,show cH 6 / 2=140737488355328 from rfl];omega
 ·rw[show(2:Int) ^ (64 - 8*7)=256 from rfl,show cH 7 / 2=36028797018963968 from rfl];omega
 ·rw[show(2:Int) ^ (64 - 8*8)=1 from rfl,show cH 8 / 2=9223372036854775808 from rfl];omega
theorem sgnB{w:Nat}(h0:1<=w)(h:w<=8){x:Int}(hx:aDQ x):shr .u64 (shl .u64 (U64 x) ((64 - 8*w:Nat):Int)) ((64 - 8*w:Nat):Int)=x % cH w:=by
 obtain⟨x0,x1⟩:=hx;rw[aAg .u64 _ _ (64 - 8*w) rfl (by show 64 - 8*w<=64;omega),aNi _ _ (64 - 8*w) rfl (by omega),aIG]
 rcases w8 h0 h with rfl | rfl | rfl | rfl | rfl | rfl | rfl | rfl
 ·rw[show(2:Int) ^ (64 - 8*1)=72057594037927936 from rfl,show cH 1=256 from rfl];omega
 ·rw[show(2:Int) ^ (64 - 8*2)=281474976710656 from rfl,show cH 2=65536 from rfl];omega
 ·rw[show(2:Int) ^ (64 - 8*3)=1099511627776 from rfl,show cH 3=16777216 from rfl];omega
 ·rw[show(2:Int) ^ (64 - 8*4)=4294967296 from rfl,show cH 4=4294967296 from rfl];omega
 ·rw[show(2:Int) ^ (64 - 8*5)=16777216 from rfl,show cH 5=1099511627776 from rfl];omega
 ·rw[show(2:Int) ^ (64 - 8*6)=65536 from rfl,show cH 6=281474976710656 from rfl];omega
 ·rw[show(2:Int) ^ (64 - 8*7)=256 from rfl,show cH 7=72057594037927936 from rfl];omega
 ·rw[show(2:Int) ^ (64 - 8*8)=1 from rfl,show cH 8=18446744073709551616 from rfl];omega
theorem modU(w:Nat)(h:w<=8)(x:Int):0<=x % cH w/\x % cH w < 18446744073709551616:=by
 have hp:=aA9 w;have h1:=Int.emod_nonneg x (Int.ne_of_gt hp)
 have h2:=Int.emod_lt_of_pos x hp;have h3:cH w<=18446744073709551616:=by
  have:∀i:Fin 9,cH i.val<=18446744073709551616:=by decide
  exact this ⟨w,by omega⟩
 omega
theorem sgnP(N:Nat)(b:List Int)(w:Nat)(hw0:1<=w)(hw:w<=8)(ns:List Int)(hns:aQR ns)(hb:b.length<=10000000000000)(hl:ns.length<=1000000000000)(hN:8 < N)(hlN:ns.length < N):lW N b (w:Int) ns=some (aQS b w ns):=by
 unfold lW;rw[df (show ¬(w:Int) < 1 by omega),df (show ¬(w:Int) > 8 by omega),cond_false,aC,cond_false]
 have:=aEC ns (by omega) (aES w) (λx=>[x % cH w]) (([],3):List Int×Int) (λs i=>s.length=i) (λk s i=>nZ N ns (w:Int) k s i) (by intro s i h hs;simp;omega) (λk s i h hs=>by
  have hx:=hns _ (ck h)
  have f:I64 (64 - I64 (8*(w:Int)))=((64 - 8*w:Nat):Int):=by rw[aR (x:=8*(w:Int)) (by omega) (by omega),aR (by omega) (by omega)];omega
  rw[nZ,aC,dt (by omega),cond_true,dJ h,aa,f,aC,wU .i64 (by omega),aa,aC,kS .i64 (by omega),aa,sgnA hw0 hw hx]
  cases hbg:aES w ns[i] with
  | true=>rfl
  | false=>
   rw[cond_false,cond_false,aC,wU .u64 (by omega),aa,aC,kS .u64 (by omega),aa,sgnB hw0 hw hx,eF (by simp;omega),aa]) (λk s=>by rw[nZ,aC,df (by omega),cond_false]) N 0 [] rfl (by omega) (by omega)
 rw[show((0:Nat):Int)=0 from rfl,eu,dm] at this;rw[this,aa]
 unfold aQS;cases ns.any (aES w) with
 | true=>rfl
 | false=>
  rw[cond_false,cond_false]
  show ae (bO N b (w:Int) (ns.flatMap λx=>[x % cH w])) _=_;rw[show(ns.flatMap λx=>[x % cH w])=ns.map (λx=>x % cH w) by
   clear this hns hl hlN
   induction ns with
   | nil=>rfl
   | cons a l ih=>simp[cx,ih]]
  rw[aOX N b w hw0 hw _ (by intro y hy;obtain⟨x,_,rfl⟩:=dn.1 hy;exact modU w hw x) hb (by simpa using hl) hN (by simpa using hlN),aa]
theorem aJy{m:Nat}(v:Vector Int m):dU v.toList 0 (m:Int)=some v.toList:=by
 rw[rP (by omega) (by omega) (by simp)]
 simp[ar]
def eH{m:Nat}(v:Vector Int m):Prop:=aQ v.toList
theorem aLA{α σ:Type}(l:List α)(hl:l.length < 9223372036854775807)(st:σ->α->σ)(I:σ->Prop)(F:Nat->σ->Int->Option σ)(hI:∀s a,a∈l->I s->I (st s a))
  (h1:∀k s i (h:i < l.length),I s->F (k+1) s (i:Int)=F k (st s l[i]) (I64 ((i:Int)+1))) (h2:∀k s,F (k+1) s (l.length:Int)=some s) :
  ∀(k i:Nat) (s:σ),I s->i<=l.length->l.length - i < k->F k s (i:Int)=some ((l.drop i).foldl st s)/\I ((l.drop i).foldl st s)
 | 0,i,_,_,_,h=>by omega
 | k+1,i,s,hs,hi,hk=>by
  by_cases h:i < l.length
  ·rw[h1 k s i h hs,cZ (by omega),cp h,List.foldl_cons]
   exact aLA l hl st I F hI h1 h2 k (i+1) _ (hI s _ (ck h) hs) (by omega) (by omega)
  ·obtain rfl:i=l.length:=by omega
   rw[h2,f8]
   exact⟨rfl,hs⟩
theorem aOY{α σ:Type}(l:List α)(hl:l.length < 9223372036854775807)(st:σ->α->σ)(I:σ->Prop)(F:Nat->σ->Int->Option σ)(hI:∀s a,a∈l->I s->I (st s a))
  (h1:∀k s i (h:i < l.length),I s->F (k+1) s (i:Int)=F k (st s l[i]) (I64 ((i:Int)+1))) (h2:∀k s,F (k+1) s (l.length:Int)=some s) {N:Nat} (hN:l.length < N) {s:σ} (hs:I s):F N s 0=some (l.foldl st s)/\I (l.foldl st s):=by
 have:=aLA l hl st I F hI h1 h2 N 0 s hs (by omega) (by omega)
 rwa[eu] at this
theorem aNJ{α:Type}{eq:α->α->Bool}(h:∀a b,eq a b=true↔a=b):∀(l r:List α),eqL eq l r=true↔l=r
 | [],[]=>by simp[eqL]
 | [],_ :: _=>by simp[eqL]
 | _ :: _,[]=>by simp[eqL]
 | a :: l,b :: r=>by simp[eqL,h,aNJ h l r]
theorem aGq{m:Nat}(a b:Vector Int m):eqV (λa b=>a==b) a b=true↔a=b:=by
 unfold eqV;rw[aNJ (λa b=>by simp)]
 constructor
 ·intro h;exact Vector.toList_inj.1 h
 ·intro h;rw[h]
theorem aQD(N:Nat)(ls:List (List Int))(hl:ls.length < 1000000000)(hb:∀l∈ls,l.length<=1000000000):∀(k i:Nat) (t:Nat),i<=ls.length->ls.length - i < k->t<=1000000000*i->fU N ls k (t:Int) (i:Int)=some ((t+(ls.drop i).flatten.length:Nat):Int)
 | 0,_,_,_,h,_=>by omega
 | k+1,i,t,hi,hk,ht=>by
  rw[fU,aC]
  by_cases h:i < ls.length
  ·have hx:=hb _ (ck h)
   have e:I64 ((t:Int)+(ls[i].length:Int))=((t+ls[i].length:Nat):Int):=by rw[aR (by omega) (by omega)];omega
   rw[dt (by omega),cond_true,dJ h,aa,e,aC,df (by omega),cond_false,cZ (by omega),aQD N ls hl hb k (i+1) _ (by omega) (by omega) (by omega),cp h,i5,ai]
   congr 2;omega
  ·rw[df (by omega),cond_false,List.drop_of_length_le (by omega)]
   simp
theorem aP8(N:Nat)(ls:List (List Int))(hl:ls.length < 1000)(hN:ls.length < N)(hb:∀l∈ls,l.length<=1000000000):dA N ls=some ls.flatten:=by
 unfold dA;have h1:=aQD N ls (by omega) hb N 0 0 (by omega) (by omega) (by omega)
 rw[show((0:Nat):Int)=0 from rfl,eu,Nat.zero_add] at h1;have hfl:∀(l:List (List Int)),(∀x∈l,x.length<=1000000000)->l.flatten.length<=1000000000*l.length:=by
  intro l
  induction l with
  | nil=>intro _;simp
  | cons a l ih=>
   intro h;rw[i5,ai,List.length_cons]
   have:=h a (by simp)
   have:=ih (λx hx=>h x (by simp[hx]))
   omega
 have hfl2:=hfl ls hb;have h2:=aOY ls (by omega) (λs a=>s++a) (λs=>True) (dX N ls) (λ_ _ _ _=>trivial)
 have h3:∀(k i:Nat) (s:List Int),s=(ls.take i).flatten->i<=ls.length->ls.length - i < k->dX N ls k s (i:Int)=some ls.flatten:=by
  intro k
  induction k with
  | zero=>intro i s _ _ h;omega
  | succ k ih=>
   intro i s hs hi hk;rw[dX,aC]
   by_cases h:i < ls.length
   ·have e1:s++ls[i]=(ls.take (i+1)).flatten:=by rw[hs,j5,ah h,List.flatten_append];simp
    have e2:=hfl (ls.take (i+1)) (λx hx=>hb x (ce hx))
    rw[<- e1,ai,List.length_take] at e2;rw[dt (by omega),cond_true,dJ h,aa,eF (by omega),aa,cZ (by omega),e1]
    exact ih (i+1) _ rfl (by omega) (by omega)
   ·rw[df (by omega),cond_false,hs,ar (by omega)]
 rw[h1,aa,aPx (by omega) (by omega) (by omega),aa]
 have h4:=h3 N 0 [] (by simp) (by omega) (by omega)
 rw[show((0:Nat):Int)=0 from rfl] at h4;rw[h4,aa]
theorem aQL{α:Type}{l:List α}{n:Nat}(h:n<=l.length):aIK l 0 (n:Int) (n:Int)=some (l.take n):=by
 unfold aIK;rw[dt (show(0:Int)<=0 by omega),dt (show(0:Int)<=(n:Int) by omega),dt (show(n:Int)<=(n:Int) by omega),dt (show(n:Int)<=(l.length:Int) by omega)]
 simp
theorem aGs{i:Nat}(h:i<=8):cH i<=18446744073709551616:=by
 have:∀i:Fin 9,cH i.val<=18446744073709551616:=by decide
 exact this ⟨i,by omega⟩
def isU(x:Int):Prop:=0<=x/\x < 18446744073709551616
def uX{m:Nat}(v:Vector Int m):Prop:=∀x∈v.toList,isU x
theorem sW(x:Int):isU (U64 x):=⟨aCP x,aFk x⟩
theorem zP : isU 0:=⟨by decide,by decide⟩
theorem uX.set{m:Nat}{v:Vector Int m}{i:Nat}{x:Int}(h:uX v)(hx:isU x):uX (v.setIfInBounds i x):=by
 intro y hy;have e:(v.setIfInBounds i x).toList=v.toList.set i x:=by simp
 rw[e] at hy;rcases List.mem_or_eq_of_mem_set hy with h' | h'
 ·exact h y h'
 ·rw[h'];exact hx
theorem aQU{α:Type}{m:Nat}(v:Vector α m){i:Nat}(h:i < m):v[i]∈v.toList:=by simp
theorem T.vget{m:Nat}{v:Vector Int m}{i:Nat}(h:i < m):T (v.toList[i]?) (λ_=>True):=⟨_,Go.UK.oT v i h,trivial⟩
theorem T.vgetU{m:Nat}{v:Vector Int m}{i:Nat}(hv:uX v)(h:i < m):T (v.toList[i]?) isU:=⟨_,Go.UK.oT v i h,hv _ (aQU v h)⟩
theorem T.add64{x y c:Int}(hx:isU x)(hy:isU y)(hc:0<=c/\c<=1):T (dC x y c) (λr=>isU r.1/\(0<=r.2/\r.2<=1)):=by
 obtain⟨x0,x1⟩:=hx;obtain⟨y0,y1⟩:=hy;obtain⟨c0,c1⟩:=hc;unfold dC;rw[dt x0,dt y0,dt c0,dt c1]
 refine⟨_,rfl,⟨?_,?_⟩,?_,?_⟩ <;> dsimp only <;> omega
theorem aNT(N:Nat)(a b:Int):T (cA N a b) (λr=>isU r.1/\isU r.2):=by
 unfold cA;simp only[aC]
 exact⟨_,rfl,sW _,sW _⟩
theorem aBr{k:IntKind}{a:Int}(ha:isU a)(b:Int):isU (shr k a b):=by
 unfold shr;rw[Int.fdiv_eq_ediv_of_nonneg _ (jp (kg (by decide)))]
 have:=Int.ediv_le_self ((2:Int) ^ min b.toNat k.bits) ha.1;exact⟨Int.ediv_nonneg ha.1 (jp (kg (by decide))),by have:=ha.2;omega⟩
theorem rZ(a b:Int):isU (bor .u64 a b):=aR8 a b
theorem tC(a b:Int):isU (cF .u64 a b):=sW _
theorem vQ(a b:Int):isU (aHi .u64 a b):=sW _
theorem T.loop{σ:Type}{n:Nat}(hn:n < 9223372036854775807)(I:Nat->σ->Prop){F:Nat->σ->Int->Option σ}
  (hstep:∀k s i,i < n->I i s->∀Q:σ->Prop,(∀s',I (i+1) s'->T (F k s' ((i+1:Nat):Int)) Q)->T (F (k+1) s (i:Int)) Q) (hend:∀k s,F (k+1) s (n:Int)=some s) :
  ∀(k i:Nat) (s:σ),I i s->i<=n->n - i < k->T (F k s (i:Int)) (I n)
 | 0,i,_,_,_,h=>by omega
 | k+1,i,s,hs,hi,hk=>by
  by_cases h:i < n
  ·exact hstep k s i h hs _ λs' h'=>T.loop hn I hstep hend k (i+1) s' h' (by omega) (by omega)
  ·obtain rfl:i=n:=by omega
   exact⟨s,hend _ _,hs⟩
theorem T.loop0{σ:Type}{n:Nat}(hn:n < 9223372036854775807)(I:Nat->σ->Prop){F:Nat->σ->Int->Option σ}
  (hstep:∀k s i,i < n->I i s->∀Q:σ->Prop,(∀s',I (i+1) s'->T (F k s' ((i+1:Nat):Int)) Q)->T (F (k+1) s (i:Int)) Q) (hend:∀k s,F (k+1) s (n:Int)=some s) {N:Nat} (hN:n < N) {s:σ} (hs:I 0 s):T (F N s 0) (I n):=
 T.loop hn I hstep hend N 0 s hs (by omega) (by omega)
theorem numC(N:Nat)(b:List Int)(h:4<=b.length):T (kO N b) (λ_=>True):=by
 unfold kO;refine T.bind (T.idx (by omega) (by omega)) λ_ _=>T.bind (T.idx (by omega) (by omega)) λ_ _=>?_;refine T.letO λ_ _=>T.bind (T.idx (by omega) (by omega)) λ_ _=>T.letO λ_ _=>T.bind (T.idx (by omega) (by omega)) λ_ _=>T.letO λ_ _=>T.ret trivial
theorem i4{a i:Nat}(h:a*i < 1000000):I64 ((a:Int)*(i:Int))=((a*i:Nat):Int):=by
 have e:(a:Int)*(i:Int)=((a*i:Nat):Int):=by push_cast;rfl
 rw[e];exact aR (by omega) (by omega)
theorem ia{a i:Nat}(h:a+i < 1000000):I64 ((a:Int)+(i:Int))=((a+i:Nat):Int):=by
 rw[aR (by omega) (by omega)];omega
theorem aU9(N:Nat)(hN:20 < N)(key:Vector Int 32)(c:Int)(n:Vector Int 12):T (qC N key c n) (λ_=>True):=by
 unfold qC;refine T.bind (T.loop0 (n:=8) (by decide) (λ_ _=>True) (F:=eD N key) (λk s i hi _ Q hk=>?_) (λk s=>by rw[eD,df (by omega),cond_false]) (by omega) trivial) λv _=>?_
 ·rw[eD,dt (by omega),cond_true,show(4:Int)=((4:Nat):Int) from rfl,i4 (by omega),ia (by omega)]
  refine T.bind (T.slc (by omega) (by omega) (by simp)) λs4 h4=>T.bind (numC N s4 (by omega)) λr _=>T.bind (T.inRO (by omega) (by omega)) λ_ _=>T.bind (T.vget (by omega)) λe _=>?_;rw[cZ (by omega)]
  exact hk _ trivial
 refine T.bind (T.loop0 (n:=3) (by decide) (λ_ _=>True) (F:=dZ N n) (λk s i hi _ Q hk=>?_) (λk s=>by rw[dZ,df (by omega),cond_false]) (by omega) trivial) λv _=>T.ret trivial;rw[dZ,dt (by omega),cond_true,show(4:Int)=((4:Nat):Int) from rfl,i4 (by omega),show(13:Int)=((13:Nat):Int) from rfl,ia (by omega)]
 refine T.bind (T.slc (by omega) (by omega) (by simp)) λs4 h4=>T.bind (numC N s4 (by omega)) λr _=>T.bind (T.inRO (by omega) (by omega)) λ_ _=>T.bind (T.vget (by omega)) λe _=>?_;rw[cZ (by omega)]
 exact hk _ trivial
theorem rotT(N:Nat)(x:Int)(n:Nat)(h1:1<=n)(h2:n<=31):T (bI N x (n:Int)) (λ_=>True):=by
 have b:∀n:Fin 32,cF .u64 (U64 (n.val:Int)) 31=(n.val:Int):=by decide +kernel
 have hb:cF .u64 (U64 (n:Int)) 31=(n:Int):=b ⟨n,by omega⟩
 unfold bI;rw[hb,wU .u32 (by omega),aa,aC,eJ (by omega) (by omega),kS .u32 (by omega)]
 exact T.ret trivial
theorem aPj(N:Nat)(v:Vector Int 4):T (nJ N v) (λ_=>True):=by
 unfold nJ;refine T.bind (T.idx (by omega) (by simp)) λ_ _=>T.bind (T.idx (by omega) (by simp)) λ_ _=>T.bind (T.idx (by omega) (by simp)) λ_ _=>T.bind (T.idx (by omega) (by simp)) λ_ _=>?_;refine T.letO λ_ _=>T.bind (rotT N _ 16 (by decide) (by decide)) λ_ _=>T.letO λ_ _=>T.bind (rotT N _ 12 (by decide) (by decide)) λ_ _=>T.letO λ_ _=>T.bind (rotT N _ 8 (by decide) (by decide)) λ_ _=>T.letO λ_ _=>T.bind (rotT N _ 7 (by decide) (by decide)) λ_ _=>T.ret trivial
def aJx : List (Vector Int 4):=(#v[#v[0,4,8,12],#v[1,5,9,13],#v[2,6,10,14],#v[3,7,11,15],#v[0,5,10,15],#v[1,6,11,12],#v[2,7,8,13],#v[3,4,9,14]]:Vector (Vector Int 4) 8).toList
theorem aOo : ∀v∈aJx,∀x∈v.toList,0<=x/\x < 16:=by unfold aJx;decide
theorem T.place{v:Vector Int 4}(hv:v∈aJx){i:Nat}(h:i < 4):T (v.toList[i]?) (λx=>0<=x/\x < 16):=
 ⟨_,Go.UK.oT v i h,aOo v hv _ (aQU v h)⟩
theorem aRW(N:Nat)(hN:20 < N)(s:Vector Int 16):T (aW N N s 0) (λ_=>True):=by
 refine T.loop0 (n:=8) (by decide) (λ_ _=>True) (F:=aW N) (λk s i hi _ Q hk=>?_) (λk s=>by rw[aW,df (by omega),cond_false]) (by omega) trivial;rw[aW,dt (by omega),cond_true]
 refine T.bind (T.idx (by omega) (by simp;omega)) λe8 he=>?_;have hm:e8∈aJx:=List.mem_of_getElem? he
 iterate 4 refine T.bind (T.inRO (by decide) (by decide)) λ_ _=>T.bind (T.place hm (by decide)) λ_ h=>T.bind (T.inRO h.1 h.2) λ_ _=>T.bind (T.vget (by omega)) λ_ _=>?_
 refine T.bind (aPj N _) λr25 _=>?_;refine T.bind (T.inRO (by decide) (by decide)) λ_ _=>T.bind (T.place hm (by decide)) λ_ h0=>?_;refine T.bind (T.inRO (by decide) (by decide)) λ_ _=>T.bind (T.place hm (by decide)) λ_ h1=>?_;refine T.bind (T.inRO (by decide) (by decide)) λ_ _=>T.bind (T.place hm (by decide)) λ_ h2=>?_;refine T.bind (T.inRO (by decide) (by decide)) λ_ _=>T.bind (T.place hm (by decide)) λ_ h3=>?_
 iterate 4 refine T.bind (T.inRO (by decide) (by decide)) λ_ _=>T.bind (T.vget (by decide)) λ_ _=>?_
 refine T.bind (T.inRO h0.1 h0.2) λ_ _=>T.bind (T.vget (by omega)) λ_ _=>T.bind (T.inRO h1.1 h1.2) λ_ _=>T.bind (T.vget (by omega)) λ_ _=>T.bind (T.inRO h2.1 h2.2) λ_ _=>T.bind (T.vget (by omega)) λ_ _=>T.bind (T.inRO h3.1 h3.2) λ_ _=>T.bind (T.vget (by omega)) λ_ _=>?_;rw[cZ (by omega)]
 exact hk _ trivial
theorem aMy(N:Nat)(hN:20 < N)(key:Vector Int 32)(c:Int)(n:Vector Int 12):T (kM N key c n) (λ_=>True):=by
 unfold kM;refine T.bind (aU9 N hN key c n) λr1 _=>?_;refine T.bind (T.loop0 (n:=10) (by decide) (λ_ _=>True) (F:=iH N) (λk s i hi _ Q hk=>?_) (λk s=>by rw[iH,df (by omega),cond_false]) (by omega) trivial) λp2 _=>?_
 ·rw[iH,dt (by omega),cond_true,cZ (by omega)]
  exact T.bind (aRW N hN s) λ_ _=>hk _ trivial
 refine T.bind (T.loop0 (n:=16) (by decide) (λ_ _=>True) (F:=fD N p2 r1) (λk s i hi _ Q hk=>?_) (λk s=>by rw[fD,df (by omega),cond_false]) (by omega) trivial) λp3 _=>T.ret trivial;rw[fD,dt (by omega),cond_true,show(4:Int)=((4:Nat):Int) from rfl,i4 (by omega)]
 have f1:I64 (((4*i:Nat):Int)+1)=((4*i+1:Nat):Int):=by rw[aR (by omega) (by omega)];omega
 have f2:I64 (((4*i:Nat):Int)+2)=((4*i+2:Nat):Int):=by rw[aR (by omega) (by omega)];omega
 have f3:I64 (((4*i:Nat):Int)+3)=((4*i+3:Nat):Int):=by rw[aR (by omega) (by omega)];omega
 refine T.bind (T.idx (by omega) (by simp;omega)) λ_ _=>T.bind (T.inRO (by omega) (by omega)) λ_ _=>T.bind (T.vget (by omega)) λ_ _=>?_;simp only[aC,f1,f2,f3]
 iterate 4 refine T.bind (T.inRO (by omega) (by omega)) λ_ _=>T.bind (T.vget (by omega)) λ_ _=>?_
 rw[cZ (by omega)]
 exact hk _ trivial
set_option maxHeartbeats 4000000
theorem aE1 : isU 5:=⟨by decide,by decide⟩
theorem aGA{a b c:Int}(ha:isU a)(hb:isU b)(hc:isU c):uX (#v[a,b,c]:Vector Int 3):=by
 intro x hx;simp at hx;rcases hx with rfl | rfl | rfl <;> assumption
theorem aGM(N:Nat)(hN:20 < N)(b:List Int)(h:8<=b.length):T (cV N b) isU:=by
 unfold cV;refine T.bind (T.loop0 (n:=8) (by decide) (λ_ x=>isU x) (F:=jD N b) (λk s i hi _ Q hk=>?_) (λk s=>by rw[jD,df (by omega),cond_false]) (by omega) zP) λv h=>T.ret h;rw[jD,dt (by omega),cond_true,show(8:Int)=((8:Nat):Int) from rfl,i4 (by omega)]
 refine T.bind (T.idx (by omega) (by omega)) λe _=>?_;rw[wU .u64 (by omega),aa,cZ (by omega)]
 exact hk _ (rZ _ _)
attribute [local irreducible] aP idx dU dC cA cV aN
theorem aOR(N:Nat)(a0 a1:Int)(a2:aO)(h1:isU a0)(h2:isU a1)(h3:uX a2.gA2.gh):T (fJ N a0 a1 a2) uX:=by
 unfold fJ
 repeat' first
  | refine T.bind (T.inRO (by decide) (by decide)) λ_ _=>?_
  | refine T.bind (T.vgetU (by repeat first | assumption | refine uX.set ?_ ?_ | exact sW _ | refine aGA ?_ ?_ ?_ | exact tC _ _) (by decide)) λ_ _=>?_
  | refine T.bind (T.add64 (by first | assumption | exact sW _ | exact zP | exact aE1 | exact rZ _ _ | exact tC _ _ | exact vQ _ _ | (refine aBr ?_ _;first | assumption | exact rZ _ _)) (by first | assumption | exact sW _ | exact zP | exact aE1 | exact rZ _ _ | exact tC _ _ | exact vQ _ _ | (refine aBr ?_ _;first | assumption | exact rZ _ _)) (by first | assumption | exact⟨by decide,by decide⟩)) λ_ ⟨_,_⟩=>?_
  | refine T.bind (aNT N _ _) λ_ ⟨_,_⟩=>?_
  | refine T.bind (T.slc (by decide) (by decide) (by simp)) λ_ hs=>T.bind (aGM N hN _ (by have:=hs.2;omega)) λ_ _=>?_
  | refine T.bind (T.idx (by decide) (by simp)) λ_ _=>?_
  | refine T.letO λ_ hx=>?_
  | refine T.bind (T.ret trivial) λ_ _=>?_
 exact T.ret (uX.set (uX.set (uX.set (by assumption) (by assumption)) (by assumption)) (sW _))
theorem aLU(N:Nat)(a0 a1:Int)(a2:aJ)(h1:isU a0)(h2:isU a1)(h3:uX a2.gh):T (bZ N a0 a1 a2) uX:=by
 unfold bZ
 repeat' first
  | refine T.bind (T.inRO (by decide) (by decide)) λ_ _=>?_
  | refine T.bind (T.vgetU (by repeat first | assumption | refine uX.set ?_ ?_ | exact sW _ | refine aGA ?_ ?_ ?_ | exact tC _ _) (by decide)) λ_ _=>?_
  | refine T.bind (T.add64 (by first | assumption | exact sW _ | exact zP | exact aE1 | exact rZ _ _ | exact tC _ _ | exact vQ _ _ | (refine aBr ?_ _;first | assumption | exact rZ _ _)) (by first | assumption | exact sW _ | exact zP | exact aE1 | exact rZ _ _ | exact tC _ _ | exact vQ _ _ | (refine aBr ?_ _;first | assumption | exact rZ _ _)) (by first | assumption | exact⟨by decide,by decide⟩)) λ_ ⟨_,_⟩=>?_
  | refine T.bind (aNT N _ _) λ_ ⟨_,_⟩=>?_
  | refine T.bind (T.slc (by decide) (by decide) (by simp)) λ_ hs=>T.bind (aGM N hN _ (by have:=hs.2;omega)) λ_ _=>?_
  | refine T.bind (T.idx (by decide) (by simp)) λ_ _=>?_
  | refine T.letO λ_ hx=>?_
  | refine T.bind (T.ret trivial) λ_ _=>?_
 exact T.ret (uX.set (uX.set (uX.set (by assumption) (by assumption)) (by assumption)) (sW _))
attribute [local irreducible] fJ bZ
theorem aLR(N:Nat)(hN:20 < N)(b:Vector Int 17)(r0 r1:Int)(m:aO)(hm:uX m.gA2.gh):T (fQ N b r0 r1 m) (λr=>uX r.1/\r.2=(m.gC,m.gr0,m.gr1,m.gs0,m.gs1,m.gP,m.gR)):=by
 unfold fQ
 repeat' first
  | refine T.bind (T.inRO (by decide) (by decide)) λ_ _=>?_
  | refine T.bind (T.vgetU (by repeat first | assumption | refine uX.set ?_ ?_ | exact sW _ | refine aGA ?_ ?_ ?_ | exact tC _ _) (by decide)) λ_ _=>?_
  | refine T.bind (T.add64 (by first | assumption | exact sW _ | exact zP | exact aE1 | exact rZ _ _ | exact tC _ _ | exact vQ _ _ | (refine aBr ?_ _;first | assumption | exact rZ _ _)) (by first | assumption | exact sW _ | exact zP | exact aE1 | exact rZ _ _ | exact tC _ _ | exact vQ _ _ | (refine aBr ?_ _;first | assumption | exact rZ _ _)) (by first | assumption | exact⟨by decide,by decide⟩)) λ_ ⟨_,_⟩=>?_
  | refine T.bind (aNT N _ _) λ_ ⟨_,_⟩=>?_
  | refine T.bind (T.slc (by decide) (by decide) (by simp)) λ_ hs=>T.bind (aGM N hN _ (by have:=hs.2;omega)) λ_ _=>?_
  | refine T.bind (T.idx (by decide) (by simp)) λ_ _=>?_
  | refine T.bind (aOR N _ _ _ (by first | assumption | exact sW _ | exact zP | exact aE1 | exact rZ _ _ | (subst_vars;exact rZ _ _) | exact tC _ _ | exact vQ _ _ | (refine aBr ?_ _;first | assumption | exact rZ _ _)) (by first | assumption | exact sW _ | exact zP | exact aE1 | exact rZ _ _ | exact tC _ _ | exact vQ _ _ | (refine aBr ?_ _;first | assumption | exact rZ _ _)) (by repeat first | assumption | refine uX.set ?_ ?_ | exact sW _ | refine aGA ?_ ?_ ?_ | exact tC _ _)) λ_ _=>?_
  | refine T.letO λ_ hx=>?_
  | refine T.bind (T.ret trivial) λ_ _=>?_
 exact T.ret ⟨by assumption,rfl⟩
theorem aI0(N:Nat)(hN:20 < N)(b:Vector Int 17)(r0 r1:Int)(m:aJ)(hm:uX m.gh):T (cP N b r0 r1 m) uX:=by
 unfold cP
 repeat' first
  | refine T.bind (T.inRO (by decide) (by decide)) λ_ _=>?_
  | refine T.bind (T.vgetU (by repeat first | assumption | refine uX.set ?_ ?_ | exact sW _ | refine aGA ?_ ?_ ?_ | exact tC _ _) (by decide)) λ_ _=>?_
  | refine T.bind (T.add64 (by first | assumption | exact sW _ | exact zP | exact aE1 | exact rZ _ _ | exact tC _ _ | exact vQ _ _ | (refine aBr ?_ _;first | assumption | exact rZ _ _)) (by first | assumption | exact sW _ | exact zP | exact aE1 | exact rZ _ _ | exact tC _ _ | exact vQ _ _ | (refine aBr ?_ _;first | assumption | exact rZ _ _)) (by first | assumption | exact⟨by decide,by decide⟩)) λ_ ⟨_,_⟩=>?_
  | refine T.bind (aNT N _ _) λ_ ⟨_,_⟩=>?_
  | refine T.bind (T.slc (by decide) (by decide) (by simp)) λ_ hs=>T.bind (aGM N hN _ (by have:=hs.2;omega)) λ_ _=>?_
  | refine T.bind (T.idx (by decide) (by simp)) λ_ _=>?_
  | refine T.bind (aLU N _ _ _ (by first | assumption | exact sW _ | exact zP | exact aE1 | exact rZ _ _ | (subst_vars;exact rZ _ _) | exact tC _ _ | exact vQ _ _ | (refine aBr ?_ _;first | assumption | exact rZ _ _)) (by first | assumption | exact sW _ | exact zP | exact aE1 | exact rZ _ _ | exact tC _ _ | exact vQ _ _ | (refine aBr ?_ _;first | assumption | exact rZ _ _)) (by repeat first | assumption | refine uX.set ?_ ?_ | exact sW _ | refine aGA ?_ ?_ ?_ | exact tC _ _)) λ_ _=>?_
  | refine T.letO λ_ hx=>?_
  | refine T.bind (T.ret trivial) λ_ _=>?_
 exact T.ret (by assumption)
end Go.UK
