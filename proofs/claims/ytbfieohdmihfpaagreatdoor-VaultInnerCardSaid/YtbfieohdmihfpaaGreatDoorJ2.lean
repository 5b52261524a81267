/- A part of the proof: what the functions of the program compute. -/
import Derived.Test.YtbfieohdmihfpaaGreatDoorJ1
import Derived.Test.YtbfieohdmihfpaaGreatDoorAJ2
open Int renaming eq_ofNat_of_zero_le→br,le_of_lt→jz,pow_pos→lm,toNat_natCast→bu
open List renaming drop_eq_getElem_cons→co,drop_length→fj,drop_zero→eu,flatMap_cons→d8,flatten_cons→ip,getD_eq_getElem?_getD→ap,getElem?_eq_getElem→af,getElem_mem→cm,length_append→ai,mem_map→dh,mem_of_mem_take→ce,nil_append→dn,take_of_length_le→aq,take_succ→ik
open Option renaming bind→ae,bind_some→aa
namespace Go.UK
open Go Go.Proofs
set_option maxRecDepth 20000
set_option maxHeartbeats 2000000
set_option linter.all false
theorem aLT(x:Int):U32 x=x % 4294967296:=IntKind.wrap_u32 x
theorem aDC(x:Int):U8 x=x % 256:=IntKind.wrap_u8 x
theorem aC8{x:Int}(h:0<=x:=by omega)(h':x < 4294967296:=by omega):U32 x=x:=by rw[aLT];omega
theorem rF{x:Int}(h:0<=x:=by omega)(h':x < 256:=by omega):U8 x=x:=by rw[aDC];omega
theorem aJA(k:IntKind)(a b:Int):bor k a b=bor k b a:=by unfold bor;rw[BitVec.or_comm]
def isW(x:Int):Prop:=0<=x/\x < 4294967296
def isB(x:Int):Prop:=0<=x/\x < 256
theorem isB.w{x:Int}(h:isB x):isW x:=⟨h.1,by have:=h.2;omega⟩
theorem aId(x:Int):isB (U8 x):=by rw[aDC];exact⟨by omega,by omega⟩
theorem aKj(n:Nat)(h:n < 4294967296):(BitVec.ofInt 32 (n:Int)).toNat=n:=by
 rw[BitVec.toNat_ofInt];simp;omega
theorem aTL{a b:Int}(ha:isW a)(hb:isW b):bor .u32 a b=((a.toNat ||| b.toNat:Nat):Int):=by
 obtain⟨ha,ha'⟩:=ha;obtain⟨hb,hb'⟩:=hb;obtain⟨A,rfl⟩:=br ha;obtain⟨B,rfl⟩:=br hb;unfold bor;have h:A ||| B < 2 ^ 32:=Nat.or_lt_two_pow (by omega) (by omega)
 rw[show(BitVec.ofInt IntKind.u32.bits (A:Int) ||| BitVec.ofInt IntKind.u32.bits (B:Int)).toNat=A ||| B by
  rw[BitVec.toNat_or];congr 1 <;> exact aKj _ (by omega),IntKind.wrap_u32]
 simp only[bu]
 omega
theorem aCC{a b:Int}(m:Nat)(ha:isW a)(hb:0<=b)(hb':b < (2 ^ m:Nat))(hm:m<=32)(hd:(2 ^ m:Nat) ∣ a.toNat):bor .u32 a b=a+b:=by
 have h32:(2 ^ m:Nat)<=2 ^ 32:=Nat.pow_le_pow_right (by decide) hm;rw[aTL ha ⟨hb,by omega⟩]
 obtain⟨A,rfl⟩:=br ha.1;obtain⟨B,rfl⟩:=br hb;obtain⟨C,hC⟩:=hd;simp only[bu] at hC ⊢;have:A ||| B=A+B:=by
  rw[hC,Nat.mul_comm,<- Nat.shiftLeft_eq,Nat.shiftLeft_add_eq_or_of_lt (by omega)]
 rw[this]
 omega
theorem aGH(a b:Int)(m:Nat)(hb:b=m)(hm:m<=32:=by decide):shl .u32 a b=(a*(2:Int) ^ m) % 4294967296:=by
 subst hb;unfold shl;rw[show min (m:Int).toNat IntKind.u32.bits=m by simp[IntKind.bits];omega]
 exact IntKind.wrap_u32 _
theorem aVX{a b:Int}:isB (fG .u8 a b):=aId _
theorem mG{α:Type}{m:Nat}(v:Vector α m)(i:Nat)(h:i < m:=by decide):v.toList[i]? = some v[i]:=by simp[h]
theorem uI{m:Nat}(v:Vector Int m)(i:Nat)(h:i < m:=by decide):v.toList.getD i 0=v[i]:=by rw[ap,mG v i h];rfl
theorem iG{l:List Int}{i:Nat}(h:i < l.length:=by omega):l[i]? = some (l.getD i 0):=by rw[ap,af h];rfl
theorem rS{l:List Int}{i:Nat}(h:i < l.length:=by omega):idx l (i:Int)=some (l.getD i 0):=by rw[lE,iG h]
theorem aNO{m:Nat}{v:Vector Int m}{l:List Int}{i j:Nat}(h:v.toList.take i=l)(hj:j < i)(hi:i<=m:=by omega):v.toList[j]? = some (l.getD j 0):=by
 rw[<- h,<- iG (by simp;omega),List.getElem?_take_of_lt hj]
theorem aLo{m:Nat}{v:Vector Int m}{l:List Int}{i:Nat}{x:Int}(h:v.toList.take i=l)(hi:i < m):(v.setIfInBounds i x).toList.take (i+1)=l++[x]:=by
 have e:(v.setIfInBounds i x).toList=v.toList.set i x:=by simp
 rw[e,ik,List.take_set_of_le (Nat.le_refl _),h,List.getElem?_set_self (by simp;omega)]
 rfl
theorem aEF{σ:Type}(n:Nat)(hn:n < 9223372036854775807)(I:Nat->σ->Prop)(F:Nat->σ->Int->Option σ)
  (hstep:∀k s i,i < n->I i s->∃s',I (i+1) s'/\F (k+1) s (i:Int)=F k s' (I64 ((i:Int)+1))) (hend:∀k s,F (k+1) s (n:Int)=some s) :
  ∀(k i:Nat) (s:σ),I i s->i<=n->n - i < k->∃s',I n s'/\F k s (i:Int)=some s'
 | 0,i,_,_,_,h=>by omega
 | k+1,i,s,hs,hi,hk=>by
  by_cases h:i < n
  ·obtain⟨s',h1,h2⟩:=hstep k s i h hs;rw[h2,cI]
   exact aEF n hn I F hstep hend k (i+1) s' h1 (by omega) (by omega)
  ·obtain rfl:i=n:=by omega
   exact⟨s,hs,hend _ _⟩
theorem aUG{σ:Type}(m n:Nat)(hn:n < 9223372036854775807)(I:Nat->σ->Prop)(F:Nat->σ->Int->Option σ)
  (hstep:∀k s i,m<=i->i < n->I i s->∃s',I (i+1) s'/\F (k+1) s (i:Int)=F k s' (I64 ((i:Int)+1))) (hend:∀k s,F (k+1) s (n:Int)=some s) :
  ∀(k i:Nat) (s:σ),I i s->m<=i->i<=n->n - i < k->∃s',I n s'/\F k s (i:Int)=some s'
 | 0,i,_,_,_,_,h=>by omega
 | k+1,i,s,hs,hm,hi,hk=>by
  by_cases h:i < n
  ·obtain⟨s',h1,h2⟩:=hstep k s i hm h hs;rw[h2,cI]
   exact aUG m n hn I F hstep hend k (i+1) s' h1 (by omega) (by omega) (by omega)
  ·obtain rfl:i=n:=by omega
   exact⟨s,hs,hend _ _⟩
def aS(m:List Int):Prop:=∀x∈m,isB x
theorem aS.app{a b:List Int}(ha:aS a)(hb:aS b):aS (a++b):=λx hx=>by
 rcases List.mem_append.1 hx with h | h
 ·exact ha x h
 ·exact hb x h
theorem aS.getD{m:List Int}(h:aS m)(i:Nat):isB (m.getD i 0):=by
 rw[ap]
 by_cases hi:i < m.length
 ·rw[af hi];exact h _ (cm hi)
 ·rw[List.getElem?_eq_none (by omega)];exact⟨by simp,by simp⟩
theorem aS.take{m:List Int}(h:aS m)(n:Nat):aS (m.take n):=λx hx=>h x (ce hx)
theorem aS.drop{m:List Int}(h:aS m)(n:Nat):aS (m.drop n):=λx hx=>h x (List.mem_of_mem_drop hx)
theorem aIj{α:Type}{l:List α}{n:Nat}(h:n<=l.length):dM l (n:Int) (l.length:Int)=some (l.drop n):=by
 rw[pE];simp
theorem oY{l r:List Int}(h:l.length<=1000000:=by omega)(h':r.length<=1000000:=by simp):fL 1 l r=some (l++r):=dG
def leB(w:Nat)(x:Int):List Int:=(List.range w).map (λi=>U8 (shr .u64 x ((8*i:Nat):Int)))
theorem iT(w:Nat)(x:Int):(leB w x).length=w:=by unfold leB;simp
theorem sN(w:Nat)(x:Int):aS (leB w x):=by
 intro y hy;unfold leB at hy;obtain⟨i,_,rfl⟩:=dh.1 hy;exact aId _
def cE(w:Nat):Int:=256 ^ w
theorem aWJ(w:Nat):(2:Int) ^ (8*w)=cE w:=by unfold cE;rw[Int.pow_mul];rfl
theorem aL0(x:Int)(i:Nat)(h:i<=8:=by omega):shr .u64 x ((8*i:Nat):Int)=x / cE i:=by
 rw[zR .u64 x _ (8*i) rfl (by show 8*i<=64;omega),aWJ]
theorem aAY(w:Nat):0 < cE w:=lm (by decide)
theorem aPm(w:Nat):cE (w+1)=cE w*256:=Int.pow_succ _ _
theorem div_s{x:Int}(i:Nat):x / cE (i+1)=x / cE i / 256:=by
 rw[aPm,Int.ediv_ediv_of_nonneg (jz (aAY i))]
theorem aEM{α β ρ:Type}(l:List α)(hl:l.length < 9223372036854775807)(bad:α->Bool)(f:α->List β)(r:ρ)(I:List β->Nat->Prop)(F:Nat->List β->Int->Option (Sum (List β) ρ))
  (hI:∀s i (h:i < l.length),I s i->I (s++f l[i]) (i+1)) (h1:∀k s i (h:i < l.length),I s i->F (k+1) s (i:Int)=cond (bad l[i]) (some (.inr r)) (F k (s++f l[i]) (I64 ((i:Int)+1)))) (h2:∀k s,F (k+1) s (l.length:Int)=some (.inl s)) :
  ∀(k i:Nat) (s:List β),I s i->i<=l.length->l.length - i < k->F k s (i:Int)=some (cond ((l.drop i).any bad) (.inr r) (.inl (s++(l.drop i).flatMap f)))
 | 0,i,_,_,_,h=>by omega
 | k+1,i,s,hs,hi,hk=>by
  by_cases h:i < l.length
  ·rw[h1 k s i h hs,co h,List.any_cons]
   cases hb:bad l[i] with
   | true=>rfl
   | false=>
    rw[cond_false,cI,aEM l hl bad f r I F hI h1 h2 k (i+1) _ (hI s i h hs) (by omega) (by omega),Bool.false_or,d8,List.append_assoc]
  ·obtain rfl:i=l.length:=by omega
   rw[h2,fj];simp
def big(w:Nat)(x:Int):Bool:=decide (cE w<=x)
def aKN(b:List Int)(w:Nat)(ns:List Int):List Int×Int:=cond (ns.any (big w)) ([],3) (b++ns.flatMap (leB w),0)
def aRj(ns:List Int):Prop:=∀x∈ns,0<=x/\x < 18446744073709551616
theorem putL2(N w:Nat)(hw:w<=8)(x:Int)(s:List Int)(hs:s.length<=100000000000000)(hN:8 < N):nT N (w:Int) x N s 0=some (s++leB w x):=by
 have:=kU w (by omega) (λi=>[U8 (shr .u64 x ((8*i:Nat):Int))]) (λs i=>s.length<=100000000000000+i) (nT N (w:Int) x) (by intro s i hi hs;simp;omega) (λk s i hi hs=>by
  have f:I64 (8*(i:Int))=((8*i:Nat):Int):=by rw[aT];omega
  rw[nT,dt,cond_true,f,jH .u64,aa,dG (by simp;omega),aa]) (λk s=>by rw[nT,df,cond_false]) (N:=N) (by omega) (s:=s) (by simpa using hs)
 rw[this,yJ]
 rfl
theorem aVB(N:Nat)(l:List Int)(h:l.length<=100000000000000):lP N l=some l:=by
 unfold lP;rw[dG (by simp;omega),aa,dn]
theorem big8{x:Int}(h:x < 18446744073709551616):big 8 x=false:=by
 unfold big;rw[show cE 8=18446744073709551616 from rfl]
 exact df
theorem aQ9(N:Nat)(b:List Int)(w:Nat)(hw0:1<=w)(hw:w<=8)(ns:List Int)(hns:aRj ns)(hb:b.length<=10000000000000)(hl:ns.length<=1000000000000)(hN:8 < N)(hlN:ns.length < N):bT N b (w:Int) ns=some (aKN b w ns):=by
 unfold bT;rw[df (show ¬(w:Int) < 1 by omega),df (show ¬(w:Int) > 8 by omega),cond_false,aB,cond_false,aVB N b (by omega),aa]
 have:=aEM ns (by omega) (big w) (leB w) (([],3):List Int×Int) (λs i=>s.length<=10000000000000+8*i) (λk s i=>pT N ns (w:Int) k s i) (by intro s i h hs;simp[iT];omega) (λk s i h hs=>by
  have hx:=hns _ (cm h)
  have f:I64 (8*(w:Int))=((8*w:Nat):Int):=by rw[aT];omega
  rw[pT,aB,dt,cond_true,cQ h,aa]
  have e:(cond (decide ((w:Int) < 8)) (ae (wY .u64 ns[i] (I64 (8*(w:Int)))) λx9=>some (decide (x9 > 0))) (some false))=some (big w ns[i]):=by
   by_cases h8:w < 8
   ·rw[dt,cond_true,f,jH .u64,aa,aL0 _ _]
    congr 1;unfold big;have hp:=aAY w;by_cases hb:cE w<=ns[i]
    ·have:1<=ns[i] / cE w:=(Int.le_ediv_iff_mul_le hp).2 (by omega)
     rw[dt hb,dt]
    ·have:ns[i] / cE w < 1:=Int.ediv_lt_of_lt_mul hp (by omega)
     rw[df hb,df]
   ·obtain rfl:w=8:=by omega
    rw[df,cond_false,big8 hx.2]
  rw[e,aa]
  cases hbg:big w ns[i] with
  | true=>rfl
  | false=>rw[cond_false,cond_false,putL2 N w hw _ _ (by omega) hN,aa]) (λk s=>by rw[pT,aB,df,cond_false]) N 0 b (by omega) (by omega) (by omega)
 rw[show((0:Nat):Int)=0 from rfl,eu] at this;rw[this,aa]
 unfold aKN;cases ns.any (big w) <;> rfl
def aEL(w:Nat)(x:Int):Bool:=decide (x < -(cE w / 2))||decide (cE w / 2<=x)
def aQ2(ns:List Int):Prop:=∀x∈ns,aDG x
def aP5(b:List Int)(w:Nat)(ns:List Int):List Int×Int:=cond (ns.any (aEL w)) ([],3) (aKN b w (ns.map (λx=>x % cE w)))
theorem w8{w:Nat}(h0:1<=w)(h:w<=8):w=1\/w=2\/w=3\/w=4\/w=5\/w=6\/w=7\/w=8:=by omega
theorem shlI(x:Int)(m:Nat)(h:m<=64:=by omega):shl .i64 x (m:Int)=I64 (x*(2:Int) ^ m):=by
 unfold shl;rw[show min (m:Int).toNat IntKind.i64.bits=m by simp[IntKind.bits];omega]
theorem sgnA{w:Nat}(h0:1<=w)(h:w<=8){x:Int}(hx:aDG x):(shr .i64 (shl .i64 x ((64 - 8*w:Nat):Int)) ((64 - 8*w:Nat):Int) != x)=aEL w x:=by
 obtain⟨x0,x1⟩:=hx;rw[zR .i64 _ _ (64 - 8*w) rfl (by show 64 - 8*w<=64;omega),shlI _ _,aNt]
 have key:∀b:Bool,(b=true↔((x*(2:Int) ^ (64 - 8*w)+9223372036854775808) % 18446744073709551616 - 9223372036854775808) / (2:Int) ^ (64 - 8*w)≠x)->(((x*(2:Int) ^ (64 - 8*w)+9223372036854775808) % 18446744073709551616 - 9223372036854775808) / (2:Int) ^ (64 - 8*w) != x)=b:=by
  intro b hb;cases b with
  | true=>simpa using hb
  | false=>simpa using hb
 apply key;unfold aEL;rw[Bool.or_eq_true,decide_eq_true_eq,decide_eq_true_eq]
 rcases w8 h0 h with rfl | rfl | rfl | rfl | rfl | rfl | rfl | rfl
 ·rw[show(2:Int) ^ (64 - 8*1)=72057594037927936 from rfl,show cE 1 / 2=128 from rfl];omega
 ·rw[show(2:Int) ^ (64 - 8*2)=281474976710656 from rfl,show cE 2 / 2=32768 from rfl];omega
 ·rw[show(2:Int) ^ (64 - 8*3)=1099511627776 from rfl,show cE 3 / 2=8388608 from rfl];omega
 ·rw[show(2:Int) ^ (64 - 8*4)=4294967296 from rfl,show cE 4 / 2=2147483648 from rfl];omega
 ·rw[show(2:Int) ^ (64 - 8*5)=16777216 from rfl,show cE 5 / 2=549755813888 from rfl];omega
 ·rw[show(2:Int) ^ (64 - 8*6)=65536 from rfl,show cE 6 / 2=140737488355328 from rfl];omega
 ·rw[show(2:Int) ^ (64 - 8*7)=256 from rfl,show cE 7 / 2=36028797018963968 from rfl];omega
 ·rw[show(2:Int) ^ (64 - 8*8)=1 from rfl,show cE 8 / 2=9223372036854775808 from rfl];omega
theorem sgnB{w:Nat}(h0:1<=w)(h:w<=8){x:Int}(hx:aDG x):shr .u64 (shl .u64 (U64 x) ((64 - 8*w:Nat):Int)) ((64 - 8*w:Nat):Int)=x % cE w:=by
 obtain⟨x0,x1⟩:=hx;rw[zR .u64 _ _ (64 - 8*w) rfl (by show 64 - 8*w<=64;omega),aNz _ _ (64 - 8*w) rfl (by omega),aIo]
 rcases w8 h0 h with rfl | rfl | rfl | rfl | rfl | rfl | rfl | rfl
 ·rw[show(2:Int) ^ (64 - 8*1)=72057594037927936 from rfl,show cE 1=256 from rfl];omega
 ·rw[show(2:Int) ^ (64 - 8*2)=281474976710656 from rfl,show cE 2=65536 from rfl];omega
 ·rw[show(2:Int) ^ (64 - 8*3)=1099511627776 from rfl,show cE 3=16777216 from rfl];omega
 ·rw[show(2:Int) ^ (64 - 8*4)=4294967296 from rfl,show cE 4=4294967296 from rfl];omega
 ·rw[show(2:Int) ^ (64 - 8*5)=16777216 from rfl,show cE 5=1099511627776 from rfl];omega
 ·rw[show(2:Int) ^ (64 - 8*6)=65536 from rfl,show cE 6=281474976710656 from rfl];omega
 ·rw[show(2:Int) ^ (64 - 8*7)=256 from rfl,show cE 7=72057594037927936 from rfl];omega
 ·rw[show(2:Int) ^ (64 - 8*8)=1 from rfl,show cE 8=18446744073709551616 from rfl];omega
theorem modU(w:Nat)(h:w<=8)(x:Int):0<=x % cE w/\x % cE w < 18446744073709551616:=by
 have hp:=aAY w;have h1:=Int.emod_nonneg x (Int.ne_of_gt hp)
 have h2:=Int.emod_lt_of_pos x hp;have h3:cE w<=18446744073709551616:=by
  have:∀i:Fin 9,cE i.val<=18446744073709551616:=by decide
  exact this ⟨w,by omega⟩
 omega
theorem sgnP(N:Nat)(b:List Int)(w:Nat)(hw0:1<=w)(hw:w<=8)(ns:List Int)(hns:aQ2 ns)(hb:b.length<=10000000000000)(hl:ns.length<=1000000000000)(hN:8 < N)(hlN:ns.length < N):kB N b (w:Int) ns=some (aP5 b w ns):=by
 unfold kB;rw[df (show ¬(w:Int) < 1 by omega),df (show ¬(w:Int) > 8 by omega),cond_false,aB,cond_false]
 have:=aEM ns (by omega) (aEL w) (λx=>[x % cE w]) (([],3):List Int×Int) (λs i=>s.length=i) (λk s i=>mB N ns (w:Int) k s i) (by intro s i h hs;simp;omega) (λk s i h hs=>by
  have hx:=hns _ (cm h)
  have f:I64 (64 - I64 (8*(w:Int)))=((64 - 8*w:Nat):Int):=by rw[aT (x:=8*(w:Int)),aT];omega
  rw[mB,aB,dt,cond_true,cQ h,aa,f,aB,uM .i64,aa,aB,jH .i64,aa,sgnA hw0 hw hx]
  cases hbg:aEL w ns[i] with
  | true=>rfl
  | false=>
   rw[cond_false,cond_false,aB,uM .u64,aa,aB,jH .u64,aa,sgnB hw0 hw hx,dG (by simp;omega),aa]) (λk s=>by rw[mB,aB,df,cond_false]) N 0 [] rfl (by omega) (by omega)
 rw[show((0:Nat):Int)=0 from rfl,eu,dn] at this;rw[this,aa]
 unfold aP5;cases ns.any (aEL w) with
 | true=>rfl
 | false=>
  rw[cond_false,cond_false]
  show ae (bT N b (w:Int) (ns.flatMap λx=>[x % cE w])) _=_;rw[show(ns.flatMap λx=>[x % cE w])=ns.map (λx=>x % cE w) by
   clear this hns hl hlN
   induction ns with
   | nil=>rfl
   | cons a l ih=>simp[d8,ih]]
  rw[aQ9 N b w hw0 hw _ (by intro y hy;obtain⟨x,_,rfl⟩:=dh.1 hy;exact modU w hw x) hb (by simpa using hl) hN (by simpa using hlN),aa]
theorem aKA{m:Nat}(v:Vector Int m):dM v.toList 0 (m:Int)=some v.toList:=by
 rw[pE (by omega) (by omega) (by simp)]
 simp[aq]
def fJ{m:Nat}(v:Vector Int m):Prop:=aS v.toList
theorem aKl{α σ:Type}(l:List α)(hl:l.length < 9223372036854775807)(st:σ->α->σ)(I:σ->Prop)(F:Nat->σ->Int->Option σ)(hI:∀s a,a∈l->I s->I (st s a))
  (h1:∀k s i (h:i < l.length),I s->F (k+1) s (i:Int)=F k (st s l[i]) (I64 ((i:Int)+1))) (h2:∀k s,F (k+1) s (l.length:Int)=some s) :
  ∀(k i:Nat) (s:σ),I s->i<=l.length->l.length - i < k->F k s (i:Int)=some ((l.drop i).foldl st s)/\I ((l.drop i).foldl st s)
 | 0,i,_,_,_,h=>by omega
 | k+1,i,s,hs,hi,hk=>by
  by_cases h:i < l.length
  ·rw[h1 k s i h hs,cI,co h,List.foldl_cons]
   exact aKl l hl st I F hI h1 h2 k (i+1) _ (hI s _ (cm h) hs) (by omega) (by omega)
  ·obtain rfl:i=l.length:=by omega
   rw[h2,fj]
   exact⟨rfl,hs⟩
theorem aPZ{α σ:Type}(l:List α)(hl:l.length < 9223372036854775807)(st:σ->α->σ)(I:σ->Prop)(F:Nat->σ->Int->Option σ)(hI:∀s a,a∈l->I s->I (st s a))
  (h1:∀k s i (h:i < l.length),I s->F (k+1) s (i:Int)=F k (st s l[i]) (I64 ((i:Int)+1))) (h2:∀k s,F (k+1) s (l.length:Int)=some s) {N:Nat} (hN:l.length < N) {s:σ} (hs:I s):F N s 0=some (l.foldl st s)/\I (l.foldl st s):=by
 have:=aKl l hl st I F hI h1 h2 N 0 s hs (by omega) (by omega)
 rwa[eu] at this
theorem aNK{α:Type}{eq:α->α->Bool}(h:∀a b,eq a b=true↔a=b):∀(l r:List α),eqL eq l r=true↔l=r
 | [],[]=>by simp[eqL]
 | [],_ :: _=>by simp[eqL]
 | _ :: _,[]=>by simp[eqL]
 | a :: l,b :: r=>by simp[eqL,h,aNK h l r]
theorem aGO{m:Nat}(a b:Vector Int m):eqV (λa b=>a==b) a b=true↔a=b:=by
 unfold eqV;rw[aNK (λa b=>by simp)]
 constructor
 ·intro h;exact Vector.toList_inj.1 h
 ·intro h;rw[h]
theorem aQP(N:Nat)(ls:List (List Int))(hl:ls.length < 1000000000)(hb:∀l∈ls,l.length<=1000000000):∀(k i:Nat) (t:Nat),i<=ls.length->ls.length - i < k->t<=1000000000*i->eW N ls k (t:Int) (i:Int)=some ((t+(ls.drop i).flatten.length:Nat):Int)
 | 0,_,_,_,h,_=>by omega
 | k+1,i,t,hi,hk,ht=>by
  rw[eW,aB]
  by_cases h:i < ls.length
  ·have hx:=hb _ (cm h)
   have e:I64 ((t:Int)+(ls[i].length:Int))=((t+ls[i].length:Nat):Int):=by rw[aT];omega
   rw[dt,cond_true,cQ h,aa,e,aB,df,cond_false,cI,aQP N ls hl hb k (i+1) _ (by omega) (by omega) (by omega),co h,ip,ai]
   congr 2;omega
  ·rw[df,cond_false,List.drop_of_length_le (by omega)]
   simp
theorem aQM(N:Nat)(ls:List (List Int))(hl:ls.length < 1000)(hN:ls.length < N)(hb:∀l∈ls,l.length<=1000000000):eK N ls=some ls.flatten:=by
 unfold eK;have h1:=aQP N ls (by omega) hb N 0 0 (by omega) (by omega) (by omega)
 rw[show((0:Nat):Int)=0 from rfl,eu,Nat.zero_add] at h1;have hfl:∀(l:List (List Int)),(∀x∈l,x.length<=1000000000)->l.flatten.length<=1000000000*l.length:=by
  intro l
  induction l with
  | nil=>intro _;simp
  | cons a l ih=>
   intro h;rw[ip,ai,List.length_cons]
   have:=h a (by simp)
   have:=ih (λx hx=>h x (by simp[hx]))
   omega
 have hfl2:=hfl ls hb;have h2:=aPZ ls (by omega) (λs a=>s++a) (λs=>True) (cZ N ls) (λ_ _ _ _=>trivial)
 have h3:∀(k i:Nat) (s:List Int),s=(ls.take i).flatten->i<=ls.length->ls.length - i < k->cZ N ls k s (i:Int)=some ls.flatten:=by
  intro k
  induction k with
  | zero=>intro i s _ _ h;omega
  | succ k ih=>
   intro i s hs hi hk;rw[cZ,aB]
   by_cases h:i < ls.length
   ·have e1:s++ls[i]=(ls.take (i+1)).flatten:=by rw[hs,ik,af h,List.flatten_append];simp
    have e2:=hfl (ls.take (i+1)) (λx hx=>hb x (ce hx))
    rw[<- e1,ai,List.length_take] at e2;rw[dt,cond_true,cQ h,aa,dG,aa,cI,e1]
    exact ih (i+1) _ rfl (by omega) (by omega)
   ·rw[df,cond_false,hs,aq (by omega)]
 rw[h1,aa,aQK (by omega) (by omega) (by omega),aa]
 have h4:=h3 N 0 [] (by simp) (by omega) (by omega)
 rw[show((0:Nat):Int)=0 from rfl] at h4;rw[h4,aa]
theorem aRA{α:Type}{l:List α}{n:Nat}(h:n<=l.length):aIq l 0 (n:Int) (n:Int)=some (l.take n):=by
 unfold aIq;rw[dt (show(0:Int)<=0 by omega),dt (show(0:Int)<=(n:Int) by omega),dt (show(n:Int)<=(n:Int) by omega),dt (show(n:Int)<=(l.length:Int) by omega)]
 simp
theorem aJk{i:Nat}(h:i<=8):cE i<=18446744073709551616:=by
 have:∀i:Fin 9,cE i.val<=18446744073709551616:=by decide
 exact this ⟨i,by omega⟩
def isU(x:Int):Prop:=0<=x/\x < 18446744073709551616
def sZ{m:Nat}(v:Vector Int m):Prop:=∀x∈v.toList,isU x
theorem qS(x:Int):isU (U64 x):=⟨aL4 x,aM6 x⟩
theorem xQ : isU 0:=⟨by decide,by decide⟩
theorem sZ.set{m:Nat}{v:Vector Int m}{i:Nat}{x:Int}(h:sZ v)(hx:isU x):sZ (v.setIfInBounds i x):=by
 intro y hy;have e:(v.setIfInBounds i x).toList=v.toList.set i x:=by simp
 rw[e] at hy;rcases List.mem_or_eq_of_mem_set hy with h' | h'
 ·exact h y h'
 ·rw[h'];exact hx
theorem aQd{α:Type}{m:Nat}(v:Vector α m){i:Nat}(h:i < m:=by decide):v[i]∈v.toList:=by simp
theorem T.vget{m:Nat}{v:Vector Int m}{i:Nat}(h:i < m:=by omega):T (v.toList[i]?) (λ_=>True):=⟨_,Go.UK.mG v i h,trivial⟩
theorem T.vgetU{m:Nat}{v:Vector Int m}{i:Nat}(hv:sZ v)(h:i < m:=by decide):T (v.toList[i]?) isU:=⟨_,Go.UK.mG v i h,hv _ (aQd v h)⟩
theorem T.add64{x y c:Int}(hx:isU x)(hy:isU y)(hc:0<=c/\c<=1):T (cK x y c) (λr=>isU r.1/\(0<=r.2/\r.2<=1)):=by
 obtain⟨x0,x1⟩:=hx;obtain⟨y0,y1⟩:=hy;obtain⟨c0,c1⟩:=hc;unfold cK;rw[dt x0,dt y0,dt c0,dt c1]
 refine⟨_,rfl,⟨?_,?_⟩,?_,?_⟩ <;> dsimp only <;> omega
theorem aOL(N:Nat)(a b:Int):T (bV N a b) (λr=>isU r.1/\isU r.2):=by
 unfold bV;simp only[aB]
 exact⟨_,rfl,qS _,qS _⟩
theorem aA7{k:IntKind}{a:Int}(ha:isU a)(b:Int):isU (shr k a b):=by
 unfold shr;rw[Int.fdiv_eq_ediv_of_nonneg _ (jz (lm (by decide)))]
 have:=Int.ediv_le_self ((2:Int) ^ min b.toNat k.bits) ha.1;exact⟨Int.ediv_nonneg ha.1 (jz (lm (by decide))),by have:=ha.2;omega⟩
theorem pM(a b:Int):isU (bor .u64 a b):=aTP a b
theorem rB(a b:Int):isU (cF .u64 a b):=qS _
theorem tJ(a b:Int):isU (aGl .u64 a b):=qS _
theorem T.loop{σ:Type}{n:Nat}(hn:n < 9223372036854775807)(I:Nat->σ->Prop){F:Nat->σ->Int->Option σ}
  (hstep:∀k s i,i < n->I i s->∀Q:σ->Prop,(∀s',I (i+1) s'->T (F k s' ((i+1:Nat):Int)) Q)->T (F (k+1) s (i:Int)) Q) (hend:∀k s,F (k+1) s (n:Int)=some s) :
  ∀(k i:Nat) (s:σ),I i s->i<=n->n - i < k->T (F k s (i:Int)) (I n)
 | 0,i,_,_,_,h=>by omega
 | k+1,i,s,hs,hi,hk=>by
  by_cases h:i < n
  ·exact hstep k s i h hs _ λs' h'=>T.loop hn I hstep hend k (i+1) s' h' (by omega) (by omega)
  ·obtain rfl:i=n:=by omega
   exact⟨s,hend _ _,hs⟩
theorem T.loop0{σ:Type}{n:Nat}(hn:n < 9223372036854775807)(I:Nat->σ->Prop){F:Nat->σ->Int->Option σ}
  (hstep:∀k s i,i < n->I i s->∀Q:σ->Prop,(∀s',I (i+1) s'->T (F k s' ((i+1:Nat):Int)) Q)->T (F (k+1) s (i:Int)) Q) (hend:∀k s,F (k+1) s (n:Int)=some s) {N:Nat} (hN:n < N) {s:σ} (hs:I 0 s):T (F N s 0) (I n):=
 T.loop hn I hstep hend N 0 s hs (by omega) (by omega)
theorem numC(N:Nat)(b:List Int)(h:4<=b.length:=by omega):T (kX N b) (λ_=>True):=by
 unfold kX;refine T.bind (T.idx) λ_ _=>T.bind (T.idx) λ_ _=>?_;refine T.letO λ_ _=>T.bind (T.idx) λ_ _=>T.letO λ_ _=>T.bind (T.idx) λ_ _=>T.letO λ_ _=>T.ret trivial
theorem i4{a i:Nat}(h:a*i < 1000000:=by omega):I64 ((a:Int)*(i:Int))=((a*i:Nat):Int):=by
 have e:(a:Int)*(i:Int)=((a*i:Nat):Int):=by push_cast;rfl
 rw[e];exact aT
theorem ia{a i:Nat}(h:a+i < 1000000:=by omega):I64 ((a:Int)+(i:Int))=((a+i:Nat):Int):=by
 rw[aT];omega
theorem aVn(N:Nat)(hN:20 < N)(key:Vector Int 32)(c:Int)(n:Vector Int 12):T (pX N key c n) (λ_=>True):=by
 unfold pX;refine T.bind (T.loop0 (n:=8) (by decide) (λ_ _=>True) (F:=dD N key) (λk s i hi _ Q hk=>?_) (λk s=>by rw[dD,df,cond_false]) (by omega) trivial) λv _=>?_
 ·rw[dD,dt,cond_true,show(4:Int)=((4:Nat):Int) from rfl,i4,ia]
  refine T.bind (T.slc (by omega) (by omega)) λs4 h4=>T.bind (numC N s4) λr _=>T.bind (T.inRO) λ_ _=>T.bind (T.vget) λe _=>?_;rw[cI]
  exact hk _ trivial
 refine T.bind (T.loop0 (n:=3) (by decide) (λ_ _=>True) (F:=dF N n) (λk s i hi _ Q hk=>?_) (λk s=>by rw[dF,df,cond_false]) (by omega) trivial) λv _=>T.ret trivial;rw[dF,dt,cond_true,show(4:Int)=((4:Nat):Int) from rfl,i4,show(13:Int)=((13:Nat):Int) from rfl,ia]
 refine T.bind (T.slc (by omega) (by omega)) λs4 h4=>T.bind (numC N s4) λr _=>T.bind (T.inRO) λ_ _=>T.bind (T.vget) λe _=>?_;rw[cI]
 exact hk _ trivial
theorem rotT(N:Nat)(x:Int)(n:Nat)(h1:1<=n:=by decide)(h2:n<=31:=by decide):T (bG N x (n:Int)) (λ_=>True):=by
 have b:∀n:Fin 32,cF .u64 (U64 (n.val:Int)) 31=(n.val:Int):=by decide +kernel
 have hb:cF .u64 (U64 (n:Int)) 31=(n:Int):=b ⟨n,by omega⟩
 unfold bG;rw[hb,uM .u32,aa,aB,eF,jH .u32]
 exact T.ret trivial
theorem aP1(N:Nat)(v:Vector Int 4):T (nD N v) (λ_=>True):=by
 unfold nD;refine T.bind (T.idx (by omega) (by simp)) λ_ _=>T.bind (T.idx (by omega) (by simp)) λ_ _=>T.bind (T.idx (by omega) (by simp)) λ_ _=>T.bind (T.idx (by omega) (by simp)) λ_ _=>?_;refine T.letO λ_ _=>T.bind (rotT N _ 16) λ_ _=>T.letO λ_ _=>T.bind (rotT N _ 12) λ_ _=>T.letO λ_ _=>T.bind (rotT N _ 8) λ_ _=>T.letO λ_ _=>T.bind (rotT N _ 7) λ_ _=>T.ret trivial
def aJ3 : List (Vector Int 4):=(#v[#v[0,4,8,12],#v[1,5,9,13],#v[2,6,10,14],#v[3,7,11,15],#v[0,5,10,15],#v[1,6,11,12],#v[2,7,8,13],#v[3,4,9,14]]:Vector (Vector Int 4) 8).toList
theorem aO1 : ∀v∈aJ3,∀x∈v.toList,0<=x/\x < 16:=by unfold aJ3;decide
theorem T.place{v:Vector Int 4}(hv:v∈aJ3){i:Nat}(h:i < 4:=by decide):T (v.toList[i]?) (λx=>0<=x/\x < 16):=
 ⟨_,Go.UK.mG v i h,aO1 v hv _ (aQd v h)⟩
theorem aTI(N:Nat)(hN:20 < N)(s:Vector Int 16):T (aV N N s 0) (λ_=>True):=by
 refine T.loop0 (n:=8) (by decide) (λ_ _=>True) (F:=aV N) (λk s i hi _ Q hk=>?_) (λk s=>by rw[aV,df,cond_false]) (by omega) trivial;rw[aV,dt,cond_true]
 refine T.bind (T.idx (by omega) (by simp;omega)) λe8 he=>?_;have hm:e8∈aJ3:=List.mem_of_getElem? he
 iterate 4 refine T.bind (T.inRO (by decide) (by decide)) λ_ _=>T.bind (T.place hm) λ_ h=>T.bind (T.inRO h.1 h.2) λ_ _=>T.bind (T.vget) λ_ _=>?_
 refine T.bind (aP1 N _) λr25 _=>?_;refine T.bind (T.inRO (by decide) (by decide)) λ_ _=>T.bind (T.place hm) λ_ h0=>?_;refine T.bind (T.inRO (by decide) (by decide)) λ_ _=>T.bind (T.place hm) λ_ h1=>?_;refine T.bind (T.inRO (by decide) (by decide)) λ_ _=>T.bind (T.place hm) λ_ h2=>?_;refine T.bind (T.inRO (by decide) (by decide)) λ_ _=>T.bind (T.place hm) λ_ h3=>?_
 iterate 4 refine T.bind (T.inRO (by decide) (by decide)) λ_ _=>T.bind (T.vget (by decide)) λ_ _=>?_
 refine T.bind (T.inRO h0.1 h0.2) λ_ _=>T.bind (T.vget) λ_ _=>T.bind (T.inRO h1.1 h1.2) λ_ _=>T.bind (T.vget) λ_ _=>T.bind (T.inRO h2.1 h2.2) λ_ _=>T.bind (T.vget) λ_ _=>T.bind (T.inRO h3.1 h3.2) λ_ _=>T.bind (T.vget) λ_ _=>?_;rw[cI]
 exact hk _ trivial
theorem aLw(N:Nat)(hN:20 < N)(key:Vector Int 32)(c:Int)(n:Vector Int 12):T (kE N key c n) (λ_=>True):=by
 unfold kE;refine T.bind (aVn N hN key c n) λr1 _=>?_;refine T.bind (T.loop0 (n:=10) (by decide) (λ_ _=>True) (F:=fH N) (λk s i hi _ Q hk=>?_) (λk s=>by rw[fH,df,cond_false]) (by omega) trivial) λp2 _=>?_
 ·rw[fH,dt,cond_true,cI]
  exact T.bind (aTI N hN s) λ_ _=>hk _ trivial
 refine T.bind (T.loop0 (n:=16) (by decide) (λ_ _=>True) (F:=eD N p2 r1) (λk s i hi _ Q hk=>?_) (λk s=>by rw[eD,df,cond_false]) (by omega) trivial) λp3 _=>T.ret trivial;rw[eD,dt,cond_true,show(4:Int)=((4:Nat):Int) from rfl,i4]
 have f1:I64 (((4*i:Nat):Int)+1)=((4*i+1:Nat):Int):=by rw[aT];omega
 have f2:I64 (((4*i:Nat):Int)+2)=((4*i+2:Nat):Int):=by rw[aT];omega
 have f3:I64 (((4*i:Nat):Int)+3)=((4*i+3:Nat):Int):=by rw[aT];omega
 refine T.bind (T.idx (by omega) (by simp;omega)) λ_ _=>T.bind (T.inRO) λ_ _=>T.bind (T.vget) λ_ _=>?_;simp only[aB,f1,f2,f3]
 iterate 4 refine T.bind (T.inRO) λ_ _=>T.bind (T.vget) λ_ _=>?_
 rw[cI]
 exact hk _ trivial
set_option maxHeartbeats 4000000
theorem aDt : isU 5:=⟨by decide,by decide⟩
theorem aFW{a b c:Int}(ha:isU a)(hb:isU b)(hc:isU c):sZ (#v[a,b,c]:Vector Int 3):=by
 intro x hx;simp at hx;rcases hx with rfl | rfl | rfl <;> assumption
theorem aFS(N:Nat)(hN:20 < N)(b:List Int)(h:8<=b.length):T (cO N b) isU:=by
 unfold cO;refine T.bind (T.loop0 (n:=8) (by decide) (λ_ x=>isU x) (F:=fY N b) (λk s i hi _ Q hk=>?_) (λk s=>by rw[fY,df,cond_false]) (by omega) xQ) λv h=>T.ret h;rw[fY,dt,cond_true,show(8:Int)=((8:Nat):Int) from rfl,i4]
 refine T.bind (T.idx) λe _=>?_;rw[uM .u64,aa,cI]
 exact hk _ (pM _ _)
attribute [local irreducible] aO idx dM cK bV cO aN
theorem aO6(N:Nat)(a0 a1:Int)(a2:aM)(h1:isU a0)(h2:isU a1)(h3:sZ a2.gA7.gh):T (fN N a0 a1 a2) sZ:=by
 unfold fN
 repeat' first
  | refine T.bind (T.inRO (by decide) (by decide)) λ_ _=>?_
  | refine T.bind (T.vgetU (by repeat first | assumption | refine sZ.set ?_ ?_ | exact qS _ | refine aFW ?_ ?_ ?_ | exact rB _ _)) λ_ _=>?_
  | refine T.bind (T.add64 (by first | assumption | exact qS _ | exact xQ | exact aDt | exact pM _ _ | exact rB _ _ | exact tJ _ _ | (refine aA7 ?_ _;first | assumption | exact pM _ _)) (by first | assumption | exact qS _ | exact xQ | exact aDt | exact pM _ _ | exact rB _ _ | exact tJ _ _ | (refine aA7 ?_ _;first | assumption | exact pM _ _)) (by first | assumption | exact⟨by decide,by decide⟩)) λ_ ⟨_,_⟩=>?_
  | refine T.bind (aOL N _ _) λ_ ⟨_,_⟩=>?_
  | refine T.bind (T.slc) λ_ hs=>T.bind (aFS N hN _ (by have:=hs.2;omega)) λ_ _=>?_
  | refine T.bind (T.idx (by decide) (by simp)) λ_ _=>?_
  | refine T.letO λ_ hx=>?_
  | refine T.bind (T.ret trivial) λ_ _=>?_
 exact T.ret (sZ.set (sZ.set (sZ.set (by assumption) (by assumption)) (by assumption)) (qS _))
theorem aLD(N:Nat)(a0 a1:Int)(a2:aG)(h1:isU a0)(h2:isU a1)(h3:sZ a2.gh):T (bX N a0 a1 a2) sZ:=by
 unfold bX
 repeat' first
  | refine T.bind (T.inRO (by decide) (by decide)) λ_ _=>?_
  | refine T.bind (T.vgetU (by repeat first | assumption | refine sZ.set ?_ ?_ | exact qS _ | refine aFW ?_ ?_ ?_ | exact rB _ _)) λ_ _=>?_
  | refine T.bind (T.add64 (by first | assumption | exact qS _ | exact xQ | exact aDt | exact pM _ _ | exact rB _ _ | exact tJ _ _ | (refine aA7 ?_ _;first | assumption | exact pM _ _)) (by first | assumption | exact qS _ | exact xQ | exact aDt | exact pM _ _ | exact rB _ _ | exact tJ _ _ | (refine aA7 ?_ _;first | assumption | exact pM _ _)) (by first | assumption | exact⟨by decide,by decide⟩)) λ_ ⟨_,_⟩=>?_
  | refine T.bind (aOL N _ _) λ_ ⟨_,_⟩=>?_
  | refine T.bind (T.slc) λ_ hs=>T.bind (aFS N hN _ (by have:=hs.2;omega)) λ_ _=>?_
  | refine T.bind (T.idx (by decide) (by simp)) λ_ _=>?_
  | refine T.letO λ_ hx=>?_
  | refine T.bind (T.ret trivial) λ_ _=>?_
 exact T.ret (sZ.set (sZ.set (sZ.set (by assumption) (by assumption)) (by assumption)) (qS _))
attribute [local irreducible] fN bX
theorem aK7(N:Nat)(hN:20 < N)(b:Vector Int 17)(r0 r1:Int)(m:aM)(hm:sZ m.gA7.gh):T (fU N b r0 r1 m) (λr=>sZ r.1/\r.2=(m.gP,m.gr0,m.gr1,m.gs0,m.gs1,m.gQ,m.gR)):=by
 unfold fU
 repeat' first
  | refine T.bind (T.inRO (by decide) (by decide)) λ_ _=>?_
  | refine T.bind (T.vgetU (by repeat first | assumption | refine sZ.set ?_ ?_ | exact qS _ | refine aFW ?_ ?_ ?_ | exact rB _ _)) λ_ _=>?_
  | refine T.bind (T.add64 (by first | assumption | exact qS _ | exact xQ | exact aDt | exact pM _ _ | exact rB _ _ | exact tJ _ _ | (refine aA7 ?_ _;first | assumption | exact pM _ _)) (by first | assumption | exact qS _ | exact xQ | exact aDt | exact pM _ _ | exact rB _ _ | exact tJ _ _ | (refine aA7 ?_ _;first | assumption | exact pM _ _)) (by first | assumption | exact⟨by decide,by decide⟩)) λ_ ⟨_,_⟩=>?_
  | refine T.bind (aOL N _ _) λ_ ⟨_,_⟩=>?_
  | refine T.bind (T.slc) λ_ hs=>T.bind (aFS N hN _ (by have:=hs.2;omega)) λ_ _=>?_
  | refine T.bind (T.idx (by decide) (by simp)) λ_ _=>?_
  | refine T.bind (aO6 N _ _ _ (by first | assumption | exact qS _ | exact xQ | exact aDt | exact pM _ _ | (subst_vars;exact pM _ _) | exact rB _ _ | exact tJ _ _ | (refine aA7 ?_ _;first | assumption | exact pM _ _)) (by first | assumption | exact qS _ | exact xQ | exact aDt | exact pM _ _ | exact rB _ _ | exact tJ _ _ | (refine aA7 ?_ _;first | assumption | exact pM _ _)) (by repeat first | assumption | refine sZ.set ?_ ?_ | exact qS _ | refine aFW ?_ ?_ ?_ | exact rB _ _)) λ_ _=>?_
  | refine T.letO λ_ hx=>?_
  | refine T.bind (T.ret trivial) λ_ _=>?_
 exact T.ret ⟨by assumption,rfl⟩
theorem aIL(N:Nat)(hN:20 < N)(b:Vector Int 17)(r0 r1:Int)(m:aG)(hm:sZ m.gh):T (cN N b r0 r1 m) sZ:=by
 unfold cN
 repeat' first
  | refine T.bind (T.inRO (by decide) (by decide)) λ_ _=>?_
  | refine T.bind (T.vgetU (by repeat first | assumption | refine sZ.set ?_ ?_ | exact qS _ | refine aFW ?_ ?_ ?_ | exact rB _ _)) λ_ _=>?_
  | refine T.bind (T.add64 (by first | assumption | exact qS _ | exact xQ | exact aDt | exact pM _ _ | exact rB _ _ | exact tJ _ _ | (refine aA7 ?_ _;first | assumption | exact pM _ _)) (by first | assumption | exact qS _ | exact xQ | exact aDt | exact pM _ _ | exact rB _ _ | exact tJ _ _ | (refine aA7 ?_ _;first | assumption | exact pM _ _)) (by first | assumption | exact⟨by decide,by decide⟩)) λ_ ⟨_,_⟩=>?_
  | refine T.bind (aOL N _ _) λ_ ⟨_,_⟩=>?_
  | refine T.bind (T.slc) λ_ hs=>T.bind (aFS N hN _ (by have:=hs.2;omega)) λ_ _=>?_
  | refine T.bind (T.idx (by decide) (by simp)) λ_ _=>?_
  | refine T.bind (aLD N _ _ _ (by first | assumption | exact qS _ | exact xQ | exact aDt | exact pM _ _ | (subst_vars;exact pM _ _) | exact rB _ _ | exact tJ _ _ | (refine aA7 ?_ _;first | assumption | exact pM _ _)) (by first | assumption | exact qS _ | exact xQ | exact aDt | exact pM _ _ | exact rB _ _ | exact tJ _ _ | (refine aA7 ?_ _;first | assumption | exact pM _ _)) (by repeat first | assumption | refine sZ.set ?_ ?_ | exact qS _ | refine aFW ?_ ?_ ?_ | exact rB _ _)) λ_ _=>?_
  | refine T.letO λ_ hx=>?_
  | refine T.bind (T.ret trivial) λ_ _=>?_
 exact T.ret (by assumption)
end Go.UK
