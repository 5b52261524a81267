/- A part of the proof: what the functions of the program compute. -/
import Derived.Test.YtljnaeghnleipaaGreatJ1
import Derived.Test.YtljnaeghnleipaaGreatAJ2
open Bool renaming and_eq_true→ap,not_true→fg
open Int renaming eq_ofNat_of_zero_le→br,le_of_lt→je,mul_le_mul→jt,pow_pos→jq,toNat_natCast→cn
open List renaming append_assoc→an,append_nil→fc,drop_eq_getElem_cons→ct,drop_length→dq,drop_of_length_le→fo,drop_zero→dr,flatMap_cons→cw,flatMap_map→kg,flatten_cons→io,getD_cons_succ→jp,getD_cons_zero→jm,getD_eq_getElem?_getD→ar,getElem?_eq_getElem→ag,getElem_mem→cg,length→kz,length_append→aj,length_cons→cx,length_drop→bw,length_nil→ku,length_take→bf,mem_cons→ed,mem_map→dn,mem_of_mem_take→bz,mem_or_eq_of_mem_set→iu,nil_append→eg,not_mem_nil→fe,range→bx,range_succ_eq_map→j6,take→kc,take_length→ib,take_of_length_le→au,take_succ→ir,take_zero→jf,zipWith→li
open Option renaming bind→ae,bind_some→aa
open Vector renaming replicate→ah
namespace Go.UK
open Go Go.Proofs
set_option maxRecDepth 20000
set_option maxHeartbeats 2000000
set_option linter.all false
theorem aOh(x:Int):U32 x=x % 4294967296:=IntKind.wrap_u32 x
theorem aBb(x:Int):U8 x=x % 256:=IntKind.wrap_u8 x
theorem aJL{x:Int}(h:0<=x)(h':x < 4294967296):U32 x=x:=by rw[aOh];omega
theorem qZ{x:Int}(h:0<=x)(h':x < 256):U8 x=x:=by rw[aBb];omega
theorem aLG(k:IntKind)(a b:Int):bor k a b=bor k b a:=by unfold bor;rw[BitVec.or_comm]
def isW(x:Int):Prop:=0<=x/\x < 4294967296
def isB(x:Int):Prop:=0<=x/\x < 256
theorem isB.w{x:Int}(h:isB x):isW x:=⟨h.1,by have:=h.2;omega⟩
theorem aNP(x:Int):isB (U8 x):=by rw[aBb];exact⟨by omega,by omega⟩
theorem aH2(n:Nat)(h:n < 4294967296):(BitVec.ofInt 32 (n:Int)).toNat=n:=by
 rw[BitVec.toNat_ofInt];simp;omega
theorem aN7{a b:Int}(ha:isW a)(hb:isW b):bor .u32 a b=((a.toNat ||| b.toNat:Nat):Int):=by
 obtain⟨ha,ha'⟩:=ha;obtain⟨hb,hb'⟩:=hb;obtain⟨A,rfl⟩:=br ha;obtain⟨B,rfl⟩:=br hb;unfold bor;have h:A ||| B < 2 ^ 32:=Nat.or_lt_two_pow (by omega) (by omega)
 rw[show(BitVec.ofInt IntKind.u32.bits (A:Int) ||| BitVec.ofInt IntKind.u32.bits (B:Int)).toNat=A ||| B by
  rw[BitVec.toNat_or];congr 1 <;> exact aH2 _ (by omega),IntKind.wrap_u32]
 simp only[cn]
 omega
theorem aLD{a b:Int}(m:Nat)(ha:isW a)(hb:0<=b)(hb':b < (2 ^ m:Nat))(hm:m<=32)(hd:(2 ^ m:Nat) ∣ a.toNat):bor .u32 a b=a+b:=by
 have h32:(2 ^ m:Nat)<=2 ^ 32:=Nat.pow_le_pow_right (by decide) hm;rw[aN7 ha ⟨hb,by omega⟩]
 obtain⟨A,rfl⟩:=br ha.1;obtain⟨B,rfl⟩:=br hb;obtain⟨C,hC⟩:=hd;simp only[cn] at hC ⊢;have:A ||| B=A+B:=by
  rw[hC,Nat.mul_comm,<- Nat.shiftLeft_eq,Nat.shiftLeft_add_eq_or_of_lt (by omega)]
 rw[this]
 omega
theorem aOY(a b:Int)(m:Nat)(hb:b=m)(hm:m<=32):shl .u32 a b=(a*(2:Int) ^ m) % 4294967296:=by
 subst hb;unfold shl;rw[show min (m:Int).toNat IntKind.u32.bits=m by simp[IntKind.bits];omega]
 exact IntKind.wrap_u32 _
theorem aPf{a b:Int}:isB (wV .u8 a b):=aNP _
theorem tR{α:Type}{m:Nat}(v:Vector α m)(i:Nat)(h:i < m):v.toList[i]? = some v[i]:=by simp[h]
theorem xY{m:Nat}(v:Vector Int m)(i:Nat)(h:i < m):v.toList.getD i 0=v[i]:=by rw[ar,tR v i h];rfl
theorem tP{l:List Int}{i:Nat}(h:i < l.length):l[i]? = some (l.getD i 0):=by rw[ar,ag h];rfl
theorem aIo{l:List Int}{i:Nat}(h:i < l.length):idx l (i:Int)=some (l.getD i 0):=by rw[lL,tP h]
def aX(m:List Int):Prop:=∀x∈m,isB x
theorem aX.app{a b:List Int}(ha:aX a)(hb:aX b):aX (a++b):=λx hx=>by
 rcases List.mem_append.1 hx with h | h
 ·exact ha x h
 ·exact hb x h
theorem aX.getD{m:List Int}(h:aX m)(i:Nat):isB (m.getD i 0):=by
 rw[ar]
 by_cases hi:i < m.length
 ·rw[ag hi];exact h _ (cg hi)
 ·rw[List.getElem?_eq_none (by omega)];exact⟨by simp,by simp⟩
theorem aX.take{m:List Int}(h:aX m)(n:Nat):aX (m.take n):=λx hx=>h x (bz hx)
theorem aX.drop{m:List Int}(h:aX m)(n:Nat):aX (m.drop n):=λx hx=>h x (List.mem_of_mem_drop hx)
theorem aKy{α:Type}{l:List α}{n:Nat}(h:n<=l.length):eT l (n:Int) (l.length:Int)=some (l.drop n):=by
 rw[pL (by omega) (by omega) (by omega)];simp
theorem rO{l r:List Int}(h:l.length<=1000000)(h':r.length<=1000000):mM 1 l r=some (l++r):=kR (by omega)
def leB(w:Nat)(x:Int):List Int:=(bx w).map (λi=>U8 (shr .u64 x ((8*i:Nat):Int)))
theorem jB(w:Nat)(x:Int):(leB w x).length=w:=by unfold leB;simp
theorem rV(w:Nat)(x:Int):aX (leB w x):=by
 intro y hy;unfold leB at hy;obtain⟨i,_,rfl⟩:=dn.1 hy;exact aNP _
def cI(w:Nat):Int:=256 ^ w
theorem aQR(w:Nat):(2:Int) ^ (8*w)=cI w:=by unfold cI;rw[Int.pow_mul];rfl
theorem aIs(x:Int)(i:Nat)(h:i<=8):shr .u64 x ((8*i:Nat):Int)=x / cI i:=by
 rw[wZ .u64 x _ (8*i) rfl (by show 8*i<=64;omega),aQR]
theorem yF(w:Nat):0 < cI w:=jq (by decide)
theorem aMc(w:Nat):cI (w+1)=cI w*256:=Int.pow_succ _ _
theorem div_s{x:Int}(i:Nat):x / cI (i+1)=x / cI i / 256:=by
 rw[aMc,Int.ediv_ediv_of_nonneg (je (yF i))]
theorem aCt{α β ρ:Type}(l:List α)(hl:l.length < 9223372036854775807)(bad:α->Bool)(f:α->List β)(r:ρ)(I:List β->Nat->Prop)(F:Nat->List β->Int->Option (Sum (List β) ρ))
  (hI:∀s i (h:i < l.length),I s i->I (s++f l[i]) (i+1)) (h1:∀k s i (h:i < l.length),I s i->F (k+1) s (i:Int)=cond (bad l[i]) (some (.inr r)) (F k (s++f l[i]) (I64 ((i:Int)+1)))) (h2:∀k s,F (k+1) s (l.length:Int)=some (.inl s)) :
  ∀(k i:Nat) (s:List β),I s i->i<=l.length->l.length - i < k->F k s (i:Int)=some (cond ((l.drop i).any bad) (.inr r) (.inl (s++(l.drop i).flatMap f)))
 | 0,i,_,_,_,h=>by omega
 | k+1,i,s,hs,hi,hk=>by
  by_cases h:i < l.length
  ·rw[h1 k s i h hs,ct h,List.any_cons]
   cases hb:bad l[i] with
   | true=>rfl
   | false=>
    rw[cond_false,dC (by omega),aCt l hl bad f r I F hI h1 h2 k (i+1) _ (hI s i h hs) (by omega) (by omega),Bool.false_or,cw,an]
  ·obtain rfl:i=l.length:=by omega
   rw[h2,dq];simp
def big(w:Nat)(x:Int):Bool:=decide (cI w<=x)
def aHA(b:List Int)(w:Nat)(ns:List Int):List Int×Int:=cond (ns.any (big w)) ([],3) (b++ns.flatMap (leB w),0)
def aL5(ns:List Int):Prop:=∀x∈ns,0<=x/\x < 18446744073709551616
theorem putL2(N w:Nat)(hw:w<=8)(x:Int)(s:List Int)(hs:s.length<=100000000000000)(hN:8 < N):nW N (w:Int) x N s 0=some (s++leB w x):=by
 have:=lS w (by omega) (λi=>[U8 (shr .u64 x ((8*i:Nat):Int))]) (λs i=>s.length<=100000000000000+i) (nW N (w:Int) x) (by intro s i hi hs;simp;omega) (λk s i hi hs=>by
  have f:I64 (8*(i:Int))=((8*i:Nat):Int):=by rw[aW (by omega) (by omega)];omega
  rw[nW,dt (by omega),cond_true,f,mA .u64 (by omega),aa,kR (by simp;omega),aa]) (λk s=>by rw[nW,df (by omega),cond_false]) (N:=N) (by omega) (s:=s) (by simpa using hs)
 rw[this,aAb]
 rfl
theorem aPt(N:Nat)(l:List Int)(h:l.length<=100000000000000):fJ N l=some l:=by
 unfold fJ;rw[kR (by simp;omega),aa,eg]
theorem big8{x:Int}(h:x < 18446744073709551616):big 8 x=false:=by
 unfold big;rw[show cI 8=18446744073709551616 from rfl]
 exact df (by omega)
theorem aMu(N:Nat)(b:List Int)(w:Nat)(hw0:1<=w)(hw:w<=8)(ns:List Int)(hns:aL5 ns)(hb:b.length<=10000000000000)(hl:ns.length<=1000000000000)(hN:8 < N)(hlN:ns.length < N):bO N b (w:Int) ns=some (aHA b w ns):=by
 unfold bO;rw[df (show ¬(w:Int) < 1 by omega),df (show ¬(w:Int) > 8 by omega),cond_false,aC,cond_false,aPt N b (by omega),aa]
 have:=aCt ns (by omega) (big w) (leB w) (([],3):List Int×Int) (λs i=>s.length<=10000000000000+8*i) (λk s i=>qC N ns (w:Int) k s i) (by intro s i h hs;simp[jB];omega) (λk s i h hs=>by
  have hx:=hns _ (cg h)
  have f:I64 (8*(w:Int))=((8*w:Nat):Int):=by rw[aW (by omega) (by omega)];omega
  rw[qC,aC,dt (by omega),cond_true,dJ h,aa]
  have e:(cond (decide ((w:Int) < 8)) (ae (yL .u64 ns[i] (I64 (8*(w:Int)))) λx9=>some (decide (x9 > 0))) (some false))=some (big w ns[i]):=by
   by_cases h8:w < 8
   ·rw[dt (by omega),cond_true,f,mA .u64 (by omega),aa,aIs _ _ (by omega)]
    congr 1;unfold big;have hp:=yF w;by_cases hb:cI w<=ns[i]
    ·have:1<=ns[i] / cI w:=(Int.le_ediv_iff_mul_le hp).2 (by omega)
     rw[dt hb,dt (by omega)]
    ·have:ns[i] / cI w < 1:=Int.ediv_lt_of_lt_mul hp (by omega)
     rw[df hb,df (by omega)]
   ·obtain rfl:w=8:=by omega
    rw[df (by omega),cond_false,big8 hx.2]
  rw[e,aa]
  cases hbg:big w ns[i] with
  | true=>rfl
  | false=>rw[cond_false,cond_false,putL2 N w hw _ _ (by omega) hN,aa]) (λk s=>by rw[qC,aC,df (by omega),cond_false]) N 0 b (by omega) (by omega) (by omega)
 rw[show((0:Nat):Int)=0 from rfl,dr] at this;rw[this,aa]
 unfold aHA;cases ns.any (big w) <;> rfl
def aCO(w:Nat)(x:Int):Bool:=decide (x < -(cI w / 2))||decide (cI w / 2<=x)
def aNR(ns:List Int):Prop:=∀x∈ns,aAz x
def aMX(b:List Int)(w:Nat)(ns:List Int):List Int×Int:=cond (ns.any (aCO w)) ([],3) (aHA b w (ns.map (λx=>x % cI w)))
theorem w8{w:Nat}(h0:1<=w)(h:w<=8):w=1\/w=2\/w=3\/w=4\/w=5\/w=6\/w=7\/w=8:=by omega
theorem shlI(x:Int)(m:Nat)(h:m<=64):shl .i64 x (m:Int)=I64 (x*(2:Int) ^ m):=by
 unfold shl;rw[show min (m:Int).toNat IntKind.i64.bits=m by simp[IntKind.bits];omega]
theorem sgnA{w:Nat}(h0:1<=w)(h:w<=8){x:Int}(hx:aAz x):(shr .i64 (shl .i64 x ((64 - 8*w:Nat):Int)) ((64 - 8*w:Nat):Int) != x)=aCO w x:=by
 obtain⟨x0,x1⟩:=hx;rw[wZ .i64 _ _ (64 - 8*w) rfl (by show 64 - 8*w<=64;omega),shlI _ _ (by omega),aJ0]
 have key:∀b:Bool,(b=true↔((x*(2:Int) ^ (64 - 8*w)+9223372036854775808) % 18446744073709551616 - 9223372036854775808) / (2:Int) ^ (64 - 8*w)≠x)->(((x*(2:Int) ^ (64 - 8*w)+9223372036854775808) % 18446744073709551616 - 9223372036854775808) / (2:Int) ^ (64 - 8*w) != x)=b:=by
  intro b hb;cases b with
  | true=>simpa using hb
  | false=>simpa using hb
 apply key;unfold aCO;rw[Bool.or_eq_true,decide_eq_true_eq,decide_eq_true_eq]
 rcases w8 h0 h with rfl | rfl | rfl | rfl | rfl | rfl | rfl | rfl
 ·rw[show(2:Int) ^ (64 - 8*1)=72057594037927936 from rfl,show cI 1 / 2=128 from rfl];omega
 ·rw[show(2:Int) ^ (64 - 8*2)=281474976710656 from rfl,show cI 2 / 2=32768 from rfl];omega
 ·rw[show(2:Int) ^ (64 - 8*3)=1099511627776 from rfl,show cI 3 / 2=8388608 from rfl];omega
 ·rw[show(2:Int) ^ (64 - 8*4)=4294967296 from rfl,show cI 4 / 2=2147483648 from rfl];omega
 ·rw[show(2:Int) ^ (64 - 8*5)=16777216 from rfl,show cI 5 / 2=549755813888 from rfl];omega
 ·rw[show(2:Int) ^ (64 - 8*6)=65536 from rfl,show cI 6 / 2=140737488355328 from rfl];omega
 ·rw[show(2:Int) ^ (64 - 8*7)=256 from rfl,show cI 7 / 2=36028797018963968 from rfl];omega
 ·rw[show(2:Int) ^ (64 - 8*8)=1 from rfl,show cI 8 / 2=9223372036854775808 from rfl];omega
theorem sgnB{w:Nat}(h0:1<=w)(h:w<=8){x:Int}(hx:aAz x):shr .u64 (shl .u64 (U64 x) ((64 - 8*w:Nat):Int)) ((64 - 8*w:Nat):Int)=x % cI w:=by
 obtain⟨x0,x1⟩:=hx;rw[wZ .u64 _ _ (64 - 8*w) rfl (by show 64 - 8*w<=64;omega),aMV _ _ (64 - 8*w) rfl (by omega),aIM]
 rcases w8 h0 h with rfl | rfl | rfl | rfl | rfl | rfl | rfl | rfl
 ·rw[show(2:Int) ^ (64 - 8*1)=72057594037927936 from rfl,show cI 1=256 from rfl];omega
 ·rw[show(2:Int) ^ (64 - 8*2)=281474976710656 from rfl,show cI 2=65536 from rfl];omega
 ·rw[show(2:Int) ^ (64 - 8*3)=1099511627776 from rfl,show cI 3=16777216 from rfl];omega
 ·rw[show(2:Int) ^ (64 - 8*4)=4294967296 from rfl,show cI 4=4294967296 from rfl];omega
 ·rw[show(2:Int) ^ (64 - 8*5)=16777216 from rfl,show cI 5=1099511627776 from rfl];omega
 ·rw[show(2:Int) ^ (64 - 8*6)=65536 from rfl,show cI 6=281474976710656 from rfl];omega
 ·rw[show(2:Int) ^ (64 - 8*7)=256 from rfl,show cI 7=72057594037927936 from rfl];omega
 ·rw[show(2:Int) ^ (64 - 8*8)=1 from rfl,show cI 8=18446744073709551616 from rfl];omega
theorem modU(w:Nat)(h:w<=8)(x:Int):0<=x % cI w/\x % cI w < 18446744073709551616:=by
 have hp:=yF w;have h1:=Int.emod_nonneg x (Int.ne_of_gt hp)
 have h2:=Int.emod_lt_of_pos x hp;have h3:cI w<=18446744073709551616:=by
  have:∀i:Fin 9,cI i.val<=18446744073709551616:=by decide
  exact this ⟨w,by omega⟩
 omega
theorem sgnP(N:Nat)(b:List Int)(w:Nat)(hw0:1<=w)(hw:w<=8)(ns:List Int)(hns:aNR ns)(hb:b.length<=10000000000000)(hl:ns.length<=1000000000000)(hN:8 < N)(hlN:ns.length < N):kL N b (w:Int) ns=some (aMX b w ns):=by
 unfold kL;rw[df (show ¬(w:Int) < 1 by omega),df (show ¬(w:Int) > 8 by omega),cond_false,aC,cond_false]
 have:=aCt ns (by omega) (aCO w) (λx=>[x % cI w]) (([],3):List Int×Int) (λs i=>s.length=i) (λk s i=>mO N ns (w:Int) k s i) (by intro s i h hs;simp;omega) (λk s i h hs=>by
  have hx:=hns _ (cg h)
  have f:I64 (64 - I64 (8*(w:Int)))=((64 - 8*w:Nat):Int):=by rw[aW (x:=8*(w:Int)) (by omega) (by omega),aW (by omega) (by omega)];omega
  rw[mO,aC,dt (by omega),cond_true,dJ h,aa,f,aC,vX .i64 (by omega),aa,aC,mA .i64 (by omega),aa,sgnA hw0 hw hx]
  cases hbg:aCO w ns[i] with
  | true=>rfl
  | false=>
   rw[cond_false,cond_false,aC,vX .u64 (by omega),aa,aC,mA .u64 (by omega),aa,sgnB hw0 hw hx,kR (by simp;omega),aa]) (λk s=>by rw[mO,aC,df (by omega),cond_false]) N 0 [] rfl (by omega) (by omega)
 rw[show((0:Nat):Int)=0 from rfl,dr,eg] at this;rw[this,aa]
 unfold aMX;cases ns.any (aCO w) with
 | true=>rfl
 | false=>
  rw[cond_false,cond_false]
  show ae (bO N b (w:Int) (ns.flatMap λx=>[x % cI w])) _=_;rw[show(ns.flatMap λx=>[x % cI w])=ns.map (λx=>x % cI w) by
   clear this hns hl hlN
   induction ns with
   | nil=>rfl
   | cons a l ih=>simp[cw,ih]]
  rw[aMu N b w hw0 hw _ (by intro y hy;obtain⟨x,_,rfl⟩:=dn.1 hy;exact modU w hw x) hb (by simpa using hl) hN (by simpa using hlN),aa]
theorem aJG{m:Nat}(v:Vector Int m):eT v.toList 0 (m:Int)=some v.toList:=by
 rw[pL (by omega) (by omega) (by simp)]
 simp[au]
def jN{m:Nat}(v:Vector Int m):Prop:=aX v.toList
theorem aIa{α σ:Type}(l:List α)(hl:l.length < 9223372036854775807)(st:σ->α->σ)(I:σ->Prop)(F:Nat->σ->Int->Option σ)(hI:∀s a,a∈l->I s->I (st s a))
  (h1:∀k s i (h:i < l.length),I s->F (k+1) s (i:Int)=F k (st s l[i]) (I64 ((i:Int)+1))) (h2:∀k s,F (k+1) s (l.length:Int)=some s) :
  ∀(k i:Nat) (s:σ),I s->i<=l.length->l.length - i < k->F k s (i:Int)=some ((l.drop i).foldl st s)/\I ((l.drop i).foldl st s)
 | 0,i,_,_,_,h=>by omega
 | k+1,i,s,hs,hi,hk=>by
  by_cases h:i < l.length
  ·rw[h1 k s i h hs,dC (by omega),ct h,List.foldl_cons]
   exact aIa l hl st I F hI h1 h2 k (i+1) _ (hI s _ (cg h) hs) (by omega) (by omega)
  ·obtain rfl:i=l.length:=by omega
   rw[h2,dq]
   exact⟨rfl,hs⟩
theorem aLV{α σ:Type}(l:List α)(hl:l.length < 9223372036854775807)(st:σ->α->σ)(I:σ->Prop)(F:Nat->σ->Int->Option σ)(hI:∀s a,a∈l->I s->I (st s a))
  (h1:∀k s i (h:i < l.length),I s->F (k+1) s (i:Int)=F k (st s l[i]) (I64 ((i:Int)+1))) (h2:∀k s,F (k+1) s (l.length:Int)=some s) {N:Nat} (hN:l.length < N) {s:σ} (hs:I s):F N s 0=some (l.foldl st s)/\I (l.foldl st s):=by
 have:=aIa l hl st I F hI h1 h2 N 0 s hs (by omega) (by omega)
 rwa[dr] at this
theorem aJ7{α:Type}{eq:α->α->Bool}(h:∀a b,eq a b=true↔a=b):∀(l r:List α),eqL eq l r=true↔l=r
 | [],[]=>by simp[eqL]
 | [],_ :: _=>by simp[eqL]
 | _ :: _,[]=>by simp[eqL]
 | a :: l,b :: r=>by simp[eqL,h,aJ7 h l r]
theorem aER{m:Nat}(a b:Vector Int m):eqV (λa b=>a==b) a b=true↔a=b:=by
 unfold eqV;rw[aJ7 (λa b=>by simp)]
 constructor
 ·intro h;exact Vector.toList_inj.1 h
 ·intro h;rw[h]
theorem aMh(N:Nat)(ls:List (List Int))(hl:ls.length < 1000000000)(hb:∀l∈ls,l.length<=1000000000):∀(k i:Nat) (t:Nat),i<=ls.length->ls.length - i < k->t<=1000000000*i->fH N ls k (t:Int) (i:Int)=some ((t+(ls.drop i).flatten.length:Nat):Int)
 | 0,_,_,_,h,_=>by omega
 | k+1,i,t,hi,hk,ht=>by
  rw[fH,aC]
  by_cases h:i < ls.length
  ·have hx:=hb _ (cg h)
   have e:I64 ((t:Int)+(ls[i].length:Int))=((t+ls[i].length:Nat):Int):=by rw[aW (by omega) (by omega)];omega
   rw[dt (by omega),cond_true,dJ h,aa,e,aC,df (by omega),cond_false,dC (by omega),aMh N ls hl hb k (i+1) _ (by omega) (by omega) (by omega),ct h,io,aj]
   congr 2;omega
  ·rw[df (by omega),cond_false,fo (by omega)]
   simp
theorem aM0(N:Nat)(ls:List (List Int))(hl:ls.length < 1000)(hN:ls.length < N)(hb:∀l∈ls,l.length<=1000000000):cR N ls=some ls.flatten:=by
 unfold cR;have h1:=aMh N ls (by omega) hb N 0 0 (by omega) (by omega) (by omega)
 rw[show((0:Nat):Int)=0 from rfl,dr,Nat.zero_add] at h1;have hfl:∀(l:List (List Int)),(∀x∈l,x.length<=1000000000)->l.flatten.length<=1000000000*l.length:=by
  intro l
  induction l with
  | nil=>intro _;simp
  | cons a l ih=>
   intro h;rw[io,aj,cx]
   have:=h a (by simp)
   have:=ih (λx hx=>h x (by simp[hx]))
   omega
 have hfl2:=hfl ls hb;have h2:=aLV ls (by omega) (λs a=>s++a) (λs=>True) (dK N ls) (λ_ _ _ _=>trivial)
 have h3:∀(k i:Nat) (s:List Int),s=(ls.take i).flatten->i<=ls.length->ls.length - i < k->dK N ls k s (i:Int)=some ls.flatten:=by
  intro k
  induction k with
  | zero=>intro i s _ _ h;omega
  | succ k ih=>
   intro i s hs hi hk;rw[dK,aC]
   by_cases h:i < ls.length
   ·have e1:s++ls[i]=(ls.take (i+1)).flatten:=by rw[hs,ir,ag h,List.flatten_append];simp
    have e2:=hfl (ls.take (i+1)) (λx hx=>hb x (bz hx))
    rw[<- e1,aj,bf] at e2;rw[dt (by omega),cond_true,dJ h,aa,kR (by omega),aa,dC (by omega),e1]
    exact ih (i+1) _ rfl (by omega) (by omega)
   ·rw[df (by omega),cond_false,hs,au (by omega)]
 rw[h1,aa,aM3 (by omega) (by omega) (by omega),aa]
 have h4:=h3 N 0 [] (by simp) (by omega) (by omega)
 rw[show((0:Nat):Int)=0 from rfl] at h4;rw[h4,aa]
theorem aNJ{α:Type}{l:List α}{n:Nat}(h:n<=l.length):aE3 l 0 (n:Int) (n:Int)=some (l.take n):=by
 unfold aE3;rw[dt (show(0:Int)<=0 by omega),dt (show(0:Int)<=(n:Int) by omega),dt (show(n:Int)<=(n:Int) by omega),dt (show(n:Int)<=(l.length:Int) by omega)]
 simp
theorem aHK{i:Nat}(h:i<=8):cI i<=18446744073709551616:=by
 have:∀i:Fin 9,cI i.val<=18446744073709551616:=by decide
 exact this ⟨i,by omega⟩
def isU(x:Int):Prop:=0<=x/\x < 18446744073709551616
def sD{m:Nat}(v:Vector Int m):Prop:=∀x∈v.toList,isU x
theorem qL(x:Int):isU (U64 x):=⟨aI5 x,aJd x⟩
theorem vY : isU 0:=⟨by decide,by decide⟩
theorem sD.set{m:Nat}{v:Vector Int m}{i:Nat}{x:Int}(h:sD v)(hx:isU x):sD (v.setIfInBounds i x):=by
 intro y hy;have e:(v.setIfInBounds i x).toList=v.toList.set i x:=by simp
 rw[e] at hy;rcases iu hy with h' | h'
 ·exact h y h'
 ·rw[h'];exact hx
theorem aMs{α:Type}{m:Nat}(v:Vector α m){i:Nat}(h:i < m):v[i]∈v.toList:=by simp
theorem T.vget{m:Nat}{v:Vector Int m}{i:Nat}(h:i < m):T (v.toList[i]?) (λ_=>True):=⟨_,Go.UK.tR v i h,trivial⟩
theorem T.vgetU{m:Nat}{v:Vector Int m}{i:Nat}(hv:sD v)(h:i < m):T (v.toList[i]?) isU:=⟨_,Go.UK.tR v i h,hv _ (aMs v h)⟩
theorem T.add64{x y c:Int}(hx:isU x)(hy:isU y)(hc:0<=c/\c<=1):T (cU x y c) (λr=>isU r.1/\(0<=r.2/\r.2<=1)):=by
 obtain⟨x0,x1⟩:=hx;obtain⟨y0,y1⟩:=hy;obtain⟨c0,c1⟩:=hc;unfold cU;rw[dt x0,dt y0,dt c0,dt c1]
 refine⟨_,rfl,⟨?_,?_⟩,?_,?_⟩ <;> dsimp only <;> omega
theorem aKX(N:Nat)(a b:Int):T (bS N a b) (λr=>isU r.1/\isU r.2):=by
 unfold bS;simp only[aC]
 exact⟨_,rfl,qL _,qL _⟩
theorem zP{k:IntKind}{a:Int}(ha:isU a)(b:Int):isU (shr k a b):=by
 unfold shr;rw[Int.fdiv_eq_ediv_of_nonneg _ (je (jq (by decide)))]
 have:=Int.ediv_le_self ((2:Int) ^ min b.toNat k.bits) ha.1;exact⟨Int.ediv_nonneg ha.1 (je (jq (by decide))),by have:=ha.2;omega⟩
theorem pX(a b:Int):isU (bor .u64 a b):=aOM a b
theorem qR(a b:Int):isU (dD .u64 a b):=qL _
theorem sQ(a b:Int):isU (aFI .u64 a b):=qL _
theorem T.loop{σ:Type}{n:Nat}(hn:n < 9223372036854775807)(I:Nat->σ->Prop){F:Nat->σ->Int->Option σ}
  (hstep:∀k s i,i < n->I i s->∀Q:σ->Prop,(∀s',I (i+1) s'->T (F k s' ((i+1:Nat):Int)) Q)->T (F (k+1) s (i:Int)) Q) (hend:∀k s,F (k+1) s (n:Int)=some s) :
  ∀(k i:Nat) (s:σ),I i s->i<=n->n - i < k->T (F k s (i:Int)) (I n)
 | 0,i,_,_,_,h=>by omega
 | k+1,i,s,hs,hi,hk=>by
  by_cases h:i < n
  ·exact hstep k s i h hs _ λs' h'=>T.loop hn I hstep hend k (i+1) s' h' (by omega) (by omega)
  ·obtain rfl:i=n:=by omega
   exact⟨s,hend _ _,hs⟩
theorem T.loop0{σ:Type}{n:Nat}(hn:n < 9223372036854775807)(I:Nat->σ->Prop){F:Nat->σ->Int->Option σ}
  (hstep:∀k s i,i < n->I i s->∀Q:σ->Prop,(∀s',I (i+1) s'->T (F k s' ((i+1:Nat):Int)) Q)->T (F (k+1) s (i:Int)) Q) (hend:∀k s,F (k+1) s (n:Int)=some s) {N:Nat} (hN:n < N) {s:σ} (hs:I 0 s):T (F N s 0) (I n):=
 T.loop hn I hstep hend N 0 s hs (by omega) (by omega)
theorem numC(N:Nat)(b:List Int)(h:4<=b.length):T (jV N b) (λ_=>True):=by
 unfold jV;refine T.bind (T.idx (by omega) (by omega)) λ_ _=>T.bind (T.idx (by omega) (by omega)) λ_ _=>?_;refine T.letO λ_ _=>T.bind (T.idx (by omega) (by omega)) λ_ _=>T.letO λ_ _=>T.bind (T.idx (by omega) (by omega)) λ_ _=>T.letO λ_ _=>T.ret trivial
theorem i4{a i:Nat}(h:a*i < 1000000):I64 ((a:Int)*(i:Int))=((a*i:Nat):Int):=by
 have e:(a:Int)*(i:Int)=((a*i:Nat):Int):=by push_cast;rfl
 rw[e];exact aW (by omega) (by omega)
theorem ia{a i:Nat}(h:a+i < 1000000):I64 ((a:Int)+(i:Int))=((a+i:Nat):Int):=by
 rw[aW (by omega) (by omega)];omega
theorem aQY(N:Nat)(hN:20 < N)(key:Vector Int 32)(c:Int)(n:Vector Int 12):T (nY N key c n) (λ_=>True):=by
 unfold nY;refine T.bind (T.loop0 (n:=8) (by decide) (λ_ _=>True) (F:=dN N key) (λk s i hi _ Q hk=>?_) (λk s=>by rw[dN,df (by omega),cond_false]) (by omega) trivial) λv _=>?_
 ·rw[dN,dt (by omega),cond_true,show(4:Int)=((4:Nat):Int) from rfl,i4 (by omega),ia (by omega)]
  refine T.bind (T.slc (by omega) (by omega) (by simp)) λs4 h4=>T.bind (numC N s4 (by omega)) λr _=>T.bind (T.inRO (by omega) (by omega)) λ_ _=>T.bind (T.vget (by omega)) λe _=>?_;rw[dC (by omega)]
  exact hk _ trivial
 refine T.bind (T.loop0 (n:=3) (by decide) (λ_ _=>True) (F:=dQ N n) (λk s i hi _ Q hk=>?_) (λk s=>by rw[dQ,df (by omega),cond_false]) (by omega) trivial) λv _=>T.ret trivial;rw[dQ,dt (by omega),cond_true,show(4:Int)=((4:Nat):Int) from rfl,i4 (by omega),show(13:Int)=((13:Nat):Int) from rfl,ia (by omega)]
 refine T.bind (T.slc (by omega) (by omega) (by simp)) λs4 h4=>T.bind (numC N s4 (by omega)) λr _=>T.bind (T.inRO (by omega) (by omega)) λ_ _=>T.bind (T.vget (by omega)) λe _=>?_;rw[dC (by omega)]
 exact hk _ trivial
theorem rotT(N:Nat)(x:Int)(n:Nat)(h1:1<=n)(h2:n<=31):T (bH N x (n:Int)) (λ_=>True):=by
 have b:∀n:Fin 32,dD .u64 (U64 (n.val:Int)) 31=(n.val:Int):=by decide +kernel
 have hb:dD .u64 (U64 (n:Int)) 31=(n:Int):=b ⟨n,by omega⟩
 unfold bH;rw[hb,vX .u32 (by omega),aa,aC,fA (by omega) (by omega),mA .u32 (by omega)]
 exact T.ret trivial
theorem aLz(N:Nat)(v:Vector Int 4):T (lZ N v) (λ_=>True):=by
 unfold lZ;refine T.bind (T.idx (by omega) (by simp)) λ_ _=>T.bind (T.idx (by omega) (by simp)) λ_ _=>T.bind (T.idx (by omega) (by simp)) λ_ _=>T.bind (T.idx (by omega) (by simp)) λ_ _=>?_;refine T.letO λ_ _=>T.bind (rotT N _ 16 (by decide) (by decide)) λ_ _=>T.letO λ_ _=>T.bind (rotT N _ 12 (by decide) (by decide)) λ_ _=>T.letO λ_ _=>T.bind (rotT N _ 8 (by decide) (by decide)) λ_ _=>T.letO λ_ _=>T.bind (rotT N _ 7 (by decide) (by decide)) λ_ _=>T.ret trivial
def aHV : List (Vector Int 4):=(#v[#v[0,4,8,12],#v[1,5,9,13],#v[2,6,10,14],#v[3,7,11,15],#v[0,5,10,15],#v[1,6,11,12],#v[2,7,8,13],#v[3,4,9,14]]:Vector (Vector Int 4) 8).toList
theorem aK0 : ∀v∈aHV,∀x∈v.toList,0<=x/\x < 16:=by unfold aHV;decide
theorem T.place{v:Vector Int 4}(hv:v∈aHV){i:Nat}(h:i < 4):T (v.toList[i]?) (λx=>0<=x/\x < 16):=
 ⟨_,Go.UK.tR v i h,aK0 v hv _ (aMs v h)⟩
theorem aN4(N:Nat)(hN:20 < N)(s:Vector Int 16):T (aR N N s 0) (λ_=>True):=by
 refine T.loop0 (n:=8) (by decide) (λ_ _=>True) (F:=aR N) (λk s i hi _ Q hk=>?_) (λk s=>by rw[aR,df (by omega),cond_false]) (by omega) trivial;rw[aR,dt (by omega),cond_true]
 refine T.bind (T.idx (by omega) (by simp;omega)) λe8 he=>?_;have hm:e8∈aHV:=List.mem_of_getElem? he
 iterate 4 refine T.bind (T.inRO (by decide) (by decide)) λ_ _=>T.bind (T.place hm (by decide)) λ_ h=>T.bind (T.inRO h.1 h.2) λ_ _=>T.bind (T.vget (by omega)) λ_ _=>?_
 refine T.bind (aLz N _) λr25 _=>?_;refine T.bind (T.inRO (by decide) (by decide)) λ_ _=>T.bind (T.place hm (by decide)) λ_ h0=>?_;refine T.bind (T.inRO (by decide) (by decide)) λ_ _=>T.bind (T.place hm (by decide)) λ_ h1=>?_;refine T.bind (T.inRO (by decide) (by decide)) λ_ _=>T.bind (T.place hm (by decide)) λ_ h2=>?_;refine T.bind (T.inRO (by decide) (by decide)) λ_ _=>T.bind (T.place hm (by decide)) λ_ h3=>?_
 iterate 4 refine T.bind (T.inRO (by decide) (by decide)) λ_ _=>T.bind (T.vget (by decide)) λ_ _=>?_
 refine T.bind (T.inRO h0.1 h0.2) λ_ _=>T.bind (T.vget (by omega)) λ_ _=>T.bind (T.inRO h1.1 h1.2) λ_ _=>T.bind (T.vget (by omega)) λ_ _=>T.bind (T.inRO h2.1 h2.2) λ_ _=>T.bind (T.vget (by omega)) λ_ _=>T.bind (T.inRO h3.1 h3.2) λ_ _=>T.bind (T.vget (by omega)) λ_ _=>?_;rw[dC (by omega)]
 exact hk _ trivial
theorem aIr(N:Nat)(hN:20 < N)(key:Vector Int 32)(c:Int)(n:Vector Int 12):T (jO N key c n) (λ_=>True):=by
 unfold jO;refine T.bind (aQY N hN key c n) λr1 _=>?_;refine T.bind (T.loop0 (n:=10) (by decide) (λ_ _=>True) (F:=fY N) (λk s i hi _ Q hk=>?_) (λk s=>by rw[fY,df (by omega),cond_false]) (by omega) trivial) λp2 _=>?_
 ·rw[fY,dt (by omega),cond_true,dC (by omega)]
  exact T.bind (aN4 N hN s) λ_ _=>hk _ trivial
 refine T.bind (T.loop0 (n:=16) (by decide) (λ_ _=>True) (F:=eR N p2 r1) (λk s i hi _ Q hk=>?_) (λk s=>by rw[eR,df (by omega),cond_false]) (by omega) trivial) λp3 _=>T.ret trivial;rw[eR,dt (by omega),cond_true,show(4:Int)=((4:Nat):Int) from rfl,i4 (by omega)]
 have f1:I64 (((4*i:Nat):Int)+1)=((4*i+1:Nat):Int):=by rw[aW (by omega) (by omega)];omega
 have f2:I64 (((4*i:Nat):Int)+2)=((4*i+2:Nat):Int):=by rw[aW (by omega) (by omega)];omega
 have f3:I64 (((4*i:Nat):Int)+3)=((4*i+3:Nat):Int):=by rw[aW (by omega) (by omega)];omega
 refine T.bind (T.idx (by omega) (by simp;omega)) λ_ _=>T.bind (T.inRO (by omega) (by omega)) λ_ _=>T.bind (T.vget (by omega)) λ_ _=>?_;simp only[aC,f1,f2,f3]
 iterate 4 refine T.bind (T.inRO (by omega) (by omega)) λ_ _=>T.bind (T.vget (by omega)) λ_ _=>?_
 rw[dC (by omega)]
 exact hk _ trivial
set_option maxHeartbeats 4000000
theorem aCa : isU 5:=⟨by decide,by decide⟩
theorem aDn{a b c:Int}(ha:isU a)(hb:isU b)(hc:isU c):sD (#v[a,b,c]:Vector Int 3):=by
 intro x hx;simp at hx;rcases hx with rfl | rfl | rfl <;> assumption
theorem aDk(N:Nat)(hN:20 < N)(b:List Int)(h:8<=b.length):T (cP N b) isU:=by
 unfold cP;refine T.bind (T.loop0 (n:=8) (by decide) (λ_ x=>isU x) (F:=iM N b) (λk s i hi _ Q hk=>?_) (λk s=>by rw[iM,df (by omega),cond_false]) (by omega) vY) λv h=>T.ret h;rw[iM,dt (by omega),cond_true,show(8:Int)=((8:Nat):Int) from rfl,i4 (by omega)]
 refine T.bind (T.idx (by omega) (by omega)) λe _=>?_;rw[vX .u64 (by omega),aa,dC (by omega)]
 exact hk _ (pX _ _)
attribute [local irreducible] aQ idx eT cU bS cP aO
theorem aLa(N:Nat)(a0 a1:Int)(a2:aN)(h1:isU a0)(h2:isU a1)(h3:sD a2.gA0.gh):T (eV N a0 a1 a2) sD:=by
 unfold eV
 repeat' first
  | refine T.bind (T.inRO (by decide) (by decide)) λ_ _=>?_
  | refine T.bind (T.vgetU (by repeat first | assumption | refine sD.set ?_ ?_ | exact qL _ | refine aDn ?_ ?_ ?_ | exact qR _ _) (by decide)) λ_ _=>?_
  | refine T.bind (T.add64 (by first | assumption | exact qL _ | exact vY | exact aCa | exact pX _ _ | exact qR _ _ | exact sQ _ _ | (refine zP ?_ _;first | assumption | exact pX _ _)) (by first | assumption | exact qL _ | exact vY | exact aCa | exact pX _ _ | exact qR _ _ | exact sQ _ _ | (refine zP ?_ _;first | assumption | exact pX _ _)) (by first | assumption | exact⟨by decide,by decide⟩)) λ_ ⟨_,_⟩=>?_
  | refine T.bind (aKX N _ _) λ_ ⟨_,_⟩=>?_
  | refine T.bind (T.slc (by decide) (by decide) (by simp)) λ_ hs=>T.bind (aDk N hN _ (by have:=hs.2;omega)) λ_ _=>?_
  | refine T.bind (T.idx (by decide) (by simp)) λ_ _=>?_
  | refine T.letO λ_ hx=>?_
  | refine T.bind (T.ret trivial) λ_ _=>?_
 exact T.ret (sD.set (sD.set (sD.set (by assumption) (by assumption)) (by assumption)) (qL _))
theorem aHy(N:Nat)(a0 a1:Int)(a2:aI)(h1:isU a0)(h2:isU a1)(h3:sD a2.gh):T (bR N a0 a1 a2) sD:=by
 unfold bR
 repeat' first
  | refine T.bind (T.inRO (by decide) (by decide)) λ_ _=>?_
  | refine T.bind (T.vgetU (by repeat first | assumption | refine sD.set ?_ ?_ | exact qL _ | refine aDn ?_ ?_ ?_ | exact qR _ _) (by decide)) λ_ _=>?_
  | refine T.bind (T.add64 (by first | assumption | exact qL _ | exact vY | exact aCa | exact pX _ _ | exact qR _ _ | exact sQ _ _ | (refine zP ?_ _;first | assumption | exact pX _ _)) (by first | assumption | exact qL _ | exact vY | exact aCa | exact pX _ _ | exact qR _ _ | exact sQ _ _ | (refine zP ?_ _;first | assumption | exact pX _ _)) (by first | assumption | exact⟨by decide,by decide⟩)) λ_ ⟨_,_⟩=>?_
  | refine T.bind (aKX N _ _) λ_ ⟨_,_⟩=>?_
  | refine T.bind (T.slc (by decide) (by decide) (by simp)) λ_ hs=>T.bind (aDk N hN _ (by have:=hs.2;omega)) λ_ _=>?_
  | refine T.bind (T.idx (by decide) (by simp)) λ_ _=>?_
  | refine T.letO λ_ hx=>?_
  | refine T.bind (T.ret trivial) λ_ _=>?_
 exact T.ret (sD.set (sD.set (sD.set (by assumption) (by assumption)) (by assumption)) (qL _))
attribute [local irreducible] eV bR
theorem aIg(N:Nat)(hN:20 < N)(b:Vector Int 17)(r0 r1:Int)(m:aN)(hm:sD m.gA0.gh):T (fG N b r0 r1 m) (λr=>sD r.1/\r.2=(m.gA,m.gr0,m.gr1,m.gs0,m.gs1,m.gL,m.gO)):=by
 unfold fG
 repeat' first
  | refine T.bind (T.inRO (by decide) (by decide)) λ_ _=>?_
  | refine T.bind (T.vgetU (by repeat first | assumption | refine sD.set ?_ ?_ | exact qL _ | refine aDn ?_ ?_ ?_ | exact qR _ _) (by decide)) λ_ _=>?_
  | refine T.bind (T.add64 (by first | assumption | exact qL _ | exact vY | exact aCa | exact pX _ _ | exact qR _ _ | exact sQ _ _ | (refine zP ?_ _;first | assumption | exact pX _ _)) (by first | assumption | exact qL _ | exact vY | exact aCa | exact pX _ _ | exact qR _ _ | exact sQ _ _ | (refine zP ?_ _;first | assumption | exact pX _ _)) (by first | assumption | exact⟨by decide,by decide⟩)) λ_ ⟨_,_⟩=>?_
  | refine T.bind (aKX N _ _) λ_ ⟨_,_⟩=>?_
  | refine T.bind (T.slc (by decide) (by decide) (by simp)) λ_ hs=>T.bind (aDk N hN _ (by have:=hs.2;omega)) λ_ _=>?_
  | refine T.bind (T.idx (by decide) (by simp)) λ_ _=>?_
  | refine T.bind (aLa N _ _ _ (by first | assumption | exact qL _ | exact vY | exact aCa | exact pX _ _ | (subst_vars;exact pX _ _) | exact qR _ _ | exact sQ _ _ | (refine zP ?_ _;first | assumption | exact pX _ _)) (by first | assumption | exact qL _ | exact vY | exact aCa | exact pX _ _ | exact qR _ _ | exact sQ _ _ | (refine zP ?_ _;first | assumption | exact pX _ _)) (by repeat first | assumption | refine sD.set ?_ ?_ | exact qL _ | refine aDn ?_ ?_ ?_ | exact qR _ _)) λ_ _=>?_
  | refine T.letO λ_ hx=>?_
  | refine T.bind (T.ret trivial) λ_ _=>?_
 exact T.ret ⟨by assumption,rfl⟩
theorem aFy(N:Nat)(hN:20 < N)(b:Vector Int 17)(r0 r1:Int)(m:aI)(hm:sD m.gh):T (cF N b r0 r1 m) sD:=by
 unfold cF
 repeat' first
  | refine T.bind (T.inRO (by decide) (by decide)) λ_ _=>?_
  | refine T.bind (T.vgetU (by repeat first | assumption | refine sD.set ?_ ?_ | exact qL _ | refine aDn ?_ ?_ ?_ | exact qR _ _) (by decide)) λ_ _=>?_
  | refine T.bind (T.add64 (by first | assumption | exact qL _ | exact vY | exact aCa | exact pX _ _ | exact qR _ _ | exact sQ _ _ | (refine zP ?_ _;first | assumption | exact pX _ _)) (by first | assumption | exact qL _ | exact vY | exact aCa | exact pX _ _ | exact qR _ _ | exact sQ _ _ | (refine zP ?_ _;first | assumption | exact pX _ _)) (by first | assumption | exact⟨by decide,by decide⟩)) λ_ ⟨_,_⟩=>?_
  | refine T.bind (aKX N _ _) λ_ ⟨_,_⟩=>?_
  | refine T.bind (T.slc (by decide) (by decide) (by simp)) λ_ hs=>T.bind (aDk N hN _ (by have:=hs.2;omega)) λ_ _=>?_
  | refine T.bind (T.idx (by decide) (by simp)) λ_ _=>?_
  | refine T.bind (aHy N _ _ _ (by first | assumption | exact qL _ | exact vY | exact aCa | exact pX _ _ | (subst_vars;exact pX _ _) | exact qR _ _ | exact sQ _ _ | (refine zP ?_ _;first | assumption | exact pX _ _)) (by first | assumption | exact qL _ | exact vY | exact aCa | exact pX _ _ | exact qR _ _ | exact sQ _ _ | (refine zP ?_ _;first | assumption | exact pX _ _)) (by repeat first | assumption | refine sD.set ?_ ?_ | exact qL _ | refine aDn ?_ ?_ ?_ | exact qR _ _)) λ_ _=>?_
  | refine T.letO λ_ hx=>?_
  | refine T.bind (T.ret trivial) λ_ _=>?_
 exact T.ret (by assumption)
set_option maxHeartbeats 1000000
theorem T.vec{α:Type}{n:Nat}{l:List α}(h:n<=l.length):T (aEG n l) (λv=>v.toList=l.take n):=by
 unfold aEG;rw[dif_pos h]
 exact⟨_,rfl,by simp⟩
theorem T.app{α:Type}{b:Nat}{l r:List α}(h:(l.length+r.length)*b<=140737488355328):T (mM b l r) (λx=>x=l++r):=⟨_,kR h,rfl⟩
theorem aCU(a b:Nat):lQ (a:Int) (b:Int)=((min a b:Nat):Int):=by unfold lQ;split <;> omega
theorem aQZ(N:Nat)(hN:20 < N)(v:Vector Int 16):T (oP N v) (λ_=>True):=by
 unfold oP;refine T.bind (T.loop0 (n:=4) (by decide) (λ_ _=>True) (F:=jQ N) (λk s i hi _ Q hk=>?_) (λk s=>by rw[jQ,df (by omega),cond_false]) (by omega) trivial) λv _=>T.ret trivial;rw[jQ,dt (by omega),cond_true,show(4:Int)=((4:Nat):Int) from rfl,i4 (by omega)]
 have f3:I64 (((4*i:Nat):Int)+3)=((4*i+3:Nat):Int):=by rw[aW (by omega) (by omega)];omega
 rw[f3]
 refine T.bind (P:=λ_=>True) ?_ λ_ _=>by rw[dC (by omega)];exact hk _ trivial
 refine T.letO λx hx=>?_;subst hx;refine T.bind (T.inRO (by omega) (by omega)) λ_ _=>T.bind (T.vget (by omega)) λ_ _=>T.bind (T.inRO (by omega) (by omega)) λ_ _=>T.bind (T.vget (by omega)) λ_ _=>?_;refine T.cond (λ_=>?_) (λ_=>T.ret trivial)
 exact T.bind (T.inRO (by omega) (by omega)) λ_ _=>T.bind (T.vget (by omega)) λ_ _=>T.bind (T.inRO (by omega) (by omega)) λ_ _=>T.bind (T.vget (by omega)) λ_ _=>T.ret trivial
theorem newT(N:Nat)(hN:20 < N)(key:Vector Int 32):T (sZ N key) (λr=>isU r.1/\isU r.2.1/\isU r.2.2.1/\isU r.2.2.2):=by
 unfold sZ;refine T.bind (T.slc (by decide) (by decide) (by simp)) λs1 h1=>T.bind (T.vec (by have:=h1.2;omega)) λv2 _=>T.bind (aQZ N hN v2) λr3 _=>?_;refine T.bind (T.slc (by decide) (by decide) (by simp)) λs4 h4=>T.bind (aDk N hN s4 (by have:=h4.2;omega)) λr5 h5=>?_;refine T.bind (T.slc (by decide) (by decide) (by simp)) λs6 h6=>T.bind (aDk N hN s6 (by have:=h6.2;omega)) λr7 h7=>?_;refine T.bind (T.slc (by decide) (by decide) (by simp)) λs8 h8=>T.bind (aDk N hN s8 (by have:=h8.2;omega)) λr9 h9=>?_;refine T.bind (T.slc (by decide) (by decide) (by simp)) λs10 h10=>T.bind (aDk N hN s10 (by have:=h10.2;omega)) λr11 h11=>?_;exact T.ret ⟨h5,h7,h9,h11⟩
theorem cpV17(s:List Int):∃v,cpV (ah 17 (0:Int)) s 0 16=some v:=by
 unfold cpV;rw[dif_pos (by decide)]
 exact⟨_,rfl⟩
theorem aJt(N:Nat):∀(k:Nat) (s:List (Vector Int 17)) (m:List Int),m.length < k->m.length<=65536->s.length<=1000000 - m.length->T (kC N k s m) (λr=>r.length=s.length+(m.length+15) / 16)
 | 0,_,_,h,_,_=>by omega
 | k+1,s,m,h,hm,hs=>by
  rw[kC]
  refine T.letO λx hx=>?_;subst hx;refine T.cond (λhc=>?_) (λhc=>?_)
  ·have hc:0 < m.length:=by simpa using hc
   refine T.bind (o:=aF8 17 0 16) ⟨(),rfl,trivial⟩ λ_ (_:True)=>?_;obtain⟨v,hv⟩:=cpV17 m;rw[hv,aa]
   refine T.letO λx hx=>?_;subst hx;refine T.bind (T.inRO (by omega) (by omega)) λ_ _=>T.bind (T.vget (by omega)) λ_ _=>T.bind (T.app (by simp;omega)) λz hz=>?_;subst hz;refine T.bind (T.slc (by omega) (by omega) (by omega)) λs14 h14=>?_;have h15:=h14.2;refine T.mono (aJt N k _ s14 (by omega) (by omega) (by simp;omega)) λr hr=>?_;simp at hr;omega
  ·have hc:m.length=0:=by have:=of_decide_eq_false hc;omega
   exact T.ret (by omega)
theorem aKB(N:Nat)(m:List Int)(h:m.length < N)(hm:m.length<=65536):T (jP N m) (λr=>r.length=(m.length+15) / 16):=by
 unfold jP;refine T.letO λx hx=>?_;have hx:x=(m.length:Int):=by rw[hx];unfold lQ;split <;> omega
 subst hx;refine T.bind (T.slc (by omega) (by omega) (by omega)) λs3 h3=>?_;have:=h3.2;refine T.bind (aJt N N [] s3 (by omega) (by omega) (by rw[ku];omega)) λr hr=>T.ret ?_;rw[ku] at hr;omega
theorem aO5(N:Nat)(ms:List (List Int))(hms:ms.length < 1000):∀(k i:Nat) (s:List Int) (n:Nat),i<=ms.length->ms.length - i < k->n<=65536->s.length<=n->T (eW N ms k s (n:Int) (i:Int)) (λr=>r.1.length<=65536)
 | 0,_,_,_,_,h,_,_=>by omega
 | k+1,i,s,n,hi,hk,hn,hs=>by
  rw[eW,aC]
  by_cases h:i < ms.length
  ·rw[dt (by omega),cond_true]
   refine T.bind (T.idx (by omega) (by omega)) λe6 h6=>?_;have f:I64 (65536 - (n:Int))=((65536 - n:Nat):Int):=by rw[aW (by omega) (by omega)];omega
   rw[f,aC,aCU]
   refine T.bind (T.slc (by omega) (by omega) (by omega)) λs9 h9=>?_;have h10:=h9.2;rw[aC]
   refine T.bind (T.app (by omega)) λz hz=>?_;subst hz;have f2:I64 ((n:Int)+(s9.length:Int))=((n+s9.length:Nat):Int):=by rw[aW (by omega) (by omega)];omega
   rw[f2,dC (by omega)]
   exact aO5 N ms hms k (i+1) _ _ (by omega) (by omega) (by omega) (by rw[aj];omega)
  ·rw[df (by omega),cond_false]
   exact T.ret (by dsimp only;omega)
theorem aOw(N:Nat)(hN:20 < N):∀(k:Nat) (h:Vector Int 3) (made:Bool) (r0 r1 s0 s1:Int) (rest:List Int) (all:Int),sD h->rest.length < k->rest.length<=65536 ->
  T (eX N k h made r0 r1 s0 s1 rest all) (λr=>sD r.1/\r.2.1=made/\r.2.2.1=r0/\r.2.2.2.1=r1/\r.2.2.2.2.1=s0/\r.2.2.2.2.2.1=s1/\r.2.2.2.2.2.2.1.length < 16)
 | 0,_,_,_,_,_,_,_,_,_,h,_=>by omega
 | k+1,h,made,r0,r1,s0,s1,rest,all,hh,hk,hl=>by
  rw[eX]
  refine T.letO λx hx=>?_;subst hx;refine T.cond (λhc=>?_) (λhc=>?_)
  ·have hc:16<=rest.length:=by have:=of_decide_eq_true hc;omega
   refine T.bind (T.slc (by omega) (by omega) (by omega)) λs22 h22=>?_;have h23:=h22.2;refine T.bind (aKB N s22 (by omega) (by omega)) λr23 hr=>T.bind (T.idx (by omega) (by omega)) λe24 _=>?_;refine T.bind (aIg N hN e24 r0 r1 _ hh) λr25 hr25=>?_;obtain⟨g1,g2⟩:=hr25;obtain⟨h',q⟩:=r25;dsimp only at g1 g2;subst g2;dsimp only;refine T.bind (T.slc (by omega) (by omega) (by omega)) λs26 h26=>?_;have:=h26.2;exact aOw N hN k h' made r0 r1 s0 s1 s26 all g1 (by omega) (by omega)
  ·have hc:rest.length < 16:=by have:=of_decide_eq_false hc;omega
   exact T.ret ⟨hh,rfl,rfl,rfl,rfl,rfl,hc⟩
theorem z16 : jN (ah 16 (0:Int)):=by unfold jN aX isB;decide
theorem endT(N:Nat)(hN:20 < N)(h:Vector Int 3)(hh:sD h)(s0 s1:Int)(h0:isU s0)(h1:isU s1):T (oE N (aI.mk h) s0 s1) jN:=by
 unfold oE;refine T.bind (T.loop0 (n:=2) (by decide) (λ_ (v:Vector Int 3)=>sD v) (F:=dP N) (λk s i hi hs Q hk=>?_) (λk s=>by rw[dP,df (by omega),cond_false]) (by omega) hh) λp1 hp=>?_
 ·rw[dP,dt (by omega),cond_true,dC (by omega)]
  refine T.bind (P:=sD) ?_ λv hv=>hk v hv;refine T.bind (T.inRO (by decide) (by decide)) λ_ _=>T.bind (T.vgetU hs (by decide)) λe6 h6=>T.bind (T.add64 h6 aCa ⟨by decide,by decide⟩) λr7 h7=>?_;refine T.bind (T.inRO (by decide) (by decide)) λ_ _=>T.bind (T.vgetU hs (by decide)) λe9 h9=>T.bind (T.add64 h9 vY h7.2) λr10 h10=>?_;refine T.bind (T.inRO (by decide) (by decide)) λ_ _=>T.bind (T.vgetU hs (by decide)) λe12 h12=>?_;refine T.letO λ_ _=>T.cond (λ_=>T.letO λ_ _=>T.ret (aDn h7.1 h10.1 (qL _))) (λ_=>T.ret hs)
 refine T.bind (T.inRO (by decide) (by decide)) λ_ _=>T.bind (T.vgetU hp (by decide)) λe17 h17=>T.bind (T.add64 h17 h0 ⟨by decide,by decide⟩) λr18 h18=>?_;refine T.bind (T.inRO (by decide) (by decide)) λ_ _=>T.bind (T.vgetU hp (by decide)) λe20 h20=>T.bind (T.add64 h20 h1 h18.2) λr21 h21=>?_;refine T.bind (T.loop0 (n:=8) (by decide) (λ_ (v:Vector Int 16)=>jN v) (F:=eQ N r18 r21) (λk s i hi hs Q hk=>?_) (λk s=>by rw[eQ,df (by omega),cond_false]) (by omega) z16) λp22 h22=>T.ret h22;have vset:∀(v:Vector Int 16) (i:Nat) (x:Int),jN v->jN (v.setIfInBounds i (U8 x)):=by
  intro v i x hv y hy;have e:(v.setIfInBounds i (U8 x)).toList=v.toList.set i (U8 x):=by simp
  rw[e] at hy;rcases iu hy with h' | h'
  ·exact hv y h'
  ·rw[h'];exact aNP _
 rw[eQ,dt (by omega),cond_true,show(8:Int)=((8:Nat):Int) from rfl,i4 (by omega),ia (by omega),dC (by omega)]
 rw[mA .u64 (by omega),aa,mA .u64 (by omega),aa]
 refine T.bind (T.inRO (by omega) (by omega)) λ_ _=>T.bind (T.vget (by omega)) λ_ _=>T.bind (T.inRO (by omega) (by omega)) λ_ _=>T.bind (T.vget (by omega)) λ_ _=>?_;exact hk _ (vset _ _ _ (vset _ _ _ hs))
theorem sumT(N:Nat)(hN:2000 < N)(m:aN)(hh:sD m.gA0.gh)(h0:isU m.gs0)(h1:isU m.gs1)(hr:m.gL.length<=100)(hm:m.gA=true):T (nO N m) jN:=by
 unfold nO;rw[hm,fg,cond_false]
 refine T.bind (aKB N m.gL (by omega) (by omega)) λr1 hr1=>?_;refine T.bind (T.loop0 (n:=r1.length) (by omega) (λ_ (v:Vector Int 3)=>sD v) (F:=iU N r1 m) (λk s i hi hs Q hk=>?_) (λk s=>by rw[iU,aC,df (by omega),cond_false]) (by omega) hh) λp2 hp2=>?_
 ·rw[iU,aC,dt (by omega),cond_true,dC (by omega)]
  exact T.bind (T.idx (by omega) (by omega)) λe6 _=>T.bind (aFy N (by omega) e6 _ _ (aI.mk s) hs) λr7 h7=>hk r7 h7
 exact T.bind (endT N (by omega) p2 hp2 _ _ h0 h1) λr8 h8=>T.ret h8
theorem tagT(N:Nat)(hN:2000 < N)(key:Vector Int 32)(ms:List (List Int))(hms:ms.length < 1000)(hl:65536 < N):T (rI N key ms) jN:=by
 unfold rI;refine T.bind (newT N (by omega) key) λr1 h1=>?_;obtain⟨u1,u2,u3,u4⟩:=h1;refine T.bind (P:=λr=>sD r.2.1/\r.2.2.1=true/\r.2.2.2.2.2.1=r1.2.2.1/\r.2.2.2.2.2.2.1=r1.2.2.2/\r.2.2.2.2.2.2.2.1.length < 16) ?_ λr2 h2=>?_
 ·unfold oS;rw[fg,cond_false]
  refine T.bind (aO5 N ms hms N 0 [] 0 (by omega) (by omega) (by omega) (by simp)) λp1 hp1=>?_;refine T.bind (aOw N (by omega) N _ true _ _ _ _ p1.1 p1.2 (aDn vY vY vY) (by omega) hp1) λp12 hp=>T.ret ?_;obtain⟨g1,g2,g3,g4,g5,g6,g7⟩:=hp;exact⟨g1,g2,g5,g6,g7⟩
 ·obtain⟨g1,g2,g5,g6,g7⟩:=h2;exact T.bind (sumT N hN _ g1 (by dsimp only;rw[g5];exact u3) (by dsimp only;rw[g6];exact u4) (by dsimp only;omega) g2) λr3 h3=>T.ret h3
theorem keyT(N:Nat)(hN:20 < N)(key:Vector Int 32)(n:Vector Int 12):T (tA N key n) (λ_=>True):=by
 unfold tA;exact T.bind (aIr N hN key 0 n) λr1 _=>T.bind (T.slc (by decide) (by decide) (by simp)) λs3 h3=>T.bind (T.vec (by have:=h3.2;omega)) λ_ _=>T.ret trivial
theorem aPR(N:Nat)(l:List Int)(hl:l.length<=1000000):T (oT N l) (λr=>r.length<=16):=by
 unfold oT;refine T.letO λx hx=>T.letO λy hy=>?_;have hx1:x=((l.length % 16:Nat):Int):=by rw[hx];rfl
 have hy1:y=(((16 - l.length % 16) % 16:Nat):Int):=by
  have e:I64 (16 - x)=((16 - l.length % 16:Nat):Int):=by rw[hx1,aW (by omega) (by omega)];omega
  rw[hy,e];rfl
 subst hy1;rw[cn]
 refine T.bind (o:=mkO 1 _) (P:=λ_=>True) ⟨(),?_,trivial⟩ λ_ _=>T.bind (o:=aIF _ _) (P:=λ_=>True) ⟨(),?_,trivial⟩ λ_ _=>T.ret ?_
 ·unfold mkO;rw[dt (by omega),dt (by omega),dt (by omega)]
  rfl
 ·unfold aIF;rw[show((List.replicate ((16 - l.length % 16) % 16) (0:Int)).length.beq ((16 - l.length % 16) % 16))=true by simp]
  rfl
 ·simp;omega
theorem macT(N:Nat)(hN:70000<=N)(key:Vector Int 32)(n:Vector Int 12)(a c:List Int)(ha:a.length<=1000000)(hc:c.length<=1000000):T (pE N key n a c) jN:=by
 unfold pE;refine T.bind (T.loop0 (n:=8) (by decide) (λ_ _=>True) (F:=kH N a c) (λk s i hi _ Q hk=>?_) (λk s=>by rw[kH,df (by omega),cond_false]) (by omega) trivial) λp1 _=>?_
 ·rw[kH,dt (by omega),cond_true,show(8:Int)=((8:Nat):Int) from rfl,i4 (by omega),ia (by omega),dC (by omega),mA .i64 (by omega),aa,mA .i64 (by omega),aa]
  exact T.bind (T.inRO (by omega) (by omega)) λ_ _=>T.bind (T.vget (by omega)) λ_ _=>T.bind (T.inRO (by omega) (by omega)) λ_ _=>T.bind (T.vget (by omega)) λ_ _=>hk _ trivial
 refine T.bind (keyT N (by omega) key n) λr10 _=>T.bind (aPR N a ha) λr11 _=>T.bind (aPR N c hc) λr12 _=>T.bind (T.slc (by decide) (by decide) (by simp)) λs13 _=>?_;exact T.bind (tagT N (by omega) r10 _ (by simp) (by omega)) λr14 h14=>T.ret h14
theorem aKd(N:Nat)(hN:20 < N)(key:Vector Int 32)(n:Vector Int 12)(len:Nat)(hl:len<=65536):∀(k:Nat) (s:List Int) (c:Int),s.length<=len->len - s.length < k->T (jW N (len:Int) key n k s c) (λr=>r.length=len)
 | 0,_,_,_,h=>by omega
 | k+1,s,c,hs,hk=>by
  rw[jW,show lQ (len:Int) 65536=(len:Int) by unfold lQ;split <;> omega]
  refine T.letO λx hx=>?_;subst hx;refine T.cond (λhc=>?_) (λhc=>?_)
  ·have hc:s.length < len:=by have:=of_decide_eq_true hc;omega
   refine T.bind (aIr N hN key c n) λr5 _=>?_;have f:I64 ((len:Int) - (s.length:Int))=((len - s.length:Nat):Int):=by rw[aW (by omega) (by omega)];omega
   rw[f,aC,show(64:Int)=((64:Nat):Int) from rfl,aCU]
   refine T.bind (T.slc (by omega) (by omega) (by simp;omega)) λs9 h9=>?_;have h10:=h9.2;refine T.bind (T.app (by omega)) λz hz=>?_;subst hz;exact aKd N hN key n len hl k _ _ (by rw[aj];omega) (by rw[aj];omega)
  ·have hc:s.length=len:=by have:=of_decide_eq_false hc;omega
   exact T.ret hc
theorem aNd(N:Nat)(hN:70000<=N)(key:Vector Int 32)(c:Int)(n:Vector Int 12)(len:Nat)(hl:len<=65536):T (jS N key c n (len:Int)) (λr=>r.length=len):=by
 unfold jS;exact T.bind (aKd N (by omega) key n len hl N [] c (by simp) (by simp;omega)) λp1 h=>T.ret h
def vT(d s:List Int):List Int:=li (wV .u8) d s
theorem aFX{d s:List Int}(h:s.length=d.length):(vT d s).length=d.length:=by unfold vT;simp;omega
theorem aFJ(d s:List Int):aX (vT d s):=by
 intro x hx;unfold vT at hx;rw[List.mem_iff_getElem?] at hx;obtain⟨i,hi⟩:=hx;rw[List.getElem?_zipWith] at hi;revert hi;cases d[i]? <;> cases s[i]? <;> intro hi <;> simp at hi;rw[<- hi];exact aPf
theorem aOz(N:Nat)(d st:List Int)(hs:st.length=d.length)(hl:d.length<=65536):∀(k i:Nat),i<=d.length->d.length - i < k->oM N st k (vT (d.take i) (st.take i)++d.drop i) (i:Int)=some (vT d st)
 | 0,_,_,h=>by omega
 | k+1,i,hi,hk=>by
  rw[oM,aC]
  have hz:(vT (d.take i) (st.take i)).length=i:=by rw[aFX (by simp;omega)];simp;omega
  by_cases h:i < d.length
  ·have hcat:(vT (d.take i) (st.take i)++d.drop i).length=d.length:=by rw[aj,hz,bw];omega
   have hget:(vT (d.take i) (st.take i)++d.drop i)[i]? = some d[i]:=by
    rw[List.getElem?_append_right (by omega),hz,Nat.sub_self,List.getElem?_drop,Nat.add_zero,ag h]
   rw[dt (by omega),cond_true,dJ (by omega),aa,dS (by omega) (by omega),aa,cn,hget,aa,aa]
   have hset:aK8 (vT (d.take i) (st.take i)++d.drop i) i (wV .u8 d[i] st[i])=some (vT (d.take (i+1)) (st.take (i+1))++d.drop (i+1)):=by
    unfold aK8;rw[show Nat.blt i (vT (d.take i) (st.take i)++d.drop i).length=true by rw[hcat];exact Nat.ble_eq_true_of_le h,cond_true]
    congr 1;rw[List.set_append_right _ _ (by omega),hz,Nat.sub_self,ct h,List.set_cons_zero]
    have e1:vT (d.take (i+1)) (st.take (i+1))=vT (d.take i) (st.take i)++[wV .u8 d[i] st[i]]:=by
     unfold vT;rw[ir,ir,ag h,ag (show i < st.length by omega)]
     show li _ (kc i d++[d[i]]) (kc i st++[st[i]])=_;rw[List.zipWith_append (by simp;omega)]
     rfl
    rw[e1]
    simp
   rw[hset,aa,dC (by omega)]
   exact aOz N d st hs hl k (i+1) (by omega) (by omega)
  ·obtain rfl:i=d.length:=by omega
   rw[df (by omega),cond_false,ib,au (by omega),dq,fc]
def stV(N:Nat)(key:Vector Int 32)(n:Vector Int 12)(len:Nat):List Int:=(jS N key 1 n (len:Int)).getD []
theorem aI4(N:Nat)(hN:70000<=N)(key:Vector Int 32)(n:Vector Int 12)(len:Nat)(hl:len<=65536):jS N key 1 n (len:Int)=some (stV N key n len)/\(stV N key n len).length=len:=by
 obtain⟨r,h1,h2⟩:=aNd N hN key 1 n len hl;unfold stV;rw[h1]
 exact⟨rfl,h2⟩
def zY(N:Nat)(key:Vector Int 32)(n:Vector Int 12)(d:List Int):List Int:=vT d (stV N key n d.length)
theorem aCF(N:Nat)(hN:70000<=N)(key:Vector Int 32)(n:Vector Int 12){d:List Int}(hl:d.length<=65536):(zY N key n d).length=d.length:=aFX (aI4 N hN key n _ hl).2
theorem xorP(N:Nat)(hN:70000<=N)(key:Vector Int 32)(n:Vector Int 12)(d:List Int)(hl:d.length<=65536):rU N key 1 n [d]=some (zY N key n d):=by
 obtain⟨h1,h2⟩:=aI4 N hN key n _ hl;unfold rU;have hL1:lH N [d] N [] 0=some d:=by
  obtain⟨m,rfl⟩:∃m,N=m+2:=⟨N - 2,by omega⟩
  rw[show lH (m+2) [d] (m+2) [] 0=lH (m+2) [d] (m+1+1) [] 0 from rfl,lH,aC,dt (by simp),cond_true,show idx [d] 0=some d from rfl,aa]
  have f:I64 (65536 - (([]:List Int).length:Int))=65536:=by decide
  rw[f,aC,aC,show lQ (d.length:Int) 65536=(d.length:Int) by unfold lQ;split <;> omega,pL (by omega) (by omega) (by omega),aa,cn,ib]
  have e:(List.drop (0:Int).toNat d)=d:=rfl;rw[e,kR (by simp;omega),aa,eg,lH,aC]
  rfl
 rw[hL1,aa,h1,aa]
 have:=aOz N d _ h2 hl N 0 (by omega) (by omega)
 rw[jf,jf,dr] at this;rw[show oM N (stV N key n d.length) N d 0=some (vT d (stV N key n d.length)) from this]
 rfl
def aEH(N:Nat)(key:Vector Int 32)(n:Vector Int 12)(a c:List Int):Vector Int 16:=(pE N key n a c).getD (ah 16 0)
theorem macP(N:Nat)(hN:70000<=N)(key:Vector Int 32)(n:Vector Int 12)(a c:List Int)(ha:a.length<=1000000)(hc:c.length<=1000000):pE N key n a c=some (aEH N key n a c)/\jN (aEH N key n a c):=by
 obtain⟨r,h1,h2⟩:=macT N hN key n a c ha hc;unfold aEH;rw[h1]
 exact⟨rfl,h2⟩
def zQ(N:Nat)(key:Vector Int 32)(n:Vector Int 12)(a p:List Int):List Int:=zY N key n p++(aEH N key n a (zY N key n p)).toList
theorem aAp(N:Nat)(hN:70000<=N)(key:Vector Int 32)(n:Vector Int 12)(a:List Int){p:List Int}(hl:p.length<=65536):(zQ N key n a p).length=p.length+16:=by
 unfold zQ;rw[aj,aCF N hN key n hl]
 simp
theorem aDu(N:Nat)(hN:70000<=N)(key:Vector Int 32)(n:Vector Int 12)(a:List Int){p:List Int}(ha:a.length<=1000000)(hl:p.length<=65536):aX (zQ N key n a p):=
 (aFJ _ _).app (macP N hN key n a _ ha (by rw[aCF N hN key n hl];omega)).2
theorem aOy(N:Nat)(hN:70000<=N)(key:Vector Int 32)(n:Vector Int 12)(a p:List Int)(ha:a.length<=16384)(hp:p.length<=16384):tC N key n a p=some (zQ N key n a p,0):=by
 unfold tC;have hx:=aCF N hN key n (d:=p) (by omega)
 rw[aC,aC,df (by omega),df (by omega),cond_false,cond_false,xorP N hN key n p (by omega),aa,(macP N hN key n a _ (by omega) (by omega)).1,aa]
 have hs:eT (aEH N key n a (zY N key n p)).toList 0 16=some (aEH N key n a (zY N key n p)).toList:=aJG (m:=16) _;rw[hs,aa,aM0 N [zY N key n p,(aEH N key n a (zY N key n p)).toList] (by simp) (by show 2 < N;omega) (by intro l hl;simp only[ed,fe,or_false] at hl;rcases hl with rfl | rfl;omega;simp),aa]
 congr 2;simp[zQ]
theorem aQv(N:Nat)(hN:20 < N)(base:Vector Int 8)(i:Int):T (eF N base i) (λ_=>True):=by
 unfold eF;refine T.bind (o:=aF8 12 0 12) (P:=λ_=>True) ⟨(),rfl,trivial⟩ λ_ _=>T.bind (T.slc (by decide) (by decide) (by simp)) λs2 _=>?_;refine T.bind (P:=λ_=>True) ?_ λv3 _=>?_
 ·unfold cpV;rw[dif_pos (by decide)]
  exact⟨_,rfl,trivial⟩
 refine T.bind (T.loop0 (n:=4) (by decide) (λ_ _=>True) (F:=fX N i) (λk s j hj _ Q hk=>?_) (λk s=>by rw[fX,df (by omega),cond_false]) (by omega) trivial) λp1 _=>T.ret trivial;rw[fX,dt (by omega),cond_true,show(8:Int)=((8:Nat):Int) from rfl,i4 (by omega),ia (by omega),dC (by omega),mA .i64 (by omega),aa]
 exact T.bind (T.inRO (by omega) (by omega)) λ_ _=>T.bind (T.vget (by omega)) λ_ _=>hk _ trivial
def aGo(N:Nat)(base:Vector Int 8)(i:Int):Vector Int 12:=(eF N base i).getD (ah 12 0)
theorem aMy(N:Nat)(hN:20 < N)(base:Vector Int 8)(i:Int):eF N base i=some (aGo N base i):=by
 obtain⟨r,h,_⟩:=aQv N hN base i;unfold aGo;rw[h]
 rfl
theorem aGP : aX []:=by intro x hx;cases hx
def vU(k:Int):Int:=if k=1 then 2048 else if k=2 then 1024 else if k=3 then 64 else if k=4 then 64 else 0
theorem capP(N:Nat)(k:Int):pZ N k=some (vU k):=by
 unfold pZ vU;rw[aC]
 by_cases h:k < 0\/5<=k
 ·rw[show cond (decide (k < 0)) true (decide (k>=5))=true by rcases h with h | h;rw[dt h];rfl;rw[df (show ¬k < 0 by omega),dt (show k>=5 by omega)];rfl,cond_true]
  rw[if_neg (by omega),if_neg (by omega),if_neg (by omega),if_neg (by omega)]
 ·rw[df (show ¬k < 0 by omega),df (show ¬k>=5 by omega),cond_false,cond_false,dS (by omega) (by omega),aa]
  have:k=0\/k=1\/k=2\/k=3\/k=4:=by omega
  rcases this with rfl | rfl | rfl | rfl | rfl <;> rfl
def qH(s:Int):Int:=if s < 1 then 0 else(s - 1) / 256+1
theorem aHa(N:Nat){s:Int}(h:aAz s):mR N s=some (qH s):=by
 unfold mR qH;obtain⟨h0,h1⟩:=h;by_cases hs:s < 1
 ·rw[dt hs,cond_true,if_pos hs]
 ·have e:Int.tdiv (s - 1) 256=(s - 1) / 256:=Int.tdiv_eq_ediv_of_nonneg (by omega)
  rw[df hs,cond_false,if_neg hs,aW (x:=s - 1) (by omega) (by omega),e,aW (x:=(s - 1) / 256) (by omega) (by omega),aC,aW (by omega) (by omega)]
def rG(m:aD):Int:=if vU m.gC=0 then 12 else if (m.gR.toList.any λe=>decide (e > 15))=true then 5 else if m.gT > m.gTo\/m.gP < 1 then 5 else if m.gP > vU m.gC then 9 else if m.gA3≠qH m.gP then 5 else 0
theorem mchkP(N:Nat)(hN:20 < N)(m:aD)(hs:aAz m.gP):nQ N m=some (rG m):=by
 unfold nQ rG;rw[capP,aa]
 by_cases h0:vU m.gC=0
 ·rw[if_pos h0,h0];rfl
 ·rw[if_neg h0,show(vU m.gC==0)=false by simpa using h0,cond_false]
  have hl:iX N m N 0=some (cond (m.gR.toList.any λe=>decide (e > 15)) (Sum.inr 5) (Sum.inl ())):=by
   refine wI m.gR.toList (λe=>decide (e > 15)) (5:Int) (iX N m) (by simp) (λk i h=>?_) (λk=>?_) (by simp;omega)
   ·have h8:i < 8:=by simpa using h
    rw[iX,dt (by omega),cond_true,dJ h,aa]
   ·rw[iX,df (by simp),cond_false]
  rw[hl,aa]
  cases ha:(m.gR.toList.any λe=>decide (e > 15)) with
  | true=>rw[if_pos rfl,cond_true];rfl
  | false=>
   rw[if_neg (by decide),cond_false]
   show(aO (decide (m.gT > m.gTo)) λx5=>_)=_;rw[aC,aC]
   by_cases h1:m.gT > m.gTo\/m.gP < 1
   ·rw[if_pos h1]
    rw[show cond (decide (m.gT > m.gTo)) true (decide (m.gP < 1))=true by rcases h1 with h | h;rw[dt h];rfl;rw[dt h];cases decide (m.gT > m.gTo) <;> rfl,aC,cond_true]
   ·rw[if_neg h1,df (show ¬m.gT > m.gTo by omega),df (show ¬m.gP < 1 by omega),cond_false,aC,cond_false]
    by_cases h2:m.gP > vU m.gC
    ·rw[dt h2,cond_true,if_pos h2]
    ·rw[df h2,cond_false,if_neg h2,aHa N hs,aa]
     by_cases h3:m.gA3=qH m.gP
     ·rw[if_neg (by simpa using h3),show(m.gA3 != qH m.gP)=false by simpa using h3,cond_false]
     ·rw[if_pos h3,show(m.gA3 != qH m.gP)=true by simpa using h3,cond_true]
structure aLf(m:aD):Prop where
 id:isU m.gId
 kind:0<=m.gC/\m.gC < 256
 label:isW m.gA2
 masks:jN m.gR
 fr:isW m.gT
 to:isW m.gTo
 size:0<=m.gP/\m.gP < 4294967296
 chunks:0<=m.gA3/\m.gA3 < 65536
structure aGJ(m:aD):Prop where
 id:isU m.gId
 kind:aAz m.gC
 label:isW m.gA2
 masks:jN m.gR
 fr:isW m.gT
 to:isW m.gTo
 size:aAz m.gP
 chunks:aAz m.gA3
theorem aN1{k:Int}(h:vU k≠0):1<=k/\k<=4/\vU k<=2048/\64<=vU k:=by
 unfold vU at *;split at h
 ·rename_i e;subst e;exact⟨by decide,by decide,by decide,by decide⟩
 ·split at h
  ·rename_i e;subst e;exact⟨by decide,by decide,by decide,by decide⟩
  ·split at h
   ·rename_i e;subst e;exact⟨by decide,by decide,by decide,by decide⟩
   ·split at h
    ·rename_i e;subst e;exact⟨by decide,by decide,by decide,by decide⟩
    ·exact absurd rfl h
theorem mchk0{m:aD}(h:rG m=0):vU m.gC≠0/\1<=m.gP/\m.gP<=vU m.gC/\m.gA3=qH m.gP:=by
 unfold rG at h;split at h
 ·cases h
 ·rename_i h0;split at h
  ·cases h
  ·split at h
   ·cases h
   ·split at h
    ·cases h
    ·split at h
     ·cases h
     ·exact⟨h0,by omega,by omega,by omega⟩
theorem aGJ.r{m:aD}(t:aGJ m)(h:rG m=0):aLf m:=by
 obtain⟨h0,h1,h2,h3⟩:=mchk0 h;obtain⟨k1,k2,k3,_⟩:=aN1 h0;refine⟨t.id,⟨by omega,by omega⟩,t.label,t.masks,t.fr,t.to,⟨by omega,by omega⟩,?_⟩
 rw[h3]
 unfold qH;rw[if_neg (by omega)]
 omega
def aD7(m:aD):List Int:=leB 8 m.gId++(leB 1 m.gC++(leB 4 m.gA2++(m.gR.toList++(leB 4 m.gT++(leB 4 m.gTo++(leB 4 m.gP++leB 2 m.gA3))))))
theorem aEw(m:aD):(aD7 m).length=35:=by unfold aD7;simp[jB]
theorem aJl{m:aD}(h:jN m.gR):aX (aD7 m):=(rV _ _).app ((rV _ _).app ((rV _ _).app (h.app ((rV _ _).app ((rV _ _).app ((rV _ _).app (rV _ _)))))))
theorem aJe(N:Nat)(hN:20 < N)(b:List Int)(w:Nat)(hw0:1<=w)(hw:w<=8)(x:Int)(hx:0<=x)(hx2:x < cI w)(hb:b.length<=1000000):bO N b (w:Int) [x]=some (b++leB w x,0):=by
 have h8:=aHK hw;rw[aMu N b w hw0 hw [x] (by intro y hy;simp at hy;subst hy;exact⟨hx,by omega⟩) (by omega) (by simp) (by omega) (by simp;omega)]
 unfold aHA;have:([x].any (big w))=false:=by simp[big];omega
 rw[this,cond_false]
 simp
theorem put3(N:Nat)(hN:20 < N)(b:List Int)(w:Nat)(hw0:1<=w)(hw:w<=8)(x y z:Int)(hx:0<=x/\x < cI w)(hy:0<=y/\y < cI w)(hz:0<=z/\z < cI w)(hb:b.length<=1000000):bO N b (w:Int) [x,y,z]=some (b++(leB w x++(leB w y++leB w z)),0):=by
 have h8:=aHK hw;rw[aMu N b w hw0 hw [x,y,z] (by intro q hq;simp at hq;rcases hq with rfl | rfl | rfl <;> omega) (by omega) (by simp) (by omega) (by simp;omega)]
 unfold aHA;have:([x,y,z].any (big w))=false:=by simp[big];omega
 rw[this,cond_false]
 simp
theorem put2(N:Nat)(hN:20 < N)(b:List Int)(w:Nat)(hw0:1<=w)(hw:w<=8)(x y:Int)(hx:0<=x/\x < cI w)(hy:0<=y/\y < cI w)(hb:b.length<=1000000):bO N b (w:Int) [x,y]=some (b++(leB w x++leB w y),0):=by
 have h8:=aHK hw;rw[aMu N b w hw0 hw [x,y] (by intro q hq;simp at hq;rcases hq with rfl | rfl <;> omega) (by omega) (by simp) (by omega) (by simp;omega)]
 unfold aHA;have:([x,y].any (big w))=false:=by simp[big];omega
 rw[this,cond_false]
 simp
theorem aOq(N:Nat)(hN:20 < N)(m:aD)(t:aGJ m):kK N m=some (if rG m=0 then(aD7 m,0) else([],rG m)):=by
 unfold kK;rw[mchkP N hN m t.size,aa]
 by_cases h:rG m=0
 ·have r:=t.r h;rw[if_pos h,h,show((0:Int) != 0)=false from rfl,cond_false]
  have k1:=r.kind;have k2:=r.size;have k3:=r.chunks;have k4:=r.label;have k5:=r.fr;have k6:=r.to;have e1:=aJe N hN [] 8 (by decide) (by decide) m.gId r.id.1 r.id.2 (by simp)
  rw[show bO N [] 8 [m.gId]=_ from e1,aa,fA (x:=m.gC) (by omega) (by omega),fA (x:=m.gA2) k4.1 (by have:=k4.2;omega),fA (x:=m.gT) k5.1 (by have:=k5.2;omega),fA (x:=m.gTo) k6.1 (by have:=k6.2;omega),fA (x:=m.gP) (by omega) (by omega),fA (x:=m.gA3) (by omega) (by omega)]
  have e2:=aJe N hN ([]++leB 8 m.gId) 1 (by decide) (by decide) m.gC k1.1 k1.2 (by simp[jB])
  rw[show bO N ([]++leB 8 m.gId) 1 [m.gC]=_ from e2,aa]
  have e3:=aJe N hN ([]++leB 8 m.gId++leB 1 m.gC) 4 (by decide) (by decide) m.gA2 k4.1 k4.2 (by simp[jB])
  rw[show bO N ([]++leB 8 m.gId++leB 1 m.gC) 4 [m.gA2]=_ from e3,aa]
  rw[show eT m.gR.toList 0 8=some m.gR.toList from aJG (m:=8) _,aa,rO (by simp[jB]) (by simp),aa]
  have e4:=put3 N hN ([]++leB 8 m.gId++leB 1 m.gC++leB 4 m.gA2++m.gR.toList) 4 (by decide) (by decide) m.gT m.gTo m.gP ⟨k5.1,k5.2⟩ ⟨k6.1,k6.2⟩ k2 (by simp[jB])
  rw[show bO N ([]++leB 8 m.gId++leB 1 m.gC++leB 4 m.gA2++m.gR.toList) 4 [m.gT,m.gTo,m.gP]=_ from e4,aa]
  have e5:=aJe N hN ([]++leB 8 m.gId++leB 1 m.gC++leB 4 m.gA2++m.gR.toList++(leB 4 m.gT++(leB 4 m.gTo++leB 4 m.gP))) 2 (by decide) (by decide) m.gA3 k3.1 k3.2 (by simp[jB])
  rw[show bO N ([]++leB 8 m.gId++leB 1 m.gC++leB 4 m.gA2++m.gR.toList++(leB 4 m.gT++(leB 4 m.gTo++leB 4 m.gP))) 2 [m.gA3]=_ from e5,aa]
  congr 2;unfold aD7;simp[an]
 ·rw[if_neg h,show(rG m != 0)=true by simpa using h,cond_true]
theorem aOu{α:Type}(l:List α)(hl:l.length < 9223372036854775807)(bad:α->Prop){F:Nat->Int->Option (Sum Unit Int)}
    (hstep:∀k i (h:i < l.length),∃c,(c=false->¬bad l[i])/\F (k+1) (i:Int)=cond c (some (Sum.inr (i:Int))) (F k (I64 ((i:Int)+1)))) (hend:∀k,F (k+1) (l.length:Int)=some (Sum.inl ())) :
    ∀(k i:Nat),i<=l.length->l.length - i < k->T (ae (ae (F k (i:Int)) λo=>oV o (λp1=>some (-1)) (λr=>some r)) λr1:Int=>some (decide (r1>=0))) (λr=>r=false->∀x∈l.drop i,¬bad x)
  | 0,i,_,h=>by omega
  | k+1,i,hi,hk=>by
    by_cases h:i < l.length
    · obtain⟨c,h1,h2⟩:=hstep k i h;rw[h2]
      cases c with
      | true=>
        refine⟨true,?_,λe=>by cases e⟩
        show some (decide ((i:Int)>=0))=some true;rw[dt (by omega)]
      | false=>
        rw[cond_false,dC (by omega)]
        refine T.mono (aOu l hl bad hstep hend k (i+1) (by omega) (by omega)) λr hr e x hx=>?_;rw[ct h] at hx;rcases ed.1 hx with rfl | hx
        · exact h1 rfl
        · exact hr e x hx
    · obtain rfl:i=l.length:=by omega
      rw[hend,dq]
      exact⟨false,rfl,λ_ x hx=>by cases hx⟩
theorem aHD{α:Type}(l:List α)(hl:l.length < 9223372036854775807)(bad:α->Prop){F:Nat->Int->Option (Sum Unit Int)}
    (hstep:∀k i (h:i < l.length),∃c,(c=false->¬bad l[i])/\F (k+1) (i:Int)=cond c (some (Sum.inr (i:Int))) (F k (I64 ((i:Int)+1)))) (hend:∀k,F (k+1) (l.length:Int)=some (Sum.inl ())) {N:Nat} (hN:l.length < N) :
    T (ae (ae (F N 0) λo=>oV o (λp1=>some (-1)) (λr=>some r)) λr1:Int=>some (decide (r1>=0))) (λr=>r=false->∀x∈l,¬bad x):=
  T.mono (aOu l hl bad hstep hend N 0 (by omega) (by omega)) λr hr e x hx=>hr e x (by simpa using hx)
theorem aNZ{a b c m:Int}(h:¬tQ (tQ a b) c > m):a<=m/\b<=m/\c<=m:=by unfold tQ at h;split at h <;> split at h <;> omega
theorem aLn{a b c m:Int}(h:¬lQ (lQ a b) c < m):m<=a/\m<=b/\m<=c:=by unfold lQ at h;split at h <;> split at h <;> omega
theorem imax2{a b m:Int}(h:¬tQ a b > m):a<=m/\b<=m:=by unfold tQ at h;split at h <;> omega
theorem imin2{a b m:Int}(h:¬lQ a b < m):m<=a/\m<=b:=by unfold lQ at h;split at h <;> omega
def ptG(p:aB):Prop:=(-4096<=p.gX/\p.gX<=4096)/\(-4096<=p.gY/\p.gY<=4096)/\(-4096<=p.gZ/\p.gZ<=4096)
theorem aOo(N:Nat)(p:aB):T (oG N p) (λc=>c=false->ptG p):=by
  unfold oG;refine T.bind (P:=λc=>c=false->ptG p) ?_ λc hc=>T.ret hc;refine T.letO λx hx=>T.cond (λ_=>T.ret λh=>by cases h) λh1=>T.letO λy hy=>T.ret λh2=>?_;subst hx hy;have h1:=aNZ (of_decide_eq_false h1)
  have h2:=aLn (of_decide_eq_false h2)
  exact⟨⟨h2.1,h1.1⟩,⟨h2.2.1,h1.2.1⟩,h2.2.2,h1.2.2⟩
theorem aMD(N:Nat)(p:aB):T (mU N p) (λc=>c=false->ptG p):=aOo N p
def uvG(v:Vector Int 2):Prop:=(0<=v[0]/\v[0] < 65536)/\(0<=v[1]/\v[1] < 65536)
theorem aM9(v:Vector Int 2):idx v.toList 0=some v[0]:=by have:=lL v.toList 0;rw[tR v 0 (by decide)] at this;exact this
theorem aNE(v:Vector Int 2):idx v.toList 1=some v[1]:=by have:=lL v.toList 1;rw[tR v 1 (by decide)] at this;exact this
theorem aFq(v:Vector Int 3):idx v.toList 0=some v[0]:=by have:=lL v.toList 0;rw[tR v 0 (by decide)] at this;exact this
theorem aFr(v:Vector Int 3):idx v.toList 1=some v[1]:=by have:=lL v.toList 1;rw[tR v 1 (by decide)] at this;exact this
theorem aGK(v:Vector Int 3):idx v.toList 2=some v[2]:=by have:=lL v.toList 2;rw[tR v 2 (by decide)] at this;exact this
theorem pairT(N:Nat)(v:Vector Int 2):T (oJ N v) (λc=>c=false->uvG v):=by
  unfold oJ;refine T.bind (P:=λc=>c=false->uvG v) ?_ λc hc=>T.ret hc;rw[aM9,aNE,aa,aa]
  refine T.letO λx hx=>T.cond (λ_=>T.ret λh=>by cases h) λh1=>?_;rw[aa,aa]
  refine T.letO λy hy=>T.ret λh2=>?_;subst hx hy;have h1:=imin2 (of_decide_eq_false h1)
  have h2:=imax2 (of_decide_eq_false h2)
  exact⟨⟨h1.1,by omega⟩,h1.2,by omega⟩
def trG(n:Int)(v:Vector Int 3):Prop:=(0<=v[0]/\v[0] < n)/\(0<=v[1]/\v[1] < n)/\(0<=v[2]/\v[2] < n)
theorem triT(N:Nat)(v:Vector Int 3)(m:aM):T (kS N v m) (λc=>c=false->trG (m.gF.length:Int) v):=by
  unfold kS;refine T.bind (P:=λc=>c=false->trG (m.gF.length:Int) v) ?_ λc hc=>T.ret hc;simp only[aFq,aFr,aGK,aa]
  refine T.letO λx hx=>T.cond (λ_=>T.ret λh=>by cases h) λh1=>T.letO λn hn=>T.letO λy hy=>T.cond (λ_=>T.ret λh=>by cases h) λh2=>?_;subst hx hy hn;have h1:=aLn (of_decide_eq_false h1)
  have h2:¬tQ (tQ v[0] v[1]) v[2] > (m.gF.length:Int) - 1:=by have:=of_decide_eq_false h2;omega
  have h2:=aNZ h2;have g:trG (m.gF.length:Int) v:=⟨⟨h1.1,by omega⟩,⟨h1.2.1,by omega⟩,h1.2.2,by omega⟩
  exact T.cond (λ_=>T.ret λ_=>g) λ_=>T.cond (λ_=>T.ret λ_=>g) λ_=>T.ret λ_=>g
structure aGi(m:aM):Prop where
  nv:m.gF.length<=64
  nt:m.gI.length<=64
  nu:m.gJ.length=m.gF.length
  v:∀p∈m.gF,ptG p
  u:∀p∈m.gJ,uvG p
  t:∀p∈m.gI,trG 256 p
theorem meshT(N:Nat)(hN:1000 < N)(m:aM)(hv:m.gF.length<=500)(hu:m.gJ.length<=500)(ht:m.gI.length<=500):T (jT N m) (λc=>c=0->aGi m):=by
  unfold jT;refine T.letO λx1 e1=>T.letO λx2 e2=>T.letO λx3 e3=>?_;subst e1 e2 e3;refine T.cond (λ_=>T.ret λh=>by cases h) λh1=>?_;refine T.letO λx1 e1=>T.letO λx2 e2=>T.letO λx3 e3=>T.letO λx4 e4=>T.letO λx5 e5=>?_;subst e1 e2 e3 e4 e5;refine T.cond (λ_=>T.ret λh=>by cases h) λh2=>?_;have a1:m.gF.length<=64/\m.gI.length<=64:=by
    cases ha:decide ((m.gF.length:Int) > 64) with
    | true=>rw[ha] at h1;cases h1
    | false=>rw[ha,cond_false] at h1;have:=of_decide_eq_false ha;have:=of_decide_eq_false h1;omega
  have a2:m.gJ.length=m.gF.length:=by
    revert h2;cases cond ((m.gF.length:Int)==0) true ((m.gI.length:Int)==0) with
    | true=>intro h;cases h
    | false=>intro h;rw[cond_false] at h;have:(m.gJ.length:Int)=(m.gF.length:Int):=by simpa using h
               omega
  refine T.bind (P:=λr=>r=false->∀p∈m.gF,¬ ¬ptG p) ?_ λr9 h9=>T.cond (λ_=>T.ret λh=>by cases h) λc9=>?_
  · unfold bM bQ;refine aHD m.gF (by omega) (λp=>¬ptG p) (F:=aP N m.gF) (λk i h=>?_) (λk=>by rw[aP,aC,df (by omega),cond_false]) (by omega)
    obtain⟨c,e,hc⟩:=aOo N m.gF[i]
    exact⟨c,λh=>Classical.not_not.2 (hc h),by rw[aP,aC,dt (by omega),cond_true,dJ h,aa,e,aa]⟩
  refine T.bind (P:=λr=>r=false->(∀p∈m.gJ,uvG p)/\∀p∈m.gI,trG (m.gF.length:Int) p) ?_ λr10 h10=>T.cond (λ_=>T.ret λh=>by cases h) λc10=>T.ret λ_=>?_
  · refine T.bind (P:=λr=>r=false->∀p∈m.gJ,¬ ¬uvG p) ?_ λr11 h11=>T.cond (λ_=>T.ret λh=>by cases h) λc11=>?_
    · unfold bZ cL;refine aHD m.gJ (by omega) (λp=>¬uvG p) (F:=aZ N m.gJ) (λk i h=>?_) (λk=>by rw[aZ,aC,df (by omega),cond_false]) (by omega)
      obtain⟨c,e,hc⟩:=pairT N m.gJ[i]
      exact⟨c,λh=>Classical.not_not.2 (hc h),by rw[aZ,aC,dt (by omega),cond_true,dJ h,aa,e,aa]⟩
    · refine T.bind (P:=λr=>r=false->∀p∈m.gI,¬ ¬trG (m.gF.length:Int) p) ?_ λr12 h12=>T.ret λc12=>⟨λp hp=>Classical.not_not.1 (h11 c11 p hp),λp hp=>Classical.not_not.1 (h12 c12 p hp)⟩
      unfold bY cM;refine aHD m.gI (by omega) (λp=>¬trG (m.gF.length:Int) p) (F:=bA N m.gI m) (λk i h=>?_) (λk=>by rw[bA,aC,df (by omega),cond_false]) (by omega)
      obtain⟨c,e,hc⟩:=triT N m.gI[i] m;exact⟨c,λh=>Classical.not_not.2 (hc h),by rw[bA,aC,dt (by omega),cond_true,dJ h,aa,e,aa]⟩
  obtain⟨g1,g2⟩:=h10 c10;exact⟨a1.1,a1.2,a2,λp hp=>Classical.not_not.1 (h9 c9 p hp),g1,λp hp=>by obtain⟨q1,q2,q3⟩:=g2 p hp;exact⟨⟨q1.1,by omega⟩,⟨q2.1,by omega⟩,q3.1,by omega⟩⟩
structure aLF(t:aH):Prop where
  side:1<=t.gN/\t.gN<=16
  n:(t.gK.length:Int)=t.gN*t.gN
  t:∀p∈t.gK,trG 256 p
theorem aK6(N:Nat)(hN:1000 < N)(l:List Int)(hl:l.length<=500)(x:Int):T (eY N l x) (λr=>r=true->x∈l):=by
  unfold eY kU;have key:∀(k i:Nat),i<=l.length->l.length - i < k->T (cS N l x k (i:Int)) (λo=>(o=Sum.inl ())\/(∃j,o=Sum.inr j/\x∈l)):=by
    intro k
    induction k with
    | zero=>intro i _ h;omega
    | succ k ih=>
      intro i hi hk;rw[cS,aC]
      by_cases h:i < l.length
      · rw[dt (by omega),cond_true,dJ h,aa,dC (by omega)]
        refine T.cond (λhc=>T.ret (.inr ⟨_,rfl,?_⟩)) λ_=>ih (i+1) (by omega) (by omega)
        have:x=l[i]:=by simpa using hc
        rw[this]
        exact cg h
      · rw[df (by omega),cond_false]
        exact T.ret (.inl rfl)
  refine T.bind (P:=λr:Int=>0<=r->x∈l) ?_ λr hr=>T.ret λh=>hr (by have:=of_decide_eq_true h;omega)
  refine T.bind (key N 0 (by omega) (by omega)) λo ho=>?_;rcases ho with rfl | ⟨j,rfl,hm⟩
  · exact T.ret λh=>by omega
  · exact T.ret λ_=>hm
theorem texT(N:Nat)(hN:1000 < N)(t:aH)(ht:t.gK.length<=500):T (eE N t) (λc=>c=0->aLF t):=by
  unfold eE;refine T.bind (aK6 N hN [1,2,4,8,16] (by decide) t.gN) λr1 h1=>?_;refine T.letO λx2 e2=>T.letO λx3 e3=>T.letO λx4 e4=>?_;subst e2 e3 e4;refine T.cond (λ_=>T.ret λh=>by cases h) λh2=>?_;have hr:r1=true:=by cases r1 with | true=>rfl | false=>cases h2
  subst hr;have hm:=h1 rfl;have hs:1<=t.gN/\t.gN<=16:=by
    simp only[ed,fe,or_false] at hm;omega
  have hn:(t.gK.length:Int)=t.gN*t.gN:=by
    rw[fg,cond_false] at h2;have h3:(t.gK.length:Int)=I64 (t.gN*t.gN):=by simpa using h2
    have:t.gN*t.gN<=16*16:=jt hs.2 hs.2 (by omega) (by decide)
    have:0<=t.gN*t.gN:=Int.mul_nonneg (by omega) (by omega)
    rw[h3,aW (by omega) (by omega)]
  refine T.letO λx5 e5=>?_;subst e5;have key:∀(k i:Nat),i<=t.gK.length->t.gK.length - i < k->T (hO N (t.gK.length:Int) t k (i:Int)) (λo=>o=Sum.inr 5\/(o=Sum.inl ()/\∀p∈t.gK.drop i,trG 256 p)):=by
    intro k
    induction k with
    | zero=>intro i _ h;omega
    | succ k ih=>
      intro i hi hk;rw[hO]
      by_cases h:i < t.gK.length
      · rw[dt (by omega),cond_true,dJ h,aa,dC (by omega)]
        have g0:(t.gK[i].toList[((0:Int).toNat)]?)=some t.gK[i][0]:=tR _ 0 (by decide)
        have g1:(t.gK[i].toList[((1:Int).toNat)]?)=some t.gK[i][1]:=tR _ 1 (by decide)
        have g2:(t.gK[i].toList[((2:Int).toNat)]?)=some t.gK[i][2]:=tR _ 2 (by decide)
        have i0:aQ 0 3=some ():=rfl;have i1:aQ 1 3=some ():=rfl;have i2:aQ 2 3=some ():=rfl;simp only[i0,i1,i2,g0,g1,g2,aa]
        refine T.bind (P:=λc=>c=false->trG 256 t.gK[i]) ?_ λc hc=>T.cond (λ_=>T.ret (.inl rfl)) λh0=>?_
        · refine T.letO λx hx=>T.cond (λ_=>T.ret λh=>by cases h) λh1=>T.letO λy hy=>T.ret λh2=>?_;subst hx hy;have h1:=aLn (of_decide_eq_false h1)
          have h2:=aNZ (of_decide_eq_false h2)
          exact⟨⟨h1.1,by omega⟩,⟨h1.2.1,by omega⟩,h1.2.2,by omega⟩
        · refine T.mono (ih (i+1) (by omega) (by omega)) λo ho=>?_;rcases ho with ho | ⟨ho,hp⟩
          · exact .inl ho
          · refine .inr ⟨ho,λp hp'=>?_⟩
            rw[ct h] at hp';rcases ed.1 hp' with rfl | hp'
            · exact hc h0
            · exact hp p hp'
      · obtain rfl:i=t.gK.length:=by omega
        rw[df (by omega),cond_false]
        exact T.ret (.inr ⟨rfl,λp hp=>by rw[dq] at hp;cases hp⟩)
  refine T.bind (key N 0 (by omega) (by omega)) λo ho=>?_;rcases ho with rfl | ⟨rfl,hp⟩
  · exact T.ret λh=>by cases h
  · exact T.ret λ_=>⟨hs,hn,λp h=>hp p (by simpa using h)⟩
theorem outT(N:Nat)(hN:1000 < N)(most:Int)(l:List Int)(hl:l.length<=500):T (iD N most l) (λr=>r=false->∀x∈l,0<=x/\x<=most):=by
  unfold iD;refine T.bind (P:=λr=>r=false->∀x∈l,¬ ¬(0<=x/\x<=most)) ?_ λr hr=>T.ret λh x hx=>Classical.not_not.1 (hr h x hx)
  unfold cE cV;refine aHD l (by omega) (λx=>¬(0<=x/\x<=most)) (F:=bD N l most) (λk i h=>?_) (λk=>by rw[bD,aC,df (by omega),cond_false]) (by omega)
  refine⟨cond (decide (l[i] < 0)) true (decide (l[i] > most)),λhc=>?_,?_⟩
  · have:¬l[i] < 0/\¬l[i] > most:=by
      cases ha:decide (l[i] < 0) with
      | true=>rw[ha] at hc;cases hc
      | false=>rw[ha,cond_false] at hc;exact⟨of_decide_eq_false ha,of_decide_eq_false hc⟩
    exact Classical.not_not.2 ⟨by omega,by omega⟩
  · rw[bD,aC,dt (by omega),cond_true,dJ h,aa]
    rfl
structure MatG(m:aF):Prop where
  kind:0<=m.gC/\m.gC < 256
  color:trG 65536 m.gE
  rough:0<=m.gA1/\m.gA1 < 65536
theorem matT(N:Nat)(hN:1000 < N)(m:aF):T (lY N m) (λc=>c=0->MatG m):=by
  unfold lY;refine T.bind (P:=λc=>c=false->MatG m) ?_ λc hc=>T.cond (λ_=>T.ret λh=>by cases h) λh=>T.ret λ_=>hc h;refine T.bind (outT N hN 4 [m.gC] (by simp)) λr2 h2=>T.cond (λ_=>T.ret λh=>by cases h) λc2=>?_;rw[aFq,aFr,aGK,aa,aa,aa]
  refine T.bind (outT N hN 65535 [m.gE[0],m.gE[1],m.gE[2],m.gA1] (by simp)) λr6 h6=>T.ret λc6=>?_;have a:=h2 c2 m.gC (by simp)
  have b0:=h6 c6 m.gE[0] (by simp)
  have b1:=h6 c6 m.gE[1] (by simp)
  have b2:=h6 c6 m.gE[2] (by simp)
  have b3:=h6 c6 m.gA1 (by simp)
  exact⟨⟨a.1,by omega⟩,⟨⟨b0.1,by omega⟩,⟨b1.1,by omega⟩,b2.1,by omega⟩,b3.1,by omega⟩
structure aLt(l:aJ):Prop where
  kind:0<=l.gC/\l.gC < 256
  color:trG 4294967296 l.gE
  at_:ptG l.gAt
  u:ptG l.gU
  v:ptG l.gV
theorem ligT(N:Nat)(hN:1000 < N)(l:aJ):T (pI N l) (λc=>c=0->aLt l):=by
  unfold pI;refine T.bind (P:=λc=>c=false->(0<=l.gC/\l.gC < 256)/\trG 4294967296 l.gE) ?_ λc hc=>T.cond (λ_=>T.ret λh=>by cases h) λh=>?_
  · refine T.bind (outT N hN 2 [l.gC] (by simp)) λr2 h2=>T.cond (λ_=>T.ret λh=>by cases h) λc2=>?_;rw[show eT l.gE.toList 0 3=some l.gE.toList from aJG (m:=3) _,aa]
    refine T.bind (outT N hN 1048576 l.gE.toList (by simp)) λr4 h4=>T.ret λc4=>?_;have a:=h2 c2 l.gC (by simp)
    have b0:=h4 c4 l.gE[0] (aMs _ (by decide))
    have b1:=h4 c4 l.gE[1] (aMs _ (by decide))
    have b2:=h4 c4 l.gE[2] (aMs _ (by decide))
    exact⟨⟨a.1,by omega⟩,⟨b0.1,by omega⟩,⟨b1.1,by omega⟩,b2.1,by omega⟩
  obtain⟨hk,hcol⟩:=hc h;refine T.bind (P:=λc=>c=false->ptG l.gAt/\ptG l.gU/\ptG l.gV) ?_ λc hc=>T.cond (λ_=>T.ret λh=>by cases h) λh=>?_
  · exact T.bind (aMD N l.gAt) λr6 h6=>T.cond (λ_=>T.ret λh=>by cases h) λc6=>T.bind (aMD N l.gU) λr7 h7=>T.cond (λ_=>T.ret λh=>by cases h) λc7=>T.bind (aMD N l.gV) λr8 h8=>T.ret λc8=>⟨h6 c6,h7 c7,h8 c8⟩
  obtain⟨p1,p2,p3⟩:=hc h;have g:aLt l:=⟨hk,hcol,p1,p2,p3⟩
  refine T.bind (P:=λ_=>True) ?_ λo _=>?_
  · refine T.cond (λ_=>T.cond (λ_=>T.ret trivial) λ_=>T.bind (P:=λ_=>True) ?_ λ_ _=>T.cond (λ_=>T.ret trivial) λ_=>T.ret trivial) λ_=>T.cond (λ_=>T.bind (P:=λ_=>True) ?_ λ_ _=>T.cond (λ_=>T.ret trivial) λ_=>T.ret trivial) λ_=>T.ret trivial
    · exact T.letO λ_ _=>T.cond (λ_=>T.ret trivial) λ_=>T.ret trivial
    · exact T.letO λ_ _=>T.cond (λ_=>T.ret trivial) λ_=>T.ret trivial
  · cases o with
    | inl _=>exact T.ret λ_=>g
    | inr c=>exact T.ret λ_=>g
theorem aPK(a b:aB):aB.eq a b=true↔a=b:=by
 unfold aB.eq;simp only[ap,beq_iff_eq,and_true]
 constructor
 ·rintro⟨h1,h2,h3⟩
  cases a;cases b;dsimp only at *;subst h1 h2 h3;rfl
 ·rintro rfl;exact⟨rfl,rfl,rfl⟩
theorem aJW(a b:aF):aF.eq a b=true↔a=b:=by
 unfold aF.eq;simp only[ap,aER,beq_iff_eq,and_true]
 constructor
 ·rintro⟨h1,h2,h3⟩
  cases a;cases b;dsimp only at *;subst h1 h2 h3;rfl
 ·rintro rfl;exact⟨rfl,rfl,rfl⟩
theorem aJF(a b:aJ):aJ.eq a b=true↔a=b:=by
 unfold aJ.eq;simp only[ap,aER,beq_iff_eq,and_true,aPK]
 constructor
 ·rintro⟨h1,h2,h3,h4,h5⟩
  cases a;cases b;dsimp only at *;subst h1 h2 h3 h4 h5;rfl
 ·rintro rfl;exact⟨rfl,rfl,rfl,rfl,rfl⟩
theorem aJb{α:Type}(eq:α->α->Bool)(heq:∀x y,eq x y=true↔x=y)(a b:List α)(hl:a.length<=100000){F:Nat->Int->Option (Sum Unit Bool)}
  (hstep:∀k i (h:i < a.length) (h':i < b.length),F (k+1) (i:Int)=cond (!eq a[i] b[i]) (some (Sum.inr false)) (F k (I64 ((i:Int)+1)))) (hend:∀k,F (k+1) (a.length:Int)=some (Sum.inl ())) {N:Nat} (hN:a.length < N) :
  T (aO ((a.length:Int) != (b.length:Int)) λx1=>cond x1 (some false) (ae (F N 0) λo=>oV o (λp2=>some true) (λr=>some r))) (λr=>r=true↔a=b):=by
 refine T.letO λx hx=>?_;subst hx;refine T.cond (λh=>T.ret ?_) λh=>?_
 ·have h:¬(a.length:Int)=(b.length:Int):=by simpa using h
  constructor
  ·intro e;cases e
  ·rintro rfl;exact absurd rfl h
 ·have h:(a.length:Int)=(b.length:Int):=by simpa using h
  have key:∀(k i:Nat),i<=a.length->a.length - i < k->T (ae (F k (i:Int)) λo=>oV o (λp2=>some true) (λr=>some r)) (λr=>r=true↔a.drop i=b.drop i):=by
   intro k
   induction k with
   | zero=>intro i _ h;omega
   | succ k ih=>
    intro i hi hk;by_cases h1:i < a.length
    ·rw[hstep k i h1 (by omega),ct h1,ct (show i < b.length by omega)]
     cases he:eq a[i] b[i] with
     | false=>
      refine⟨false,rfl,?_⟩
      constructor
      ·intro e;cases e
      ·intro e;have:=(List.cons.inj e).1;rw[(heq _ _).2 this] at he;cases he
     | true=>
      rw[fg,cond_false,dC (by omega)]
      refine T.mono (ih (i+1) (by omega) (by omega)) λr hr=>?_;rw[hr,(heq _ _).1 he]
      constructor
      ·intro e;rw[e]
      ·intro e;exact(List.cons.inj e).2
    ·obtain rfl:i=a.length:=by omega
     rw[hend,dq,fo (by omega)]
     exact⟨true,rfl,by simp⟩
  exact T.mono (key N 0 (by omega) (by omega)) λr hr=>by simpa using hr
theorem aPW(N:Nat)(a b:List aB)(hl:a.length<=100000)(hN:a.length < N):T (kA N a b) (λr=>r=true↔a=b):=by
 unfold kA;exact aJb aB.eq aPK a b hl (F:=eJ N a b) (λk i h h'=>by rw[eJ,aC,dt (by omega),cond_true,dJ h,aa,dJ h',aa]) (λk=>by rw[eJ,aC,df (by omega),cond_false]) hN
theorem aQp(N:Nat)(a b:List (Vector Int 2))(hl:a.length<=100000)(hN:a.length < N):T (mX N a b) (λr=>r=true↔a=b):=by
 unfold mX;exact aJb (eqV (λa b=>a==b)) aER a b hl (F:=iJ N a b) (λk i h h'=>by rw[iJ,aC,dt (by omega),cond_true,dJ h,aa,dJ h',aa]) (λk=>by rw[iJ,aC,df (by omega),cond_false]) hN
theorem aMR(N:Nat)(a b:List (Vector Int 3))(hl:a.length<=100000)(hN:a.length < N):T (lC N a b) (λr=>r=true↔a=b):=by
 unfold lC;exact aJb (eqV (λa b=>a==b)) aER a b hl (F:=iQ N a b) (λk i h h'=>by rw[iQ,aC,dt (by omega),cond_true,dJ h,aa,dJ h',aa]) (λk=>by rw[iQ,aC,df (by omega),cond_false]) hN
structure aD3(a:aE):Prop where
 v:a.gQ.gF.length<=500
 u:a.gQ.gJ.length<=500
 t:a.gQ.gI.length<=500
 x:a.gW.gK.length<=500
theorem aO0(N:Nat)(hN:1000 < N)(a b:aE)(h:aD3 a):T (qK N a b) (λr=>r=true↔a=b):=by
 unfold qK;refine T.bind (P:=λr=>r=false↔(a.gC=b.gC/\a.gG=b.gG/\a.gD=b.gD/\a.gW.gN=b.gW.gN)) ?_ λp1 h1=>T.cond (λc=>T.ret ?_) λc=>?_
 ·refine T.cond (λc=>T.ret ?_) λc=>?_
  ·have c:¬a.gC=b.gC:=by simpa using c
   constructor
   ·intro e;cases e
   ·intro e;exact absurd e.1 c
  ·have c:a.gC=b.gC:=by simpa using c
   refine T.letO λx2 e2=>T.cond (λc2=>T.ret ?_) λc2=>T.letO λx3 e3=>T.letO λx4 e4=>T.ret ?_
   ·subst e2;constructor
    ·intro e;cases e
    ·intro e;rw[(aJW _ _).2 e.2.1] at c2;cases c2
   ·subst e2 e3 e4;have hm:aF.eq a.gG b.gG=true:=by simpa using c2
    have hm:=(aJW _ _).1 hm;constructor
    ·intro e;cases hl:aJ.eq a.gD b.gD with
     | false=>rw[hl] at e;cases e
     | true=>
      rw[hl,fg,cond_false] at e;exact⟨c,hm,(aJF _ _).1 hl,by simpa using e⟩
    ·rintro⟨_,_,e1,e2⟩
     rw[(aJF _ _).2 e1,e2]
     simp
 ·constructor
  ·intro e;cases e
  ·rintro rfl;have:=h1.2 ⟨rfl,rfl,rfl,rfl⟩
   rw[this] at c;cases c
 ·obtain⟨g1,g2,g3,g4⟩:=h1.1 c;refine T.bind (P:=λr=>r=true↔(a.gQ.gF=b.gQ.gF/\a.gQ.gJ=b.gQ.gJ/\a.gQ.gI=b.gQ.gI/\a.gW.gK=b.gW.gK)) ?_ λr hr=>T.ret ?_
  ·refine T.bind (aPW N _ _ (by have:=h.v;omega) (by have:=h.v;omega)) λr6 h6=>T.cond (λc6=>?_) λc6=>T.ret ?_
   ·refine T.bind (aQp N _ _ (by have:=h.u;omega) (by have:=h.u;omega)) λr7 h7=>T.cond (λc7=>?_) λc7=>T.ret ?_
    ·refine T.bind (aMR N _ _ (by have:=h.t;omega) (by have:=h.t;omega)) λr8 h8=>T.cond (λc8=>?_) λc8=>T.ret ?_
     ·refine T.bind (aMR N _ _ (by have:=h.x;omega) (by have:=h.x;omega)) λr9 h9=>T.ret ?_;exact⟨λe=>⟨h6.1 c6,h7.1 c7,h8.1 c8,h9.1 e⟩,λe=>h9.2 e.2.2.2⟩
     ·exact⟨λe=>(by cases e),λe=>by rw[h8.2 e.2.2.1] at c8;cases c8⟩
    ·exact⟨λe=>(by cases e),λe=>by rw[h7.2 e.2.1] at c7;cases c7⟩
   ·exact⟨λe=>(by cases e),λe=>by rw[h6.2 e.1] at c6;cases c6⟩
  ·rw[hr]
   constructor
   ·rintro⟨q1,q2,q3,q4⟩
    obtain⟨k,⟨v,u,t⟩,⟨s,x⟩,m,l⟩:=a;obtain⟨k',⟨v',u',t'⟩,⟨s',x'⟩,m',l'⟩:=b;dsimp only at *;subst g1 g2 g3 g4 q1 q2 q3 q4;rfl
   ·rintro rfl;exact⟨rfl,rfl,rfl,rfl⟩
def ptB(p:aB):List Int:=leB 2 (p.gX % 65536)++(leB 2 (p.gY % 65536)++leB 2 (p.gZ % 65536))
def uvB(v:Vector Int 2):List Int:=leB 2 v[0]++leB 2 v[1]
def trB(w:Nat)(t:Vector Int 3):List Int:=leB w t[0]++(leB w t[1]++leB w t[2])
theorem yV(p:aB):(ptB p).length=6:=by unfold ptB;simp[jB]
theorem aEV(p:Vector Int 2):(uvB p).length=4:=by unfold uvB;simp[jB]
theorem aCI(w:Nat)(p:Vector Int 3):(trB w p).length=3*w:=by unfold trB;simp[jB];omega
theorem aAO{α:Type}{f:α->List Int}{c:Nat}(h:∀x,(f x).length=c):∀(l:List α),(l.flatMap f).length=l.length*c
 | []=>by simp
 | a :: l=>by rw[cw,aj,h,aAO h l,cx,Nat.add_mul];omega
theorem zI{x:Int}(h:0<=x/\x < 256):leB 1 x=[x]:=by
 unfold leB;show [U8 (shr .u64 x ((8*0:Nat):Int))]=_;rw[aIs x 0 (by decide),show cI 0=1 from rfl,Int.ediv_one,qZ h.1 h.2]
def aHl(m:aM):List Int:=leB 1 (m.gF.length:Int)++(leB 1 (m.gI.length:Int)++(m.gF.flatMap ptB++(m.gJ.flatMap uvB++m.gI.flatMap (trB 1))))
def aNK(t:aH):List Int:=leB 1 t.gN++t.gK.flatMap (trB 1)
def matB(m:aF):List Int:=leB 1 m.gC++(trB 2 m.gE++leB 2 m.gA1)
def ligB(l:aJ):List Int:=leB 1 l.gC++(trB 4 l.gE++(ptB l.gAt++(ptB l.gU++ptB l.gV)))
theorem sgn3(N:Nat)(hN:20 < N)(b:List Int)(p:aB)(h:ptG p)(hb:b.length<=1000000):kL N b 2 [p.gX,p.gY,p.gZ]=some (b++ptB p,0):=by
 obtain⟨hx,hy,hz⟩:=h;have:=sgnP N b 2 (by decide) (by decide) [p.gX,p.gY,p.gZ] (by intro q hq;simp at hq;unfold aAz;rcases hq with rfl | rfl | rfl <;> omega) (by omega) (by simp) (by omega) (by simp;omega)
 rw[show kL N b 2 [p.gX,p.gY,p.gZ]=_ from this]
 unfold aMX;have e:([p.gX,p.gY,p.gZ].any (aCO 2))=false:=by
  simp[aCO,show cI 2 / 2=32768 from rfl]
  omega
 rw[e,cond_false]
 unfold aHA;have e2:(([p.gX,p.gY,p.gZ].map (λx=>x % cI 2)).any (big 2))=false:=by
  simp[big,show cI 2=65536 from rfl]
  omega
 rw[e2,cond_false]
 unfold ptB;simp[show cI 2=65536 from rfl]
theorem meshE(N:Nat)(hN:1000 < N)(m:aM)(g:aGi m)(h0:jT N m=some 0):sL N m=some (aHl m,0):=by
 unfold sL;have nv:=g.nv;have nt:=g.nt;have nu:=g.nu;rw[h0,aa,show((0:Int) != 0)=false from rfl,cond_false,aC,aC,aC,qZ (x:=(m.gF.length:Int)) (by omega) (by omega),qZ (x:=(m.gI.length:Int)) (by omega) (by omega)]
 have l1:=lS m.gF.length (by omega) (λi=>ptB (m.gF.getD i ⟨0,0,0⟩)) (λs i=>s.length<=100+6*i) (nR N (m.gF.length:Int) m) (by intro s i hi hs;simp[yV];omega) (λk s i hi hs=>by
  have hp:=g.v _ (cg hi)
  rw[nR,dt (by omega),cond_true,dJ hi,aa,sgn3 N (by omega) s _ hp (by omega),aa]
  rw[ar,ag hi]
  rfl) (λk s=>by rw[nR,df (by omega),cond_false]) (N:=N) (by omega) (s:=[(m.gF.length:Int),(m.gI.length:Int)]) (by simp)
 rw[l1,aa]
 have hflat:∀{α:Type} (l:List α) (d:α) (f:α->List Int),(bx l.length).flatMap (λi=>f (l.getD i d))=l.flatMap f:=by
  intro α l d f
  induction l with
  | nil=>rfl
  | cons a l ih=>
   rw[cx,j6,cw,kg]
   simp only[jm,jp,cw]
   rw[ih]
 rw[hflat m.gF ⟨0,0,0⟩ ptB]
 have hlen1:=aAO yV m.gF;have l2:=lS m.gJ.length (by omega) (λi=>uvB (m.gJ.getD i #v[0,0])) (λs i=>s.length<=1000+4*i) (nN N m) (by intro s i hi hs;simp[aEV];omega) (λk s i hi hs=>by
  have hp:=g.u _ (cg hi)
  rw[nN,aC,dt (by omega),cond_true,dJ hi,aa,show aQ 0 2=some () from rfl,aa,show m.gJ[i].toList[((0:Int).toNat)]? = some m.gJ[i][0] from tR _ 0 (by decide),aa,show aQ 1 2=some () from rfl,aa,show m.gJ[i].toList[((1:Int).toNat)]? = some m.gJ[i][1] from tR _ 1 (by decide),aa,fA hp.1.1 (by have:=hp.1.2;omega),fA hp.2.1 (by have:=hp.2.2;omega)]
  have e:=put2 N (by omega) s 2 (by decide) (by decide) m.gJ[i][0] m.gJ[i][1] ⟨hp.1.1,hp.1.2⟩ ⟨hp.2.1,hp.2.2⟩ (by omega)
  rw[show bO N s 2 [m.gJ[i][0],m.gJ[i][1]]=_ from e,aa,ar,ag hi]
  rfl) (λk s=>by rw[nN,aC,df (by omega),cond_false]) (N:=N) (by omega) (s:=[(m.gF.length:Int),(m.gI.length:Int)]++m.gF.flatMap ptB) (by simp at hlen1 ⊢;omega)
 rw[l2,aa,hflat m.gJ #v[0,0] uvB,aC]
 have hlen2:=aAO aEV m.gJ;have l3:=lS m.gI.length (by omega) (λi=>trB 1 (m.gI.getD i #v[0,0,0])) (λs i=>s.length<=2000+3*i) (kD N (m.gI.length:Int) m) (by intro s i hi hs;simp[aCI];omega) (λk s i hi hs=>by
  have hp:=g.t _ (cg hi)
  obtain⟨q0,q1,q2⟩:=hp;rw[kD,dt (by omega),cond_true,dJ hi,aa,show aQ 0 3=some () from rfl,aa,show m.gI[i].toList[((0:Int).toNat)]? = some m.gI[i][0] from tR _ 0 (by decide),aa,show aQ 1 3=some () from rfl,aa,show m.gI[i].toList[((1:Int).toNat)]? = some m.gI[i][1] from tR _ 1 (by decide),aa,show aQ 2 3=some () from rfl,aa,show m.gI[i].toList[((2:Int).toNat)]? = some m.gI[i][2] from tR _ 2 (by decide),aa,qZ q0.1 q0.2,qZ q1.1 q1.2,qZ q2.1 q2.2,rO (by omega) (by simp),aa,ar,ag hi]
  show kD N _ m k (s++[m.gI[i][0],m.gI[i][1],m.gI[i][2]]) _=kD N _ m k (s++trB 1 m.gI[i]) _;unfold trB;rw[zI q0,zI q1,zI q2]
  rfl) (λk s=>by rw[kD,df (by omega),cond_false]) (N:=N) (by omega) (s:=[(m.gF.length:Int),(m.gI.length:Int)]++m.gF.flatMap ptB++m.gJ.flatMap uvB) (by simp at hlen1 hlen2 ⊢;omega)
 rw[l3,aa,hflat m.gI #v[0,0,0] (trB 1)]
 unfold aHl;rw[zI (x:=(m.gF.length:Int)) ⟨by omega,by omega⟩,zI (x:=(m.gI.length:Int)) ⟨by omega,by omega⟩]
 simp[an]
theorem hflat{α:Type}(l:List α)(d:α)(f:α->List Int):(bx l.length).flatMap (λi=>f (l.getD i d))=l.flatMap f:=by
 induction l with
 | nil=>rfl
 | cons a l ih=>
  rw[cx,j6,cw,kg]
  simp only[jm,jp,cw]
  rw[ih]
theorem texE(N:Nat)(hN:1000 < N)(t:aH)(g:aLF t)(h0:eE N t=some 0):qA N t=some (aNK t,0):=by
 unfold qA;have n1:=g.side;have n2:=g.n;have n3:t.gN*t.gN<=16*16:=jt n1.2 n1.2 (by omega) (by decide)
 rw[h0,aa,show((0:Int) != 0)=false from rfl,cond_false,aC,qZ (x:=t.gN) (by omega) (by omega)]
 have l3:=lS t.gK.length (by omega) (λi=>trB 1 (t.gK.getD i #v[0,0,0])) (λs i=>s.length<=2000+3*i) (fQ N (t.gK.length:Int) t) (by intro s i hi hs;simp[aCI];omega) (λk s i hi hs=>by
  have hp:=g.t _ (cg hi)
  obtain⟨q0,q1,q2⟩:=hp;rw[fQ,dt (by omega),cond_true,dJ hi,aa,show aQ 0 3=some () from rfl,aa,show t.gK[i].toList[((0:Int).toNat)]? = some t.gK[i][0] from tR _ 0 (by decide),aa,show aQ 1 3=some () from rfl,aa,show t.gK[i].toList[((1:Int).toNat)]? = some t.gK[i][1] from tR _ 1 (by decide),aa,show aQ 2 3=some () from rfl,aa,show t.gK[i].toList[((2:Int).toNat)]? = some t.gK[i][2] from tR _ 2 (by decide),aa,qZ q0.1 q0.2,qZ q1.1 q1.2,qZ q2.1 q2.2,rO (by omega) (by simp),aa,ar,ag hi]
  show fQ N _ t k (s++[t.gK[i][0],t.gK[i][1],t.gK[i][2]]) _=fQ N _ t k (s++trB 1 t.gK[i]) _;unfold trB;rw[zI q0,zI q1,zI q2]
  rfl) (λk s=>by rw[fQ,df (by omega),cond_false]) (N:=N) (by omega) (s:=[t.gN]) (by simp)
 rw[l3,aa,hflat t.gK #v[0,0,0] (trB 1)]
 unfold aNK;rw[zI (x:=t.gN) ⟨by omega,by omega⟩]
def aLg(a:aE):Prop:=(a.gC=1/\aGi a.gQ)\/(a.gC=2/\aLF a.gW)\/(a.gC=3/\MatG a.gG)\/(a.gC=4/\aLt a.gD)
def qS(a:aE):List Int:=if a.gC=1 then aHl a.gQ else if a.gC=2 then aNK a.gW else if a.gC=3 then matB a.gG else ligB a.gD
theorem ownT(N:Nat)(hN:1000 < N)(a:aE)(h:aD3 a):T (mN N a) (λc=>c=0->aLg a):=by
 unfold mN;refine T.cond (λc=>?_) λ_=>T.cond (λc=>?_) λ_=>T.cond (λc=>?_) λ_=>T.cond (λc=>?_) λ_=>T.ret λe=>by cases e
 ·exact T.bind (meshT N hN _ h.v h.u h.t) λr hr=>T.ret λe => .inl ⟨by simpa using c,hr e⟩
 ·exact T.bind (texT N hN _ h.x) λr hr=>T.ret λe => .inr (.inl ⟨by simpa using c,hr e⟩)
 ·exact T.bind (matT N hN _) λr hr=>T.ret λe => .inr (.inr (.inl ⟨by simpa using c,hr e⟩))
 ·exact T.bind (ligT N hN _) λr hr=>T.ret λe => .inr (.inr (.inr ⟨by simpa using c,hr e⟩))
theorem assE(N:Nat)(hN:1000 < N)(a:aE)(g:aLg a)(h0:mN N a=some 0):pO N a=some (qS a):=by
 unfold pO qS;unfold mN at h0;rcases g with ⟨k,g⟩ | ⟨k,g⟩ | ⟨k,g⟩ | ⟨k,g⟩
 ·rw[k] at h0 ⊢;rw[show((1:Int)==1)=true from rfl,cond_true] at h0 ⊢;have h1:jT N a.gQ=some 0:=by
   cases hc:jT N a.gQ with
   | none=>rw[hc] at h0;cases h0
   | some r=>rw[hc] at h0;exact h0
  rw[meshE N hN _ g h1,if_pos rfl]
  rfl
 ·rw[k] at h0 ⊢;rw[show((2:Int)==1)=false from rfl,show((2:Int)==2)=true from rfl,cond_false,cond_true] at h0 ⊢;have h1:eE N a.gW=some 0:=by
   cases hc:eE N a.gW with
   | none=>rw[hc] at h0;cases h0
   | some r=>rw[hc] at h0;exact h0
  rw[texE N hN _ g h1,if_neg (by decide),if_pos rfl]
  rfl
 ·rw[k,show((3:Int)==1)=false from rfl,show((3:Int)==2)=false from rfl,show((3:Int)==3)=true from rfl,cond_false,cond_false,cond_true,if_neg (by decide),if_neg (by decide),if_pos rfl]
  obtain⟨g1,⟨g2,g3,g4⟩,g5⟩:=g;rw[show aQ 0 3=some () from rfl,aa,show a.gG.gE.toList[((0:Int).toNat)]? = some a.gG.gE[0] from tR _ 0 (by decide),aa,show aQ 1 3=some () from rfl,aa,show a.gG.gE.toList[((1:Int).toNat)]? = some a.gG.gE[1] from tR _ 1 (by decide),aa,show aQ 2 3=some () from rfl,aa,show a.gG.gE.toList[((2:Int).toNat)]? = some a.gG.gE[2] from tR _ 2 (by decide),aa,qZ g1.1 g1.2]
  have l:=lS 4 (by decide) (λi=>leB 2 ([a.gG.gE[0],a.gG.gE[1],a.gG.gE[2],a.gG.gA1].getD i 0)) (λs i=>s.length<=100+2*i) (mP N a.gG.gE[0] a.gG.gE[1] a.gG.gE[2] a) (by intro s i hi hs;simp[jB];omega) (λk s i hi hs=>by
   rw[mP,dt (by omega),cond_true,aIo (by simp;omega),aa]
   have hx:0<=[a.gG.gE[0],a.gG.gE[1],a.gG.gE[2],a.gG.gA1].getD i 0/\[a.gG.gE[0],a.gG.gE[1],a.gG.gE[2],a.gG.gA1].getD i 0 < 65536:=by
    have:i=0\/i=1\/i=2\/i=3:=by omega
    rcases this with rfl | rfl | rfl | rfl
    ·exact g2
    ·exact g3
    ·exact g4
    ·exact g5
   rw[fA hx.1 (by omega)]
   have e:=aJe N (by omega) s 2 (by decide) (by decide) _ hx.1 hx.2 (by omega)
   rw[show bO N s 2 _=_ from e,aa]) (λk s=>by rw[mP,df (by omega),cond_false]) (N:=N) (by omega) (s:=[a.gG.gC]) (by simp)
  rw[l,aa]
  unfold matB trB;rw[zI g1]
  rfl
 ·rw[k,show((4:Int)==1)=false from rfl,show((4:Int)==2)=false from rfl,show((4:Int)==3)=false from rfl,cond_false,cond_false,cond_false,if_neg (by decide),if_neg (by decide),if_neg (by decide)]
  obtain⟨g1,⟨g2,g3,g4⟩,g5,g6,g7⟩:=g;rw[show aQ 0 3=some () from rfl,aa,show a.gD.gE.toList[((0:Int).toNat)]? = some a.gD.gE[0] from tR _ 0 (by decide),aa,show aQ 1 3=some () from rfl,aa,show a.gD.gE.toList[((1:Int).toNat)]? = some a.gD.gE[1] from tR _ 1 (by decide),aa,show aQ 2 3=some () from rfl,aa,show a.gD.gE.toList[((2:Int).toNat)]? = some a.gD.gE[2] from tR _ 2 (by decide),aa,qZ g1.1 g1.2]
  rw[fA g2.1 (by omega),fA g3.1 (by omega),fA g4.1 (by omega)]
  have e:=put3 N (by omega) [a.gD.gC] 4 (by decide) (by decide) a.gD.gE[0] a.gD.gE[1] a.gD.gE[2] g2 g3 g4 (by simp)
  rw[show bO N [a.gD.gC] 4 [a.gD.gE[0],a.gD.gE[1],a.gD.gE[2]]=_ from e,aa]
  have l:=lS 3 (by decide) (λi=>ptB ([a.gD.gAt,a.gD.gU,a.gD.gV].getD i ⟨0,0,0⟩)) (λs i=>s.length<=100+6*i) (mS N a) (by intro s i hi hs;simp[yV];omega) (λk s i hi hs=>by
   rw[mS,dt (by omega),cond_true,dJ (by simp;omega),aa]
   have hx:ptG ([a.gD.gAt,a.gD.gU,a.gD.gV][i]'(by simp;omega)):=by
    have:i=0\/i=1\/i=2:=by omega
    rcases this with rfl | rfl | rfl
    ·exact g5
    ·exact g6
    ·exact g7
   rw[sgn3 N (by omega) s _ hx (by omega),aa]
   rw[ar,ag (by simp;omega)]
   rfl) (λk s=>by rw[mS,df (by omega),cond_false]) (N:=N) (by omega) (s:=[a.gD.gC]++(leB 4 a.gD.gE[0]++(leB 4 a.gD.gE[1]++leB 4 a.gD.gE[2]))) (by simp[jB])
  rw[l,aa]
  unfold ligB trB;rw[zI g1]
  show some (_++(bx 3).flatMap _)=_;rw[show(bx 3).flatMap (λi=>ptB ([a.gD.gAt,a.gD.gU,a.gD.gV].getD i ⟨0,0,0⟩))=ptB a.gD.gAt++(ptB a.gD.gU++ptB a.gD.gV) by
   simp[List.range_succ,cw]]
  simp[an]
def sN : aM:=aM.mk [] [] []
def xX : aH:=aH.mk 0 []
def yN : aF:=aF.mk 0 (#v[0,0,0]) 0
def zPt : aB:=aB.mk 0 0 0
def yA : aJ:=aJ.mk 0 (#v[0,0,0]) zPt zPt zPt
def zA(k:Int):aE:=aE.mk k sN xX yN yA
def qQ(a:aE):Prop:=(a.gC=1->a=aE.mk 1 a.gQ xX yN yA)/\(a.gC=2->a=aE.mk 2 sN a.gW yN yA)/\(a.gC=3->a=aE.mk 3 sN xX a.gG yA)/\(a.gC=4->a=aE.mk 4 sN xX yN a.gD)
theorem aOn(N:Nat)(a:aE)(h:aD3 a):T (tK N a) (λb=>aD3 b/\(b=zA a.gC->qQ a)/\(qQ a->aLg a->b=zA a.gC)):=by
 obtain⟨k,⟨v,u,t⟩,⟨s,x⟩,⟨mk,mc,mr⟩,⟨lk,lc,⟨ax,ay,az⟩,⟨ux,uy,uz⟩,⟨vx,vy,vz⟩⟩⟩:=a;obtain⟨h1,h2,h3,h4⟩:=h;unfold tK;dsimp only at h1 h2 h3 h4 ⊢;have hk:k=1\/k=2\/k=3\/k=4\/(k≠1/\k≠2/\k≠3/\k≠4):=by omega
 rcases hk with rfl | rfl | rfl | rfl | ⟨n1,n2,n3,n4⟩
 ·rw[show((1:Int)==1)=true from rfl,cond_true,aa]
  refine T.ret ⟨⟨by simp,by simp,by simp,h4⟩,λe=>?_,λe _=>?_⟩
  ·simp only[zA,sN,xX,yN,yA,zPt,aE.mk.injEq,aH.mk.injEq,aF.mk.injEq,aJ.mk.injEq,aB.mk.injEq] at e;refine⟨λ_=>?_,λh=>(by cases h),λh=>(by cases h),λh=>by cases h⟩
   simp only[zA,sN,xX,yN,yA,zPt,aE.mk.injEq,aH.mk.injEq,aF.mk.injEq,aJ.mk.injEq,aB.mk.injEq]
   simp[e]
  ·have e:=e.1 rfl;simp only[zA,sN,xX,yN,yA,zPt,aE.mk.injEq,aH.mk.injEq,aF.mk.injEq,aJ.mk.injEq,aB.mk.injEq] at e ⊢;simp[e]
 ·rw[show((2:Int)==1)=false from rfl,show((2:Int)==2)=true from rfl,cond_false,cond_true,aa]
  refine T.ret ⟨⟨h1,h2,h3,by simp⟩,λe=>?_,λe _=>?_⟩
  ·simp only[zA,sN,xX,yN,yA,zPt,aE.mk.injEq,aM.mk.injEq,aH.mk.injEq,aF.mk.injEq,aJ.mk.injEq,aB.mk.injEq] at e;refine⟨λh=>(by cases h),λ_=>?_,λh=>(by cases h),λh=>by cases h⟩
   simp only[zA,sN,xX,yN,yA,zPt,aE.mk.injEq,aM.mk.injEq,aH.mk.injEq,aF.mk.injEq,aJ.mk.injEq,aB.mk.injEq]
   simp[e]
  ·have e:=e.2.1 rfl;simp only[zA,sN,xX,yN,yA,zPt,aE.mk.injEq,aM.mk.injEq,aH.mk.injEq,aF.mk.injEq,aJ.mk.injEq,aB.mk.injEq] at e ⊢;simp[e]
 ·rw[show((3:Int)==1)=false from rfl,show((3:Int)==2)=false from rfl,show((3:Int)==3)=true from rfl,cond_false,cond_false,cond_true,aa]
  refine T.ret ⟨⟨h1,h2,h3,h4⟩,λe=>?_,λe _=>?_⟩
  ·simp only[zA,sN,xX,yN,yA,zPt,aE.mk.injEq,aM.mk.injEq,aH.mk.injEq,aF.mk.injEq,aJ.mk.injEq,aB.mk.injEq] at e;refine⟨λh=>(by cases h),λh=>(by cases h),λ_=>?_,λh=>by cases h⟩
   simp only[zA,sN,xX,yN,yA,zPt,aE.mk.injEq,aM.mk.injEq,aH.mk.injEq,aF.mk.injEq,aJ.mk.injEq,aB.mk.injEq]
   simp[e]
  ·have e:=e.2.2.1 rfl;simp only[zA,sN,xX,yN,yA,zPt,aE.mk.injEq,aM.mk.injEq,aH.mk.injEq,aF.mk.injEq,aJ.mk.injEq,aB.mk.injEq] at e ⊢;simp[e]
 ·rw[show((4:Int)==1)=false from rfl,show((4:Int)==2)=false from rfl,show((4:Int)==3)=false from rfl,show((4:Int)==4)=true from rfl,cond_false,cond_false,cond_false,cond_true,aa]
  refine T.ret ⟨⟨h1,h2,h3,h4⟩,λe=>?_,λe _=>?_⟩
  ·simp only[zA,sN,xX,yN,yA,zPt,aE.mk.injEq,aM.mk.injEq,aH.mk.injEq,aF.mk.injEq,aJ.mk.injEq,aB.mk.injEq] at e;refine⟨λh=>(by cases h),λh=>(by cases h),λh=>(by cases h),λ_=>?_⟩
   simp only[zA,sN,xX,yN,yA,zPt,aE.mk.injEq,aM.mk.injEq,aH.mk.injEq,aF.mk.injEq,aJ.mk.injEq,aB.mk.injEq]
   simp[e]
  ·have e:=e.2.2.2 rfl;simp only[zA,sN,xX,yN,yA,zPt,aE.mk.injEq,aM.mk.injEq,aH.mk.injEq,aF.mk.injEq,aJ.mk.injEq,aB.mk.injEq] at e ⊢;simp[e]
 ·rw[show(k==1)=false by simpa using n1,show(k==2)=false by simpa using n2,show(k==3)=false by simpa using n3,show(k==4)=false by simpa using n4,cond_false,cond_false,cond_false,cond_false,aa]
  refine T.ret ⟨⟨h1,h2,h3,h4⟩,λ_=>⟨λh=>absurd h n1,λh=>absurd h n2,λh=>absurd h n3,λh=>absurd h n4⟩,λ_ g=>?_⟩
  rcases g with ⟨g,_⟩ | ⟨g,_⟩ | ⟨g,_⟩ | ⟨g,_⟩
  ·exact absurd g n1
  ·exact absurd g n2
  ·exact absurd g n3
  ·exact absurd g n4
structure aDp(N:Nat)(a:aE):Prop where
 own0:mN N a=some 0
 own:aLg a
 clean:qQ a
 cap:((qS a).length:Int)<=vU a.gC
theorem aM7(N:Nat)(hN:1000 < N)(a:aE)(h:aD3 a):T (mD N a) (λc=>(c=0->aDp N a)/\(aDp N a->c=0)):=by
 unfold mD;obtain⟨r1,e1,h1⟩:=ownT N hN a h;rw[e1,aa]
 refine T.cond (λc=>T.ret ⟨λe=>?_,λg=>?_⟩) λc=>?_
 ·subst e;cases c
 ·have:=g.own0;rw[e1] at this;cases this;cases c
 ·have hr:r1=0:=by simpa using c
  subst hr;have hown:=h1 rfl;obtain⟨b,eb,hb1,hb2,hb3⟩:=aOn N a h;rw[eb,aa]
  obtain⟨r3,e3,h3⟩:=aO0 N hN b (zA a.gC) hb1;rw[show qK N b (aE.mk a.gC (aM.mk [] [] []) (aH.mk 0 []) (aF.mk 0 (#v[0,0,0]) 0) (aJ.mk 0 (#v[0,0,0]) (aB.mk 0 0 0) (aB.mk 0 0 0) (aB.mk 0 0 0)))=some r3 from e3,aa]
  refine T.cond (λc3=>T.ret ⟨λe=>(by cases e),λg=>?_⟩) λc3=>?_
  ·have:=h3.2 (hb3 g.clean g.own)
   rw[this] at c3;cases c3
  ·have hr3:r3=true:=by simpa using c3
   have hclean:=hb2 (h3.1 hr3)
   rw[assE N hN a hown e1,aa,capP,aa]
   refine T.letO λx hx=>?_;subst hx;refine T.cond (λc4=>T.ret ⟨λe=>(by cases e),λg=>?_⟩) λc4=>T.ret ⟨λ_=>⟨e1,hown,hclean,?_⟩,λ_=>rfl⟩
   ·have:=g.cap;have:=of_decide_eq_true c4;omega
   ·have:=of_decide_eq_false c4;omega
theorem aKG(N:Nat)(hN:1000 < N)(a:aE)(h:aD3 a):T (nZ N a) (λr=>(r.2=0/\aDp N a/\r.1=qS a)\/(r.2≠0/\r.1=[]/\¬aDp N a)):=by
 unfold nZ;refine T.bind (aM7 N hN a h) λc hc=>T.cond (λe=>T.ret ?_) λe=>?_
 ·have e:c≠0:=by simpa using e
  exact .inr ⟨e,rfl,λg=>e (hc.2 g)⟩
 ·have e:c=0:=by simpa using e
  have g:=hc.1 e;rw[assE N hN a g.own g.own0,aa]
  exact T.ret (.inl ⟨rfl,g,rfl⟩)
def RdQ{α:Type}(f:α->List Int)(P:α->Prop)(c:Nat)(b:List Int)(e:Int)(b':List Int)(e':Int)(x:α):Prop:=
 aX b'/\b'.length<=b.length/\((e'=0/\e=0/\b=f x++b'/\P x)\/(e'≠0/\(e=0->b.length < c)))
def ptR(p:aB):Prop:=(-32768<=p.gX/\p.gX < 32768)/\(-32768<=p.gY/\p.gY < 32768)/\(-32768<=p.gZ/\p.gZ < 32768)
theorem ptG.r{p:aB}(h:ptG p):ptR p:=by obtain⟨h1,h2,h3⟩:=h;exact⟨⟨by omega,by omega⟩,⟨by omega,by omega⟩,by omega,by omega⟩
structure MeshR(m:aM):Prop where
 nv:m.gF.length < 256
 nt:m.gI.length < 256
 nu:m.gJ.length=m.gF.length
 v:∀p∈m.gF,ptR p
 u:∀p∈m.gJ,uvG p
 t:∀p∈m.gI,trG 256 p
theorem aGi.r{m:aM}(g:aGi m):MeshR m:=⟨by have:=g.nv;omega,by have:=g.nt;omega,g.nu,λp h=>(g.v p h).r,g.u,g.t⟩
structure TexR(t:aH):Prop where
 side:0<=t.gN/\t.gN < 256
 n:(t.gK.length:Int)=t.gN*t.gN
 t:∀p∈t.gK,trG 256 p
theorem aLF.r{t:aH}(g:aLF t):TexR t:=⟨⟨by have:=g.side;omega,by have:=g.side;omega⟩,g.n,g.t⟩
def LigR(l:aJ):Prop:=(0<=l.gC/\l.gC < 256)/\trG 4294967296 l.gE/\ptR l.gAt/\ptR l.gU/\ptR l.gV
theorem aLt.r{l:aJ}(g:aLt l):LigR l:=⟨g.kind,g.color,g.at_.r,g.u.r,g.v.r⟩
set_option maxHeartbeats 2000000
theorem RdQ.seq{α β:Type}{f:α->List Int}{P:α->Prop}{c:Nat}{g:β->List Int}{Q:β->Prop}{d:Nat}{b b1 b2:List Int}{e e1 e2:Int}{x:α}{y:β}(hf:∀x,(f x).length=c)(h:RdQ f P c b e b1 e1 x)(k:RdQ g Q d b1 e1 b2 e2 y):RdQ (λp:α×β=>f p.1++g p.2) (λp=>P p.1/\Q p.2) (c+d) b e b2 e2 (x,y):=by
 obtain⟨h1,h2,h3⟩:=h;obtain⟨k1,k2,k3⟩:=k;refine⟨k1,by omega,?_⟩
 rcases k3 with ⟨q1,q2,q3,q4⟩ | ⟨q1,q2⟩
 ·subst q2;rcases h3 with ⟨_,i2,i3,i4⟩ | ⟨i1,_⟩
  ·exact .inl ⟨q1,i2,by rw[i3,q3,an],i4,q4⟩
  ·exact absurd rfl i1
 ·refine .inr ⟨q1,λhe=>?_⟩
  rcases h3 with ⟨i1,_,i3,_⟩ | ⟨_,i1⟩
  ·have hl:=congrArg kz i3;rw[aj,hf] at hl;have:=q2 i1;omega
  ·have:=i1 he;omega
set_option maxHeartbeats 1000000
def uA(base:Vector Int 8)(m:aD):List Int:=[85,77,66,49]++(base.toList++aD7 m)
theorem sB(base:Vector Int 8)(m:aD):(uA base m).length=47:=by unfold uA;simp[aEw]
def vA(N:Nat)(key:Vector Int 32)(base:Vector Int 8)(m:aD):List Int:=zQ N key (aGo N base 0) (uA base m) []
theorem yP(N:Nat)(hN:70000<=N)(key:Vector Int 32)(base:Vector Int 8)(m:aD):(vA N key base m).length=16:=by
 unfold vA;rw[aAp N hN key _ _ (by simp)];rfl
theorem aDf(N:Nat)(hN:70000<=N)(key:Vector Int 32)(base:Vector Int 8)(m:aD):aX (vA N key base m):=by
 unfold vA;exact aDu N hN key _ _ (by rw[sB];omega) (by simp)
def aC8(i n:Nat):List Int:=leB 2 (i:Int)++leB 2 (n:Int)
theorem rN(i n:Nat):(aC8 i n).length=4:=by unfold aC8;simp[jB]
theorem aEZ(i n:Nat):aX (aC8 i n):=(rV _ _).app (rV _ _)
def aLs(N:Nat)(key:Vector Int 32)(base:Vector Int 8)(mark:List Int)(i:Nat)(p:List Int):List Int:=zQ N key (aGo N base ((i+1:Nat):Int)) (aC8 i p.length++mark) p
def aC0(N:Nat)(key:Vector Int 32)(base:Vector Int 8)(mark:List Int)(i:Nat)(p:List Int):List Int:=aC8 i p.length++aLs N key base mark i p
theorem aE2(N:Nat)(hN:70000<=N)(key:Vector Int 32)(base:Vector Int 8)(mark:List Int)(i:Nat){p:List Int}(hp:p.length<=65536):(aC0 N key base mark i p).length=p.length+20:=by
 unfold aC0 aLs;rw[aj,rN,aAp N hN key _ _ hp];omega
def aBQ(N:Nat)(key:Vector Int 32)(base:Vector Int 8)(mark:List Int):Nat->Nat->List Int->List Int
 | 0,_,_=>[]
 | c+1,i,l=>aC0 N key base mark i (l.take 256)++aBQ N key base mark c (i+1) (l.drop 256)
def nCh(n:Nat):Nat:=(n+255) / 256
theorem aL8(n:Nat):qH (n:Int)=(nCh n:Int):=by unfold qH nCh;split <;> omega
theorem aQL(N:Nat)(hN:70000<=N)(key:Vector Int 32)(base:Vector Int 8)(s mark q:List Int)(i:Nat)(p:List Int)(hm:mark.length=16)(hi:i < 1000)(hp:p.length<=256)(hs:s.length<=100000) :
  pS N s key base mark q (i:Int) p=some (s++aC0 N key base mark i p):=by
 unfold pS;have e:=put2 N (by omega) [] 2 (by decide) (by decide) (i:Int) (p.length:Int) ⟨by omega,by rw[show cI 2=65536 from rfl];omega⟩ ⟨by omega,by rw[show cI 2=65536 from rfl];omega⟩ (by simp)
 rw[fA (x:=(p.length:Int)) (by omega) (by omega),aC,fA (x:=(i:Int)) (by omega) (by omega),show bO N [] 2 [(i:Int),(p.length:Int)]=_ from e,aa,dC (by omega),aMy N (by omega),aa]
 dsimp only;rw[eg,show leB 2 (i:Int)++leB 2 (p.length:Int)=aC8 i p.length from rfl,aM0 N [aC8 i p.length,mark] (by simp) (by show 2 < N;omega) (by intro l hl;simp only[ed,fe,or_false] at hl;rcases hl with rfl | rfl;rw[rN];omega;omega),aa]
 have e2:[aC8 i p.length,mark].flatten=aC8 i p.length++mark:=by simp
 rw[e2,aOy N hN key _ _ p (by rw[aj,rN];omega) (by omega),aa,rO (by omega) (by rw[rN];omega),aa]
 dsimp only;rw[rO (by rw[aj,rN];omega) (by rw[aAp N hN key _ _ (by omega)];omega),aa,an]
 rfl
theorem aLr{α:Type}(l:List α):l.take (min l.length 256)=l.take 256:=by
 by_cases h:l.length<=256
 ·rw[Nat.min_eq_left h,ib,au h]
 ·rw[Nat.min_eq_right (by omega)]
theorem aMK{α:Type}(l:List α):l.drop (min l.length 256)=l.drop 256:=by
 by_cases h:l.length<=256
 ·rw[Nat.min_eq_left h,dq,List.drop_eq_nil_of_le h]
 ·rw[Nat.min_eq_right (by omega)]
theorem aPM(N:Nat)(hN:70000<=N)(key:Vector Int 32)(base:Vector Int 8)(mark:List Int)(hm:mark.length=16):∀(k:Nat) (s l:List Int) (i:Nat),nCh l.length < k->i+nCh l.length<=100->s.length+300*nCh l.length<=100000 ->
  cD N key base mark k s l (i:Int)=some (s++aBQ N key base mark (nCh l.length) i l,[])
 | 0,_,_,_,h,_,_=>by omega
 | k+1,s,l,i,hk,hi,hs=>by
  rw[cD,aC]
  by_cases h:l.length=0
  ·obtain rfl:=List.eq_nil_of_length_eq_zero h;rw[df (by simp),cond_false,show nCh ([]:List Int).length=0 from rfl,aBQ,fc]
  ·have hn:nCh l.length=nCh (l.drop 256).length+1:=by unfold nCh;rw[bw];omega
   rw[dt (by omega),cond_true,show(256:Int)=((256:Nat):Int) from rfl,aCU,aC,aNJ (by omega),aa,aLr,aQL N hN key base s mark l i _ hm (by omega) (by simp;omega) (by omega),aa,aKy (by omega),aa,aMK,dC (by omega)]
   rw[aPM N hN key base mark hm k _ (l.drop 256) (i+1) (by omega) (by omega) (by rw[aj,aE2 N hN key base mark i (by simp;omega),bf];omega)]
   rw[hn,aBQ,an]
def aAo(N:Nat)(key:Vector Int 32)(base:Vector Int 8)(m:aD)(p:List Int):List Int:=
 uA base m++(vA N key base m++aBQ N key base (vA N key base m) (nCh p.length) 0 p)
def tE(m:aD)(n:Nat):aD:=aD.mk m.gId m.gC m.gA2 m.gR m.gT m.gTo (n:Int) (nCh n:Int)
theorem aNu(k:Int):vU k<=2048:=by unfold vU;split;decide;split;decide;split;decide;split <;> decide
theorem aCc{m:aD}(t:aGJ m){n:Nat}(h:n<=2048):aGJ (tE m n):=
 ⟨t.id,t.kind,t.label,t.masks,t.fr,t.to,⟨by show _<=(n:Int);omega,by show(n:Int)<=_;omega⟩,⟨by show _<=(nCh n:Int);omega,by show(nCh n:Int)<=_;unfold nCh;omega⟩⟩
theorem aDp.len{N:Nat}{a:aE}(g:aDp N a):(qS a).length<=2048:=by have:=g.cap;have:=aNu a.gC;omega
theorem aPH(N:Nat)(hN:70000<=N)(key:Vector Int 32)(base:Vector Int 8)(m:aD)(a:aE)(t:aGJ m)(hA:aD3 a) :
  T (nJ N key base m a) (λr=>(r.2=0/\aDp N a/\m.gC=a.gC/\rG (tE m (qS a).length)=0/\r.1=aAo N key base (tE m (qS a).length) (qS a))\/(r.2≠0/\r.1=[]/\¬(aDp N a/\m.gC=a.gC/\rG (tE m (qS a).length)=0))):=by
 unfold nJ;obtain⟨r1,e1,h1⟩:=aKG N (by omega) a hA;rw[e1,aa]
 rcases h1 with ⟨c,g,h⟩ | ⟨c,_,h⟩
 rotate_left
 ·rw[show(r1.2 != 0)=true by simpa using c,cond_true]
  exact T.ret (.inr ⟨c,rfl,λq=>h q.1⟩)
 ·rw[c,show((0:Int) != 0)=false from rfl,cond_false,h]
  have hl:=g.len;by_cases hk:m.gC=a.gC
  rotate_left
  ·rw[show(m.gC != a.gC)=true by simpa using hk,cond_true]
   exact T.ret (.inr ⟨by decide,rfl,λq=>hk q.2.1⟩)
  rw[show(m.gC != a.gC)=false by simpa using hk,cond_false,aHa N ⟨by omega,by omega⟩,aa,aL8]
  have e3:=aOq N (by omega) (tE m (qS a).length) (aCc t hl)
  rw[show kK N (aD.mk m.gId m.gC m.gA2 m.gR m.gT m.gTo ((qS a).length:Int) (nCh (qS a).length:Int))=_ from e3,aa]
  by_cases hc:rG (tE m (qS a).length)=0
  rotate_left
  ·rw[if_neg hc]
   dsimp only;rw[show(rG (tE m (qS a).length) != 0)=true by simpa using hc,cond_true]
   exact T.ret (.inr ⟨hc,rfl,λq=>hc q.2.2⟩)
  rw[if_pos hc]
  dsimp only;rw[show((0:Int) != 0)=false from rfl,cond_false,show eT base.toList 0 8=some base.toList from aJG (m:=8) _,aa]
  rw[aM0 N [[85,77,66,49],base.toList,aD7 (tE m (qS a).length)] (by simp) (by show 3 < N;omega) (by intro l hl;simp only[ed,fe,or_false] at hl;rcases hl with rfl | rfl | rfl;simp;simp;rw[aEw];omega),aa]
  rw[show([[85,77,66,49],base.toList,aD7 (tE m (qS a).length)]:List (List Int)).flatten=uA base (tE m (qS a).length) by unfold uA;simp,aMy N (by omega),aa]
  rw[aOy N hN key _ _ [] (by rw[sB];omega) (by simp),aa]
  dsimp only;rw[show zQ N key (aGo N base 0) (uA base (tE m (qS a).length)) []=vA N key base (tE m (qS a).length) from rfl]
  have hm:=yP N hN key base (tE m (qS a).length)
  rw[rO (by rw[sB];omega) (by omega),aa]
  rw[show sR N (qS a)=some () from rfl,aa]
  unfold eD;have hn:nCh (qS a).length<=8:=by unfold nCh;omega
  have e:=aPM N hN key base (vA N key base (tE m (qS a).length)) hm N (uA base (tE m (qS a).length)++vA N key base (tE m (qS a).length)) (qS a) 0 (by omega) (by omega) (by rw[aj,sB,hm];omega)
  rw[show((0:Nat):Int)=0 from rfl] at e;rw[e,aa,aa]
  refine T.ret (.inl ⟨rfl,g,hk,hc,?_⟩)
  unfold aAo;rw[an]
theorem toB'{x:Int}(h:isB x):((UInt8.ofNat x.toNat).toNat:Int)=x:=by
 obtain⟨h0,h1⟩:=h;have e:(UInt8.ofNat x.toNat).toNat=x.toNat % 256:=UInt8.toNat_ofNat';rw[e];omega
theorem aH0 : ∀{a b:List Int},aX a->aX b->(a.map λx=>UInt8.ofNat x.toNat)=(b.map λx=>UInt8.ofNat x.toNat)->a=b
 | [],[],_,_,_=>rfl
 | [],b :: l,_,_,h=>by simp at h
 | a :: l,[],_,_,h=>by simp at h
 | a :: l,b :: r,ha,hb,h=>by
  simp only[List.map_cons,List.cons.injEq] at h;have h1:=congrArg (λu:UInt8=>(u.toNat:Int)) h.1;rw[toB' (ha a (by simp)),toB' (hb b (by simp))] at h1;rw[h1,aH0 (λx hx=>ha x (by simp[hx])) (λx hx=>hb x (by simp[hx])) h.2]
theorem aPZ(N:Nat){a b:List Int}(ha:aX a)(hb:aX b):pH N a b=some (decide (a=b)):=by
 unfold pH;rw[aC]
 congr 1;rw[ByteArray.toList_eq,ByteArray.toList_eq,Bool.eq_iff_iff,beq_iff_eq,decide_eq_true_eq]
 unfold aGr;dsimp only;exact⟨aH0 ha hb,λh=>by rw[h]⟩
theorem aDX{base:Vector Int 8}{m:aD}(hb:jN base)(r:aLf m):aX (uA base m):=by
 unfold uA;refine aX.app ?_ (hb.app (aJl r.masks))
 intro x hx;simp only[ed,fe,or_false] at hx;rcases hx with rfl | rfl | rfl | rfl <;> exact⟨by decide,by decide⟩
def aG2(N:Nat)(key:Vector Int 32)(base:Vector Int 8)(m:aD)(b:List Int):Prop:=
 jN base/\aLf m/\rG m=0/\b=uA base m++(vA N key base m++b.drop 63)
theorem aG2.len{N:Nat}(hN:70000<=N){key:Vector Int 32}{base:Vector Int 8}{m:aD}{b:List Int}(h:aG2 N key base m b):63<=b.length:=by
 have:=congrArg kz h.2.2.2;rw[aj,aj,sB,yP N hN] at this;omega
theorem aG2.of{N:Nat}(hN:70000<=N)(key:Vector Int 32){base:Vector Int 8}{m:aD}(hb:jN base)(r:aLf m)(h0:rG m=0)(x:List Int):aG2 N key base m (uA base m++(vA N key base m++x))/\(uA base m++(vA N key base m++x)).drop 63=x:=by
 have e:(uA base m++(vA N key base m++x)).drop 63=x:=by
  rw[<- an,List.drop_left' (by rw[aj,sB,yP N hN])]
 exact⟨⟨hb,r,h0,by rw[e]⟩,e⟩
theorem fewP(N:Nat)(a:aE):T (pW N a) aD3:=by
 unfold pW sA;simp only[aC]
 rw[show(70:Int)=((70:Nat):Int) from rfl,show(260:Int)=((260:Nat):Int) from rfl,aCX,aa,aCX,aa,aCX,aa,aa,aCX,aa]
 exact T.ret ⟨by dsimp only;rw[bf];omega,by dsimp only;rw[bf];omega,by dsimp only;rw[bf];omega,by dsimp only;rw[bf];omega⟩
theorem aDy(N:Nat)(hN:70000<=N)(key:Vector Int 32)(base:Vector Int 8)(mark:List Int)(hm:mark.length=16):∀(c i:Nat) (l:List Int),aX (aBQ N key base mark c i l)
 | 0,_,_=>aGP
 | c+1,i,l=>by
  rw[aBQ]
  refine aX.app ?_ (aDy N hN key base mark hm c (i+1) _)
  unfold aC0 aLs;exact(aEZ _ _).app (aDu N hN key _ _ (by rw[aj,rN];omega) (by simp;omega))
theorem aGD{N:Nat}(hN:70000<=N)(key:Vector Int 32){base:Vector Int 8}(hb:jN base){m:aD}(r:aLf m)(p:List Int):aX (aAo N key base m p):=by
 unfold aAo;exact(aDX hb r).app ((aDf N hN key base m).app (aDy N hN key base _ (yP N hN key base m) _ _ _))
end Go.UK
