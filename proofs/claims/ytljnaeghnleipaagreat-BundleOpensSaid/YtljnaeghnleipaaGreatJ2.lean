/- A part of the proof: what the functions of the program compute. -/
import Derived.Test.YtljnaeghnleipaaGreatJ1
import Derived.Test.YtljnaeghnleipaaGreatAJ2
open BitVec renaming ofInt→ar,toNat_ofInt→ko,toNat_or→mg
open Int renaming emod_lt_of_pos→j9,emod_nonneg→jk,eq_ofNat_of_zero_le→bp,le_of_lt→ig,mul_ediv_add_emod→kq,mul_le_mul_of_nonneg_right→jb,mul_nonneg→lp,pow_pos→lj,toNat_natCast→cw
open List renaming drop_eq_getElem_cons→co,drop_length→gf,drop_zero→dw,flatMap_cons→dp,flatten_cons→ji,getD_eq_getElem?_getD→bf,getElem?_eq_getElem→ag,getElem_mem→ci,length_append→ai,length_cons→cx,mem_map→eu,mem_of_mem_take→ck,nil_append→fq,take_of_length_le→bj,take_succ→kp
open Option renaming bind→ae,bind_some→aa
namespace Go.UK
open Go Go.Proofs
set_option maxRecDepth 20000
set_option maxHeartbeats 2000000
set_option linter.all false
theorem aQp(x:Int):U32 x=x % 4294967296:=IntKind.wrap_u32 x
theorem aAP(x:Int):U8 x=x % 256:=IntKind.wrap_u8 x
theorem aAD{x:Int}(h:0<=x)(h':x < 4294967296):U32 x=x:=by rw[aQp];omega
theorem rM{x:Int}(h:0<=x)(h':x < 256):U8 x=x:=by rw[aAP];omega
theorem aL0(k:IntKind)(a b:Int):bor k a b=bor k b a:=by unfold bor;rw[BitVec.or_comm]
def isW(x:Int):Prop:=0<=x/\x < 4294967296
def isB(x:Int):Prop:=0<=x/\x < 256
theorem isB.w{x:Int}(h:isB x):isW x:=⟨h.1,by have:=h.2;omega⟩
theorem aMN(x:Int):isB (U8 x):=by rw[aAP];exact⟨by omega,by omega⟩
theorem aIj(n:Nat)(h:n < 4294967296):(ar 32 (n:Int)).toNat=n:=by
 rw[ko];simp;omega
theorem aP1{a b:Int}(ha:isW a)(hb:isW b):bor .u32 a b=((a.toNat ||| b.toNat:Nat):Int):=by
 obtain⟨ha,ha'⟩:=ha;obtain⟨hb,hb'⟩:=hb;obtain⟨A,rfl⟩:=bp ha;obtain⟨B,rfl⟩:=bp hb;unfold bor;have h:A ||| B < 2 ^ 32:=Nat.or_lt_two_pow (by omega) (by omega)
 rw[show(ar IntKind.u32.bits (A:Int) ||| ar IntKind.u32.bits (B:Int)).toNat=A ||| B by
  rw[mg];congr 1 <;> exact aIj _ (by omega),IntKind.wrap_u32]
 simp only[cw]
 omega
theorem aMD{a b:Int}(m:Nat)(ha:isW a)(hb:0<=b)(hb':b < (2 ^ m:Nat))(hm:m<=32)(hd:(2 ^ m:Nat) ∣ a.toNat):bor .u32 a b=a+b:=by
 have h32:(2 ^ m:Nat)<=2 ^ 32:=Nat.pow_le_pow_right (by decide) hm;rw[aP1 ha ⟨hb,by omega⟩]
 obtain⟨A,rfl⟩:=bp ha.1;obtain⟨B,rfl⟩:=bp hb;obtain⟨C,hC⟩:=hd;simp only[cw] at hC ⊢;have:A ||| B=A+B:=by
  rw[hC,Nat.mul_comm,<- Nat.shiftLeft_eq,Nat.shiftLeft_add_eq_or_of_lt (by omega)]
 rw[this]
 omega
theorem aPE(a b:Int)(m:Nat)(hb:b=m)(hm:m<=32):shl .u32 a b=(a*(2:Int) ^ m) % 4294967296:=by
 subst hb;unfold shl;rw[show min (m:Int).toNat IntKind.u32.bits=m by simp[IntKind.bits];omega]
 exact IntKind.wrap_u32 _
theorem aNK{a b:Int}:isB (uR .u8 a b):=aMN _
theorem uU{α:Type}{m:Nat}(v:Vector α m)(i:Nat)(h:i < m):v.toList[i]? = some v[i]:=by simp[h]
theorem vY{m:Nat}(v:Vector Int m)(i:Nat)(h:i < m):v.toList.getD i 0=v[i]:=by rw[bf,uU v i h];rfl
theorem pH{l:List Int}{i:Nat}(h:i < l.length):l[i]? = some (l.getD i 0):=by rw[bf,ag h];rfl
theorem aEK{l:List Int}{i:Nat}(h:i < l.length):idx l (i:Int)=some (l.getD i 0):=by rw[mK,pH h]
def aR(m:List Int):Prop:=∀x∈m,isB x
theorem aR.app{a b:List Int}(ha:aR a)(hb:aR b):aR (a++b):=λx hx=>by
 rcases List.mem_append.1 hx with h | h
 ·exact ha x h
 ·exact hb x h
theorem aR.getD{m:List Int}(h:aR m)(i:Nat):isB (m.getD i 0):=by
 rw[bf]
 by_cases hi:i < m.length
 ·rw[ag hi];exact h _ (ci hi)
 ·rw[List.getElem?_eq_none (by omega)];exact⟨by simp,by simp⟩
theorem aR.take{m:List Int}(h:aR m)(n:Nat):aR (m.take n):=λx hx=>h x (ck hx)
theorem aR.drop{m:List Int}(h:aR m)(n:Nat):aR (m.drop n):=λx hx=>h x (List.mem_of_mem_drop hx)
theorem aDj{α:Type}{l:List α}{n:Nat}(h:n<=l.length):eD l (n:Int) (l.length:Int)=some (l.drop n):=by
 rw[qM (by omega) (by omega) (by omega)];simp
theorem zJ{l r:List Int}(h:l.length<=1000000)(h':r.length<=1000000):nR 1 l r=some (l++r):=hJ (by omega)
def leB(w:Nat)(x:Int):List Int:=(List.range w).map (λi=>U8 (shr .u64 x ((8*i:Nat):Int)))
theorem bN(w:Nat)(x:Int):(leB w x).length=w:=by unfold leB;simp
theorem aD5(w:Nat)(x:Int):aR (leB w x):=by
 intro y hy;unfold leB at hy;obtain⟨i,_,rfl⟩:=eu.1 hy;exact aMN _
def bO(w:Nat):Int:=256 ^ w
theorem aIJ(w:Nat):(2:Int) ^ (8*w)=bO w:=by unfold bO;rw[Int.pow_mul];rfl
theorem aHp(x:Int)(i:Nat)(h:i<=8):shr .u64 x ((8*i:Nat):Int)=x / bO i:=by
 rw[wF .u64 x _ (8*i) rfl (by show 8*i<=64;omega),aIJ]
theorem uZ(w:Nat):0 < bO w:=lj (by decide)
theorem aCS(w:Nat):bO (w+1)=bO w*256:=Int.pow_succ _ _
theorem div_s{x:Int}(i:Nat):x / bO (i+1)=x / bO i / 256:=by
 rw[aCS,Int.ediv_ediv_of_nonneg (ig (uZ i))]
theorem aDI{α β ρ:Type}(l:List α)(hl:l.length < 9223372036854775807)(bad:α->Bool)(f:α->List β)(r:ρ)(I:List β->Nat->Prop)(F:Nat->List β->Int->Option (Sum (List β) ρ))
  (hI:∀s i (h:i < l.length),I s i->I (s++f l[i]) (i+1)) (h1:∀k s i (h:i < l.length),I s i->F (k+1) s (i:Int)=cond (bad l[i]) (some (.inr r)) (F k (s++f l[i]) (I64 ((i:Int)+1)))) (h2:∀k s,F (k+1) s (l.length:Int)=some (.inl s)) :
  ∀(k i:Nat) (s:List β),I s i->i<=l.length->l.length - i < k->F k s (i:Int)=some (cond ((l.drop i).any bad) (.inr r) (.inl (s++(l.drop i).flatMap f)))
 | 0,i,_,_,_,h=>by omega
 | k+1,i,s,hs,hi,hk=>by
  by_cases h:i < l.length
  ·rw[h1 k s i h hs,co h,List.any_cons]
   cases hb:bad l[i] with
   | true=>rfl
   | false=>
    rw[cond_false,cV (by omega),aDI l hl bad f r I F hI h1 h2 k (i+1) _ (hI s i h hs) (by omega) (by omega),Bool.false_or,dp,List.append_assoc]
  ·obtain rfl:i=l.length:=by omega
   rw[h2,gf];simp
def big(w:Nat)(x:Int):Bool:=decide (bO w<=x)
def aII(b:List Int)(w:Nat)(ns:List Int):List Int×Int:=cond (ns.any (big w)) ([],3) (b++ns.flatMap (leB w),0)
def u64L(ns:List Int):Prop:=∀x∈ns,0<=x/\x < 18446744073709551616
theorem putL2(N w:Nat)(hw:w<=8)(x:Int)(s:List Int)(hs:s.length<=100000000000000)(hN:8 < N):pW N (w:Int) x N s 0=some (s++leB w x):=by
 have:=pF w (by omega) (λi=>[U8 (shr .u64 x ((8*i:Nat):Int))]) (λs i=>s.length<=100000000000000+i) (pW N (w:Int) x) (by intro s i hi hs;simp;omega) (λk s i hi hs=>by
  have f:I64 (8*(i:Int))=((8*i:Nat):Int):=by rw[aU (by omega) (by omega)];omega
  rw[pW,dt (by omega),cond_true,f,lX .u64 (by omega),aa,hJ (by simp;omega),aa]) (λk s=>by rw[pW,df (by omega),cond_false]) (N:=N) (by omega) (s:=s) (by simpa using hs)
 rw[this,aFq]
 rfl
theorem aN1(N:Nat)(l:List Int)(h:l.length<=100000000000000):hZ N l=some l:=by
 unfold hZ;rw[hJ (by simp;omega),aa,fq]
theorem big8{x:Int}(h:x < 18446744073709551616):big 8 x=false:=by
 unfold big;rw[show bO 8=18446744073709551616 from rfl]
 exact df (by omega)
theorem aNJ(N:Nat)(b:List Int)(w:Nat)(hw0:1<=w)(hw:w<=8)(ns:List Int)(hns:u64L ns)(hb:b.length<=10000000000000)(hl:ns.length<=1000000000000)(hN:8 < N)(hlN:ns.length < N):cM N b (w:Int) ns=some (aII b w ns):=by
 unfold cM;rw[df (show ¬(w:Int) < 1 by omega),df (show ¬(w:Int) > 8 by omega),cond_false,aC,cond_false,aN1 N b (by omega),aa]
 have:=aDI ns (by omega) (big w) (leB w) (([],3):List Int×Int) (λs i=>s.length<=10000000000000+8*i) (λk s i=>rH N ns (w:Int) k s i) (by intro s i h hs;simp[bN];omega) (λk s i h hs=>by
  have hx:=hns _ (ci h)
  have f:I64 (8*(w:Int))=((8*w:Nat):Int):=by rw[aU (by omega) (by omega)];omega
  rw[rH,aC,dt (by omega),cond_true,dA h,aa]
  have e:(cond (decide ((w:Int) < 8)) (ae (zX .u64 ns[i] (I64 (8*(w:Int)))) λx9=>some (decide (x9 > 0))) (some false))=some (big w ns[i]):=by
   by_cases h8:w < 8
   ·rw[dt (by omega),cond_true,f,lX .u64 (by omega),aa,aHp _ _ (by omega)]
    congr 1;unfold big;have hp:=uZ w;by_cases hb:bO w<=ns[i]
    ·have:1<=ns[i] / bO w:=(Int.le_ediv_iff_mul_le hp).2 (by omega)
     rw[dt hb,dt (by omega)]
    ·have:ns[i] / bO w < 1:=Int.ediv_lt_of_lt_mul hp (by omega)
     rw[df hb,df (by omega)]
   ·obtain rfl:w=8:=by omega
    rw[df (by omega),cond_false,big8 hx.2]
  rw[e,aa]
  cases hbg:big w ns[i] with
  | true=>rfl
  | false=>rw[cond_false,cond_false,putL2 N w hw _ _ (by omega) hN,aa]) (λk s=>by rw[rH,aC,df (by omega),cond_false]) N 0 b (by omega) (by omega) (by omega)
 rw[show((0:Nat):Int)=0 from rfl,dw] at this;rw[this,aa]
 unfold aII;cases ns.any (big w) <;> rfl
def aDD(w:Nat)(x:Int):Bool:=decide (x < -(bO w / 2))||decide (bO w / 2<=x)
def aNW(ns:List Int):Prop:=∀x∈ns,aCk x
def aON(b:List Int)(w:Nat)(ns:List Int):List Int×Int:=cond (ns.any (aDD w)) ([],3) (aII b w (ns.map (λx=>x % bO w)))
theorem w8{w:Nat}(h0:1<=w)(h:w<=8):w=1\/w=2\/w=3\/w=4\/w=5\/w=6\/w=7\/w=8:=by omega
theorem aL1(x:Int)(m:Nat)(h:m<=64):shl .i64 x (m:Int)=I64 (x*(2:Int) ^ m):=by
 unfold shl;rw[show min (m:Int).toNat IntKind.i64.bits=m by simp[IntKind.bits];omega]
theorem sgnA{w:Nat}(h0:1<=w)(h:w<=8){x:Int}(hx:aCk x):(shr .i64 (shl .i64 x ((64 - 8*w:Nat):Int)) ((64 - 8*w:Nat):Int) != x)=aDD w x:=by
 obtain⟨x0,x1⟩:=hx;rw[wF .i64 _ _ (64 - 8*w) rfl (by show 64 - 8*w<=64;omega),aL1 _ _ (by omega),aK7]
 have key:∀b:Bool,(b=true↔((x*(2:Int) ^ (64 - 8*w)+9223372036854775808) % 18446744073709551616 - 9223372036854775808) / (2:Int) ^ (64 - 8*w)≠x)->(((x*(2:Int) ^ (64 - 8*w)+9223372036854775808) % 18446744073709551616 - 9223372036854775808) / (2:Int) ^ (64 - 8*w) != x)=b:=by
  intro b hb;cases b with
  | true=>simpa using hb
  | false=>simpa using hb
 apply key;unfold aDD;rw[Bool.or_eq_true,decide_eq_true_eq,decide_eq_true_eq]
 rcases w8 h0 h with rfl | rfl | rfl | rfl | rfl | rfl | rfl | rfl
 ·rw[show(2:Int) ^ (64 - 8*1)=72057594037927936 from rfl,show bO 1 / 2=128 from rfl];omega
 ·rw[show(2:Int) ^ (64 - 8*2)=281474976710656 from rfl,show bO 2 / 2=32768 from rfl];omega
 ·rw[show(2:Int) ^ (64 - 8*3)=1099511627776 from rfl,show bO 3 / 2=8388608 from rfl];omega
 ·rw[show(2:Int) ^ (64 - 8*4)=4294967296 from rfl,show bO 4 / 2=2147483648 from rfl];omega
 ·rw[show(2:Int) ^ (64 - 8*5)=16777216 from rfl,show bO 5 / 2=549755813888 from rfl];omega
 ·rw[show(2:Int) ^ (64 - 8*6)=65536 from rfl,show bO 6 / 2=140737488355328 from rfl];omega
 ·rw[show(2:Int) ^ (64 - 8*7)=256 from rfl,show bO 7 / 2=36028797018963968 from rfl];omega
 ·rw[show(2:Int) ^ (64 - 8*8)=1 from rfl,show bO 8 / 2=9223372036854775808 from rfl];omega
theorem sgnB{w:Nat}(h0:1<=w)(h:w<=8){x:Int}(hx:aCk x):shr .u64 (shl .u64 (U64 x) ((64 - 8*w:Nat):Int)) ((64 - 8*w:Nat):Int)=x % bO w:=by
 obtain⟨x0,x1⟩:=hx;rw[wF .u64 _ _ (64 - 8*w) rfl (by show 64 - 8*w<=64;omega),aLK _ _ (64 - 8*w) rfl (by omega),aI4]
 rcases w8 h0 h with rfl | rfl | rfl | rfl | rfl | rfl | rfl | rfl
 ·rw[show(2:Int) ^ (64 - 8*1)=72057594037927936 from rfl,show bO 1=256 from rfl];omega
 ·rw[show(2:Int) ^ (64 - 8*2)=281474976710656 from rfl,show bO 2=65536 from rfl];omega
 ·rw[show(2:Int) ^ (64 - 8*3)=1099511627776 from rfl,show bO 3=16777216 from rfl];omega
 ·rw[show(2:Int) ^ (64 - 8*4)=4294967296 from rfl,show bO 4=4294967296 from rfl];omega
 ·rw[show(2:Int) ^ (64 - 8*5)=16777216 from rfl,show bO 5=1099511627776 from rfl];omega
 ·rw[show(2:Int) ^ (64 - 8*6)=65536 from rfl,show bO 6=281474976710656 from rfl];omega
 ·rw[show(2:Int) ^ (64 - 8*7)=256 from rfl,show bO 7=72057594037927936 from rfl];omega
 ·rw[show(2:Int) ^ (64 - 8*8)=1 from rfl,show bO 8=18446744073709551616 from rfl];omega
theorem modU(w:Nat)(h:w<=8)(x:Int):0<=x % bO w/\x % bO w < 18446744073709551616:=by
 have hp:=uZ w;have h1:=jk x (Int.ne_of_gt hp)
 have h2:=j9 x hp;have h3:bO w<=18446744073709551616:=by
  have:∀i:Fin 9,bO i.val<=18446744073709551616:=by decide
  exact this ⟨w,by omega⟩
 omega
theorem sgnP(N:Nat)(b:List Int)(w:Nat)(hw0:1<=w)(hw:w<=8)(ns:List Int)(hns:aNW ns)(hb:b.length<=10000000000000)(hl:ns.length<=1000000000000)(hN:8 < N)(hlN:ns.length < N):lZ N b (w:Int) ns=some (aON b w ns):=by
 unfold lZ;rw[df (show ¬(w:Int) < 1 by omega),df (show ¬(w:Int) > 8 by omega),cond_false,aC,cond_false]
 have:=aDI ns (by omega) (aDD w) (λx=>[x % bO w]) (([],3):List Int×Int) (λs i=>s.length=i) (λk s i=>nZ N ns (w:Int) k s i) (by intro s i h hs;simp;omega) (λk s i h hs=>by
  have hx:=hns _ (ci h)
  have f:I64 (64 - I64 (8*(w:Int)))=((64 - 8*w:Nat):Int):=by rw[aU (x:=8*(w:Int)) (by omega) (by omega),aU (by omega) (by omega)];omega
  rw[nZ,aC,dt (by omega),cond_true,dA h,aa,f,aC,uC .i64 (by omega),aa,aC,lX .i64 (by omega),aa,sgnA hw0 hw hx]
  cases hbg:aDD w ns[i] with
  | true=>rfl
  | false=>
   rw[cond_false,cond_false,aC,uC .u64 (by omega),aa,aC,lX .u64 (by omega),aa,sgnB hw0 hw hx,hJ (by simp;omega),aa]) (λk s=>by rw[nZ,aC,df (by omega),cond_false]) N 0 [] rfl (by omega) (by omega)
 rw[show((0:Nat):Int)=0 from rfl,dw,fq] at this;rw[this,aa]
 unfold aON;cases ns.any (aDD w) with
 | true=>rfl
 | false=>
  rw[cond_false,cond_false]
  show ae (cM N b (w:Int) (ns.flatMap λx=>[x % bO w])) _=_;rw[show(ns.flatMap λx=>[x % bO w])=ns.map (λx=>x % bO w) by
   clear this hns hl hlN
   induction ns with
   | nil=>rfl
   | cons a l ih=>simp[dp,ih]]
  rw[aNJ N b w hw0 hw _ (by intro y hy;obtain⟨x,_,rfl⟩:=eu.1 hy;exact modU w hw x) hb (by simpa using hl) hN (by simpa using hlN),aa]
theorem slcV{m:Nat}(v:Vector Int m):eD v.toList 0 (m:Int)=some v.toList:=by
 rw[qM (by omega) (by omega) (by simp)]
 simp[bj]
def jD{m:Nat}(v:Vector Int m):Prop:=aR v.toList
theorem aI8{α σ:Type}(l:List α)(hl:l.length < 9223372036854775807)(st:σ->α->σ)(I:σ->Prop)(F:Nat->σ->Int->Option σ)(hI:∀s a,a∈l->I s->I (st s a))
  (h1:∀k s i (h:i < l.length),I s->F (k+1) s (i:Int)=F k (st s l[i]) (I64 ((i:Int)+1))) (h2:∀k s,F (k+1) s (l.length:Int)=some s) :
  ∀(k i:Nat) (s:σ),I s->i<=l.length->l.length - i < k->F k s (i:Int)=some ((l.drop i).foldl st s)/\I ((l.drop i).foldl st s)
 | 0,i,_,_,_,h=>by omega
 | k+1,i,s,hs,hi,hk=>by
  by_cases h:i < l.length
  ·rw[h1 k s i h hs,cV (by omega),co h,List.foldl_cons]
   exact aI8 l hl st I F hI h1 h2 k (i+1) _ (hI s _ (ci h) hs) (by omega) (by omega)
  ·obtain rfl:i=l.length:=by omega
   rw[h2,gf]
   exact⟨rfl,hs⟩
theorem aMn{α σ:Type}(l:List α)(hl:l.length < 9223372036854775807)(st:σ->α->σ)(I:σ->Prop)(F:Nat->σ->Int->Option σ)(hI:∀s a,a∈l->I s->I (st s a))
  (h1:∀k s i (h:i < l.length),I s->F (k+1) s (i:Int)=F k (st s l[i]) (I64 ((i:Int)+1))) (h2:∀k s,F (k+1) s (l.length:Int)=some s) {N:Nat} (hN:l.length < N) {s:σ} (hs:I s):F N s 0=some (l.foldl st s)/\I (l.foldl st s):=by
 have:=aI8 l hl st I F hI h1 h2 N 0 s hs (by omega) (by omega)
 rwa[dw] at this
theorem aLQ{α:Type}{eq:α->α->Bool}(h:∀a b,eq a b=true↔a=b):∀(l r:List α),eqL eq l r=true↔l=r
 | [],[]=>by simp[eqL]
 | [],_ :: _=>by simp[eqL]
 | _ :: _,[]=>by simp[eqL]
 | a :: l,b :: r=>by simp[eqL,h,aLQ h l r]
theorem aDM{m:Nat}(a b:Vector Int m):eqV (λa b=>a==b) a b=true↔a=b:=by
 unfold eqV;rw[aLQ (λa b=>by simp)]
 constructor
 ·intro h;exact Vector.toList_inj.1 h
 ·intro h;rw[h]
theorem aGY{a:Int}(h:isB a):(ar 8 a).toNat=a.toNat:=by
 obtain⟨h0,h1⟩:=h;rw[ko]
 simp;omega
theorem bxor8{a b:Int}(ha:isB a)(hb:isB b):uR .u8 a b=0↔a=b:=by
 have e:uR .u8 a b=((ar 8 a ^^^ ar 8 b).toNat:Int):=by
  unfold uR;have:(ar 8 a ^^^ ar 8 b).toNat < 256:=(ar 8 a ^^^ ar 8 b).isLt;exact rM (by omega) (by show((ar 8 a ^^^ ar 8 b).toNat:Int) < 256;omega)
 rw[e]
 constructor
 ·intro h;have h1:(ar 8 a ^^^ ar 8 b)=0#8:=by
   apply BitVec.eq_of_toNat_eq;simp only[BitVec.toNat_ofNat]
   omega
  have h2:ar 8 a=ar 8 b:=BitVec.xor_eq_zero_iff.1 h1;have h3:=congrArg BitVec.toNat h2;rw[aGY ha,aGY hb] at h3;have:=ha.1;have:=hb.1;omega
 ·rintro rfl;rw[BitVec.xor_self]
  rfl
theorem bor8{a b:Int}(ha:isB a)(hb:isB b):isB (bor .u8 a b)/\(bor .u8 a b=0↔a=0/\b=0):=by
 refine⟨aMN _,?_⟩
 have e:bor .u8 a b=((ar 8 a ||| ar 8 b).toNat:Int):=by
  unfold bor;have:(ar 8 a ||| ar 8 b).toNat < 256:=(ar 8 a ||| ar 8 b).isLt;exact rM (by omega) (by show((ar 8 a ||| ar 8 b).toNat:Int) < 256;omega)
 rw[e,mg,aGY ha,aGY hb]
 have h0:=ha.1;have h1:=hb.1;constructor
 ·intro h;have h:a.toNat ||| b.toNat=0:=by omega
  have:=Nat.or_eq_zero_iff.1 h;omega
 ·rintro⟨rfl,rfl⟩
  rfl
theorem vext{m:Nat}{a b:Vector Int m}(h:∀j,j < m->a.toList.getD j 0=b.toList.getD j 0):a=b:=by
 apply Vector.ext;intro i hi;have:=h i hi;rwa[vY _ i hi,vY _ i hi] at this
theorem aOr(N:Nat)(ls:List (List Int))(hl:ls.length < 1000000000)(hb:∀l∈ls,l.length<=1000000000):∀(k i:Nat) (t:Nat),i<=ls.length->ls.length - i < k->t<=1000000000*i->fY N ls k (t:Int) (i:Int)=some ((t+(ls.drop i).flatten.length:Nat):Int)
 | 0,_,_,_,h,_=>by omega
 | k+1,i,t,hi,hk,ht=>by
  rw[fY,aC]
  by_cases h:i < ls.length
  ·have hx:=hb _ (ci h)
   have e:I64 ((t:Int)+(ls[i].length:Int))=((t+ls[i].length:Nat):Int):=by rw[aU (by omega) (by omega)];omega
   rw[dt (by omega),cond_true,dA h,aa,e,aC,df (by omega),cond_false,cV (by omega),aOr N ls hl hb k (i+1) _ (by omega) (by omega) (by omega),co h,ji,ai]
   congr 2;omega
  ·rw[df (by omega),cond_false,List.drop_of_length_le (by omega)]
   simp
theorem concP(N:Nat)(ls:List (List Int))(hl:ls.length < 1000)(hN:ls.length < N)(hb:∀l∈ls,l.length<=1000000000):cL N ls=some ls.flatten:=by
 unfold cL;have h1:=aOr N ls (by omega) hb N 0 0 (by omega) (by omega) (by omega)
 rw[show((0:Nat):Int)=0 from rfl,dw,Nat.zero_add] at h1;have hfl:∀(l:List (List Int)),(∀x∈l,x.length<=1000000000)->l.flatten.length<=1000000000*l.length:=by
  intro l
  induction l with
  | nil=>intro _;simp
  | cons a l ih=>
   intro h;rw[ji,ai,cx]
   have:=h a (by simp)
   have:=ih (λx hx=>h x (by simp[hx]))
   omega
 have hfl2:=hfl ls hb;have h2:=aMn ls (by omega) (λs a=>s++a) (λs=>True) (eC N ls) (λ_ _ _ _=>trivial)
 have h3:∀(k i:Nat) (s:List Int),s=(ls.take i).flatten->i<=ls.length->ls.length - i < k->eC N ls k s (i:Int)=some ls.flatten:=by
  intro k
  induction k with
  | zero=>intro i s _ _ h;omega
  | succ k ih=>
   intro i s hs hi hk;rw[eC,aC]
   by_cases h:i < ls.length
   ·have e1:s++ls[i]=(ls.take (i+1)).flatten:=by rw[hs,kp,ag h,List.flatten_append];simp
    have e2:=hfl (ls.take (i+1)) (λx hx=>hb x (ck hx))
    rw[<- e1,ai,List.length_take] at e2;rw[dt (by omega),cond_true,dA h,aa,hJ (by omega),aa,cV (by omega),e1]
    exact ih (i+1) _ rfl (by omega) (by omega)
   ·rw[df (by omega),cond_false,hs,bj (by omega)]
 rw[h1,aa,aM3 (by omega) (by omega) (by omega),aa]
 have h4:=h3 N 0 [] (by simp) (by omega) (by omega)
 rw[show((0:Nat):Int)=0 from rfl] at h4;rw[h4,aa]
theorem aN5{α:Type}{l:List α}{n:Nat}(h:n<=l.length):aGZ l 0 (n:Int) (n:Int)=some (l.take n):=by
 unfold aGZ;rw[dt (show(0:Int)<=0 by omega),dt (show(0:Int)<=(n:Int) by omega),dt (show(n:Int)<=(n:Int) by omega),dt (show(n:Int)<=(l.length:Int) by omega)]
 simp
def rZ(b:List Int):Int:=b.foldr (λx a=>x+256*a) 0
theorem aF7(x:Int):∀(l:List Int),rZ (l++[x])=rZ l+x*bO l.length
 | []=>by simp[rZ,bO]
 | a :: l=>by
  have h:=aF7 x l;have e:rZ (a :: l++[x])=a+256*rZ (l++[x]):=rfl;have e2:rZ (a :: l)=a+256*rZ l:=rfl;rw[e,e2,h,cx,aCS]
  grind
theorem aAN : ∀(l:List Int),aR l->0<=rZ l/\rZ l < bO l.length
 | [],_=>⟨by simp[rZ],by simp[rZ,bO]⟩
 | a :: l,h=>by
  obtain⟨h1,h2⟩:=aAN l (λx hx=>h x (by simp[hx]))
  obtain⟨h3,h4⟩:=h a (by simp)
  have e2:rZ (a :: l)=a+256*rZ l:=rfl;rw[e2,cx,aCS]
  omega
theorem aE4{i:Nat}(h:i<=8):bO i<=18446744073709551616:=by
 have:∀i:Fin 9,bO i.val<=18446744073709551616:=by decide
 exact this ⟨i,by omega⟩
theorem aPL{x p:Int}(hx:isB x)(hp:0 < p):0<=x*p/\x*p<=255*p:=by
 have h1:=lp hx.1 (ig hp)
 have h2:x*p<=255*p:=jb (by have:=hx.2;omega) (ig hp)
 exact⟨h1,h2⟩
theorem numL(N:Nat)(b:List Int)(t:List Int×Int×List Int)(ht:t.2.2=b)(hb:aR b)(hl:b.length<=8):∀(k i:Nat),i<=b.length->b.length - i < k->dK N t k (rZ (b.take i)) (i:Int)=some (rZ b)
 | 0,_,_,h=>by omega
 | k+1,i,hi,hk=>by
  rw[dK,aC,ht]
  by_cases h:i < b.length
  ·have hx:=hb _ (ci h)
   have f:I64 (8*(i:Int))=((8*i:Nat):Int):=by rw[aU (by omega) (by omega)];omega
   have ht':(b.take i).length=i:=by simp;omega
   have e1:rZ (b.take (i+1))=rZ (b.take i)+b[i]*bO i:=by
    rw[kp,ag h]
    have:=aF7 b[i] (b.take i)
    rw[ht'] at this;exact this
   obtain⟨l1,l2⟩:=aAN (b.take i) (hb.take i)
   rw[ht'] at l2;have hp:=uZ i;have hp8:bO (i+1)<=18446744073709551616:=aE4 (by omega)
   rw[aCS] at hp8;obtain⟨m1,m2⟩:=aPL hx hp;have e2:shl .u64 (U64 b[i]) ((8*i:Nat):Int)=b[i]*bO i:=by
    rw[kW hx.1 (by have:=hx.2;omega),aLK _ _ (8*i) rfl (by omega),aIJ]
    omega
   have e3:bor .u64 (rZ (b.take i)) (b[i]*bO i)=rZ (b.take i)+b[i]*bO i:=by
    rw[aFi,aHx (8*i) m1 (by omega) l1 (by have:=aIJ i;rw[<- this] at l2;push_cast;exact l2) (by omega) ?_]
    ·omega
    ·have h2:(bO i).toNat=2 ^ (8*i):=by rw[<- aIJ];rw[<- cw (2 ^ (8*i))];congr 1
     rw[Int.toNat_mul hx.1 (ig hp),h2]
     exact Nat.dvd_mul_left _ _
   rw[dt (by omega),cond_true,dA h,aa,f,uC .u64 (by omega),aa,e2,e3,<- e1,cV (by omega)]
   exact numL N b t ht hb hl k (i+1) (by omega) (by omega)
  ·rw[df (by omega),cond_false,bj (by omega)]
theorem aO5(x p:Int)(hp:0 < p):x % p+(x / p % 256)*p=x % (p*256):=by
 have e1:x=p*(x / p)+x % p:=(kq x p).symm;have e2:x / p=256*(x / p / 256)+x / p % 256:=(kq (x / p) 256).symm;have b1:0<=x % p:=jk _ (by omega)
 have b2:x % p < p:=j9 _ hp;have b3:0<=x / p % 256:=jk _ (by decide)
 have b4:x / p % 256 < 256:=j9 _ (by decide)
 generalize x / p % 256=c at *;generalize x / p / 256=q at *;have e3:x=(x % p+c*p)+(p*256)*q:=by
  have h1:p*(x / p)=p*(256*q+c):=by rw[<- e2]
  rw[h1] at e1;have:p*(256*q+c)=(p*256)*q+c*p:=by rw[Int.mul_add,<- Int.mul_assoc,Int.mul_comm p c]
  rw[this] at e1;omega
 have h1:0<=c*p:=lp b3 (by omega)
 have h2:c*p<=255*p:=jb (by omega) (by omega)
 have h3:x % (p*256)=(x % p+c*p) % (p*256):=by
  conv=>lhs;rw[e3]
  rw[Int.add_mul_emod_self_left]
 rw[h3]
 exact(Int.emod_eq_of_lt (by omega) (by omega)).symm
theorem aLb(x:Int):∀w:Nat,w<=8->rZ (leB w x)=x % bO w
 | 0,_=>by
  show(0:Int)=x % bO 0;rw[show bO 0=1 from rfl]
  omega
 | w+1,h=>by
  have e:leB (w+1) x=leB w x++[U8 (shr .u64 x ((8*w:Nat):Int))]:=by unfold leB;rw[List.range_succ,List.map_append];rfl
  rw[e,aF7,aLb x w (by omega),bN,aHp x w (by omega),aAP,aCS,aO5 x _ (uZ w)]
def isU(x:Int):Prop:=0<=x/\x < 18446744073709551616
def tL{m:Nat}(v:Vector Int m):Prop:=∀x∈v.toList,isU x
theorem rY(x:Int):isU (U64 x):=⟨aKn x,aKX x⟩
theorem wZ : isU 0:=⟨by decide,by decide⟩
theorem tL.set{m:Nat}{v:Vector Int m}{i:Nat}{x:Int}(h:tL v)(hx:isU x):tL (v.setIfInBounds i x):=by
 intro y hy;have e:(v.setIfInBounds i x).toList=v.toList.set i x:=by simp
 rw[e] at hy;rcases List.mem_or_eq_of_mem_set hy with h' | h'
 ·exact h y h'
 ·rw[h'];exact hx
theorem aOM{α:Type}{m:Nat}(v:Vector α m){i:Nat}(h:i < m):v[i]∈v.toList:=by simp
theorem T.vget{m:Nat}{v:Vector Int m}{i:Nat}(h:i < m):T (v.toList[i]?) (λ_=>True):=⟨_,Go.UK.uU v i h,trivial⟩
theorem T.vgetU{m:Nat}{v:Vector Int m}{i:Nat}(hv:tL v)(h:i < m):T (v.toList[i]?) isU:=⟨_,Go.UK.uU v i h,hv _ (aOM v h)⟩
theorem T.add64{x y c:Int}(hx:isU x)(hy:isU y)(hc:0<=c/\c<=1):T (dG x y c) (λr=>isU r.1/\(0<=r.2/\r.2<=1)):=by
 obtain⟨x0,x1⟩:=hx;obtain⟨y0,y1⟩:=hy;obtain⟨c0,c1⟩:=hc;unfold dG;rw[dt x0,dt y0,dt c0,dt c1]
 refine⟨_,rfl,⟨?_,?_⟩,?_,?_⟩ <;> dsimp only <;> omega
theorem aLR(N:Nat)(a b:Int):T (cB N a b) (λr=>isU r.1/\isU r.2):=by
 unfold cB;simp only[aC]
 exact⟨_,rfl,rY _,rY _⟩
theorem aAV{k:IntKind}{a:Int}(ha:isU a)(b:Int):isU (shr k a b):=by
 unfold shr;rw[Int.fdiv_eq_ediv_of_nonneg _ (ig (lj (by decide)))]
 have:=Int.ediv_le_self ((2:Int) ^ min b.toNat k.bits) ha.1;exact⟨Int.ediv_nonneg ha.1 (ig (lj (by decide))),by have:=ha.2;omega⟩
theorem rK(a b:Int):isU (bor .u64 a b):=aO8 a b
theorem sH(a b:Int):isU (dV .u64 a b):=rY _
theorem uB(a b:Int):isU (aFx .u64 a b):=rY _
theorem T.loop{σ:Type}{n:Nat}(hn:n < 9223372036854775807)(I:Nat->σ->Prop){F:Nat->σ->Int->Option σ}
  (hstep:∀k s i,i < n->I i s->∀Q:σ->Prop,(∀s',I (i+1) s'->T (F k s' ((i+1:Nat):Int)) Q)->T (F (k+1) s (i:Int)) Q) (hend:∀k s,F (k+1) s (n:Int)=some s) :
  ∀(k i:Nat) (s:σ),I i s->i<=n->n - i < k->T (F k s (i:Int)) (I n)
 | 0,i,_,_,_,h=>by omega
 | k+1,i,s,hs,hi,hk=>by
  by_cases h:i < n
  ·exact hstep k s i h hs _ λs' h'=>T.loop hn I hstep hend k (i+1) s' h' (by omega) (by omega)
  ·obtain rfl:i=n:=by omega
   exact⟨s,hend _ _,hs⟩
theorem T.loop0{σ:Type}{n:Nat}(hn:n < 9223372036854775807)(I:Nat->σ->Prop){F:Nat->σ->Int->Option σ}
  (hstep:∀k s i,i < n->I i s->∀Q:σ->Prop,(∀s',I (i+1) s'->T (F k s' ((i+1:Nat):Int)) Q)->T (F (k+1) s (i:Int)) Q) (hend:∀k s,F (k+1) s (n:Int)=some s) {N:Nat} (hN:n < N) {s:σ} (hs:I 0 s):T (F N s 0) (I n):=
 T.loop hn I hstep hend N 0 s hs (by omega) (by omega)
theorem numC(N:Nat)(b:List Int)(h:4<=b.length):T (kZ N b) (λ_=>True):=by
 unfold kZ;refine T.bind (T.idx (by omega) (by omega)) λ_ _=>T.bind (T.idx (by omega) (by omega)) λ_ _=>?_;refine T.letO λ_ _=>T.bind (T.idx (by omega) (by omega)) λ_ _=>T.letO λ_ _=>T.bind (T.idx (by omega) (by omega)) λ_ _=>T.letO λ_ _=>T.ret trivial
theorem i4{a i:Nat}(h:a*i < 1000000):I64 ((a:Int)*(i:Int))=((a*i:Nat):Int):=by
 have e:(a:Int)*(i:Int)=((a*i:Nat):Int):=by push_cast;rfl
 rw[e];exact aU (by omega) (by omega)
theorem ia{a i:Nat}(h:a+i < 1000000):I64 ((a:Int)+(i:Int))=((a+i:Nat):Int):=by
 rw[aU (by omega) (by omega)];omega
theorem aRn(N:Nat)(hN:20 < N)(key:Vector Int 32)(c:Int)(n:Vector Int 12):T (pL N key c n) (λ_=>True):=by
 unfold pL;refine T.bind (T.loop0 (n:=8) (by decide) (λ_ _=>True) (F:=eM N key) (λk s i hi _ Q hk=>?_) (λk s=>by rw[eM,df (by omega),cond_false]) (by omega) trivial) λv _=>?_
 ·rw[eM,dt (by omega),cond_true,show(4:Int)=((4:Nat):Int) from rfl,i4 (by omega),ia (by omega)]
  refine T.bind (T.slc (by omega) (by omega) (by simp)) λs4 h4=>T.bind (numC N s4 (by omega)) λr _=>T.bind (T.inRO (by omega) (by omega)) λ_ _=>T.bind (T.vget (by omega)) λe _=>?_;rw[cV (by omega)]
  exact hk _ trivial
 refine T.bind (T.loop0 (n:=3) (by decide) (λ_ _=>True) (F:=eJ N n) (λk s i hi _ Q hk=>?_) (λk s=>by rw[eJ,df (by omega),cond_false]) (by omega) trivial) λv _=>T.ret trivial;rw[eJ,dt (by omega),cond_true,show(4:Int)=((4:Nat):Int) from rfl,i4 (by omega),show(13:Int)=((13:Nat):Int) from rfl,ia (by omega)]
 refine T.bind (T.slc (by omega) (by omega) (by simp)) λs4 h4=>T.bind (numC N s4 (by omega)) λr _=>T.bind (T.inRO (by omega) (by omega)) λ_ _=>T.bind (T.vget (by omega)) λe _=>?_;rw[cV (by omega)]
 exact hk _ trivial
theorem rotT(N:Nat)(x:Int)(n:Nat)(h1:1<=n)(h2:n<=31):T (bQ N x (n:Int)) (λ_=>True):=by
 have b:∀n:Fin 32,dV .u64 (U64 (n.val:Int)) 31=(n.val:Int):=by decide +kernel
 have hb:dV .u64 (U64 (n:Int)) 31=(n:Int):=b ⟨n,by omega⟩
 unfold bQ;rw[hb,uC .u32 (by omega),aa,aC,kW (by omega) (by omega),lX .u32 (by omega)]
 exact T.ret trivial
theorem aOc(N:Nat)(v:Vector Int 4):T (nC N v) (λ_=>True):=by
 unfold nC;refine T.bind (T.idx (by omega) (by simp)) λ_ _=>T.bind (T.idx (by omega) (by simp)) λ_ _=>T.bind (T.idx (by omega) (by simp)) λ_ _=>T.bind (T.idx (by omega) (by simp)) λ_ _=>?_;refine T.letO λ_ _=>T.bind (rotT N _ 16 (by decide) (by decide)) λ_ _=>T.letO λ_ _=>T.bind (rotT N _ 12 (by decide) (by decide)) λ_ _=>T.letO λ_ _=>T.bind (rotT N _ 8 (by decide) (by decide)) λ_ _=>T.letO λ_ _=>T.bind (rotT N _ 7 (by decide) (by decide)) λ_ _=>T.ret trivial
def aIR : List (Vector Int 4):=(#v[#v[0,4,8,12],#v[1,5,9,13],#v[2,6,10,14],#v[3,7,11,15],#v[0,5,10,15],#v[1,6,11,12],#v[2,7,8,13],#v[3,4,9,14]]:Vector (Vector Int 4) 8).toList
theorem aMq : ∀v∈aIR,∀x∈v.toList,0<=x/\x < 16:=by unfold aIR;decide
theorem T.place{v:Vector Int 4}(hv:v∈aIR){i:Nat}(h:i < 4):T (v.toList[i]?) (λx=>0<=x/\x < 16):=
 ⟨_,Go.UK.uU v i h,aMq v hv _ (aOM v h)⟩
theorem aPy(N:Nat)(hN:20 < N)(s:Vector Int 16):T (aY N N s 0) (λ_=>True):=by
 refine T.loop0 (n:=8) (by decide) (λ_ _=>True) (F:=aY N) (λk s i hi _ Q hk=>?_) (λk s=>by rw[aY,df (by omega),cond_false]) (by omega) trivial;rw[aY,dt (by omega),cond_true]
 refine T.bind (T.idx (by omega) (by simp;omega)) λe8 he=>?_;have hm:e8∈aIR:=List.mem_of_getElem? he
 iterate 4 refine T.bind (T.inRO (by decide) (by decide)) λ_ _=>T.bind (T.place hm (by decide)) λ_ h=>T.bind (T.inRO h.1 h.2) λ_ _=>T.bind (T.vget (by omega)) λ_ _=>?_
 refine T.bind (aOc N _) λr25 _=>?_;refine T.bind (T.inRO (by decide) (by decide)) λ_ _=>T.bind (T.place hm (by decide)) λ_ h0=>?_;refine T.bind (T.inRO (by decide) (by decide)) λ_ _=>T.bind (T.place hm (by decide)) λ_ h1=>?_;refine T.bind (T.inRO (by decide) (by decide)) λ_ _=>T.bind (T.place hm (by decide)) λ_ h2=>?_;refine T.bind (T.inRO (by decide) (by decide)) λ_ _=>T.bind (T.place hm (by decide)) λ_ h3=>?_
 iterate 4 refine T.bind (T.inRO (by decide) (by decide)) λ_ _=>T.bind (T.vget (by decide)) λ_ _=>?_
 refine T.bind (T.inRO h0.1 h0.2) λ_ _=>T.bind (T.vget (by omega)) λ_ _=>T.bind (T.inRO h1.1 h1.2) λ_ _=>T.bind (T.vget (by omega)) λ_ _=>T.bind (T.inRO h2.1 h2.2) λ_ _=>T.bind (T.vget (by omega)) λ_ _=>T.bind (T.inRO h3.1 h3.2) λ_ _=>T.bind (T.vget (by omega)) λ_ _=>?_;rw[cV (by omega)]
 exact hk _ trivial
theorem aJt(N:Nat)(hN:20 < N)(key:Vector Int 32)(c:Int)(n:Vector Int 12):T (kV N key c n) (λ_=>True):=by
 unfold kV;refine T.bind (aRn N hN key c n) λr1 _=>?_;refine T.bind (T.loop0 (n:=10) (by decide) (λ_ _=>True) (F:=iP N) (λk s i hi _ Q hk=>?_) (λk s=>by rw[iP,df (by omega),cond_false]) (by omega) trivial) λp2 _=>?_
 ·rw[iP,dt (by omega),cond_true,cV (by omega)]
  exact T.bind (aPy N hN s) λ_ _=>hk _ trivial
 refine T.bind (T.loop0 (n:=16) (by decide) (λ_ _=>True) (F:=fG N p2 r1) (λk s i hi _ Q hk=>?_) (λk s=>by rw[fG,df (by omega),cond_false]) (by omega) trivial) λp3 _=>T.ret trivial;rw[fG,dt (by omega),cond_true,show(4:Int)=((4:Nat):Int) from rfl,i4 (by omega)]
 have f1:I64 (((4*i:Nat):Int)+1)=((4*i+1:Nat):Int):=by rw[aU (by omega) (by omega)];omega
 have f2:I64 (((4*i:Nat):Int)+2)=((4*i+2:Nat):Int):=by rw[aU (by omega) (by omega)];omega
 have f3:I64 (((4*i:Nat):Int)+3)=((4*i+3:Nat):Int):=by rw[aU (by omega) (by omega)];omega
 refine T.bind (T.idx (by omega) (by simp;omega)) λ_ _=>T.bind (T.inRO (by omega) (by omega)) λ_ _=>T.bind (T.vget (by omega)) λ_ _=>?_;simp only[aC,f1,f2,f3]
 iterate 4 refine T.bind (T.inRO (by omega) (by omega)) λ_ _=>T.bind (T.vget (by omega)) λ_ _=>?_
 rw[cV (by omega)]
 exact hk _ trivial
set_option maxHeartbeats 4000000
theorem aCg : isU 5:=⟨by decide,by decide⟩
theorem aEe{a b c:Int}(ha:isU a)(hb:isU b)(hc:isU c):tL (#v[a,b,c]:Vector Int 3):=by
 intro x hx;simp at hx;rcases hx with rfl | rfl | rfl <;> assumption
theorem aEa(N:Nat)(hN:20 < N)(b:List Int)(h:8<=b.length):T (cZ N b) isU:=by
 unfold cZ;refine T.bind (T.loop0 (n:=8) (by decide) (λ_ x=>isU x) (F:=jS N b) (λk s i hi _ Q hk=>?_) (λk s=>by rw[jS,df (by omega),cond_false]) (by omega) wZ) λv h=>T.ret h;rw[jS,dt (by omega),cond_true,show(8:Int)=((8:Nat):Int) from rfl,i4 (by omega)]
 refine T.bind (T.idx (by omega) (by omega)) λe _=>?_;rw[uC .u64 (by omega),aa,cV (by omega)]
 exact hk _ (rK _ _)
attribute [local irreducible] aW idx eD dG cB cZ aT
theorem aMF(N:Nat)(a0 a1:Int)(a2:aP)(h1:isU a0)(h2:isU a1)(h3:tL a2.gT.gh):T (fJ N a0 a1 a2) tL:=by
 unfold fJ
 repeat' first
  | refine T.bind (T.inRO (by decide) (by decide)) λ_ _=>?_
  | refine T.bind (T.vgetU (by repeat first | assumption | refine tL.set ?_ ?_ | exact rY _ | refine aEe ?_ ?_ ?_ | exact sH _ _) (by decide)) λ_ _=>?_
  | refine T.bind (T.add64 (by first | assumption | exact rY _ | exact wZ | exact aCg | exact rK _ _ | exact sH _ _ | exact uB _ _ | (refine aAV ?_ _;first | assumption | exact rK _ _)) (by first | assumption | exact rY _ | exact wZ | exact aCg | exact rK _ _ | exact sH _ _ | exact uB _ _ | (refine aAV ?_ _;first | assumption | exact rK _ _)) (by first | assumption | exact⟨by decide,by decide⟩)) λ_ ⟨_,_⟩=>?_
  | refine T.bind (aLR N _ _) λ_ ⟨_,_⟩=>?_
  | refine T.bind (T.slc (by decide) (by decide) (by simp)) λ_ hs=>T.bind (aEa N hN _ (by have:=hs.2;omega)) λ_ _=>?_
  | refine T.bind (T.idx (by decide) (by simp)) λ_ _=>?_
  | refine T.letO λ_ hx=>?_
  | refine T.bind (T.ret trivial) λ_ _=>?_
 exact T.ret (tL.set (tL.set (tL.set (by assumption) (by assumption)) (by assumption)) (rY _))
theorem aJl(N:Nat)(a0 a1:Int)(a2:aN)(h1:isU a0)(h2:isU a1)(h3:tL a2.gh):T (cA N a0 a1 a2) tL:=by
 unfold cA
 repeat' first
  | refine T.bind (T.inRO (by decide) (by decide)) λ_ _=>?_
  | refine T.bind (T.vgetU (by repeat first | assumption | refine tL.set ?_ ?_ | exact rY _ | refine aEe ?_ ?_ ?_ | exact sH _ _) (by decide)) λ_ _=>?_
  | refine T.bind (T.add64 (by first | assumption | exact rY _ | exact wZ | exact aCg | exact rK _ _ | exact sH _ _ | exact uB _ _ | (refine aAV ?_ _;first | assumption | exact rK _ _)) (by first | assumption | exact rY _ | exact wZ | exact aCg | exact rK _ _ | exact sH _ _ | exact uB _ _ | (refine aAV ?_ _;first | assumption | exact rK _ _)) (by first | assumption | exact⟨by decide,by decide⟩)) λ_ ⟨_,_⟩=>?_
  | refine T.bind (aLR N _ _) λ_ ⟨_,_⟩=>?_
  | refine T.bind (T.slc (by decide) (by decide) (by simp)) λ_ hs=>T.bind (aEa N hN _ (by have:=hs.2;omega)) λ_ _=>?_
  | refine T.bind (T.idx (by decide) (by simp)) λ_ _=>?_
  | refine T.letO λ_ hx=>?_
  | refine T.bind (T.ret trivial) λ_ _=>?_
 exact T.ret (tL.set (tL.set (tL.set (by assumption) (by assumption)) (by assumption)) (rY _))
attribute [local irreducible] fJ cA
theorem aIn(N:Nat)(hN:20 < N)(b:Vector Int 17)(r0 r1:Int)(m:aP)(hm:tL m.gT.gh):T (fW N b r0 r1 m) (λr=>tL r.1/\r.2=(m.gA,m.gr0,m.gr1,m.gs0,m.gs1,m.gN,m.gO)):=by
 unfold fW
 repeat' first
  | refine T.bind (T.inRO (by decide) (by decide)) λ_ _=>?_
  | refine T.bind (T.vgetU (by repeat first | assumption | refine tL.set ?_ ?_ | exact rY _ | refine aEe ?_ ?_ ?_ | exact sH _ _) (by decide)) λ_ _=>?_
  | refine T.bind (T.add64 (by first | assumption | exact rY _ | exact wZ | exact aCg | exact rK _ _ | exact sH _ _ | exact uB _ _ | (refine aAV ?_ _;first | assumption | exact rK _ _)) (by first | assumption | exact rY _ | exact wZ | exact aCg | exact rK _ _ | exact sH _ _ | exact uB _ _ | (refine aAV ?_ _;first | assumption | exact rK _ _)) (by first | assumption | exact⟨by decide,by decide⟩)) λ_ ⟨_,_⟩=>?_
  | refine T.bind (aLR N _ _) λ_ ⟨_,_⟩=>?_
  | refine T.bind (T.slc (by decide) (by decide) (by simp)) λ_ hs=>T.bind (aEa N hN _ (by have:=hs.2;omega)) λ_ _=>?_
  | refine T.bind (T.idx (by decide) (by simp)) λ_ _=>?_
  | refine T.bind (aMF N _ _ _ (by first | assumption | exact rY _ | exact wZ | exact aCg | exact rK _ _ | (subst_vars;exact rK _ _) | exact sH _ _ | exact uB _ _ | (refine aAV ?_ _;first | assumption | exact rK _ _)) (by first | assumption | exact rY _ | exact wZ | exact aCg | exact rK _ _ | exact sH _ _ | exact uB _ _ | (refine aAV ?_ _;first | assumption | exact rK _ _)) (by repeat first | assumption | refine tL.set ?_ ?_ | exact rY _ | refine aEe ?_ ?_ ?_ | exact sH _ _)) λ_ _=>?_
  | refine T.letO λ_ hx=>?_
  | refine T.bind (T.ret trivial) λ_ _=>?_
 exact T.ret ⟨by assumption,rfl⟩
theorem aGp(N:Nat)(hN:20 < N)(b:Vector Int 17)(r0 r1:Int)(m:aN)(hm:tL m.gh):T (cQ N b r0 r1 m) tL:=by
 unfold cQ
 repeat' first
  | refine T.bind (T.inRO (by decide) (by decide)) λ_ _=>?_
  | refine T.bind (T.vgetU (by repeat first | assumption | refine tL.set ?_ ?_ | exact rY _ | refine aEe ?_ ?_ ?_ | exact sH _ _) (by decide)) λ_ _=>?_
  | refine T.bind (T.add64 (by first | assumption | exact rY _ | exact wZ | exact aCg | exact rK _ _ | exact sH _ _ | exact uB _ _ | (refine aAV ?_ _;first | assumption | exact rK _ _)) (by first | assumption | exact rY _ | exact wZ | exact aCg | exact rK _ _ | exact sH _ _ | exact uB _ _ | (refine aAV ?_ _;first | assumption | exact rK _ _)) (by first | assumption | exact⟨by decide,by decide⟩)) λ_ ⟨_,_⟩=>?_
  | refine T.bind (aLR N _ _) λ_ ⟨_,_⟩=>?_
  | refine T.bind (T.slc (by decide) (by decide) (by simp)) λ_ hs=>T.bind (aEa N hN _ (by have:=hs.2;omega)) λ_ _=>?_
  | refine T.bind (T.idx (by decide) (by simp)) λ_ _=>?_
  | refine T.bind (aJl N _ _ _ (by first | assumption | exact rY _ | exact wZ | exact aCg | exact rK _ _ | (subst_vars;exact rK _ _) | exact sH _ _ | exact uB _ _ | (refine aAV ?_ _;first | assumption | exact rK _ _)) (by first | assumption | exact rY _ | exact wZ | exact aCg | exact rK _ _ | exact sH _ _ | exact uB _ _ | (refine aAV ?_ _;first | assumption | exact rK _ _)) (by repeat first | assumption | refine tL.set ?_ ?_ | exact rY _ | refine aEe ?_ ?_ ?_ | exact sH _ _)) λ_ _=>?_
  | refine T.letO λ_ hx=>?_
  | refine T.bind (T.ret trivial) λ_ _=>?_
 exact T.ret (by assumption)
end Go.UK
