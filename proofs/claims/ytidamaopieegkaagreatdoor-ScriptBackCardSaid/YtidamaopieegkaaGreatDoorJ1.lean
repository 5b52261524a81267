/- A part of the proof: what the functions of the program compute. -/
import Derived.Test.YtidamaopieegkaaGreatDoorLib15
import Derived.Laws.Bits64
import Derived.Laws.BitsLemmas
open Int renaming ediv_lt_iff_lt_mul→fa,eq_ofNat_of_zero_le→cf,le_of_lt→ef,toNat_natCast→gm
namespace Go.UK
open Go
variable [bJ]
set_option linter.all false
theorem aC6(x:Int):U64 x=x % 18446744073709551616:=IntKind.wrap_u64 x
theorem tZ(x:Int):I64 x=(x+9223372036854775808) % 18446744073709551616 - 9223372036854775808:=IntKind.wrap_i64 x
theorem aIX(x:Int):0<=U64 x:=by rw[aC6];omega
theorem aHt(x:Int):U64 x < 18446744073709551616:=by rw[aC6];omega
theorem aFZ{x:Int}(h:0<=x)(h':x < 18446744073709551616):U64 x=x:=by rw[aC6];omega
theorem kN{x:Int}(h:-9223372036854775808<=x)(h':x < 9223372036854775808):I64 x=x:=by rw[tZ];omega
theorem aB3(k:IntKind)(a b:Int)(m:Nat)(hb:b=m)(hm:m<=k.bits):shr k a b=a / (2:Int) ^ m:=by
 subst hb;unfold shr;rw[show min (m:Int).toNat k.bits=m by simp;omega,Int.fdiv_eq_ediv_of_nonneg _ (ef (Int.pow_pos (by decide)))]
theorem aHT(a b:Int)(m:Nat)(hb:b=m)(hm:m<=64):shl .u64 a b=(a*(2:Int) ^ m) % 18446744073709551616:=by
 subst hb;unfold shl;rw[show min (m:Int).toNat IntKind.u64.bits=m by simp[IntKind.bits];omega]
 exact IntKind.wrap_u64 _
theorem aDt(n:Nat)(h:n < 18446744073709551616):(BitVec.ofInt 64 (n:Int)).toNat=n:=by
 rw[BitVec.toNat_ofInt]
 simp;omega
theorem bor_e{a b:Int}(ha:0<=a)(ha':a < 18446744073709551616)(hb:0<=b)(hb':b < 18446744073709551616):bor .u64 a b=((a.toNat ||| b.toNat:Nat):Int):=by
 obtain⟨A,rfl⟩:=cf ha;obtain⟨B,rfl⟩:=cf hb;unfold bor;have h:A ||| B < 2 ^ 64:=Nat.or_lt_two_pow (by omega) (by omega)
 rw[show(BitVec.ofInt IntKind.u64.bits (A:Int) ||| BitVec.ofInt IntKind.u64.bits (B:Int)).toNat=A ||| B by
  rw[BitVec.toNat_or];congr 1 <;> exact aDt _ (by omega),IntKind.wrap_u64]
 simp only[gm]
 omega
theorem aGk{a b:Int}(m:Nat)(ha:0<=a)(ha':a < 18446744073709551616)(hb:0<=b)(hb':b < (2 ^ m:Nat))(hm:m<=64)(hd:(2 ^ m:Nat) ∣ a.toNat):bor .u64 a b=a+b:=by
 have h64:(2 ^ m:Nat)<=2 ^ 64:=Nat.pow_le_pow_right (by decide) hm;rw[bor_e ha ha' hb (by omega)]
 obtain⟨A,rfl⟩:=cf ha;obtain⟨B,rfl⟩:=cf hb;obtain⟨C,hC⟩:=hd;simp only[gm] at hC ⊢;have:A ||| B=A+B:=by
  rw[hC,Nat.mul_comm,<- Nat.shiftLeft_eq,Nat.shiftLeft_add_eq_or_of_lt (by omega)]
 rw[this]
 omega
theorem aEy(a b:Int):bor .u64 a b=bor .u64 b a:=by unfold bor;rw[BitVec.or_comm]
theorem bW{α β:Type}(x:α)(f:α->β):cB x f=f x:=rfl
theorem tE(k:IntKind){a b:Int}(h:0<=b):aBt k a b=some (shl k a b):=by unfold aBt;rw[show decide (b < 0)=false by simpa using h];rfl
theorem rN(k:IntKind){a b:Int}(h:0<=b):xL k a b=some (shr k a b):=by unfold xL;rw[show decide (b < 0)=false by simpa using h];rfl
structure aHB(H D Y y1 y0:Int):Prop where
 hY:Y=y1*4294967296+y0
 y1l:2147483648<=y1
 y1h:y1 < 4294967296
 y0l:0<=y0
 y0h:y0 < 4294967296
 Hl:0<=H
 Hh:H < Y
 Dl:0<=D
 Dh:D < 4294967296
theorem aHB.start{H D Y y1 y0:Int}(R:aHB H D Y y1 y0):(H*4294967296+D) / Y<=H / y1/\H / y1<=4294967297/\(H / y1)*y1+H % y1=H:=by
 have hp:0 < Y:=by have:=R.hY;have:=R.y1l;have:=R.y0l;omega
 have hp1:0 < y1:=by have:=R.y1l;omega
 refine⟨?_,?_,by rw[Int.mul_comm];exact Int.mul_ediv_add_emod H y1⟩
 ·have h1:=Int.lt_ediv_add_one_mul_self H hp1;have:(H*4294967296+D) / Y < H / y1+1:=by
   rw[fa hp]
   have e:(H / y1+1)*Y=((H / y1+1)*y1)*4294967296+(H / y1+1)*y0:=by rw[R.hY];grind
   have hn:0<=(H / y1+1)*y0:=Int.mul_nonneg (by have:=Int.ediv_nonneg R.Hl (ef hp1);omega) R.y0l;rw[e]
   have:=R.Dh;generalize (H / y1+1)*y1=A at *;generalize (H / y1+1)*y0=B at *;omega
  omega
 ·have:H / y1 < 4294967298:=by
   rw[fa hp1]
   have:=R.Hh;have:=R.hY;have:=R.y0h;have:=R.y1l;omega
  omega
def dG(z:Int):Prop := -9223372036854775808<=z/\z<=9223372036854775807
theorem dt{p:Prop}[Decidable p](h:p):decide p=true:=by simpa using h
theorem df{p:Prop}[Decidable p](h:¬p):decide p=false:=by simpa using h
theorem dO{x:Int}(h:(Lit.int .i64 x).wf=true):dG x:=by obtain⟨h1,h2⟩:=aHf h;exact⟨h1,by omega⟩
theorem tG{i:Nat}(h:i < 9223372036854775807):I64 ((i:Int)+1)=((i+1:Nat):Int):=by rw[kN (by omega) (by omega)];rfl
theorem oJ{α:Type}{l:List α}{i:Nat}(h:i < l.length):idx l (i:Int)=some l[i]:=by unfold idx;simp[h]
theorem aCz{α:Type}{l:List α}{lo hi:Int}(h0:0<=lo)(h1:lo<=hi)(h2:hi<=(l.length:Int)):nD l lo hi=some ((l.take hi.toNat).drop lo.toNat):=by
 unfold nD;rw[dt h0,dt h1,dt h2];rfl
theorem vD{α:Type}{l:List α}{n:Nat}(h:n<=l.length):nD l 0 (n:Int)=some (l.take n):=by
 rw[aCz (by omega) (by omega) (by omega)];simp
theorem aBC{α:Type}(l:List α)(n:Nat):nD l 0 (aAX (l.length:Int) (n:Int))=some (l.take n):=by
 have:aAX (l.length:Int) (n:Int)=((min l.length n:Nat):Int):=by unfold aAX;split <;> omega
 rw[this,vD (by omega)]
 congr 1;rw[List.take_eq_take_iff]
 omega
theorem nU{α:Type}{b:Nat}{l r:List α}(h:(l.length+r.length)*b<=140737488355328):pK b l r=some (l++r):=by
 unfold pK;rw[aHY h];rfl
end Go.UK
namespace Go.UK
open Go
variable [bJ]
set_option linter.all false
end Go.UK
namespace Go.UK
open Go
variable [bJ]
set_option linter.all false
theorem aBS{α:Type}(n:Nat)(hn:n < 9223372036854775807)(g:Nat->List α)(I:List α->Nat->Prop)(F:Nat->List α->Int->Option (List α))(hI:∀s i,i < n->I s i->I (s++g i) (i+1))
  (hstep:∀k s i,i < n->I s i->F (k+1) s (i:Int)=F k (s++g i) (I64 ((i:Int)+1))) (hend:∀k s,F (k+1) s (n:Int)=some s) :
  ∀(k i:Nat) (s:List α),I s i->i<=n->n - i < k->F k s (i:Int)=some (s++(List.range' i (n - i)).flatMap g)
 | 0,i,_,_,_,h=>by omega
 | k+1,i,s,hs,hi,hk=>by
  by_cases h:i < n
  ·rw[hstep k s i h hs,tG (by omega),aBS n hn g I F hI hstep hend k (i+1) _ (hI s i h hs) (by omega) (by omega),show n - i=(n - (i+1))+1 by omega,List.range'_succ,List.flatMap_cons,List.append_assoc]
  ·obtain rfl:i=n:=by omega
   rw[hend,Nat.sub_self];simp
theorem aD5{α:Type}(n:Nat)(hn:n < 9223372036854775807)(g:Nat->List α)(I:List α->Nat->Prop)(F:Nat->List α->Int->Option (List α))(hI:∀s i,i < n->I s i->I (s++g i) (i+1))
  (hstep:∀k s i,i < n->I s i->F (k+1) s (i:Int)=F k (s++g i) (I64 ((i:Int)+1))) (hend:∀k s,F (k+1) s (n:Int)=some s)
  {N:Nat} (hN:n < N) {s:List α} (hs:I s 0):F N s 0=some (s++(List.range n).flatMap g):=by
 have:=aBS n hn g I F hI hstep hend N 0 s hs (by omega) (by omega)
 rw[Nat.sub_zero,<- List.range_eq_range'] at this;exact this
theorem yO{α:Type}(l:List Nat)(f:Nat->α):l.flatMap (λi=>[f i])=l.map f:=by
 induction l with
 | nil=>rfl
 | cons x l ih=>simp[List.flatMap_cons,ih]
end Go.UK
namespace Go.UK
open Go
variable [bJ]
set_option linter.all false
end Go.UK
namespace Go.UK
open Go
variable [bJ]
set_option linter.all false
def T{α:Type}(o:Option α)(Q:α->Prop):Prop:=∃a,o=some a/\Q a
section
variable {α β:Type}
theorem T.bind{o:Option α}{f:α->Option β}{P:α->Prop}{Q:β->Prop}(h:T o P)(hf:∀a,P a->T (f a) Q):T (Option.bind o f) Q:=by
 obtain⟨a,rfl,ha⟩:=h;exact hf a ha
theorem T.ret{a:α}{Q:α->Prop}(h:Q a):T (some a) Q:=⟨a,rfl,h⟩
theorem T.mono{o:Option α}{P Q:α->Prop}(h:T o P)(hp:∀a,P a->Q a):T o Q:=by obtain⟨a,e,ha⟩:=h;exact⟨a,e,hp a ha⟩
theorem T.cond{c:Bool}{x y:Option α}{Q:α->Prop}(h1:c=true->T x Q)(h2:c=false->T y Q):T (cond c x y) Q:=by cases c with | true=>exact h1 rfl | false=>exact h2 rfl
theorem T.of{o:Option α}{a:α}{Q:α->Prop}(h:o=some a)(hq:Q a):T o Q:=⟨a,h,hq⟩
theorem T.get{l:List α}{i:Nat}(h:i < l.length):T (l[i]?) (λe=>l[i]? = some e):=by
 rw[List.getElem?_eq_getElem h];exact⟨_,rfl,rfl⟩
end
end Go.UK
