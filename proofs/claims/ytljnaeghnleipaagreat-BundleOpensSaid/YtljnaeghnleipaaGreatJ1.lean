/- A part of the proof: what the functions of the program compute. -/
import Derived.Test.YtljnaeghnleipaaGreatLib14
import Derived.Laws.Bits64
import Derived.Laws.BitsLemmas
open BitVec renaming ofInt→ar
open Int renaming eq_ofNat_of_zero_le→bp,toNat_natCast→cw
open List renaming flatMap_cons→dp,getElem?_eq_getElem→ag
namespace Go.UK
open Go
variable [cC]
set_option linter.all false
theorem aI4(x:Int):U64 x=x % 18446744073709551616:=IntKind.wrap_u64 x
theorem aK7(x:Int):I64 x=(x+9223372036854775808) % 18446744073709551616 - 9223372036854775808:=IntKind.wrap_i64 x
theorem aKn(x:Int):0<=U64 x:=by rw[aI4];omega
theorem aKX(x:Int):U64 x < 18446744073709551616:=by rw[aI4];omega
theorem kW{x:Int}(h:0<=x)(h':x < 18446744073709551616):U64 x=x:=by rw[aI4];omega
theorem aU{x:Int}(h:-9223372036854775808<=x)(h':x < 9223372036854775808):I64 x=x:=by rw[aK7];omega
theorem wF(k:IntKind)(a b:Int)(m:Nat)(hb:b=m)(hm:m<=k.bits):shr k a b=a / (2:Int) ^ m:=by
 subst hb;unfold shr;rw[show min (m:Int).toNat k.bits=m by simp;omega,Int.fdiv_eq_ediv_of_nonneg _ (Int.le_of_lt (Int.pow_pos (by decide)))]
theorem aLK(a b:Int)(m:Nat)(hb:b=m)(hm:m<=64):shl .u64 a b=(a*(2:Int) ^ m) % 18446744073709551616:=by
 subst hb;unfold shl;rw[show min (m:Int).toNat IntKind.u64.bits=m by simp[IntKind.bits];omega]
 exact IntKind.wrap_u64 _
theorem aSJ(a:Int):shr .u64 a 32=a / 4294967296:=by rw[wF .u64 a 32 32 rfl (by decide)];rfl
theorem aBP(n:Nat)(h:n < 18446744073709551616):(ar 64 (n:Int)).toNat=n:=by
 rw[BitVec.toNat_ofInt]
 simp;omega
theorem aNN{a b:Int}(ha:0<=a)(ha':a < 18446744073709551616)(hb:0<=b)(hb':b < 18446744073709551616):dV .u64 a b=((a.toNat &&& b.toNat:Nat):Int):=by
 obtain⟨A,rfl⟩:=bp ha;obtain⟨B,rfl⟩:=bp hb;unfold dV;have h:A &&& B<=A:=Nat.and_le_left;rw[show(ar IntKind.u64.bits (A:Int) &&& ar IntKind.u64.bits (B:Int)).toNat=A &&& B by
  rw[BitVec.toNat_and];congr 1 <;> exact aBP _ (by omega),IntKind.wrap_u64]
 simp only[cw]
 omega
theorem bor_e{a b:Int}(ha:0<=a)(ha':a < 18446744073709551616)(hb:0<=b)(hb':b < 18446744073709551616):bor .u64 a b=((a.toNat ||| b.toNat:Nat):Int):=by
 obtain⟨A,rfl⟩:=bp ha;obtain⟨B,rfl⟩:=bp hb;unfold bor;have h:A ||| B < 2 ^ 64:=Nat.or_lt_two_pow (by omega) (by omega)
 rw[show(ar IntKind.u64.bits (A:Int) ||| ar IntKind.u64.bits (B:Int)).toNat=A ||| B by
  rw[BitVec.toNat_or];congr 1 <;> exact aBP _ (by omega),IntKind.wrap_u64]
 simp only[cw]
 omega
theorem aJ9{a:Int}(ha:0<=a)(ha':a < 18446744073709551616):dV .u64 a 4294967295=a % 4294967296:=by
 rw[aNN ha ha' (by omega) (by omega)]
 obtain⟨A,rfl⟩:=bp ha;have:A &&& 4294967295=A % 2 ^ 32:=Nat.and_two_pow_sub_one_eq_mod A 32;rw[show(4294967295:Int).toNat=4294967295 from rfl,cw,this]
 rfl
theorem aHx{a b:Int}(m:Nat)(ha:0<=a)(ha':a < 18446744073709551616)(hb:0<=b)(hb':b < (2 ^ m:Nat))(hm:m<=64)(hd:(2 ^ m:Nat) ∣ a.toNat):bor .u64 a b=a+b:=by
 have h64:(2 ^ m:Nat)<=2 ^ 64:=Nat.pow_le_pow_right (by decide) hm;rw[bor_e ha ha' hb (by omega)]
 obtain⟨A,rfl⟩:=bp ha;obtain⟨B,rfl⟩:=bp hb;obtain⟨C,hC⟩:=hd;simp only[cw] at hC ⊢;have:A ||| B=A+B:=by
  rw[hC,Nat.mul_comm,<- Nat.shiftLeft_eq,Nat.shiftLeft_add_eq_or_of_lt (by omega)]
 rw[this]
 omega
theorem aFi(a b:Int):bor .u64 a b=bor .u64 b a:=by unfold bor;rw[BitVec.or_comm]
theorem aO8(a b:Int):0<=bor .u64 a b/\bor .u64 a b < 18446744073709551616:=by unfold bor;exact⟨aKn _,aKX _⟩
theorem aC{α β:Type}(x:α)(f:α->β):aT x f=f x:=rfl
theorem uC(k:IntKind){a b:Int}(h:0<=b):aEx k a b=some (shl k a b):=by unfold aEx;rw[show decide (b < 0)=false by simpa using h];rfl
theorem lX(k:IntKind){a b:Int}(h:0<=b):zX k a b=some (shr k a b):=by unfold zX;rw[show decide (b < 0)=false by simpa using h];rfl
theorem aIC{a b:Int}(ha:0<=a)(ha':a < 4294967296)(hb:0<=b)(hb':b < 4294967296):0<=a*b/\a*b<=18446744065119617025:=by
 have h1:=Int.mul_nonneg ha hb;have h2:a*b<=4294967295*4294967295:=Int.mul_le_mul (by omega) (by omega) hb (by omega)
 omega
def aCk(z:Int):Prop := -9223372036854775808<=z/\z<=9223372036854775807
theorem dt{p:Prop}[Decidable p](h:p):decide p=true:=by simpa using h
theorem df{p:Prop}[Decidable p](h:¬p):decide p=false:=by simpa using h
theorem cV{i:Nat}(h:i < 9223372036854775807):I64 ((i:Int)+1)=((i+1:Nat):Int):=by rw[aU (by omega) (by omega)];rfl
theorem dA{α:Type}{l:List α}{i:Nat}(h:i < l.length):idx l (i:Int)=some l[i]:=by unfold idx;simp[h]
theorem mK{α:Type}(l:List α)(i:Nat):idx l (i:Int)=l[i]? := by unfold idx;simp
theorem qM{α:Type}{l:List α}{lo hi:Int}(h0:0<=lo)(h1:lo<=hi)(h2:hi<=(l.length:Int)):eD l lo hi=some ((l.take hi.toNat).drop lo.toNat):=by
 unfold eD;rw[dt h0,dt h1,dt h2];rfl
theorem nS{α:Type}{l:List α}{n:Nat}(h:n<=l.length):eD l 0 (n:Int)=some (l.take n):=by
 rw[qM (by omega) (by omega) (by omega)];simp
theorem aOW{α:Type}(l:List α)(n:Nat):eD l 0 (mU (l.length:Int) (n:Int))=some (l.take n):=by
 have:mU (l.length:Int) (n:Int)=((min l.length n:Nat):Int):=by unfold mU;split <;> omega
 rw[this,nS (by omega)]
 congr 1;rw[List.take_eq_take_iff]
 omega
theorem hJ{α:Type}{b:Nat}{l r:List α}(h:(l.length+r.length)*b<=140737488355328):nR b l r=some (l++r):=by
 unfold nR;rw[Nat.ble_eq_true_of_le h];rfl
theorem dP{i:Int}{n:Nat}(h:0<=i)(h':i < (n:Int)):aW i n=some ():=by
 unfold aW inR;simp[h,h']
end Go.UK
namespace Go.UK
open Go
variable [cC]
set_option linter.all false
theorem aIm{α:Type}{eq:α->α->Bool}(h:∀a,eq a a=true):∀l:List α,eqL eq l l=true
 | []=>rfl
 | a :: l=>by simp[eqL,h,aIm h l]
end Go.UK
namespace Go.UK
open Go
variable [cC]
set_option linter.all false
theorem aLP{α β:Type}(l:List α)(q:α->Bool)(r:β)(F:Nat->Int->Option (Sum Unit β))(hl:l.length < 9223372036854775807)
  (h1:∀k i (h:i < l.length),F (k+1) (i:Int)=cond (q l[i]) (some (Sum.inr r)) (F k (I64 ((i:Int)+1)))) (h2:∀k,F (k+1) (l.length:Int)=some (Sum.inl ())) :
  ∀(k i:Nat),i<=l.length->l.length - i < k->F k (i:Int)=some (cond ((l.drop i).any q) (Sum.inr r) (Sum.inl ()))
 | 0,i,_,h=>by omega
 | k+1,i,hi,hk=>by
  by_cases h:i < l.length
  ·rw[h1 k i h,List.drop_eq_getElem_cons h,List.any_cons]
   cases q l[i] with
   | true=>rfl
   | false=>rw[cond_false,cV (by omega),aLP l q r F hl h1 h2 k (i+1) (by omega) (by omega)];rfl
  ·obtain rfl:i=l.length:=by omega
   rw[h2,List.drop_length];rfl
theorem rG{α β:Type}(l:List α)(q:α->Bool)(r:β)(F:Nat->Int->Option (Sum Unit β))(hl:l.length < 9223372036854775807)
  (h1:∀k i (h:i < l.length),F (k+1) (i:Int)=cond (q l[i]) (some (Sum.inr r)) (F k (I64 ((i:Int)+1)))) (h2:∀k,F (k+1) (l.length:Int)=some (Sum.inl ()))
  {N:Nat} (hN:l.length < N):F N 0=some (cond (l.any q) (Sum.inr r) (Sum.inl ())):=by
 have:=aLP l q r F hl h1 h2 N 0 (by omega) (by omega)
 rwa[List.drop_zero] at this
theorem aJO{α:Type}(n:Nat)(hn:n < 9223372036854775807)(g:Nat->List α)(I:List α->Nat->Prop)(F:Nat->List α->Int->Option (List α))(hI:∀s i,i < n->I s i->I (s++g i) (i+1))
  (hstep:∀k s i,i < n->I s i->F (k+1) s (i:Int)=F k (s++g i) (I64 ((i:Int)+1))) (hend:∀k s,F (k+1) s (n:Int)=some s) :
  ∀(k i:Nat) (s:List α),I s i->i<=n->n - i < k->F k s (i:Int)=some (s++(List.range' i (n - i)).flatMap g)
 | 0,i,_,_,_,h=>by omega
 | k+1,i,s,hs,hi,hk=>by
  by_cases h:i < n
  ·rw[hstep k s i h hs,cV (by omega),aJO n hn g I F hI hstep hend k (i+1) _ (hI s i h hs) (by omega) (by omega),show n - i=(n - (i+1))+1 by omega,List.range'_succ,dp,List.append_assoc]
  ·obtain rfl:i=n:=by omega
   rw[hend,Nat.sub_self];simp
theorem pF{α:Type}(n:Nat)(hn:n < 9223372036854775807)(g:Nat->List α)(I:List α->Nat->Prop)(F:Nat->List α->Int->Option (List α))(hI:∀s i,i < n->I s i->I (s++g i) (i+1))
  (hstep:∀k s i,i < n->I s i->F (k+1) s (i:Int)=F k (s++g i) (I64 ((i:Int)+1))) (hend:∀k s,F (k+1) s (n:Int)=some s)
  {N:Nat} (hN:n < N) {s:List α} (hs:I s 0):F N s 0=some (s++(List.range n).flatMap g):=by
 have:=aJO n hn g I F hI hstep hend N 0 s hs (by omega) (by omega)
 rw[Nat.sub_zero,<- List.range_eq_range'] at this;exact this
theorem aFq{α:Type}(l:List Nat)(f:Nat->α):l.flatMap (λi=>[f i])=l.map f:=by
 induction l with
 | nil=>rfl
 | cons x l ih=>simp[dp,ih]
end Go.UK
namespace Go.UK
open Go
variable [cC]
set_option linter.all false
end Go.UK
namespace Go.UK
open Go
variable [cC]
set_option linter.all false
def T{α:Type}(o:Option α)(Q:α->Prop):Prop:=∃a,o=some a/\Q a
section
variable {α β:Type}
theorem T.bind{o:Option α}{f:α->Option β}{P:α->Prop}{Q:β->Prop}(h:T o P)(hf:∀a,P a->T (f a) Q):T (Option.bind o f) Q:=by
 obtain⟨a,rfl,ha⟩:=h;exact hf a ha
theorem T.ret{a:α}{Q:α->Prop}(h:Q a):T (some a) Q:=⟨a,rfl,h⟩
theorem T.mono{o:Option α}{P Q:α->Prop}(h:T o P)(hp:∀a,P a->Q a):T o Q:=by obtain⟨a,e,ha⟩:=h;exact⟨a,e,hp a ha⟩
theorem T.cond{c:Bool}{x y:Option α}{Q:α->Prop}(h1:c=true->T x Q)(h2:c=false->T y Q):T (cond c x y) Q:=by cases c with | true=>exact h1 rfl | false=>exact h2 rfl
theorem T.letO{a:α}{f:α->Option β}{Q:β->Prop}(h:∀x,x=a->T (f x) Q):T (aT a f) Q:=h a rfl
theorem T.of{o:Option α}{a:α}{Q:α->Prop}(h:o=some a)(hq:Q a):T o Q:=⟨a,h,hq⟩
theorem T.idx{l:List α}{i:Int}(h0:0<=i)(h1:i < (l.length:Int)):T (idx l i) (λe=>l[i.toNat]? = some e):=by
 obtain⟨n,rfl⟩:=bp h0;rw[mK,ag (by omega)]
 exact⟨_,rfl,by rw[cw,ag (by omega)]⟩
theorem T.get{l:List α}{i:Nat}(h:i < l.length):T (l[i]?) (λe=>l[i]? = some e):=by
 rw[ag h];exact⟨_,rfl,rfl⟩
theorem T.inRO{i:Int}{n:Nat}(h:0<=i)(h':i < (n:Int)):T (aW i n) (λ_=>True):=⟨_,dP h h',trivial⟩
theorem T.slc{l:List α}{lo hi:Int}(h0:0<=lo)(h1:lo<=hi)(h2:hi<=(l.length:Int)):T (eD l lo hi) (λr=>r=(l.take hi.toNat).drop lo.toNat/\(r.length:Int)=hi - lo):=by
 refine⟨_,qM h0 h1 h2,rfl,?_⟩
 rw[List.length_drop,List.length_take]
 omega
end
end Go.UK
