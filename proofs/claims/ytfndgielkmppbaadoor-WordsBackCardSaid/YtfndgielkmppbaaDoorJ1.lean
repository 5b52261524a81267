/- A part of the proof: what the functions of the program compute. -/
import Derived.Test.YtfndgielkmppbaaDoorLib14
import Derived.Laws.Bits64
import Derived.Laws.BitsLemmas
namespace Go.UK
open Go
variable [bA]
set_option linter.all false
theorem uZ(x:Int):U64 x=x % 18446744073709551616:=IntKind.wrap_u64 x
theorem aAw(x:Int):I64 x=(x+9223372036854775808) % 18446744073709551616 - 9223372036854775808:=IntKind.wrap_i64 x
theorem aGm(x:Int):0<=U64 x:=by rw[uZ];omega
theorem aGG(x:Int):U64 x < 18446744073709551616:=by rw[uZ];omega
theorem aGQ(x:Int) : -9223372036854775808<=I64 x:=by rw[aAw];omega
theorem aGg(x:Int):I64 x < 9223372036854775808:=by rw[aAw];omega
theorem qB{x:Int}(h:0<=x)(h':x < 18446744073709551616):U64 x=x:=by rw[uZ];omega
theorem iG{x:Int}(h:-9223372036854775808<=x)(h':x < 9223372036854775808):I64 x=x:=by rw[aAw];omega
theorem aA8(k:IntKind)(a b:Int)(m:Nat)(hb:b=m)(hm:m<=k.bits):shr k a b=a / (2:Int) ^ m:=by
 subst hb;unfold shr;rw[show min (m:Int).toNat k.bits=m by simp;omega,Int.fdiv_eq_ediv_of_nonneg _ (Int.le_of_lt (Int.pow_pos (by decide)))]
theorem shl_e(a b:Int)(m:Nat)(hb:b=m)(hm:m<=64):shl .u64 a b=(a*(2:Int) ^ m) % 18446744073709551616:=by
 subst hb;unfold shl;rw[show min (m:Int).toNat IntKind.u64.bits=m by simp[IntKind.bits];omega]
 exact IntKind.wrap_u64 _
theorem aM{α β:Type}(x:α)(f:α->β):cG x f=f x:=rfl
theorem aBM(k:IntKind){a b:Int}(h:0<=b):aDI k a b=some (shl k a b):=by unfold aDI;rw[show decide (b < 0)=false by simpa using h];rfl
theorem rZ(k:IntKind){a b:Int}(h:0<=b):yK k a b=some (shr k a b):=by unfold yK;rw[show decide (b < 0)=false by simpa using h];rfl
def dJ(z:Int):Prop := -9223372036854775808<=z/\z<=9223372036854775807
theorem dt{p:Prop}[Decidable p](h:p):decide p=true:=by simpa using h
theorem df{p:Prop}[Decidable p](h:¬p):decide p=false:=by simpa using h
theorem cR{x:Int}(h:(Lit.int .i64 x).wf=true):dJ x:=by obtain⟨h1,h2⟩:=aFv h;exact⟨h1,by omega⟩
theorem aDD(x:Int):dJ (I64 x):=⟨aGQ x,by have:=aGg x;omega⟩
theorem mQ{i:Nat}(h:i < 9223372036854775807):I64 ((i:Int)+1)=((i+1:Nat):Int):=by rw[iG (by omega) (by omega)];rfl
theorem mJ{α:Type}{l:List α}{i:Nat}(h:i < l.length):idx l (i:Int)=some l[i]:=by unfold idx;simp[h]
theorem rV{α:Type}{l:List α}{lo hi:Int}(h0:0<=lo)(h1:lo<=hi)(h2:hi<=(l.length:Int)):qH l lo hi=some ((l.take hi.toNat).drop lo.toNat):=by
 unfold qH;rw[dt h0,dt h1,dt h2];rfl
theorem aB6{α:Type}{l:List α}{n:Nat}(h:n<=l.length):qH l 0 (n:Int)=some (l.take n):=by
 rw[rV (by omega) (by omega) (by omega)];simp
theorem aDh{α:Type}(l:List α)(n:Nat):qH l 0 (wD (l.length:Int) (n:Int))=some (l.take n):=by
 have:wD (l.length:Int) (n:Int)=((min l.length n:Nat):Int):=by unfold wD;split <;> omega
 rw[this,aB6 (by omega)]
 congr 1;rw[List.take_eq_take_iff]
 omega
theorem iU{α:Type}{b:Nat}{l r:List α}(h:(l.length+r.length)*b<=140737488355328):oD b l r=some (l++r):=by
 unfold oD;rw[Nat.ble_eq_true_of_le h];rfl
end Go.UK
namespace Go.UK
open Go
variable [bA]
set_option linter.all false
end Go.UK
namespace Go.UK
open Go
variable [bA]
set_option linter.all false
theorem yN{α:Type}(n:Nat)(hn:n < 9223372036854775807)(g:Nat->List α)(I:List α->Nat->Prop)(F:Nat->List α->Int->Option (List α))(hI:∀s i,i < n->I s i->I (s++g i) (i+1))
  (hstep:∀k s i,i < n->I s i->F (k+1) s (i:Int)=F k (s++g i) (I64 ((i:Int)+1))) (hend:∀k s,F (k+1) s (n:Int)=some s) :
  ∀(k i:Nat) (s:List α),I s i->i<=n->n - i < k->F k s (i:Int)=some (s++(List.range' i (n - i)).flatMap g)
 | 0,i,_,_,_,h=>by omega
 | k+1,i,s,hs,hi,hk=>by
  by_cases h:i < n
  ·rw[hstep k s i h hs,mQ (by omega),yN n hn g I F hI hstep hend k (i+1) _ (hI s i h hs) (by omega) (by omega),show n - i=(n - (i+1))+1 by omega,List.range'_succ,List.flatMap_cons,List.append_assoc]
  ·obtain rfl:i=n:=by omega
   rw[hend,Nat.sub_self];simp
theorem aCW{α:Type}(n:Nat)(hn:n < 9223372036854775807)(g:Nat->List α)(I:List α->Nat->Prop)(F:Nat->List α->Int->Option (List α))(hI:∀s i,i < n->I s i->I (s++g i) (i+1))
  (hstep:∀k s i,i < n->I s i->F (k+1) s (i:Int)=F k (s++g i) (I64 ((i:Int)+1))) (hend:∀k s,F (k+1) s (n:Int)=some s)
  {N:Nat} (hN:n < N) {s:List α} (hs:I s 0):F N s 0=some (s++(List.range n).flatMap g):=by
 have:=yN n hn g I F hI hstep hend N 0 s hs (by omega) (by omega)
 rw[Nat.sub_zero,<- List.range_eq_range'] at this;exact this
theorem tP{α:Type}(l:List Nat)(f:Nat->α):l.flatMap (λi=>[f i])=l.map f:=by
 induction l with
 | nil=>rfl
 | cons x l ih=>simp[List.flatMap_cons,ih]
end Go.UK
namespace Go.UK
open Go
variable [bA]
set_option linter.all false
end Go.UK
namespace Go.UK
open Go
variable [bA]
set_option linter.all false
def T{α:Type}(o:Option α)(Q:α->Prop):Prop:=∃a,o=some a/\Q a
section
variable {α β:Type}
theorem T.bind{o:Option α}{f:α->Option β}{P:α->Prop}{Q:β->Prop}(h:T o P)(hf:∀a,P a->T (f a) Q):T (Option.bind o f) Q:=by
 obtain⟨a,rfl,ha⟩:=h;exact hf a ha
theorem T.ret{a:α}{Q:α->Prop}(h:Q a):T (some a) Q:=⟨a,rfl,h⟩
theorem T.mono{o:Option α}{P Q:α->Prop}(h:T o P)(hp:∀a,P a->Q a):T o Q:=by obtain⟨a,e,ha⟩:=h;exact⟨a,e,hp a ha⟩
theorem T.cond{c:Bool}{x y:Option α}{Q:α->Prop}(h1:c=true->T x Q)(h2:c=false->T y Q):T (cond c x y) Q:=by cases c with | true=>exact h1 rfl | false=>exact h2 rfl
theorem T.of{o:Option α}{a:α}{Q:α->Prop}(h:o=some a)(hq:Q a):T o Q:=⟨a,h,hq⟩
theorem T.get{l:List α}{i:Nat}(h:i < l.length):T (l[i]?) (λe=>l[i]? = some e):=by
 rw[List.getElem?_eq_getElem h];exact⟨_,rfl,rfl⟩
end
end Go.UK
