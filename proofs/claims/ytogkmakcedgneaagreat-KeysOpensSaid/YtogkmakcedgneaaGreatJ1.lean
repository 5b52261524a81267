/- A part of the proof: what the functions of the program compute. -/
import Derived.Test.YtogkmakcedgneaaGreatLib15
import Derived.Laws.Bits64
import Derived.Laws.BitsLemmas
open BitVec renaming ofInt→au
open Int renaming eq_ofNat_of_zero_le→br,toNat_natCast→bo
open List renaming flatMap_cons→dm,getElem?_eq_getElem→af,range→ce
namespace Go.UK
open Go
variable [bU]
set_option linter.all false
theorem aH0(x:Int):U64 x=x % 18446744073709551616:=IntKind.wrap_u64 x
theorem aPD(x:Int):I64 x=(x+9223372036854775808) % 18446744073709551616 - 9223372036854775808:=IntKind.wrap_i64 x
theorem aCa(x:Int):0<=U64 x:=by rw[aH0];omega
theorem aGH(x:Int):U64 x < 18446744073709551616:=by rw[aH0];omega
theorem jW{x:Int}(h:0<=x:=by omega)(h':x < 18446744073709551616:=by omega):U64 x=x:=by rw[aH0];omega
theorem aP{x:Int}(h:-9223372036854775808<=x:=by omega)(h':x < 9223372036854775808:=by omega):I64 x=x:=by rw[aPD];omega
theorem zC(k:IntKind)(a b:Int)(m:Nat)(hb:b=m)(hm:m<=k.bits:=by decide):shr k a b=a / (2:Int) ^ m:=by
 subst hb;unfold shr;rw[show min (m:Int).toNat k.bits=m by simp;omega,Int.fdiv_eq_ediv_of_nonneg _ (Int.le_of_lt (Int.pow_pos (by decide)))]
theorem aLb(a b:Int)(m:Nat)(hb:b=m)(hm:m<=64:=by omega):shl .u64 a b=(a*(2:Int) ^ m) % 18446744073709551616:=by
 subst hb;unfold shl;rw[show min (m:Int).toNat IntKind.u64.bits=m by simp[IntKind.bits];omega]
 exact IntKind.wrap_u64 _
theorem aVU(a:Int):shr .u64 a 32=a / 4294967296:=by rw[zC .u64 a 32 32 rfl];rfl
theorem aC4(n:Nat)(h:n < 18446744073709551616:=by omega):(au 64 (n:Int)).toNat=n:=by
 rw[BitVec.toNat_ofInt]
 simp;omega
theorem aLU{a b:Int}(ha:0<=a)(ha':a < 18446744073709551616)(hb:0<=b:=by omega)(hb':b < 18446744073709551616:=by omega):cI .u64 a b=((a.toNat &&& b.toNat:Nat):Int):=by
 obtain⟨A,rfl⟩:=br ha;obtain⟨B,rfl⟩:=br hb;unfold cI;have h:A &&& B<=A:=Nat.and_le_left;rw[show(au IntKind.u64.bits (A:Int) &&& au IntKind.u64.bits (B:Int)).toNat=A &&& B by
  rw[BitVec.toNat_and];congr 1 <;> exact aC4 _,IntKind.wrap_u64]
 simp only[bo]
 omega
theorem bor_e{a b:Int}(ha:0<=a)(ha':a < 18446744073709551616)(hb:0<=b)(hb':b < 18446744073709551616):bor .u64 a b=((a.toNat ||| b.toNat:Nat):Int):=by
 obtain⟨A,rfl⟩:=br ha;obtain⟨B,rfl⟩:=br hb;unfold bor;have h:A ||| B < 2 ^ 64:=Nat.or_lt_two_pow (by omega) (by omega)
 rw[show(au IntKind.u64.bits (A:Int) ||| au IntKind.u64.bits (B:Int)).toNat=A ||| B by
  rw[BitVec.toNat_or];congr 1 <;> exact aC4 _,IntKind.wrap_u64]
 simp only[bo]
 omega
theorem aNK{a:Int}(ha:0<=a)(ha':a < 18446744073709551616):cI .u64 a 4294967295=a % 4294967296:=by
 rw[aLU ha ha']
 obtain⟨A,rfl⟩:=br ha;have:A &&& 4294967295=A % 2 ^ 32:=Nat.and_two_pow_sub_one_eq_mod A 32;rw[show(4294967295:Int).toNat=4294967295 from rfl,bo,this]
 rfl
theorem aKR{a b:Int}(m:Nat)(ha:0<=a)(ha':a < 18446744073709551616)(hb:0<=b)(hb':b < (2 ^ m:Nat))(hm:m<=64)(hd:(2 ^ m:Nat) ∣ a.toNat):bor .u64 a b=a+b:=by
 have h64:(2 ^ m:Nat)<=2 ^ 64:=Nat.pow_le_pow_right (by decide) hm;rw[bor_e ha ha' hb (by omega)]
 obtain⟨A,rfl⟩:=br ha;obtain⟨B,rfl⟩:=br hb;obtain⟨C,hC⟩:=hd;simp only[bo] at hC ⊢;have:A ||| B=A+B:=by
  rw[hC,Nat.mul_comm,<- Nat.shiftLeft_eq,Nat.shiftLeft_add_eq_or_of_lt (by omega)]
 rw[this]
 omega
theorem aIF(a b:Int):bor .u64 a b=bor .u64 b a:=by unfold bor;rw[BitVec.or_comm]
theorem aSp(a b:Int):0<=bor .u64 a b/\bor .u64 a b < 18446744073709551616:=by unfold bor;exact⟨aCa _,aGH _⟩
theorem aC{α β:Type}(x:α)(f:α->β):aM x f=f x:=rfl
theorem tU(k:IntKind){a b:Int}(h:0<=b:=by omega):aFP k a b=some (shl k a b):=by unfold aFP;rw[show decide (b < 0)=false by simpa using h];rfl
theorem jB(k:IntKind){a b:Int}(h:0<=b:=by omega):yR k a b=some (shr k a b):=by unfold yR;rw[show decide (b < 0)=false by simpa using h];rfl
theorem aKd{a b:Int}(ha:0<=a:=by omega)(ha':a < 4294967296:=by omega)(hb:0<=b:=by omega)(hb':b < 4294967296:=by omega):0<=a*b/\a*b<=18446744065119617025:=by
 have h1:=Int.mul_nonneg ha hb;have h2:a*b<=4294967295*4294967295:=Int.mul_le_mul (by omega) (by omega) hb (by omega)
 omega
structure aUP(H D Y y1 y0:Int):Prop where
 hY:Y=y1*4294967296+y0
 y1l:2147483648<=y1
 y1h:y1 < 4294967296
 y0l:0<=y0
 y0h:y0 < 4294967296
 Hl:0<=H
 Hh:H < Y
 Dl:0<=D
 Dh:D < 4294967296
theorem aUP.test{H D Y y1 y0 q r:Int}(R:aUP H D Y y1 y0)(hq:q*y1+r=H):(q*y0 > 4294967296*r+D)↔(H*4294967296+D) / Y < q:=by
 have hp:0 < Y:=by have:=R.hY;have:=R.y1l;have:=R.y0l;omega
 rw[Int.ediv_lt_iff_lt_mul hp]
 have e:q*Y=(q*y1)*4294967296+q*y0:=by rw[R.hY];grind
 rw[e]
 generalize q*y1=A at *;generalize q*y0=B at *;omega
def aEw(z:Int):Prop := -9223372036854775808<=z/\z<=9223372036854775807
theorem dt{p:Prop}[Decidable p](h:p:=by omega):decide p=true:=by simpa using h
theorem df{p:Prop}[Decidable p](h:¬p:=by omega):decide p=false:=by simpa using h
theorem cF{i:Nat}(h:i < 9223372036854775807:=by omega):I64 ((i:Int)+1)=((i+1:Nat):Int):=by rw[aP];rfl
theorem cN{α:Type}{l:List α}{i:Nat}(h:i < l.length:=by omega):idx l (i:Int)=some l[i]:=by unfold idx;simp[h]
theorem kX{α:Type}(l:List α)(i:Nat):idx l (i:Int)=l[i]? := by unfold idx;simp
theorem qC{α:Type}{l:List α}{lo hi:Int}(h0:0<=lo:=by omega)(h1:lo<=hi:=by omega)(h2:hi<=(l.length:Int):=by omega):cR l lo hi=some ((l.take hi.toNat).drop lo.toNat):=by
 unfold cR;rw[dt h0,dt h1,dt h2];rfl
theorem nQ{α:Type}{l:List α}{n:Nat}(h:n<=l.length:=by omega):cR l 0 (n:Int)=some (l.take n):=by
 rw[qC];simp
theorem aQt{α:Type}(l:List α)(n:Nat):cR l 0 (nE (l.length:Int) (n:Int))=some (l.take n):=by
 have:nE (l.length:Int) (n:Int)=((min l.length n:Nat):Int):=by unfold nE;split <;> omega
 rw[this,nQ]
 congr 1;rw[List.take_eq_take_iff]
 omega
theorem cK{α:Type}{b:Nat}{l r:List α}(h:(l.length+r.length)*b<=140737488355328:=by omega):fT b l r=some (l++r):=by
 unfold fT;rw[aWQ h];rfl
theorem bQ{i:Int}{n:Nat}(h:0<=i:=by omega)(h':i < (n:Int):=by omega):aS i n=some ():=by
 unfold aS inR;simp[h,h']
end Go.UK
namespace Go.UK
open Go
variable [bU]
set_option linter.all false
theorem aMN{α:Type}{eq:α->α->Bool}(h:∀a,eq a a=true):∀l:List α,eqL eq l l=true
 | []=>rfl
 | a :: l=>by simp[eqL,h,aMN h l]
end Go.UK
namespace Go.UK
open Go
variable [bU]
set_option linter.all false
theorem aOi{α β:Type}(l:List α)(q:α->Bool)(r:β)(F:Nat->Int->Option (Sum Unit β))(hl:l.length < 9223372036854775807)
  (h1:∀k i (h:i < l.length),F (k+1) (i:Int)=cond (q l[i]) (some (Sum.inr r)) (F k (I64 ((i:Int)+1)))) (h2:∀k,F (k+1) (l.length:Int)=some (Sum.inl ())) :
  ∀(k i:Nat),i<=l.length->l.length - i < k->F k (i:Int)=some (cond ((l.drop i).any q) (Sum.inr r) (Sum.inl ()))
 | 0,i,_,h=>by omega
 | k+1,i,hi,hk=>by
  by_cases h:i < l.length
  ·rw[h1 k i h,List.drop_eq_getElem_cons h,List.any_cons]
   cases q l[i] with
   | true=>rfl
   | false=>rw[cond_false,cF,aOi l q r F hl h1 h2 k (i+1) (by omega) (by omega)];rfl
  ·obtain rfl:i=l.length:=by omega
   rw[h2,List.drop_length];rfl
theorem sD{α β:Type}(l:List α)(q:α->Bool)(r:β)(F:Nat->Int->Option (Sum Unit β))(hl:l.length < 9223372036854775807)
  (h1:∀k i (h:i < l.length),F (k+1) (i:Int)=cond (q l[i]) (some (Sum.inr r)) (F k (I64 ((i:Int)+1)))) (h2:∀k,F (k+1) (l.length:Int)=some (Sum.inl ()))
  {N:Nat} (hN:l.length < N:=by omega):F N 0=some (cond (l.any q) (Sum.inr r) (Sum.inl ())):=by
 have:=aOi l q r F hl h1 h2 N 0 (by omega) (by omega)
 rwa[List.drop_zero] at this
theorem aLa{α:Type}(n:Nat)(hn:n < 9223372036854775807)(g:Nat->List α)(I:List α->Nat->Prop)(F:Nat->List α->Int->Option (List α))(hI:∀s i,i < n->I s i->I (s++g i) (i+1))
  (hstep:∀k s i,i < n->I s i->F (k+1) s (i:Int)=F k (s++g i) (I64 ((i:Int)+1))) (hend:∀k s,F (k+1) s (n:Int)=some s) :
  ∀(k i:Nat) (s:List α),I s i->i<=n->n - i < k->F k s (i:Int)=some (s++(List.range' i (n - i)).flatMap g)
 | 0,i,_,_,_,h=>by omega
 | k+1,i,s,hs,hi,hk=>by
  by_cases h:i < n
  ·rw[hstep k s i h hs,cF,aLa n hn g I F hI hstep hend k (i+1) _ (hI s i h hs) (by omega) (by omega),show n - i=(n - (i+1))+1 by omega,List.range'_succ,dm,List.append_assoc]
  ·obtain rfl:i=n:=by omega
   rw[hend,Nat.sub_self];simp
theorem oI{α:Type}(n:Nat)(hn:n < 9223372036854775807)(g:Nat->List α)(I:List α->Nat->Prop)(F:Nat->List α->Int->Option (List α))(hI:∀s i,i < n->I s i->I (s++g i) (i+1))
  (hstep:∀k s i,i < n->I s i->F (k+1) s (i:Int)=F k (s++g i) (I64 ((i:Int)+1))) (hend:∀k s,F (k+1) s (n:Int)=some s)
  {N:Nat} (hN:n < N) {s:List α} (hs:I s 0:=by simp):F N s 0=some (s++(ce n).flatMap g):=by
 have:=aLa n hn g I F hI hstep hend N 0 s hs (by omega) (by omega)
 rw[Nat.sub_zero,<- List.range_eq_range'] at this;exact this
theorem aCf{α:Type}(l:List Nat)(f:Nat->α):l.flatMap (λi=>[f i])=l.map f:=by
 induction l with
 | nil=>rfl
 | cons x l ih=>simp[dm,ih]
end Go.UK
namespace Go.UK
open Go
variable [bU]
set_option linter.all false
theorem aO0{α:Type}{m:Nat}(hm:m < 9223372036854775807)(g:Nat->α)(F:Nat->Vector α m->Int->Option (Vector α m))
  (hstep:∀k v i,i < m->F (k+1) v (i:Int)=F k (v.setIfInBounds i (g i)) (I64 ((i:Int)+1))) (hend:∀k v,F (k+1) v (m:Int)=some v) :
  ∀(k i:Nat) (v:Vector α m),i<=m->m - i < k->v.toList.take i=(ce i).map g->∃v',F k v (i:Int)=some v'/\v'.toList=(ce m).map g
 | 0,i,_,_,h,_=>by omega
 | k+1,i,v,hi,hk,hv=>by
  by_cases h:i < m
  ·rw[hstep k v i h,cF]
   refine aO0 hm g F hstep hend k (i+1) _ (by omega) (by omega) ?_;have e:(v.setIfInBounds i (g i)).toList=v.toList.set i (g i):=by simp
   rw[e,List.range_succ,List.map_append,<- hv,List.take_succ,List.take_set_of_le (Nat.le_refl _)]
   congr 1;rw[List.getElem?_set_self (by simp;omega)]
   rfl
  ·obtain rfl:i=m:=by omega
   refine⟨v,hend _ _,?_⟩
   rw[<- hv,List.take_of_length_le (by simp)]
theorem aQ9{α:Type}{m:Nat}(hm:m < 9223372036854775807)(g:Nat->α)(F:Nat->Vector α m->Int->Option (Vector α m))
  (hstep:∀k v i,i < m->F (k+1) v (i:Int)=F k (v.setIfInBounds i (g i)) (I64 ((i:Int)+1))) (hend:∀k v,F (k+1) v (m:Int)=some v) {N:Nat} (hN:m < N) (v:Vector α m) :
  ∃v',F N v 0=some v'/\v'.toList=(ce m).map g:=
 aO0 hm g F hstep hend N 0 v (by omega) (by omega) (by simp)
end Go.UK
namespace Go.UK
open Go
variable [bU]
set_option linter.all false
def T{α:Type}(o:Option α)(Q:α->Prop):Prop:=∃a,o=some a/\Q a
section
variable {α β:Type}
theorem T.bind{o:Option α}{f:α->Option β}{P:α->Prop}{Q:β->Prop}(h:T o P)(hf:∀a,P a->T (f a) Q):T (Option.bind o f) Q:=by
 obtain⟨a,rfl,ha⟩:=h;exact hf a ha
theorem T.ret{a:α}{Q:α->Prop}(h:Q a):T (some a) Q:=⟨a,rfl,h⟩
theorem T.mono{o:Option α}{P Q:α->Prop}(h:T o P)(hp:∀a,P a->Q a):T o Q:=by obtain⟨a,e,ha⟩:=h;exact⟨a,e,hp a ha⟩
theorem T.cond{c:Bool}{x y:Option α}{Q:α->Prop}(h1:c=true->T x Q)(h2:c=false->T y Q):T (cond c x y) Q:=by cases c with | true=>exact h1 rfl | false=>exact h2 rfl
theorem T.letO{a:α}{f:α->Option β}{Q:β->Prop}(h:∀x,x=a->T (f x) Q):T (aM a f) Q:=h a rfl
theorem T.of{o:Option α}{a:α}{Q:α->Prop}(h:o=some a)(hq:Q a):T o Q:=⟨a,h,hq⟩
theorem T.idx{l:List α}{i:Int}(h0:0<=i:=by omega)(h1:i < (l.length:Int):=by omega):T (idx l i) (λe=>l[i.toNat]? = some e):=by
 obtain⟨n,rfl⟩:=br h0;rw[kX,af (by omega)]
 exact⟨_,rfl,by rw[bo,af (by omega)]⟩
theorem T.get{l:List α}{i:Nat}(h:i < l.length):T (l[i]?) (λe=>l[i]? = some e):=by
 rw[af h];exact⟨_,rfl,rfl⟩
theorem T.inRO{i:Int}{n:Nat}(h:0<=i:=by omega)(h':i < (n:Int):=by omega):T (aS i n) (λ_=>True):=⟨_,bQ h h',trivial⟩
theorem T.slc{l:List α}{lo hi:Int}(h0:0<=lo:=by decide)(h1:lo<=hi:=by decide)(h2:hi<=(l.length:Int):=by simp):T (cR l lo hi) (λr=>r=(l.take hi.toNat).drop lo.toNat/\(r.length:Int)=hi - lo):=by
 refine⟨_,qC h0 h1 h2,rfl,?_⟩
 rw[List.length_drop,List.length_take]
 omega
end
end Go.UK
