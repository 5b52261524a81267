/- A part of the proof: what the functions of the program compute. -/
import Derived.Test.YtbfieohdmihfpaaGreatDoorLib16
import Derived.Laws.Bits64
import Derived.Laws.BitsLemmas
open BitVec renaming ofInt→bz
open Int renaming ediv_lt_iff_lt_mul→ic,eq_ofNat_of_zero_le→br,le_of_lt→jz,mul_nonneg→j9,toNat_natCast→bu
open List renaming flatMap_cons→d8,getElem?_eq_getElem→af,range→bq
namespace Go.UK
open Go
variable [bL]
set_option linter.all false
theorem aIo(x:Int):U64 x=x % 18446744073709551616:=IntKind.wrap_u64 x
theorem aNt(x:Int):I64 x=(x+9223372036854775808) % 18446744073709551616 - 9223372036854775808:=IntKind.wrap_i64 x
theorem aL4(x:Int):0<=U64 x:=by rw[aIo];omega
theorem aM6(x:Int):U64 x < 18446744073709551616:=by rw[aIo];omega
theorem aVT(x:Int) : -9223372036854775808<=I64 x:=by rw[aNt];omega
theorem aVe(x:Int):I64 x < 9223372036854775808:=by rw[aNt];omega
theorem eF{x:Int}(h:0<=x:=by omega)(h':x < 18446744073709551616:=by omega):U64 x=x:=by rw[aIo];omega
theorem aT{x:Int}(h:-9223372036854775808<=x:=by omega)(h':x < 9223372036854775808:=by omega):I64 x=x:=by rw[aNt];omega
theorem zR(k:IntKind)(a b:Int)(m:Nat)(hb:b=m)(hm:m<=k.bits:=by decide):shr k a b=a / (2:Int) ^ m:=by
 subst hb;unfold shr;rw[show min (m:Int).toNat k.bits=m by simp;omega,Int.fdiv_eq_ediv_of_nonneg _ (jz (Int.pow_pos (by decide)))]
theorem aNz(a b:Int)(m:Nat)(hb:b=m)(hm:m<=64:=by decide):shl .u64 a b=(a*(2:Int) ^ m) % 18446744073709551616:=by
 subst hb;unfold shl;rw[show min (m:Int).toNat IntKind.u64.bits=m by simp[IntKind.bits];omega]
 exact IntKind.wrap_u64 _
theorem aW8(a:Int):shr .u64 a 32=a / 4294967296:=by rw[zR .u64 a 32 32 rfl];rfl
theorem aBx(n:Nat)(h:n < 18446744073709551616:=by omega):(bz 64 (n:Int)).toNat=n:=by
 rw[BitVec.toNat_ofInt]
 simp;omega
theorem aQE{a b:Int}(ha:0<=a)(ha':a < 18446744073709551616)(hb:0<=b)(hb':b < 18446744073709551616):cF .u64 a b=((a.toNat &&& b.toNat:Nat):Int):=by
 obtain⟨A,rfl⟩:=br ha;obtain⟨B,rfl⟩:=br hb;unfold cF;have h:A &&& B<=A:=Nat.and_le_left;rw[show(bz IntKind.u64.bits (A:Int) &&& bz IntKind.u64.bits (B:Int)).toNat=A &&& B by
  rw[BitVec.toNat_and];congr 1 <;> exact aBx _,IntKind.wrap_u64]
 simp only[bu]
 omega
theorem bor_e{a b:Int}(ha:0<=a)(ha':a < 18446744073709551616)(hb:0<=b)(hb':b < 18446744073709551616):bor .u64 a b=((a.toNat ||| b.toNat:Nat):Int):=by
 obtain⟨A,rfl⟩:=br ha;obtain⟨B,rfl⟩:=br hb;unfold bor;have h:A ||| B < 2 ^ 64:=Nat.or_lt_two_pow (by omega) (by omega)
 rw[show(bz IntKind.u64.bits (A:Int) ||| bz IntKind.u64.bits (B:Int)).toNat=A ||| B by
  rw[BitVec.toNat_or];congr 1 <;> exact aBx _,IntKind.wrap_u64]
 simp only[bu]
 omega
theorem aM1{a:Int}(ha:0<=a)(ha':a < 18446744073709551616):cF .u64 a 4294967295=a % 4294967296:=by
 rw[aQE ha ha' (by omega) (by omega)]
 obtain⟨A,rfl⟩:=br ha;have:A &&& 4294967295=A % 2 ^ 32:=Nat.and_two_pow_sub_one_eq_mod A 32;rw[show(4294967295:Int).toNat=4294967295 from rfl,bu,this]
 rfl
theorem aNU{a b:Int}(m:Nat)(ha:0<=a)(ha':a < 18446744073709551616)(hb:0<=b)(hb':b < (2 ^ m:Nat))(hm:m<=64)(hd:(2 ^ m:Nat) ∣ a.toNat):bor .u64 a b=a+b:=by
 have h64:(2 ^ m:Nat)<=2 ^ 64:=Nat.pow_le_pow_right (by decide) hm;rw[bor_e ha ha' hb (by omega)]
 obtain⟨A,rfl⟩:=br ha;obtain⟨B,rfl⟩:=br hb;obtain⟨C,hC⟩:=hd;simp only[bu] at hC ⊢;have:A ||| B=A+B:=by
  rw[hC,Nat.mul_comm,<- Nat.shiftLeft_eq,Nat.shiftLeft_add_eq_or_of_lt (by omega)]
 rw[this]
 omega
theorem aKo(a b:Int):bor .u64 a b=bor .u64 b a:=by unfold bor;rw[BitVec.or_comm]
theorem aTP(a b:Int):0<=bor .u64 a b/\bor .u64 a b < 18446744073709551616:=by unfold bor;exact⟨aL4 _,aM6 _⟩
theorem aB{α β:Type}(x:α)(f:α->β):aN x f=f x:=rfl
theorem uM(k:IntKind){a b:Int}(h:0<=b:=by omega):aF1 k a b=some (shl k a b):=by unfold aF1;rw[show decide (b < 0)=false by simpa using h];rfl
theorem jH(k:IntKind){a b:Int}(h:0<=b:=by omega):wY k a b=some (shr k a b):=by unfold wY;rw[show decide (b < 0)=false by simpa using h];rfl
theorem aJ0{a b:Int}(ha:0<=a:=by omega)(ha':a < 4294967296:=by omega)(hb:0<=b:=by omega)(hb':b < 4294967296:=by omega):0<=a*b/\a*b<=18446744065119617025:=by
 have h1:=j9 ha hb;have h2:a*b<=4294967295*4294967295:=Int.mul_le_mul (by omega) (by omega) hb (by omega)
 omega
structure aOA(H D Y y1 y0:Int):Prop where
 hY:Y=y1*4294967296+y0
 y1l:2147483648<=y1
 y1h:y1 < 4294967296
 y0l:0<=y0
 y0h:y0 < 4294967296
 Hl:0<=H
 Hh:H < Y
 Dl:0<=D
 Dh:D < 4294967296
theorem aOA.test{H D Y y1 y0 q r:Int}(R:aOA H D Y y1 y0)(hq:q*y1+r=H):(q*y0 > 4294967296*r+D)↔(H*4294967296+D) / Y < q:=by
 have hp:0 < Y:=by have:=R.hY;have:=R.y1l;have:=R.y0l;omega
 rw[ic hp]
 have e:q*Y=(q*y1)*4294967296+q*y0:=by rw[R.hY];grind
 rw[e]
 generalize q*y1=A at *;generalize q*y0=B at *;omega
theorem aOA.start{H D Y y1 y0:Int}(R:aOA H D Y y1 y0):(H*4294967296+D) / Y<=H / y1/\H / y1<=4294967297/\(H / y1)*y1+H % y1=H:=by
 have hp:0 < Y:=by have:=R.hY;have:=R.y1l;have:=R.y0l;omega
 have hp1:0 < y1:=by have:=R.y1l;omega
 refine⟨?_,?_,by rw[Int.mul_comm];exact Int.mul_ediv_add_emod H y1⟩
 ·have h1:=Int.lt_ediv_add_one_mul_self H hp1;have:(H*4294967296+D) / Y < H / y1+1:=by
   rw[ic hp]
   have e:(H / y1+1)*Y=((H / y1+1)*y1)*4294967296+(H / y1+1)*y0:=by rw[R.hY];grind
   have hn:0<=(H / y1+1)*y0:=j9 (by have:=Int.ediv_nonneg R.Hl (jz hp1);omega) R.y0l;rw[e]
   have:=R.Dh;generalize (H / y1+1)*y1=A at *;generalize (H / y1+1)*y0=B at *;omega
  omega
 ·have:H / y1 < 4294967298:=by
   rw[ic hp1]
   have:=R.Hh;have:=R.hY;have:=R.y0h;have:=R.y1l;omega
  omega
def aDG(z:Int):Prop := -9223372036854775808<=z/\z<=9223372036854775807
theorem dt{p:Prop}[Decidable p](h:p:=by omega):decide p=true:=by simpa using h
theorem df{p:Prop}[Decidable p](h:¬p:=by omega):decide p=false:=by simpa using h
theorem aJT{x:Int}(h:(Lit.int .i64 x).wf=true):aDG x:=by obtain⟨h1,h2⟩:=aWB h;exact⟨h1,by omega⟩
theorem cI{i:Nat}(h:i < 9223372036854775807:=by omega):I64 ((i:Int)+1)=((i+1:Nat):Int):=by rw[aT];rfl
theorem cQ{α:Type}{l:List α}{i:Nat}(h:i < l.length:=by omega):idx l (i:Int)=some l[i]:=by unfold idx;simp[h]
theorem lE{α:Type}(l:List α)(i:Nat):idx l (i:Int)=l[i]? := by unfold idx;simp
theorem pE{α:Type}{l:List α}{lo hi:Int}(h0:0<=lo:=by omega)(h1:lo<=hi:=by omega)(h2:hi<=(l.length:Int):=by omega):dM l lo hi=some ((l.take hi.toNat).drop lo.toNat):=by
 unfold dM;rw[dt h0,dt h1,dt h2];rfl
theorem qW{α:Type}{l:List α}{n:Nat}(h:n<=l.length:=by omega):dM l 0 (n:Int)=some (l.take n):=by
 rw[pE];simp
theorem aAE{α:Type}(l:List α)(n:Nat):dM l 0 (lH (l.length:Int) (n:Int))=some (l.take n):=by
 have:lH (l.length:Int) (n:Int)=((min l.length n:Nat):Int):=by unfold lH;split <;> omega
 rw[this,qW]
 congr 1;rw[List.take_eq_take_iff]
 omega
theorem dG{α:Type}{b:Nat}{l r:List α}(h:(l.length+r.length)*b<=140737488355328:=by omega):fL b l r=some (l++r):=by
 unfold fL;rw[aVW h];rfl
theorem bR{i:Int}{n:Nat}(h:0<=i:=by omega)(h':i < (n:Int):=by omega):aO i n=some ():=by
 unfold aO inR;simp[h,h']
end Go.UK
namespace Go.UK
open Go
variable [bL]
set_option linter.all false
end Go.UK
namespace Go.UK
open Go
variable [bL]
set_option linter.all false
theorem aNE{α β:Type}(l:List α)(q:α->Bool)(r:β)(F:Nat->Int->Option (Sum Unit β))(hl:l.length < 9223372036854775807)
  (h1:∀k i (h:i < l.length),F (k+1) (i:Int)=cond (q l[i]) (some (Sum.inr r)) (F k (I64 ((i:Int)+1)))) (h2:∀k,F (k+1) (l.length:Int)=some (Sum.inl ())) :
  ∀(k i:Nat),i<=l.length->l.length - i < k->F k (i:Int)=some (cond ((l.drop i).any q) (Sum.inr r) (Sum.inl ()))
 | 0,i,_,h=>by omega
 | k+1,i,hi,hk=>by
  by_cases h:i < l.length
  ·rw[h1 k i h,List.drop_eq_getElem_cons h,List.any_cons]
   cases q l[i] with
   | true=>rfl
   | false=>rw[cond_false,cI,aNE l q r F hl h1 h2 k (i+1) (by omega) (by omega)];rfl
  ·obtain rfl:i=l.length:=by omega
   rw[h2,List.drop_length];rfl
theorem yQ{α β:Type}(l:List α)(q:α->Bool)(r:β)(F:Nat->Int->Option (Sum Unit β))(hl:l.length < 9223372036854775807)
  (h1:∀k i (h:i < l.length),F (k+1) (i:Int)=cond (q l[i]) (some (Sum.inr r)) (F k (I64 ((i:Int)+1)))) (h2:∀k,F (k+1) (l.length:Int)=some (Sum.inl ()))
  {N:Nat} (hN:l.length < N:=by omega):F N 0=some (cond (l.any q) (Sum.inr r) (Sum.inl ())):=by
 have:=aNE l q r F hl h1 h2 N 0 (by omega) (by omega)
 rwa[List.drop_zero] at this
theorem aLh{α:Type}(n:Nat)(hn:n < 9223372036854775807)(g:Nat->List α)(I:List α->Nat->Prop)(F:Nat->List α->Int->Option (List α))(hI:∀s i,i < n->I s i->I (s++g i) (i+1))
  (hstep:∀k s i,i < n->I s i->F (k+1) s (i:Int)=F k (s++g i) (I64 ((i:Int)+1))) (hend:∀k s,F (k+1) s (n:Int)=some s) :
  ∀(k i:Nat) (s:List α),I s i->i<=n->n - i < k->F k s (i:Int)=some (s++(List.range' i (n - i)).flatMap g)
 | 0,i,_,_,_,h=>by omega
 | k+1,i,s,hs,hi,hk=>by
  by_cases h:i < n
  ·rw[hstep k s i h hs,cI,aLh n hn g I F hI hstep hend k (i+1) _ (hI s i h hs) (by omega) (by omega),show n - i=(n - (i+1))+1 by omega,List.range'_succ,d8,List.append_assoc]
  ·obtain rfl:i=n:=by omega
   rw[hend,Nat.sub_self];simp
theorem kU{α:Type}(n:Nat)(hn:n < 9223372036854775807)(g:Nat->List α)(I:List α->Nat->Prop)(F:Nat->List α->Int->Option (List α))(hI:∀s i,i < n->I s i->I (s++g i) (i+1))
  (hstep:∀k s i,i < n->I s i->F (k+1) s (i:Int)=F k (s++g i) (I64 ((i:Int)+1))) (hend:∀k s,F (k+1) s (n:Int)=some s)
  {N:Nat} (hN:n < N) {s:List α} (hs:I s 0:=by simp):F N s 0=some (s++(bq n).flatMap g):=by
 have:=aLh n hn g I F hI hstep hend N 0 s hs (by omega) (by omega)
 rw[Nat.sub_zero,<- List.range_eq_range'] at this;exact this
theorem yJ{α:Type}(l:List Nat)(f:Nat->α):l.flatMap (λi=>[f i])=l.map f:=by
 induction l with
 | nil=>rfl
 | cons x l ih=>simp[d8,ih]
end Go.UK
namespace Go.UK
open Go
variable [bL]
set_option linter.all false
theorem aNh{α:Type}{m:Nat}(hm:m < 9223372036854775807)(g:Nat->α)(F:Nat->Vector α m->Int->Option (Vector α m))
  (hstep:∀k v i,i < m->F (k+1) v (i:Int)=F k (v.setIfInBounds i (g i)) (I64 ((i:Int)+1))) (hend:∀k v,F (k+1) v (m:Int)=some v) :
  ∀(k i:Nat) (v:Vector α m),i<=m->m - i < k->v.toList.take i=(bq i).map g->∃v',F k v (i:Int)=some v'/\v'.toList=(bq m).map g
 | 0,i,_,_,h,_=>by omega
 | k+1,i,v,hi,hk,hv=>by
  by_cases h:i < m
  ·rw[hstep k v i h,cI]
   refine aNh hm g F hstep hend k (i+1) _ (by omega) (by omega) ?_;have e:(v.setIfInBounds i (g i)).toList=v.toList.set i (g i):=by simp
   rw[e,List.range_succ,List.map_append,<- hv,List.take_succ,List.take_set_of_le (Nat.le_refl _)]
   congr 1;rw[List.getElem?_set_self (by simp;omega)]
   rfl
  ·obtain rfl:i=m:=by omega
   refine⟨v,hend _ _,?_⟩
   rw[<- hv,List.take_of_length_le (by simp)]
theorem aLH{α:Type}{m:Nat}(hm:m < 9223372036854775807)(g:Nat->α)(F:Nat->Vector α m->Int->Option (Vector α m))
  (hstep:∀k v i,i < m->F (k+1) v (i:Int)=F k (v.setIfInBounds i (g i)) (I64 ((i:Int)+1))) (hend:∀k v,F (k+1) v (m:Int)=some v) {N:Nat} (hN:m < N) (v:Vector α m) :
  ∃v',F N v 0=some v'/\v'.toList=(bq m).map g:=
 aNh hm g F hstep hend N 0 v (by omega) (by omega) (by simp)
end Go.UK
namespace Go.UK
open Go
variable [bL]
set_option linter.all false
def T{α:Type}(o:Option α)(Q:α->Prop):Prop:=∃a,o=some a/\Q a
section
variable {α β:Type}
theorem T.bind{o:Option α}{f:α->Option β}{P:α->Prop}{Q:β->Prop}(h:T o P)(hf:∀a,P a->T (f a) Q):T (Option.bind o f) Q:=by
 obtain⟨a,rfl,ha⟩:=h;exact hf a ha
theorem T.ret{a:α}{Q:α->Prop}(h:Q a):T (some a) Q:=⟨a,rfl,h⟩
theorem T.mono{o:Option α}{P Q:α->Prop}(h:T o P)(hp:∀a,P a->Q a):T o Q:=by obtain⟨a,e,ha⟩:=h;exact⟨a,e,hp a ha⟩
theorem T.cond{c:Bool}{x y:Option α}{Q:α->Prop}(h1:c=true->T x Q)(h2:c=false->T y Q):T (cond c x y) Q:=by cases c with | true=>exact h1 rfl | false=>exact h2 rfl
theorem T.letO{a:α}{f:α->Option β}{Q:β->Prop}(h:∀x,x=a->T (f x) Q):T (aN a f) Q:=h a rfl
theorem T.of{o:Option α}{a:α}{Q:α->Prop}(h:o=some a)(hq:Q a):T o Q:=⟨a,h,hq⟩
theorem T.idx{l:List α}{i:Int}(h0:0<=i:=by omega)(h1:i < (l.length:Int):=by omega):T (idx l i) (λe=>l[i.toNat]? = some e):=by
 obtain⟨n,rfl⟩:=br h0;rw[lE,af (by omega)]
 exact⟨_,rfl,by rw[bu,af (by omega)]⟩
theorem T.get{l:List α}{i:Nat}(h:i < l.length):T (l[i]?) (λe=>l[i]? = some e):=by
 rw[af h];exact⟨_,rfl,rfl⟩
theorem T.inRO{i:Int}{n:Nat}(h:0<=i:=by omega)(h':i < (n:Int):=by omega):T (aO i n) (λ_=>True):=⟨_,bR h h',trivial⟩
theorem T.slc{l:List α}{lo hi:Int}(h0:0<=lo:=by decide)(h1:lo<=hi:=by decide)(h2:hi<=(l.length:Int):=by simp):T (dM l lo hi) (λr=>r=(l.take hi.toNat).drop lo.toNat/\(r.length:Int)=hi - lo):=by
 refine⟨_,pE h0 h1 h2,rfl,?_⟩
 rw[List.length_drop,List.length_take]
 omega
end
end Go.UK
