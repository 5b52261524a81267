/- A part of the proof: what the functions of the program compute. -/
import Derived.Test.YtmmabhkichiikaaGreatLib15
import Derived.Laws.Bits64
import Derived.Laws.BitsLemmas
open BitVec renaming ofInt→bf
open Int renaming add_mul→li,ediv_lt_iff_lt_mul→ed,ediv_nonneg→ck,emod_nonneg→ct,eq_ofNat_of_zero_le→bm,le_of_lt→cc,mul_comm→eh,mul_ediv_add_emod→cf,mul_ediv_mul_of_pos_left→ib,mul_le_mul→i0,mul_nonneg→dk,ne_of_gt→cu,pow_pos→dr,tdiv→d7,toNat_natCast→bn
open List renaming getElem?_eq_getElem→af
namespace Go.UK
open Go
variable [bS]
set_option linter.all false
theorem aE8(x:Int):U64 x=x % 18446744073709551616:=IntKind.wrap_u64 x
theorem vR(x:Int):I64 x=(x+9223372036854775808) % 18446744073709551616 - 9223372036854775808:=IntKind.wrap_i64 x
theorem aCU(x:Int):0<=U64 x:=by rw[aE8];omega
theorem aEU(x:Int):U64 x < 18446744073709551616:=by rw[aE8];omega
theorem aLs(x:Int) : -9223372036854775808<=I64 x:=by rw[vR];omega
theorem aLt(x:Int):I64 x < 9223372036854775808:=by rw[vR];omega
theorem nP{x:Int}(h:0<=x)(h':x < 18446744073709551616):U64 x=x:=by rw[aE8];omega
theorem bD{x:Int}(h:-9223372036854775808<=x)(h':x < 9223372036854775808):I64 x=x:=by rw[vR];omega
theorem aIp(k:IntKind)(a b:Int)(m:Nat)(hb:b=m)(hm:m<=k.bits):shr k a b=a / (2:Int) ^ m:=by
 subst hb;unfold shr;rw[show min (m:Int).toNat k.bits=m by simp;omega,Int.fdiv_eq_ediv_of_nonneg _ (cc (dr (by decide)))]
theorem aN7(a b:Int)(m:Nat)(hb:b=m)(hm:m<=64):shl .u64 a b=(a*(2:Int) ^ m) % 18446744073709551616:=by
 subst hb;unfold shl;rw[show min (m:Int).toNat IntKind.u64.bits=m by simp[IntKind.bits];omega]
 exact IntKind.wrap_u64 _
theorem aJQ(a:Int):shr .u64 a 32=a / 4294967296:=by rw[aIp .u64 a 32 32 rfl (by decide)];rfl
theorem aRj(a:Int):shr .i64 a 32=a / 4294967296:=by rw[aIp .i64 a 32 32 rfl (by decide)];rfl
theorem aOx(a:Int):shr .i64 a 63=a / 9223372036854775808:=by rw[aIp .i64 a 63 63 rfl (by decide)];rfl
theorem aWc(a:Int):shr .u64 a 16=a / 65536:=by rw[aIp .u64 a 16 16 rfl (by decide)];rfl
theorem shr8u(a:Int):shr .u64 a 8=a / 256:=by rw[aIp .u64 a 8 8 rfl (by decide)];rfl
theorem shl32(a:Int):shl .u64 a 32=(a*4294967296) % 18446744073709551616:=by rw[aN7 a 32 32 rfl (by decide)];rfl
theorem aHG(n:Nat)(h:n < 18446744073709551616):(bf 64 (n:Int)).toNat=n:=by
 rw[BitVec.toNat_ofInt]
 simp;omega
theorem aW1{a b:Int}(ha:0<=a)(ha':a < 18446744073709551616)(hb:0<=b)(hb':b < 18446744073709551616):kB .u64 a b=((a.toNat &&& b.toNat:Nat):Int):=by
 obtain⟨A,rfl⟩:=bm ha;obtain⟨B,rfl⟩:=bm hb;unfold kB;have h:A &&& B<=A:=Nat.and_le_left;rw[show(bf IntKind.u64.bits (A:Int) &&& bf IntKind.u64.bits (B:Int)).toNat=A &&& B by
  rw[BitVec.toNat_and];congr 1 <;> exact aHG _ (by omega),IntKind.wrap_u64]
 simp only[bn]
 omega
theorem bor_e{a b:Int}(ha:0<=a)(ha':a < 18446744073709551616)(hb:0<=b)(hb':b < 18446744073709551616):bor .u64 a b=((a.toNat ||| b.toNat:Nat):Int):=by
 obtain⟨A,rfl⟩:=bm ha;obtain⟨B,rfl⟩:=bm hb;unfold bor;have h:A ||| B < 2 ^ 64:=Nat.or_lt_two_pow (by omega) (by omega)
 rw[show(bf IntKind.u64.bits (A:Int) ||| bf IntKind.u64.bits (B:Int)).toNat=A ||| B by
  rw[BitVec.toNat_or];congr 1 <;> exact aHG _ (by omega),IntKind.wrap_u64]
 simp only[bn]
 omega
theorem aJ3{a:Int}(ha:0<=a)(ha':a < 18446744073709551616):kB .u64 a 4294967295=a % 4294967296:=by
 rw[aW1 ha ha' (by omega) (by omega)]
 obtain⟨A,rfl⟩:=bm ha;have:A &&& 4294967295=A % 2 ^ 32:=Nat.and_two_pow_sub_one_eq_mod A 32;rw[show(4294967295:Int).toNat=4294967295 from rfl,bn,this]
 rfl
theorem aL1{a b:Int}(m:Nat)(ha:0<=a)(ha':a < 18446744073709551616)(hb:0<=b)(hb':b < (2 ^ m:Nat))(hm:m<=64)(hd:(2 ^ m:Nat) ∣ a.toNat):bor .u64 a b=a+b:=by
 have h64:(2 ^ m:Nat)<=2 ^ 64:=Nat.pow_le_pow_right (by decide) hm;rw[bor_e ha ha' hb (by omega)]
 obtain⟨A,rfl⟩:=bm ha;obtain⟨B,rfl⟩:=bm hb;obtain⟨C,hC⟩:=hd;simp only[bn] at hC ⊢;have:A ||| B=A+B:=by
  rw[hC,Nat.mul_comm,<- Nat.shiftLeft_eq,Nat.shiftLeft_add_eq_or_of_lt (by omega)]
 rw[this]
 omega
theorem aRp(a b:Int):bor .u64 a b=bor .u64 b a:=by unfold bor;rw[BitVec.or_comm]
theorem aO{α β:Type}(x:α)(f:α->β):aR x f=f x:=rfl
theorem aEa(k:IntKind){a b:Int}(h:b≠0):aDp k a b=some (k.wrap (a.tdiv b)):=by unfold aDp;rw[show decide (b=0)=false by simpa using h];rfl
theorem aRh{a b:Int}(h:b≠0):aDp .u64 a b=some (U64 (a.tdiv b)):=aEa .u64 h
theorem aQF(k:IntKind){a b:Int}(h:b≠0):aDq k a b=some (a.tmod b):=by unfold aDq;rw[show decide (b=0)=false by simpa using h];rfl
theorem aIY(k:IntKind){a b:Int}(h:0<=b):aMC k a b=some (shl k a b):=by unfold aMC;rw[show decide (b < 0)=false by simpa using h];rfl
theorem aCz(k:IntKind){a b:Int}(h:0<=b):aHy k a b=some (shr k a b):=by unfold aHy;rw[show decide (b < 0)=false by simpa using h];rfl
theorem p32 : (2:Int) ^ 32=4294967296:=rfl
theorem aG1{a b:Int}(ha:0<=a)(ha':a < 4294967296)(hb:0<=b)(hb':b < 4294967296):0<=a*b/\a*b<=18446744065119617025:=by
 have h1:=dk ha hb;have h2:a*b<=4294967295*4294967295:=i0 (by omega) (by omega) hb (by omega)
 omega
theorem aRx{a y:Int}(ha:0<=a)(ha':a < 18446744073709551616)(hy:0 < y)(hy':y < 4294967296):U64 (a - U64 (U64 (d7 a y)*y))=a % y:=by
 have h1:d7 a y=a / y:=Int.tdiv_eq_ediv_of_nonneg ha;have h2:=cf a y;have h3:=ct a (cu hy)
 have h5:=Int.emod_lt_of_pos a hy;have h4:0<=a / y:=ck ha (cc hy)
 have h6:a / y<=a:=Int.ediv_le_self _ ha;rw[h1,nP h4 (by omega)]
 have h7:a / y*y=a - a % y:=by rw[eh];omega
 rw[h7,nP (x:=a - a % y) (by have:=dk h4 (cc hy);omega) (by omega)]
 rw[nP (by omega) (by omega)]
 omega
structure aDc(H D Y y1 y0:Int):Prop where
 hY:Y=y1*4294967296+y0
 y1l:2147483648<=y1
 y1h:y1 < 4294967296
 y0l:0<=y0
 y0h:y0 < 4294967296
 Hl:0<=H
 Hh:H < Y
 Dl:0<=D
 Dh:D < 4294967296
theorem aDc.q_lt{H D Y y1 y0:Int}(R:aDc H D Y y1 y0):0<=(H*4294967296+D) / Y/\(H*4294967296+D) / Y < 4294967296:=by
 obtain⟨hY,a1,a2,a3,a4,a5,a6,a7,a8⟩:=R;have hp:0 < Y:=by omega
 refine⟨ck (by omega) (by omega),Int.ediv_lt_of_lt_mul hp ?_⟩
 omega
theorem aDc.test{H D Y y1 y0 q r:Int}(R:aDc H D Y y1 y0)(hq:q*y1+r=H):(q*y0 > 4294967296*r+D)↔(H*4294967296+D) / Y < q:=by
 have hp:0 < Y:=by have:=R.hY;have:=R.y1l;have:=R.y0l;omega
 rw[ed hp]
 have e:q*Y=(q*y1)*4294967296+q*y0:=by rw[R.hY];grind
 rw[e]
 generalize q*y1=A at *;generalize q*y0=B at *;omega
theorem aDc.start{H D Y y1 y0:Int}(R:aDc H D Y y1 y0):(H*4294967296+D) / Y<=H / y1/\H / y1<=4294967297/\(H / y1)*y1+H % y1=H:=by
 have hp:0 < Y:=by have:=R.hY;have:=R.y1l;have:=R.y0l;omega
 have hp1:0 < y1:=by have:=R.y1l;omega
 refine⟨?_,?_,by rw[eh];exact cf H y1⟩
 ·have h1:=Int.lt_ediv_add_one_mul_self H hp1;have:(H*4294967296+D) / Y < H / y1+1:=by
   rw[ed hp]
   have e:(H / y1+1)*Y=((H / y1+1)*y1)*4294967296+(H / y1+1)*y0:=by rw[R.hY];grind
   have hn:0<=(H / y1+1)*y0:=dk (by have:=ck R.Hl (cc hp1);omega) R.y0l;rw[e]
   have:=R.Dh;generalize (H / y1+1)*y1=A at *;generalize (H / y1+1)*y0=B at *;omega
  omega
 ·have:H / y1 < 4294967298:=by
   rw[ed hp1]
   have:=R.Hh;have:=R.hY;have:=R.y0h;have:=R.y1l;omega
  omega
theorem aDc.near{H D Y y1 y0:Int}(R:aDc H D Y y1 y0):H / y1 - (H*4294967296+D) / Y<=2:=by
 have hp:0 < Y:=by have:=R.hY;have:=R.y1l;have:=R.y0l;omega
 obtain⟨_,hle,hm⟩:=R.start;have:H / y1 - 2<=(H*4294967296+D) / Y:=by
  rw[Int.le_ediv_iff_mul_le hp]
  have e:(H / y1 - 2)*Y=((H / y1)*y1)*4294967296 - 2*y1*4294967296+(H / y1 - 2)*y0:=by rw[R.hY];grind
  have hr:=ct H (show y1≠0 by have:=R.y1l;omega)
  have h1:=R.y1l;have h2:=R.y0h;have h3:=R.y0l;have h4:=R.Dl;rw[e]
  rcases Int.lt_or_le (H / y1 - 2) 0 with hn | hn
  ·have:(H / y1 - 2)*y0<=0:=Int.mul_nonpos_of_nonpos_of_nonneg (by omega) h3;generalize (H / y1 - 2)*y0=B at *;generalize H / y1*y1=A at *;omega
  ·have:(H / y1 - 2)*y0<=4294967295*4294967295:=i0 (by omega) (by omega) h3 (by omega)
   generalize (H / y1 - 2)*y0=B at *;generalize H / y1*y1=A at *;omega
 omega
theorem aRN{H L1 L0 Y:Int}(hY:0 < Y):((H*4294967296+L1) / Y)*4294967296+(((H*4294967296+L1) % Y)*4294967296+L0) / Y=(H*18446744073709551616+(L1*4294967296+L0)) / Y:=by
 have h:=cf (H*4294967296+L1) Y;generalize hq:(H*4294967296+L1) / Y=q at *;generalize hr:(H*4294967296+L1) % Y=r at *;have e:H*18446744073709551616+(L1*4294967296+L0)=(r*4294967296+L0)+Y*(q*4294967296):=by
  have:(H*4294967296+L1)*4294967296=(Y*q+r)*4294967296:=by rw[h]
  grind
 rw[e,Int.add_mul_ediv_left _ _ (cu hY)]
 omega
theorem scale{h l y:Int}(m:Nat)(hy:0 < y):((h*18446744073709551616+l)*(2:Int) ^ m) / (y*(2:Int) ^ m)=(h*18446744073709551616+l) / y:=
 ib _ _ (dr (by decide))
theorem aMx{h l:Int}(s:Nat)(hs:s<=64)(hl:0<=l)(hl':l < 18446744073709551616):(h*(2:Int) ^ s+l / (2:Int) ^ (64 - s))*18446744073709551616+(l*(2:Int) ^ s) % 18446744073709551616=(h*18446744073709551616+l)*(2:Int) ^ s:=by
 have e:(18446744073709551616:Int)=(2:Int) ^ (64 - s)*2 ^ s:=by rw[<- Int.pow_add,show 64 - s+s=64 by omega];rfl
 have h1:l / (2:Int) ^ (64 - s)=(l*2 ^ s) / 18446744073709551616:=by
  rw[e]
  exact(ib l _ (dr (by decide))).symm
 have h2:=cf (l*(2:Int) ^ s) 18446744073709551616;rw[h1]
 generalize (l*(2:Int) ^ s) / 18446744073709551616=a at *;generalize (l*(2:Int) ^ s) % 18446744073709551616=b at *;have h3:h*18446744073709551616*(2:Int) ^ s=h*(2:Int) ^ s*18446744073709551616:=by grind
 rw[li,li,h3,<- h2]
 omega
def cD(z:Int):Prop := -9223372036854775808<=z/\z<=9223372036854775807
theorem dt{p:Prop}[Decidable p](h:p):decide p=true:=by simpa using h
theorem df{p:Prop}[Decidable p](h:¬p):decide p=false:=by simpa using h
theorem cG(x:Int):cD (I64 x):=⟨aLs x,by have:=aLt x;omega⟩
theorem cW{i:Nat}(h:i < 9223372036854775807):I64 ((i:Int)+1)=((i+1:Nat):Int):=by rw[bD (by omega) (by omega)];rfl
theorem eP{α:Type}(l:List α)(i:Nat):idx l (i:Int)=l[i]? := by unfold idx;simp
theorem aGe{α:Type}{l:List α}{lo hi:Int}(h0:0<=lo)(h1:lo<=hi)(h2:hi<=(l.length:Int)):xR l lo hi=some ((l.take hi.toNat).drop lo.toNat):=by
 unfold xR;rw[dt h0,dt h1,dt h2];rfl
theorem aRS{α:Type}{l:List α}{n:Nat}(h:n<=l.length):xR l 0 (n:Int)=some (l.take n):=by
 rw[aGe (by omega) (by omega) (by omega)];simp
theorem aSW{α:Type}(l:List α)(n:Nat):xR l 0 (dO (l.length:Int) (n:Int))=some (l.take n):=by
 have:dO (l.length:Int) (n:Int)=((min l.length n:Nat):Int):=by unfold dO;split <;> omega
 rw[this,aRS (by omega)]
 congr 1;rw[List.take_eq_take_iff]
 omega
theorem bY{α:Type}{b:Nat}{l r:List α}(h:(l.length+r.length)*b<=140737488355328):nL b l r=some (l++r):=by
 unfold nL;rw[aRm h];rfl
theorem aLk{i:Int}{n:Nat}(h:0<=i)(h':i < (n:Int)):dS i n=some ():=by
 unfold dS inR;simp[h,h']
end Go.UK
namespace Go.UK
open Go
variable [bS]
set_option linter.all false
end Go.UK
namespace Go.UK
open Go
variable [bS]
set_option linter.all false
end Go.UK
namespace Go.UK
open Go
variable [bS]
set_option linter.all false
end Go.UK
namespace Go.UK
open Go
variable [bS]
set_option linter.all false
def T{α:Type}(o:Option α)(Q:α->Prop):Prop:=∃a,o=some a/\Q a
section
variable {α β:Type}
theorem T.bind{o:Option α}{f:α->Option β}{P:α->Prop}{Q:β->Prop}(h:T o P)(hf:∀a,P a->T (f a) Q):T (Option.bind o f) Q:=by
 obtain⟨a,rfl,ha⟩:=h;exact hf a ha
theorem T.ret{a:α}{Q:α->Prop}(h:Q a):T (some a) Q:=⟨a,rfl,h⟩
theorem T.mono{o:Option α}{P Q:α->Prop}(h:T o P)(hp:∀a,P a->Q a):T o Q:=by obtain⟨a,e,ha⟩:=h;exact⟨a,e,hp a ha⟩
theorem T.cond{c:Bool}{x y:Option α}{Q:α->Prop}(h1:c=true->T x Q)(h2:c=false->T y Q):T (cond c x y) Q:=by cases c with | true=>exact h1 rfl | false=>exact h2 rfl
theorem T.letO{a:α}{f:α->Option β}{Q:β->Prop}(h:∀x,x=a->T (f x) Q):T (aR a f) Q:=h a rfl
theorem T.of{o:Option α}{a:α}{Q:α->Prop}(h:o=some a)(hq:Q a):T o Q:=⟨a,h,hq⟩
theorem T.idx{l:List α}{i:Int}(h0:0<=i)(h1:i < (l.length:Int)):T (idx l i) (λe=>l[i.toNat]? = some e):=by
 obtain⟨n,rfl⟩:=bm h0;rw[eP,af (by omega)]
 exact⟨_,rfl,by rw[bn,af (by omega)]⟩
theorem T.get{l:List α}{i:Nat}(h:i < l.length):T (l[i]?) (λe=>l[i]? = some e):=by
 rw[af h];exact⟨_,rfl,rfl⟩
theorem T.inRO{i:Int}{n:Nat}(h:0<=i)(h':i < (n:Int)):T (dS i n) (λ_=>True):=⟨_,aLk h h',trivial⟩
theorem T.slc{l:List α}{lo hi:Int}(h0:0<=lo)(h1:lo<=hi)(h2:hi<=(l.length:Int)):T (xR l lo hi) (λr=>r=(l.take hi.toNat).drop lo.toNat/\(r.length:Int)=hi - lo):=by
 refine⟨_,aGe h0 h1 h2,rfl,?_⟩
 rw[List.length_drop,List.length_take]
 omega
end
end Go.UK
