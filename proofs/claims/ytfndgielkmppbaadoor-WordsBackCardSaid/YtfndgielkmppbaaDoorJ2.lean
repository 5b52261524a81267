/- A part of the proof: what the functions of the program compute. -/
import Derived.Test.YtfndgielkmppbaaDoorJ1
import Derived.Test.YtfndgielkmppbaaDoorAJ2
open BitVec renaming ofInt→br
open Bool renaming and_eq_true→ag,false_or→gu,or_eq_true→fa,or_self→fh,or_true→gy,true_or→gx
open Int renaming emod_eq_of_lt→gh,emod_lt_of_pos→gf,eq_ofNat_of_zero_le→cl,tdiv→gk,tdiv_eq_ediv_of_nonneg→el,tmod→fg,tmod_eq_emod_of_nonneg→cq
open List renaming all_cons→bd,any_cons→ew,append_assoc→ax,cons_ne_nil→cp,drop_eq_getElem_cons→bj,drop_eq_nil_of_le→bt,drop_zero→cm,flatMap→gw,flatMap_append→dh,flatMap_cons→bg,flatMap_map→gj,getElem?_eq_getElem→af,getElem_mem→bz,length_append→am,length_cons→aj,length_map→bx,length_nil→an,map_congr_left→fz,map_cons→bv,map_map→hA,mem_append→ck,mem_cons→au,mem_map→d7,mem_singleton→al,nil_append→cg,not_mem_nil→aq,singleton_append→ff,toList_toArray→fy
open Nat renaming le_refl→be,mod_lt→ib,mul_add→ia,mul_le_mul_right→de,strongRecOn→eh
open Option renaming bind→ae,bind_some→aa
namespace Go.UK
open Go Go.Proofs
set_option maxRecDepth 20000
set_option linter.all false
theorem digN{k:Nat}(h:k < 10):(UInt8.ofNat (48+k)).toNat=48+k:=by
 rw[UInt8.toNat_ofNat']
 omega
theorem pum1{M acc k:Nat}{r:List UInt8}(hM:M<=18446744073709551615)(hk:k < 10)(h:acc*10+k<=M):Lib.parseUintM M acc (UInt8.ofNat (48+k) :: r)=Lib.parseUintM M (acc*10+k) r:=by
 rw[Lib.parseUintM,digN hk,if_pos (by omega),if_neg (by omega),if_neg (by omega)]
 congr 1;omega
theorem pumD{M:Nat}(hM:M<=18446744073709551615):∀(u acc:Nat) (r:List UInt8),acc*10 ^ Lib.nDigits u+u<=M->Lib.parseUintM M acc (Lib.decDigits u++r)=Lib.parseUintM M (acc*10 ^ Lib.nDigits u+u) r:=by
 intro u
 induction u using eh with
 | _ u ih=>
  intro acc r h;by_cases hu:u < 10
  ·rw[Lib.nDigits_small hu] at h ⊢;rw[Lib.decDigits_one hu,ff,pum1 hM hu (by omega)]
  ·rw[Lib.nDigits_big hu,Nat.pow_succ,<- Nat.mul_assoc] at h ⊢;rw[Lib.decDigits,dif_neg hu,ax,ih (u / 10) (by omega) acc _ (by omega),ff,pum1 hM (ib _ (by decide)) (by omega)]
   congr 1;omega
theorem xH(u:Nat):∃k r,k < 10/\Lib.decDigits u=UInt8.ofNat (48+k) :: r:=by
 induction u using eh with
 | _ u ih=>
  by_cases hu:u < 10
  ·exact⟨u,[],hu,Lib.decDigits_one hu⟩
  ·obtain⟨k,r,hk,e⟩:=ih (u / 10) (by omega)
   rw[Lib.decDigits,dif_neg hu,e]
   exact⟨k,_,hk,rfl⟩
theorem aDj(u:Nat):∀c∈Lib.decDigits u,48<=c.toNat/\c.toNat<=57:=by
 induction u using eh with
 | _ u ih=>
  intro c hc;by_cases hu:u < 10
  ·rw[Lib.decDigits_one hu,al] at hc;subst hc;rw[digN hu];omega
  ·rw[Lib.decDigits,dif_neg hu,ck,al] at hc;rcases hc with hc | rfl
   ·exact ih _ (by omega) c hc
   ·rw[digN (ib _ (by decide))];omega
theorem pubD{u:Nat}(h:u<=18446744073709551615):Lib.parseUintB 64 (Lib.decDigits u) = .ok u:=by
 obtain⟨k,r,hk,e⟩:=xH u;unfold Lib.parseUintB;rw[if_neg (by rw[e];exact cp _ _)]
 have:=pumD (M:=2 ^ 64 - 1) (by decide) u 0 [] (by omega)
 rw[List.append_nil,Nat.zero_mul,Nat.zero_add] at this;rw[this]
 rfl
theorem aCa{n:Int}(h0:-9223372036854775808<=n)(h1:n<=9223372036854775807):Lib.parseIntB 64 (Lib.itoa n) = .ok n:=by
 by_cases hn:n < 0
 ·obtain⟨u,rfl⟩:∃u:Nat,n = -(u:Int):=⟨n.natAbs,by omega⟩
  rw[Lib.itoa_neg u (by omega)]
  unfold Lib.parseIntB;dsimp only;rw[if_pos (by decide),pubD (by omega)]
  dsimp only;rw[if_neg (by simp),if_neg (by simp;omega),if_pos (by decide)]
 ·obtain⟨u,rfl⟩:∃u:Nat,n=(u:Int):=⟨n.toNat,by omega⟩
  rw[Lib.itoa_nonneg]
  obtain⟨k,r,hk,e⟩:=xH u;have p:=pubD (u:=u) (by omega)
  rw[e] at p ⊢;unfold Lib.parseIntB;dsimp only;rw[digN hk,if_neg (by omega),p]
  dsimp only;rw[if_neg (by simp;omega),if_neg (by omega),if_neg (by omega)]
theorem aEI(n:Int):∀c∈Lib.itoa n,c.toNat≠32:=by
 intro c hc;unfold Lib.itoa at hc;split at hc
 ·rw[au] at hc;rcases hc with rfl | hc
  ·decide
  ·have:=aDj _ c hc;omega
 ·have:=aDj _ c hc;omega
def jnL(c:UInt8):List (List UInt8)->List UInt8
 | []=>[]
 | [w]=>w
 | w :: v :: ws=>w++c :: jnL c (v :: ws)
theorem aBJ(c:UInt8)(w:List UInt8){ws:List (List UInt8)}(h:ws≠[]):jnL c (w :: ws)=w++c :: jnL c ws:=by
 cases ws with
 | nil=>exact absurd rfl h
 | cons v ws=>rfl
theorem aEO{c:UInt8}:∀{s:List UInt8},c∉s->Lib.index s [c] = -1:=by
 intro s h;rw[Lib.index_one]
 induction s with
 | nil=>rfl
 | cons b s ih=>
  rw[au,not_or] at h;unfold Lib.indexByte;rw[ih h.2]
  simp[Ne.symm h.1]
theorem aEM{c:UInt8}{r:List UInt8}:∀{w:List UInt8},c∉w->Lib.index (w++c :: r) [c]=(w.length:Int):=by
 intro w h;rw[Lib.index_one]
 induction w with
 | nil=>simp[Lib.indexByte]
 | cons b w ih=>
  rw[au,not_or] at h;rw[List.cons_append]
  unfold Lib.indexByte;rw[ih h.2]
  simp[Ne.symm h.1]
theorem cutL{c:UInt8}:∀s:List UInt8,c∉s\/∃w r,s=w++c :: r/\c∉w:=by
 intro s
 induction s with
 | nil=>exact .inl (aq)
 | cons b s ih=>
  by_cases h:b=c
  ·subst h;exact .inr ⟨[],s,rfl,aq⟩
  ·rcases ih with g | ⟨w,r,rfl,g⟩
   ·exact .inl (by rw[au,not_or];exact⟨Ne.symm h,g⟩)
   ·exact .inr ⟨b :: w,r,rfl,by rw[au,not_or];exact⟨Ne.symm h,g⟩⟩
theorem aBE{c:UInt8}{k:Nat}{s:List UInt8}(h:c∉s):Lib.splitK [c] 0 k s=[s]:=by
 cases k with
 | zero=>rfl
 | succ k=>unfold Lib.splitK;rw[aEO h];rfl
theorem aAy{c:UInt8}{k:Nat}{w r:List UInt8}(h:c∉w):Lib.splitK [c] 0 (k+1) (w++c :: r)=w :: Lib.splitK [c] 0 k r:=by
 rw[Lib.splitK,aEM h,if_neg (by simp)]
 congr 1
 ·simp
 ·congr 1;simp
theorem aBU(c:UInt8)(k:Nat)(s:List UInt8):Lib.splitK [c] 0 k s≠[]:=by
 cases k with
 | zero=>simp[Lib.splitK]
 | succ k=>unfold Lib.splitK;split <;> simp
theorem aCT(c:UInt8):∀(k:Nat) (s:List UInt8),jnL c (Lib.splitK [c] 0 k s)=s:=by
 intro k
 induction k with
 | zero=>intro s;rfl
 | succ k ih=>
  intro s;rcases cutL (c:=c) s with h | ⟨w,r,rfl,h⟩
  ·rw[aBE h];rfl
  ·rw[aAy h,aBJ c w (aBU c k r),ih]
theorem aFr{c:UInt8}{w r:List UInt8}(h:c∉w):Lib.count (w++c :: r) [c]=Lib.count r [c]+1:=by
 rw[Lib.count_one,Lib.count_one,List.count_append,List.count_eq_zero.2 h,List.count_cons_self]
 omega
theorem aCG(c:UInt8):∀ws:List (List UInt8),ws≠[]->(∀w∈ws,c∉w)->Lib.splitK [c] 0 (Lib.count (jnL c ws) [c]) (jnL c ws)=ws:=by
 intro ws
 induction ws with
 | nil=>intro h;exact absurd rfl h
 | cons w ws ih=>
  intro _ h;have hw:=h w (List.mem_cons_self)
  cases ws with
  | nil=>
   show Lib.splitK [c] 0 _ w=[w]
   exact aBE hw
  | cons v ws=>
   rw[aBJ c w (cp _ _),aFr hw,aAy hw,ih (cp _ _) λx hx=>h x (List.mem_cons_of_mem _ hx)]
set_option maxHeartbeats 16000000
def isW(x:Int):Prop:=0<=x/\x < 4294967296
def isB(x:Int):Prop:=0<=x/\x < 256
theorem isB.w{x:Int}(h:isB x):isW x:=⟨h.1,by have:=h.2;omega⟩
def fF(m:List Int):Prop:=∀x∈m,isB x
theorem fF.drop{m:List Int}(h:fF m)(n:Nat):fF (m.drop n):=λx hx=>h x (List.mem_of_mem_drop hx)
def leB(w:Nat)(x:Int):List Int:=(List.range w).map (λi=>U8 (shr .u64 x ((8*i:Nat):Int)))
theorem nO(w:Nat)(x:Int):(leB w x).length=w:=by unfold leB;simp
def dO(w:Nat):Int:=256 ^ w
theorem aGF(w:Nat):(2:Int) ^ (8*w)=dO w:=by unfold dO;rw[Int.pow_mul];rfl
theorem shr8(x:Int)(i:Nat)(h:i<=8):shr .u64 x ((8*i:Nat):Int)=x / dO i:=by
 rw[aA8 .u64 x _ (8*i) rfl (by show 8*i<=64;omega),aGF]
theorem sT(w:Nat):0 < dO w:=Int.pow_pos (by decide)
theorem wJ{α β ρ:Type}(l:List α)(hl:l.length < 9223372036854775807)(bad:α->Bool)(f:α->List β)(r:ρ)(I:List β->Nat->Prop)(F:Nat->List β->Int->Option (Sum (List β) ρ))
  (hI:∀s i (h:i < l.length),I s i->I (s++f l[i]) (i+1)) (h1:∀k s i (h:i < l.length),I s i->F (k+1) s (i:Int)=cond (bad l[i]) (some (.inr r)) (F k (s++f l[i]) (I64 ((i:Int)+1)))) (h2:∀k s,F (k+1) s (l.length:Int)=some (.inl s)) :
  ∀(k i:Nat) (s:List β),I s i->i<=l.length->l.length - i < k->F k s (i:Int)=some (cond ((l.drop i).any bad) (.inr r) (.inl (s++(l.drop i).flatMap f)))
 | 0,i,_,_,_,h=>by omega
 | k+1,i,s,hs,hi,hk=>by
  by_cases h:i < l.length
  ·rw[h1 k s i h hs,bj h,ew]
   cases hb:bad l[i] with
   | true=>rfl
   | false=>
    rw[cond_false,mQ (by omega),wJ l hl bad f r I F hI h1 h2 k (i+1) _ (hI s i h hs) (by omega) (by omega),gu,bg,ax]
  ·obtain rfl:i=l.length:=by omega
   rw[h2,List.drop_length];simp
def big(w:Nat)(x:Int):Bool:=decide (dO w<=x)
def zV(b:List Int)(w:Nat)(ns:List Int):List Int×Int:=cond (ns.any (big w)) ([],3) (b++ns.flatMap (leB w),0)
def u64L(ns:List Int):Prop:=∀x∈ns,0<=x/\x < 18446744073709551616
theorem putL2(N w:Nat)(hw:w<=8)(x:Int)(s:List Int)(hs:s.length<=100000000000000)(hN:8 < N):eJ N (w:Int) x N s 0=some (s++leB w x):=by
 have:=aCW w (by omega) (λi=>[U8 (shr .u64 x ((8*i:Nat):Int))]) (λs i=>s.length<=100000000000000+i) (eJ N (w:Int) x) (by intro s i hi hs;simp;omega) (λk s i hi hs=>by
  have f:I64 (8*(i:Int))=((8*i:Nat):Int):=by rw[iG (by omega) (by omega)];omega
  rw[eJ,dt (by omega),cond_true,f,rZ .u64 (by omega),aa,iU (by simp;omega),aa]) (λk s=>by rw[eJ,df (by omega),cond_false]) (N:=N) (by omega) (s:=s) (by simpa using hs)
 rw[this,tP]
 rfl
theorem aGZ(N:Nat)(l:List Int)(h:l.length<=100000000000000):cP N l=some l:=by
 unfold cP;rw[iU (by simp;omega),aa,cg]
theorem big8{x:Int}(h:x < 18446744073709551616):big 8 x=false:=by
 unfold big;rw[show dO 8=18446744073709551616 from rfl]
 exact df (by omega)
theorem putP(N:Nat)(b:List Int)(w:Nat)(hw0:1<=w)(hw:w<=8)(ns:List Int)(hns:u64L ns)(hb:b.length<=10000000000000)(hl:ns.length<=1000000000000)(hN:8 < N)(hlN:ns.length < N):eC N b (w:Int) ns=some (zV b w ns):=by
 unfold eC;rw[df (show ¬(w:Int) < 1 by omega),df (show ¬(w:Int) > 8 by omega),cond_false,aM,cond_false,aGZ N b (by omega),aa]
 have:=wJ ns (by omega) (big w) (leB w) (([],3):List Int×Int) (λs i=>s.length<=10000000000000+8*i) (λk s i=>fA N ns (w:Int) k s i) (by intro s i h hs;simp[nO];omega) (λk s i h hs=>by
  have hx:=hns _ (bz h)
  have f:I64 (8*(w:Int))=((8*w:Nat):Int):=by rw[iG (by omega) (by omega)];omega
  rw[fA,aM,dt (by omega),cond_true,mJ h,aa]
  have e:(cond (decide ((w:Int) < 8)) (ae (yK .u64 ns[i] (I64 (8*(w:Int)))) λx9=>some (decide (x9 > 0))) (some false))=some (big w ns[i]):=by
   by_cases h8:w < 8
   ·rw[dt (by omega),cond_true,f,rZ .u64 (by omega),aa,shr8 _ _ (by omega)]
    congr 1;unfold big;have hp:=sT w;by_cases hb:dO w<=ns[i]
    ·have:1<=ns[i] / dO w:=(Int.le_ediv_iff_mul_le hp).2 (by omega)
     rw[dt hb,dt (by omega)]
    ·have:ns[i] / dO w < 1:=Int.ediv_lt_of_lt_mul hp (by omega)
     rw[df hb,df (by omega)]
   ·obtain rfl:w=8:=by omega
    rw[df (by omega),cond_false,big8 hx.2]
  rw[e,aa]
  cases hbg:big w ns[i] with
  | true=>rfl
  | false=>rw[cond_false,cond_false,putL2 N w hw _ _ (by omega) hN,aa]) (λk s=>by rw[fA,aM,df (by omega),cond_false]) N 0 b (by omega) (by omega) (by omega)
 rw[show((0:Nat):Int)=0 from rfl,cm] at this;rw[this,aa]
 unfold zV;cases ns.any (big w) <;> rfl
def uS(w:Nat)(x:Int):Bool:=decide (x < -(dO w / 2))||decide (dO w / 2<=x)
def in64L(ns:List Int):Prop:=∀x∈ns,dJ x
def aCC(b:List Int)(w:Nat)(ns:List Int):List Int×Int:=cond (ns.any (uS w)) ([],3) (zV b w (ns.map (λx=>x % dO w)))
theorem w8{w:Nat}(h0:1<=w)(h:w<=8):w=1\/w=2\/w=3\/w=4\/w=5\/w=6\/w=7\/w=8:=by omega
theorem shlI(x:Int)(m:Nat)(h:m<=64):shl .i64 x (m:Int)=I64 (x*(2:Int) ^ m):=by
 unfold shl;rw[show min (m:Int).toNat IntKind.i64.bits=m by simp[IntKind.bits];omega]
theorem sgnA{w:Nat}(h0:1<=w)(h:w<=8){x:Int}(hx:dJ x):(shr .i64 (shl .i64 x ((64 - 8*w:Nat):Int)) ((64 - 8*w:Nat):Int) != x)=uS w x:=by
 obtain⟨x0,x1⟩:=hx;rw[aA8 .i64 _ _ (64 - 8*w) rfl (by show 64 - 8*w<=64;omega),shlI _ _ (by omega),aAw]
 have key:∀b:Bool,(b=true↔((x*(2:Int) ^ (64 - 8*w)+9223372036854775808) % 18446744073709551616 - 9223372036854775808) / (2:Int) ^ (64 - 8*w)≠x)->(((x*(2:Int) ^ (64 - 8*w)+9223372036854775808) % 18446744073709551616 - 9223372036854775808) / (2:Int) ^ (64 - 8*w) != x)=b:=by
  intro b hb;cases b with
  | true=>simpa using hb
  | false=>simpa using hb
 apply key;unfold uS;rw[fa,decide_eq_true_eq,decide_eq_true_eq]
 rcases w8 h0 h with rfl | rfl | rfl | rfl | rfl | rfl | rfl | rfl
 ·rw[show(2:Int) ^ (64 - 8*1)=72057594037927936 from rfl,show dO 1 / 2=128 from rfl];omega
 ·rw[show(2:Int) ^ (64 - 8*2)=281474976710656 from rfl,show dO 2 / 2=32768 from rfl];omega
 ·rw[show(2:Int) ^ (64 - 8*3)=1099511627776 from rfl,show dO 3 / 2=8388608 from rfl];omega
 ·rw[show(2:Int) ^ (64 - 8*4)=4294967296 from rfl,show dO 4 / 2=2147483648 from rfl];omega
 ·rw[show(2:Int) ^ (64 - 8*5)=16777216 from rfl,show dO 5 / 2=549755813888 from rfl];omega
 ·rw[show(2:Int) ^ (64 - 8*6)=65536 from rfl,show dO 6 / 2=140737488355328 from rfl];omega
 ·rw[show(2:Int) ^ (64 - 8*7)=256 from rfl,show dO 7 / 2=36028797018963968 from rfl];omega
 ·rw[show(2:Int) ^ (64 - 8*8)=1 from rfl,show dO 8 / 2=9223372036854775808 from rfl];omega
theorem sgnB{w:Nat}(h0:1<=w)(h:w<=8){x:Int}(hx:dJ x):shr .u64 (shl .u64 (U64 x) ((64 - 8*w:Nat):Int)) ((64 - 8*w:Nat):Int)=x % dO w:=by
 obtain⟨x0,x1⟩:=hx;rw[aA8 .u64 _ _ (64 - 8*w) rfl (by show 64 - 8*w<=64;omega),shl_e _ _ (64 - 8*w) rfl (by omega),uZ]
 rcases w8 h0 h with rfl | rfl | rfl | rfl | rfl | rfl | rfl | rfl
 ·rw[show(2:Int) ^ (64 - 8*1)=72057594037927936 from rfl,show dO 1=256 from rfl];omega
 ·rw[show(2:Int) ^ (64 - 8*2)=281474976710656 from rfl,show dO 2=65536 from rfl];omega
 ·rw[show(2:Int) ^ (64 - 8*3)=1099511627776 from rfl,show dO 3=16777216 from rfl];omega
 ·rw[show(2:Int) ^ (64 - 8*4)=4294967296 from rfl,show dO 4=4294967296 from rfl];omega
 ·rw[show(2:Int) ^ (64 - 8*5)=16777216 from rfl,show dO 5=1099511627776 from rfl];omega
 ·rw[show(2:Int) ^ (64 - 8*6)=65536 from rfl,show dO 6=281474976710656 from rfl];omega
 ·rw[show(2:Int) ^ (64 - 8*7)=256 from rfl,show dO 7=72057594037927936 from rfl];omega
 ·rw[show(2:Int) ^ (64 - 8*8)=1 from rfl,show dO 8=18446744073709551616 from rfl];omega
theorem modU(w:Nat)(h:w<=8)(x:Int):0<=x % dO w/\x % dO w < 18446744073709551616:=by
 have hp:=sT w;have h1:=Int.emod_nonneg x (Int.ne_of_gt hp)
 have h2:=gf x hp;have h3:dO w<=18446744073709551616:=by
  have:∀i:Fin 9,dO i.val<=18446744073709551616:=by decide
  exact this ⟨w,by omega⟩
 omega
theorem sgnP(N:Nat)(b:List Int)(w:Nat)(hw0:1<=w)(hw:w<=8)(ns:List Int)(hns:in64L ns)(hb:b.length<=10000000000000)(hl:ns.length<=1000000000000)(hN:8 < N)(hlN:ns.length < N):dC N b (w:Int) ns=some (aCC b w ns):=by
 unfold dC;rw[df (show ¬(w:Int) < 1 by omega),df (show ¬(w:Int) > 8 by omega),cond_false,aM,cond_false]
 have:=wJ ns (by omega) (uS w) (λx=>[x % dO w]) (([],3):List Int×Int) (λs i=>s.length=i) (λk s i=>dP N ns (w:Int) k s i) (by intro s i h hs;simp;omega) (λk s i h hs=>by
  have hx:=hns _ (bz h)
  have f:I64 (64 - I64 (8*(w:Int)))=((64 - 8*w:Nat):Int):=by rw[iG (x:=8*(w:Int)) (by omega) (by omega),iG (by omega) (by omega)];omega
  rw[dP,aM,dt (by omega),cond_true,mJ h,aa,f,aM,aBM .i64 (by omega),aa,aM,rZ .i64 (by omega),aa,sgnA hw0 hw hx]
  cases hbg:uS w ns[i] with
  | true=>rfl
  | false=>
   rw[cond_false,cond_false,aM,aBM .u64 (by omega),aa,aM,rZ .u64 (by omega),aa,sgnB hw0 hw hx,iU (by simp;omega),aa]) (λk s=>by rw[dP,aM,df (by omega),cond_false]) N 0 [] rfl (by omega) (by omega)
 rw[show((0:Nat):Int)=0 from rfl,cm,cg] at this;rw[this,aa]
 unfold aCC;cases ns.any (uS w) with
 | true=>rfl
 | false=>
  rw[cond_false,cond_false]
  show ae (eC N b (w:Int) (ns.flatMap λx=>[x % dO w])) _=_;rw[show(ns.flatMap λx=>[x % dO w])=ns.map (λx=>x % dO w) by
   clear this hns hl hlN
   induction ns with
   | nil=>rfl
   | cons a l ih=>simp[bg,ih]]
  rw[putP N b w hw0 hw _ (by intro y hy;obtain⟨x,_,rfl⟩:=d7.1 hy;exact modU w hw x) hb (by simpa using hl) hN (by simpa using hlN),aa]
def txt(l:List UInt8):ByteArray:=⟨l.toArray⟩
theorem aEk(a b:List UInt8):txt a++txt b=txt (a++b):=by unfold txt;rw[ByteArray.mk_append_mk]
theorem iA(l:List UInt8):(txt l).size=l.length:=by unfold txt;show l.toArray.size=_;simp
theorem yE{a b:List UInt8}(h:a.length+b.length<=1000000000):xC (txt a) (txt b)=some (txt (a++b)):=by
 unfold xC;rw[iA,iA,dt (by omega),cond_true,aEk]
theorem lU{s:List UInt8}{l:List Int}(h0:s≠[])(hs:s.length<=100000)(hl:l.length<=100)(h64:∀x∈l,dJ x):jA (txt s) l=some (txt (s++dZ l)):=by
 unfold jA;have hne:s.length≠0:=by simpa using h0
 rw[iA,dt hne,dt (by omega),dt (by omega),show l.all xW=true by
  rw[List.all_eq_true]
  intro x hx;have:=h64 x hx;unfold xW;rw[dt this.1,dt this.2];rfl]
 rfl
theorem qL(a b:List Int):dZ (a++b)=dZ a++dZ b:=by unfold dZ;rw[dh]
theorem pB : ∀(l:List Int),(∀x∈l,dJ x)->(dZ l).length<=200*l.length:=λl h=>pW l λx hx=>h x hx
structure Fld where
 sg:Bool
 w:Nat
 v:Int
def Fld.ok(f:Fld):Bool:=cond f.sg (!(uS f.w f.v)) (decide (0<=f.v) && !(big f.w f.v))
def Fld.b(f:Fld):List Int:=leB f.w (f.v % dO f.w)
def okL(l:List Fld):Bool:=l.all Fld.ok
def bB(l:List Fld):List Int:=l.flatMap Fld.b
theorem kV(a b:List Fld):okL (a++b)=(okL a&&okL b):=by unfold okL;rw[List.all_append]
theorem aFw(a b:List Fld):bB (a++b)=bB a++bB b:=by unfold bB;rw[dh]
structure Wr{σ:Type}(z:σ)(b:List Int)(e:σ)(fs:List Fld)(n:Nat)(r:List Int×σ):Prop where
 len:r.1.length<=b.length+n
 good:e=z->okL fs=true->r=(b++bB fs,z)
 bad:¬(e=z/\okL fs=true)->r.2≠z
theorem Wr.seq{σ:Type}{z:σ}{b:List Int}{e:σ}{fs gs:List Fld}{n m:Nat}{r q:List Int×σ}(h:Wr z b e fs n r)(k:Wr z r.1 r.2 gs m q):Wr z b e (fs++gs) (n+m) q:=by
 refine⟨by have:=h.len;have:=k.len;omega,λh1 h2=>?_,λh1=>?_⟩
 ·rw[kV,ag] at h2;have g:=h.good h1 h2.1;have:=k.good (by rw[g]) h2.2;rw[this,g,aFw,ax]
 ·by_cases c:e=z/\okL fs=true
  ·have g:=h.good c.1 c.2;refine k.bad λd=>h1 ⟨c.1,?_⟩
   rw[kV,c.2,d.2];rfl
  ·exact k.bad λd=>h.bad c d.1
theorem Wr.nil{σ:Type}(z:σ)(b:List Int)(e:σ):Wr z b e [] 0 (b,e):=⟨by simp,λh _=>by rw[h];simp[bB],λh=>λq=>h ⟨q,rfl⟩⟩
theorem Wr.cast{σ:Type}{z:σ}{b:List Int}{e:σ}{fs gs:List Fld}{n m:Nat}{r:List Int×σ}(h:Wr z b e fs n r)(hf:fs=gs)(hn:n<=m):Wr z b e gs m r:=by
 subst hf;exact⟨by have:=h.len;omega,h.good,h.bad⟩
theorem Wr.same{b:List Int}{e:Int}{f:Bool}{fs:List Fld}{n m:Nat}{r:List Int×Int}{q:List Int×Bool}(h:Wr 0 b e fs n r)(k:Wr false b f fs m q)(he:e=0↔f=false):(r.2=0↔q.2=false)/\(r.2=0->r.1=q.1):=by
 by_cases c:e=0/\okL fs=true
 ·rw[h.good c.1 c.2,k.good (he.1 c.1) c.2]
  simp
 ·have h1:=h.bad c;have h2:=k.bad λd=>c ⟨he.2 d.1,d.2⟩
  exact⟨⟨λq=>absurd q h1,λq=>absurd q h2⟩,λq=>absurd q h1⟩
theorem aF6{x:Int}(h:dJ x):u64L [U64 x]:=by
 intro y hy;rw[al] at hy;rw[hy]
 exact⟨aGm x,aGG x⟩
def lQ(e a:Int):Int:=if e=0/\a≠0 then 2 else e
theorem zW(N:Nat)(b1 b2:List Int)(a e:Int):bT N b1 b2 a e=some (lQ e a):=by
 unfold bT lQ;rw[aM]
 by_cases c:e=0
 ·rw[show(e==0)=true by simpa using c,cond_true]
  by_cases d:a=0
  ·rw[show(a != 0)=false by simpa using d,if_neg (by omega)];rfl
  ·rw[show(a != 0)=true by simpa using d,if_pos ⟨c,d⟩];rfl
 ·rw[show(e==0)=false by simpa using c,if_neg (by omega)];rfl
theorem aFY(N:Nat)(b1:List Int)(a e:Int):cO N b1 a e=some (lQ e a):=zW N b1 b1 a e
theorem nY{e a:Int}(h:e≠0\/a≠0):lQ e a≠0:=by
 unfold lQ;split
 ·decide
 ·omega
theorem put1V(N:Nat)(hN:100 < N)(b:List Int)(w:Nat)(hw0:1<=w)(hw:w<=8){x:Int}(hx:dJ x)(h0:0<=x)(hb:b.length<=1000000):∃r,eC N b (w:Int) [U64 x]=some r/\r.1.length<=b.length+w/\(Fld.ok ⟨false,w,x⟩=true->r=(b++Fld.b ⟨false,w,x⟩,0))/\(Fld.ok ⟨false,w,x⟩=false->r.2≠0):=by
 have hu:U64 x=x:=qB h0 (by have:=hx.2;omega)
 refine⟨_,putP N b w hw0 hw _ (aF6 hx) (by omega) (by simp) (by omega) (by simp;omega),?_⟩
 rw[hu]
 unfold zV Fld.ok Fld.b;rw[show([x]:List Int).any (big w)=big w x by simp,show(gw (leB w) [x])=leB w x by simp]
 dsimp only;cases hc:big w x with
 | true=>
  refine⟨by simp,λh=>?_,λ_=>(show(3:Int)≠0 by decide)⟩
  rw[dt h0] at h;cases h
 | false=>
  have hlt:x < dO w:=by unfold big at hc;have:=of_decide_eq_false hc;omega
  refine⟨by rw[cond_false];simp[nO],λ_=>?_,λh=>?_⟩
  ·rw[cond_false,gh h0 hlt]
  ·rw[dt h0] at h;cases h
theorem aFk(N:Nat)(hN:1000 < N)(w:Nat)(hw0:1<=w)(hw:w<=8)(ns:List Int)(h64:∀x∈ns,dJ x)(hl:ns.length<=100):∀(k i:Nat) (b:List Int) (e:Int),b.length<=100000+8*i->i<=ns.length->ns.length - i < k->∃o,cA N ns (w:Int) k b e (i:Int)=some o/\∃r:List Int×Int,(o=Sum.inl r\/o=Sum.inr r)/\Wr 0 b e ((ns.drop i).map λx=>⟨false,w,x⟩) (w*(ns.length - i)) r
 | 0,_,_,_,_,_,h=>by omega
 | k+1,i,b,e,hb,hi,hk=>by
  rw[cA]
  by_cases c:i < ns.length
  ·have hx:=h64 _ (bz c)
   rw[dt (by omega),aM,cond_true,mJ c,aa,bj c,bv]
   by_cases h0:ns[i] < 0
   ·rw[dt h0,cond_true,aFY,aa]
    refine⟨_,rfl,_,.inr rfl,by simp,λ_ h=>?_,λ_=>nY (.inr (by decide))⟩
    exfalso;unfold okL Fld.ok at h;rw[bd] at h;simp only[cond_false,df (show ¬0<=ns[i] by omega),Bool.false_and] at h;cases h
   ·obtain⟨r8,h1,h2,h3,h4⟩:=put1V N (by omega) b w hw0 hw hx (by omega) (by omega)
    rw[df h0,cond_false,h1,aa,zW,aa,mQ (by omega)]
    obtain⟨o,g1,r,g2,g3⟩:=aFk N hN w hw0 hw ns h64 hl k (i+1) r8.1 (lQ e r8.2) (by omega) (by omega) (by omega)
    refine⟨o,g1,r,g2,?_⟩
    have first:Wr 0 b e [⟨false,w,ns[i]⟩] w (r8.1,lQ e r8.2):=by
     refine⟨h2,λq1 q2=>?_,λq=>?_⟩
     ·have:=h3 (by simpa[okL] using q2)
      rw[this,q1]
      simp[bB,lQ]
     ·by_cases d:Fld.ok ⟨false,w,ns[i]⟩=true
      ·exact nY (.inl λq1=>q ⟨q1,by simpa[okL] using d⟩)
      ·exact nY (.inr (h4 (by simpa using d)))
    refine(first.seq g3).cast rfl ?_;rw[show ns.length - i=ns.length - (i+1)+1 by omega,ia]
    omega
  ·rw[df (by omega),aM,cond_false,bt (by omega)]
   exact⟨_,rfl,_,.inl rfl,(Wr.nil 0 b e).cast rfl (by omega)⟩
theorem jM(N:Nat)(hN:1000 < N)(w:Nat)(hw0:1<=w)(hw:w<=8)(ns:List Int)(h64:∀x∈ns,dJ x)(hl:ns.length<=100)(b:List Int)(e:Int)(hb:b.length<=100000):∃r,aB N b (w:Int) ns e=some r/\Wr 0 b e (ns.map λx=>⟨false,w,x⟩) (8*ns.length) r:=by
 obtain⟨o,h1,r,h2,h3⟩:=aFk N hN w hw0 hw ns h64 hl N 0 b e (by omega) (by omega) (by omega)
 unfold aB;rw[show cA N ns (w:Int) N b e 0=_ from h1,aa]
 rw[cm,Nat.sub_zero] at h3;refine⟨r,?_,h3.cast rfl (de _ hw)⟩
 rcases h2 with rfl | rfl <;> rfl
theorem sgnW(w:Nat)(b ns:List Int)(hw:w<=8):(aCC b w ns).1.length<=b.length+w*ns.length/\(okL (ns.map λx=>⟨true,w,x⟩)=true->aCC b w ns=(b++bB (ns.map λx=>⟨true,w,x⟩),0))/\(okL (ns.map λx=>⟨true,w,x⟩)=false->(aCC b w ns).2≠0):=by
 have hb:okL (ns.map λx=>⟨true,w,x⟩) = !(ns.any (uS w)):=by
  unfold okL;rw[List.all_map]
  induction ns with
  | nil=>rfl
  | cons x l ih=>rw[bd,ew,ih,Bool.not_or];rfl
 have hp:=sT w;have hbig:(ns.map (λx=>x % dO w)).any (big w)=false:=by
  rw[List.any_eq_false]
  intro y hy;obtain⟨x,_,rfl⟩:=d7.1 hy;have:=gf x hp;unfold big;rw[df (by omega)]
  decide
 rw[hb]
 unfold aCC zV;rw[hbig,cond_false]
 cases ns.any (uS w) with
 | true=>exact⟨by simp,λh=>(by cases h),λ_=>(show(3:Int)≠0 by decide)⟩
 | false=>
  refine⟨?_,λ_=>?_,λh=>(by cases h)⟩
  ·rw[cond_false]
   dsimp only;rw[am]
   have:∀l:List Int,(l.flatMap (leB w)).length=w*l.length:=by
    intro l
    induction l with
    | nil=>simp
    | cons x l ih=>rw[bg,am,nO,ih,aj,ia];omega
   rw[this,bx]
   omega
  ·rw[cond_false]
   unfold bB Fld.b;rw[gj,gj]
theorem aFX(N:Nat)(hN:1000 < N)(w:Nat)(hw0:1<=w)(hw:w<=8)(ns:List Int)(h64:∀x∈ns,dJ x)(hl:ns.length<=100)(b:List Int)(e:Int)(hb:b.length<=200000):∃r,dC N b (w:Int) ns=some r/\Wr 0 b e (ns.map λx=>⟨true,w,x⟩) (8*ns.length) (r.1,lQ e r.2):=by
 refine⟨_,sgnP N b w hw0 hw ns h64 (by omega) (by omega) (by omega) (by omega),?_⟩
 obtain⟨h1,h2,h3⟩:=sgnW w b ns hw;refine⟨Nat.le_trans h1 (Nat.add_le_add_left (de _ hw) _),λq1 q2=>?_,λq=>?_⟩
 ·rw[h2 q2,q1];rfl
 ·by_cases d:okL (ns.map λx=>⟨true,w,x⟩)=true
  ·exact nY (.inl λq1=>q ⟨q1,d⟩)
  ·exact nY (.inr (h3 (by simpa using d)))
def pF(p:aA):List Fld:=[⟨true,4,p.gX⟩,⟨true,4,p.gY⟩,⟨true,4,p.gZ⟩]
def p64(p:aA):Prop:=dJ p.gX/\dJ p.gY/\dJ p.gZ
theorem aBI(N:Nat)(hN:1000 < N)(ps:List aA)(h64:∀p∈ps,p64 p)(hl:ps.length<=10):∀(k i:Nat) (b:List Int) (e:Int),b.length<=150000+24*i->i<=ps.length->ps.length - i < k->∃r,bW N ps k b e (i:Int)=some r/\Wr 0 b e ((ps.drop i).flatMap pF) (24*(ps.length - i)) r
 | 0,_,_,_,_,_,h=>by omega
 | k+1,i,b,e,hb,hi,hk=>by
  rw[bW]
  by_cases c:i < ps.length
  ·have hx:=h64 _ (bz c)
   obtain⟨r7,h1,h2⟩:=aFX N hN 4 (by decide) (by decide) [ps[i].gX,ps[i].gY,ps[i].gZ] (λx hx'=>by simp only[au,aq,or_false] at hx';rcases hx' with rfl | rfl | rfl;exact hx.1;exact hx.2.1;exact hx.2.2) (by simp) b e (by omega)
   have l2:=h2.len;simp only[aj,an] at l2;rw[dt (by omega),aM,cond_true,mJ c,aa,show dC N b 4 [ps[i].gX,ps[i].gY,ps[i].gZ]=_ from h1,aa,zW,aa,mQ (by omega)]
   obtain⟨r,g1,g2⟩:=aBI N hN ps h64 hl k (i+1) r7.1 (lQ e r7.2) (by omega) (by omega) (by omega)
   refine⟨r,g1,(h2.seq g2).cast ?_ ?_⟩
   ·rw[bj c,bg];rfl
   ·simp only[aj,an];omega
  ·rw[df (by omega),aM,cond_false,bt (by omega)]
   exact⟨_,rfl,(Wr.nil 0 b e).cast rfl (by omega)⟩
def vF(v:aP):List Fld:=[⟨false,1,v.gW⟩,⟨false,1,v.gH⟩,⟨false,1,v.gA7⟩,⟨false,1,v.gA6⟩,⟨false,1,v.gA5⟩,⟨false,1,cond v.gA2 1 0⟩,⟨false,8,v.gK⟩]++([v.gA.gJ,v.gA.gG,v.gA.gUp,v.gA.gE].flatMap pF++[⟨false,4,v.gA.gQ⟩,⟨false,4,v.gA.gP⟩])
structure V64(v:aP):Prop where
 w:dJ v.gW
 h:dJ v.gH
 s:dJ v.gA7
 d:dJ v.gA6
 c:dJ v.gA5
 seed:0<=v.gK/\v.gK < 18446744073709551616
 eye:p64 v.gA.gJ
 rt:p64 v.gA.gG
 up:p64 v.gA.gUp
 ah:p64 v.gA.gE
 ln:dJ v.gA.gQ
 fo:dJ v.gA.gP
theorem aFL(c:Bool):(cond c (some (1:Int)) (some 0))=some (cond c 1 0):=by cases c <;> rfl
theorem aAO(c:Bool):dJ (cond c 1 0):=by cases c <;> exact⟨by decide,by decide⟩
theorem aFR{x:Int}(h:0<=x/\x < 18446744073709551616)(b:List Int):zV b 8 [x]=(b++Fld.b ⟨false,8,x⟩,0)/\Fld.ok ⟨false,8,x⟩=true:=by
 have hp:dO 8=18446744073709551616:=rfl;have hb:big 8 x=false:=by unfold big;exact df (by omega)
 unfold zV Fld.ok Fld.b;dsimp only;rw[show([x]:List Int).any (big 8)=big 8 x by simp,show(gw (leB 8) [x])=leB 8 x by simp,hb,dt h.1,gh h.1 (by omega)]
 exact⟨rfl,rfl⟩
theorem seedU{x:Int}(h:0<=x/\x < 18446744073709551616):u64L [x]:=by
 intro y hy;rw[al] at hy;rw[hy];exact h
theorem seedW{σ:Type}{z:σ}{x:Int}(h:0<=x/\x < 18446744073709551616)(b:List Int)(e:σ):Wr z b e [⟨false,8,x⟩] 8 (b++Fld.b ⟨false,8,x⟩,e):=by
 obtain⟨_,ok⟩:=aFR h b;refine⟨?_,λq _=>?_,λq d=>?_⟩
 ·rw[am]
  unfold Fld.b;rw[nO]
  exact be _
 ·rw[q];simp[bB]
 ·exact q ⟨d,by simpa[okL] using ok⟩
theorem viewC(N:Nat)(hN:1000 < N){v:aP}(hv:V64 v)(b:List Int)(e:Int)(hb:b.length<=90000):∃r,cW N b v e=some r/\Wr 0 b e (vF v) 200 r:=by
 unfold cW;obtain⟨r2,e2,w2⟩:=jM N hN 1 (by decide) (by decide) [v.gW,v.gH,v.gA7,v.gA6,v.gA5,cond v.gA2 1 0] (λx hx=>by simp only[au,aq,or_false] at hx;rcases hx with rfl | rfl | rfl | rfl | rfl | rfl;exact hv.w;exact hv.h;exact hv.s;exact hv.d;exact hv.c;exact aAO _) (by simp) b e (by omega)
 have l2:=w2.len;simp only[aj,an] at l2;obtain⟨r5,e5,w5⟩:=aBI N hN [v.gA.gJ,v.gA.gG,v.gA.gUp,v.gA.gE] (λx hx=>by simp only[au,aq,or_false] at hx;rcases hx with rfl | rfl | rfl | rfl;exact hv.eye;exact hv.rt;exact hv.up;exact hv.ah) (by simp) N 0 (r2.1++Fld.b ⟨false,8,v.gK⟩) r2.2 (by rw[am];unfold Fld.b;rw[nO];show _+8<=_;omega) (by omega) (by simp;omega)
 have l5:=w5.len;rw[am] at l5;unfold Fld.b at l5;rw[nO] at l5;simp only[aj,an] at l5
 replace l5:r5.1.length<=r2.1.length+8+24*4:=l5
 obtain⟨r6,e6,w6⟩:=jM N hN 4 (by decide) (by decide) [v.gA.gQ,v.gA.gP] (λx hx=>by simp only[au,aq,or_false] at hx;rcases hx with rfl | rfl;exact hv.ln;exact hv.fo) (by simp) r5.1 r5.2 (by omega)
 have w3:=seedW (z:=(0:Int)) hv.seed r2.1 r2.2;rw[aFL,aa,show aB N b 1 [v.gW,v.gH,v.gA7,v.gA6,v.gA5,cond v.gA2 1 0] e=_ from e2,aa,show eC N r2.1 8 [v.gK]=some (zV r2.1 8 [v.gK]) from putP N r2.1 8 (by decide) (by decide) _ (seedU hv.seed) (by omega) (by simp) (by omega) (by simp;omega),(aFR hv.seed r2.1).1,aa,zW,aa]
 unfold dE;have k0:lQ r2.2 0=r2.2:=by unfold lQ;rw[if_neg (by omega)]
 rw[k0,show bW N [v.gA.gJ,v.gA.gG,v.gA.gUp,v.gA.gE] N (r2.1++Fld.b ⟨false,8,v.gK⟩) r2.2 0=_ from e5,aa,aa,show aB N r5.1 4 [v.gA.gQ,v.gA.gP] r5.2=_ from e6,aa]
 exact⟨_,rfl,(((w2.seq w3).seq w5).seq w6).cast (by unfold vF;simp) (by simp)⟩
structure O64(o:aD):Prop where
 k:dJ o.gD
 ha:dJ o.gS
 me:dJ o.gC.gA0
 ma:dJ o.gC.gV
 te:dJ o.gC.gR
 n:dJ o.gC.gN
 m:∀x∈o.gC.gT.gM.toList,dJ x
 x:dJ o.gC.gT.gT.gX
 y:dJ o.gC.gT.gT.gY
 z:dJ o.gC.gT.gT.gZ
 la:dJ o.gF
 v:V64 o.gI
 q:dJ o.gA4
 wh:dJ o.gU
 lb:0<=o.gA1/\o.gA1 < 4294967296
 mn:dJ o.gA3
 ti:dJ o.gA8
 bl:o.gL.length<=1000000
def zO(o:aD):List Int:=o.gC.gT.gM.toList++[o.gC.gT.gT.gX,o.gC.gT.gT.gY,o.gC.gT.gT.gZ]
def fO(o:aD):Nat->List Fld
 | 1=>[⟨false,1,o.gD⟩,⟨false,4,o.gS⟩,⟨false,2,(o.gL.length:Int)⟩]
 | 2=>[⟨false,1,o.gD⟩,⟨false,4,o.gS⟩]
 | 3=>[⟨false,1,o.gD⟩,⟨false,4,o.gC.gA0⟩,⟨false,4,o.gC.gV⟩,⟨false,4,o.gC.gR⟩,⟨false,4,o.gC.gN⟩]++(zO o).map λx=>⟨true,8,x⟩
 | 4=>[⟨false,1,o.gD⟩,⟨false,4,o.gC.gA0⟩,⟨false,4,o.gC.gV⟩,⟨false,4,o.gC.gR⟩,⟨false,4,o.gC.gN⟩]
 | 5=>[⟨false,1,o.gD⟩,⟨false,1,o.gF⟩]++(vF o.gI++[⟨false,2,o.gA4⟩])
 | 6=>[⟨false,1,o.gD⟩,⟨false,1,o.gF⟩]
 | 7=>[⟨false,1,o.gD⟩,⟨false,1,o.gF⟩,⟨false,1,o.gU⟩,⟨false,4,I64 o.gA1⟩,⟨false,4,o.gA3⟩]
 | 8=>[⟨false,1,o.gD⟩,⟨false,1,o.gF⟩,⟨false,1,o.gU⟩]
 | 9=>[⟨false,1,o.gD⟩,⟨false,1,o.gF⟩]
 | 10=>[⟨false,1,o.gD⟩,⟨false,4,o.gA8⟩]
 | _=>[]
def tO(o:aD):Nat->List Int
 | 1=>o.gL
 | _=>[]
theorem xB(o:aD):(zO o).length=12:=by unfold zO;simp
theorem aFQ{o:aD}(h:O64 o):∀x∈zO o,dJ x:=by
 intro x hx;unfold zO at hx;rw[ck] at hx;rcases hx with hx | hx
 ·exact h.m x hx
 ·simp only[au,aq,or_false] at hx;rcases hx with rfl | rfl | rfl
  ·exact h.x
  ·exact h.y
  ·exact h.z
theorem lenI{n:Nat}(h:n<=1000000):dJ (n:Int):=⟨by omega,by omega⟩
theorem O64.lb64{o:aD}(h:O64 o):dJ (I64 o.gA1):=by
 have:=h.lb;rw[iG (by omega) (by omega)]
 exact⟨by omega,by omega⟩
theorem aDi(N:Nat)(hN:1000 < N)(ns:List Int)(h64:∀p∈ns,dJ p)(hl:ns.length<=20):∀(k i:Nat) (b:List Int) (e:Int),b.length<=150000+8*i->i<=ns.length->ns.length - i < k->∃r,cD N ns k b e (i:Int)=some r/\Wr 0 b e ((ns.drop i).map λx=>⟨true,8,x⟩) (8*(ns.length - i)) r
 | 0,_,_,_,_,_,h=>by omega
 | k+1,i,b,e,hb,hi,hk=>by
  rw[cD]
  by_cases c:i < ns.length
  ·have hx:=h64 _ (bz c)
   obtain⟨r7,h1,h2⟩:=aFX N hN 8 (by decide) (by decide) [ns[i]] (λx hx'=>by rw[al] at hx';rw[hx'];exact hx) (by simp) b e (by omega)
   have l2:=h2.len;simp only[aj,an] at l2;rw[dt (by omega),aM,cond_true,mJ c,aa,show dC N b 8 [ns[i]]=_ from h1,aa,zW,aa,mQ (by omega)]
   obtain⟨r,g1,g2⟩:=aDi N hN ns h64 hl k (i+1) r7.1 (lQ e r7.2) (by omega) (by omega) (by omega)
   refine⟨r,g1,(h2.seq g2).cast ?_ ?_⟩
   ·rw[bj c,bv];rfl
   ·simp only[aj,an];omega
  ·rw[df (by omega),aM,cond_false,bt (by omega)]
   exact⟨_,rfl,(Wr.nil 0 b e).cast rfl (by omega)⟩
theorem opC1(N:Nat)(hN:1000 < N){o:aD}(ho:O64 o)(hk:o.gD=1):∃r,aH N [] o 0=some r/\∃q,Wr 0 [] 0 (fO o 1) 1000 q/\r=(q.1++tO o 1,q.2):=by
 unfold aH;obtain⟨r1,e1,w1⟩:=jM N hN 1 (by decide) (by decide) [o.gD] (λx hx=>by rw[al] at hx;rw[hx];exact ho.k) (by simp) [] 0 (by first | omega | simp)
 have l1:=w1.len;simp only[aj,an] at l1;obtain⟨r2,e2,w2⟩:=jM N hN 4 (by decide) (by decide) [o.gS] (λx hx=>by rw[al] at hx;rw[hx];exact ho.ha) (by simp) r1.1 r1.2 (by first | omega | simp)
 have l2:=w2.len;simp only[aj,an] at l2;obtain⟨r3,e3,w3⟩:=jM N hN 2 (by decide) (by decide) [(o.gL.length:Int)] (λx hx=>by rw[al] at hx;rw[hx];exact(lenI ho.bl)) (by simp) r2.1 r2.2 (by first | omega | simp)
 have l3:=w3.len;simp only[aj,an] at l3;rw[show aB N [] 1 [o.gD] 0=_ from e1,aa,hk,show((1:Int)==1)=true from rfl,cond_true,show aB N r1.1 4 [o.gS] r1.2=_ from e2,aa,aM,show aB N r2.1 2 [(o.gL.length:Int)] r2.2=_ from e3,aa,iU (by have:=ho.bl;omega),aa]
 exact⟨_,rfl,_,((w1.seq w2).seq w3).cast (by simp[fO]) (by simp),by simp[tO]⟩
theorem opC2(N:Nat)(hN:1000 < N){o:aD}(ho:O64 o)(hk:o.gD=2):∃r,aH N [] o 0=some r/\∃q,Wr 0 [] 0 (fO o 2) 1000 q/\r=(q.1++tO o 2,q.2):=by
 unfold aH;obtain⟨r1,e1,w1⟩:=jM N hN 1 (by decide) (by decide) [o.gD] (λx hx=>by rw[al] at hx;rw[hx];exact ho.k) (by simp) [] 0 (by first | omega | simp)
 have l1:=w1.len;simp only[aj,an] at l1;obtain⟨r2,e2,w2⟩:=jM N hN 4 (by decide) (by decide) [o.gS] (λx hx=>by rw[al] at hx;rw[hx];exact ho.ha) (by simp) r1.1 r1.2 (by first | omega | simp)
 have l2:=w2.len;simp only[aj,an] at l2;rw[show aB N [] 1 [o.gD] 0=_ from e1,aa,hk,show((2:Int)==1)=false from rfl,cond_false,show((2:Int)==2)=true from rfl,cond_true,show aB N r1.1 4 [o.gS] r1.2=_ from e2,aa]
 exact⟨_,rfl,_,(w1.seq w2).cast (by simp[fO]) (by simp),by simp[tO]⟩
theorem opC3(N:Nat)(hN:1000 < N){o:aD}(ho:O64 o)(hk:o.gD=3):∃r,aH N [] o 0=some r/\∃q,Wr 0 [] 0 (fO o 3) 1000 q/\r=(q.1++tO o 3,q.2):=by
 unfold aH;obtain⟨r1,e1,w1⟩:=jM N hN 1 (by decide) (by decide) [o.gD] (λx hx=>by rw[al] at hx;rw[hx];exact ho.k) (by simp) [] 0 (by first | omega | simp)
 have l1:=w1.len;simp only[aj,an] at l1;obtain⟨r2,e2,w2⟩:=jM N hN 4 (by decide) (by decide) [o.gC.gA0,o.gC.gV,o.gC.gR,o.gC.gN] (λx hx=>by simp only[au,aq,or_false] at hx;rcases hx with rfl | rfl | rfl | rfl;exact ho.me;exact ho.ma;exact ho.te;exact ho.n) (by simp) r1.1 r1.2 (by first | omega | simp)
 have l2:=w2.len;simp only[aj,an] at l2;obtain⟨r3,e3,w3⟩:=aDi N hN (zO o) (aFQ ho) (by rw[xB];omega) N 0 r2.1 r2.2 (by omega) (by omega) (by rw[xB];omega)
 rw[cm,xB] at w3;rw[show aB N [] 1 [o.gD] 0=_ from e1,aa,hk,show((3:Int)==1)=false from rfl,cond_false,show((3:Int)==2)=false from rfl,cond_false,show((3:Int)==3)=true from rfl,cond_true,aa,cond_true,show aB N r1.1 4 [o.gC.gA0,o.gC.gV,o.gC.gR,o.gC.gN] r1.2=_ from e2,aa,show((3:Int)==4)=false from rfl,cond_false,iU (by simp),aa,show cD N (o.gC.gT.gM.toList++[o.gC.gT.gT.gX,o.gC.gT.gT.gY,o.gC.gT.gT.gZ]) N r2.1 r2.2 0=_ from e3,aa]
 exact⟨_,rfl,_,((w1.seq w2).seq w3).cast (by simp[fO]) (by simp),by simp[tO]⟩
theorem opC4(N:Nat)(hN:1000 < N){o:aD}(ho:O64 o)(hk:o.gD=4):∃r,aH N [] o 0=some r/\∃q,Wr 0 [] 0 (fO o 4) 1000 q/\r=(q.1++tO o 4,q.2):=by
 unfold aH;obtain⟨r1,e1,w1⟩:=jM N hN 1 (by decide) (by decide) [o.gD] (λx hx=>by rw[al] at hx;rw[hx];exact ho.k) (by simp) [] 0 (by first | omega | simp)
 have l1:=w1.len;simp only[aj,an] at l1;obtain⟨r2,e2,w2⟩:=jM N hN 4 (by decide) (by decide) [o.gC.gA0,o.gC.gV,o.gC.gR,o.gC.gN] (λx hx=>by simp only[au,aq,or_false] at hx;rcases hx with rfl | rfl | rfl | rfl;exact ho.me;exact ho.ma;exact ho.te;exact ho.n) (by simp) r1.1 r1.2 (by first | omega | simp)
 have l2:=w2.len;simp only[aj,an] at l2;rw[show aB N [] 1 [o.gD] 0=_ from e1,aa,hk,show((4:Int)==1)=false from rfl,cond_false,show((4:Int)==2)=false from rfl,cond_false,show((4:Int)==3)=false from rfl,cond_false,show((4:Int)==4)=true from rfl,aa,cond_true,show aB N r1.1 4 [o.gC.gA0,o.gC.gV,o.gC.gR,o.gC.gN] r1.2=_ from e2,aa]
 rw[cond_true]
 exact⟨_,rfl,_,(w1.seq w2).cast (by simp[fO]) (by simp),by simp[tO]⟩
theorem opC5(N:Nat)(hN:1000 < N){o:aD}(ho:O64 o)(hk:o.gD=5):∃r,aH N [] o 0=some r/\∃q,Wr 0 [] 0 (fO o 5) 1000 q/\r=(q.1++tO o 5,q.2):=by
 unfold aH;obtain⟨r1,e1,w1⟩:=jM N hN 1 (by decide) (by decide) [o.gD] (λx hx=>by rw[al] at hx;rw[hx];exact ho.k) (by simp) [] 0 (by first | omega | simp)
 have l1:=w1.len;simp only[aj,an] at l1;obtain⟨r2,e2,w2⟩:=jM N hN 1 (by decide) (by decide) [o.gF] (λx hx=>by rw[al] at hx;rw[hx];exact ho.la) (by simp) r1.1 r1.2 (by first | omega | simp)
 have l2:=w2.len;simp only[aj,an] at l2;obtain⟨r3,e3,w3⟩:=viewC N hN ho.v r2.1 r2.2 (by omega)
 have l3:=w3.len;obtain⟨r4,e4,w4⟩:=jM N hN 2 (by decide) (by decide) [o.gA4] (λx hx=>by rw[al] at hx;rw[hx];exact ho.q) (by simp) r3.1 r3.2 (by first | omega | simp)
 have l4:=w4.len;simp only[aj,an] at l4;rw[show aB N [] 1 [o.gD] 0=_ from e1,aa,hk,show((5:Int)==1)=false from rfl,cond_false,show((5:Int)==2)=false from rfl,cond_false,show((5:Int)==3)=false from rfl,cond_false,show((5:Int)==4)=false from rfl,aa,cond_false,show((5:Int)==5)=true from rfl,cond_true,show aB N r1.1 1 [o.gF] r1.2=_ from e2,aa,e3,aa,show aB N r3.1 2 [o.gA4] r3.2=_ from e4,aa]
 exact⟨_,rfl,_,(((w1.seq w2).seq w3).seq w4).cast (by simp[fO]) (by simp),by simp[tO]⟩
theorem opC6(N:Nat)(hN:1000 < N){o:aD}(ho:O64 o)(hk:o.gD=6):∃r,aH N [] o 0=some r/\∃q,Wr 0 [] 0 (fO o 6) 1000 q/\r=(q.1++tO o 6,q.2):=by
 unfold aH;obtain⟨r1,e1,w1⟩:=jM N hN 1 (by decide) (by decide) [o.gD] (λx hx=>by rw[al] at hx;rw[hx];exact ho.k) (by simp) [] 0 (by first | omega | simp)
 have l1:=w1.len;simp only[aj,an] at l1;obtain⟨r2,e2,w2⟩:=jM N hN 1 (by decide) (by decide) [o.gF] (λx hx=>by rw[al] at hx;rw[hx];exact ho.la) (by simp) r1.1 r1.2 (by first | omega | simp)
 have l2:=w2.len;simp only[aj,an] at l2;rw[show aB N [] 1 [o.gD] 0=_ from e1,aa,hk,show((6:Int)==1)=false from rfl,cond_false,show((6:Int)==2)=false from rfl,cond_false,show((6:Int)==3)=false from rfl,cond_false,show((6:Int)==4)=false from rfl,aa,cond_false,show((6:Int)==5)=false from rfl,cond_false,show((6:Int)==6)=true from rfl,cond_true,aa,cond_true,show aB N r1.1 1 [o.gF] r1.2=_ from e2,aa]
 exact⟨_,rfl,_,(w1.seq w2).cast (by simp[fO]) (by simp),by simp[tO]⟩
theorem opC7(N:Nat)(hN:1000 < N){o:aD}(ho:O64 o)(hk:o.gD=7):∃r,aH N [] o 0=some r/\∃q,Wr 0 [] 0 (fO o 7) 1000 q/\r=(q.1++tO o 7,q.2):=by
 unfold aH;obtain⟨r1,e1,w1⟩:=jM N hN 1 (by decide) (by decide) [o.gD] (λx hx=>by rw[al] at hx;rw[hx];exact ho.k) (by simp) [] 0 (by first | omega | simp)
 have l1:=w1.len;simp only[aj,an] at l1;obtain⟨r2,e2,w2⟩:=jM N hN 1 (by decide) (by decide) [o.gF,o.gU] (λx hx=>by simp only[au,aq,or_false] at hx;rcases hx with rfl | rfl;exact ho.la;exact ho.wh) (by simp) r1.1 r1.2 (by first | omega | simp)
 have l2:=w2.len;simp only[aj,an] at l2;obtain⟨r3,e3,w3⟩:=jM N hN 4 (by decide) (by decide) [I64 o.gA1,o.gA3] (λx hx=>by simp only[au,aq,or_false] at hx;rcases hx with rfl | rfl;exact ho.lb64;exact ho.mn) (by simp) r2.1 r2.2 (by first | omega | simp)
 have l3:=w3.len;simp only[aj,an] at l3;rw[show aB N [] 1 [o.gD] 0=_ from e1,aa,hk,show((7:Int)==1)=false from rfl,cond_false,show((7:Int)==2)=false from rfl,cond_false,show((7:Int)==3)=false from rfl,cond_false,show((7:Int)==4)=false from rfl,aa,cond_false,show((7:Int)==5)=false from rfl,cond_false,show((7:Int)==6)=false from rfl,cond_false,show((7:Int)==9)=false from rfl,aa,cond_false,show((7:Int)==7)=true from rfl,cond_true,show aB N r1.1 1 [o.gF,o.gU] r1.2=_ from e2,aa,show aB N r2.1 4 [I64 o.gA1,o.gA3] r2.2=_ from e3,aa]
 exact⟨_,rfl,_,((w1.seq w2).seq w3).cast (by simp[fO]) (by simp),by simp[tO]⟩
theorem opC8(N:Nat)(hN:1000 < N){o:aD}(ho:O64 o)(hk:o.gD=8):∃r,aH N [] o 0=some r/\∃q,Wr 0 [] 0 (fO o 8) 1000 q/\r=(q.1++tO o 8,q.2):=by
 unfold aH;obtain⟨r1,e1,w1⟩:=jM N hN 1 (by decide) (by decide) [o.gD] (λx hx=>by rw[al] at hx;rw[hx];exact ho.k) (by simp) [] 0 (by first | omega | simp)
 have l1:=w1.len;simp only[aj,an] at l1;obtain⟨r2,e2,w2⟩:=jM N hN 1 (by decide) (by decide) [o.gF,o.gU] (λx hx=>by simp only[au,aq,or_false] at hx;rcases hx with rfl | rfl;exact ho.la;exact ho.wh) (by simp) r1.1 r1.2 (by first | omega | simp)
 have l2:=w2.len;simp only[aj,an] at l2;rw[show aB N [] 1 [o.gD] 0=_ from e1,aa,hk,show((8:Int)==1)=false from rfl,cond_false,show((8:Int)==2)=false from rfl,cond_false,show((8:Int)==3)=false from rfl,cond_false,show((8:Int)==4)=false from rfl,aa,cond_false,show((8:Int)==5)=false from rfl,cond_false,show((8:Int)==6)=false from rfl,cond_false,show((8:Int)==9)=false from rfl,aa,cond_false,show((8:Int)==7)=false from rfl,cond_false,show((8:Int)==8)=true from rfl,cond_true,show aB N r1.1 1 [o.gF,o.gU] r1.2=_ from e2,aa]
 exact⟨_,rfl,_,(w1.seq w2).cast (by simp[fO]) (by simp),by simp[tO]⟩
theorem opC9(N:Nat)(hN:1000 < N){o:aD}(ho:O64 o)(hk:o.gD=9):∃r,aH N [] o 0=some r/\∃q,Wr 0 [] 0 (fO o 9) 1000 q/\r=(q.1++tO o 9,q.2):=by
 unfold aH;obtain⟨r1,e1,w1⟩:=jM N hN 1 (by decide) (by decide) [o.gD] (λx hx=>by rw[al] at hx;rw[hx];exact ho.k) (by simp) [] 0 (by first | omega | simp)
 have l1:=w1.len;simp only[aj,an] at l1;obtain⟨r2,e2,w2⟩:=jM N hN 1 (by decide) (by decide) [o.gF] (λx hx=>by rw[al] at hx;rw[hx];exact ho.la) (by simp) r1.1 r1.2 (by first | omega | simp)
 have l2:=w2.len;simp only[aj,an] at l2;rw[show aB N [] 1 [o.gD] 0=_ from e1,aa,hk,show((9:Int)==1)=false from rfl,cond_false,show((9:Int)==2)=false from rfl,cond_false,show((9:Int)==3)=false from rfl,cond_false,show((9:Int)==4)=false from rfl,aa,cond_false,show((9:Int)==5)=false from rfl,cond_false,show((9:Int)==6)=false from rfl,cond_false,show((9:Int)==9)=true from rfl,aa,cond_true,show aB N r1.1 1 [o.gF] r1.2=_ from e2,aa]
 exact⟨_,rfl,_,(w1.seq w2).cast (by simp[fO]) (by simp),by simp[tO]⟩
theorem opC10(N:Nat)(hN:1000 < N){o:aD}(ho:O64 o)(hk:o.gD=10):∃r,aH N [] o 0=some r/\∃q,Wr 0 [] 0 (fO o 10) 1000 q/\r=(q.1++tO o 10,q.2):=by
 unfold aH;obtain⟨r1,e1,w1⟩:=jM N hN 1 (by decide) (by decide) [o.gD] (λx hx=>by rw[al] at hx;rw[hx];exact ho.k) (by simp) [] 0 (by first | omega | simp)
 have l1:=w1.len;simp only[aj,an] at l1;obtain⟨r2,e2,w2⟩:=jM N hN 4 (by decide) (by decide) [o.gA8] (λx hx=>by rw[al] at hx;rw[hx];exact ho.ti) (by simp) r1.1 r1.2 (by first | omega | simp)
 have l2:=w2.len;simp only[aj,an] at l2;rw[show aB N [] 1 [o.gD] 0=_ from e1,aa,hk,show((10:Int)==1)=false from rfl,cond_false,show((10:Int)==2)=false from rfl,cond_false,show((10:Int)==3)=false from rfl,cond_false,show((10:Int)==4)=false from rfl,aa,cond_false,show((10:Int)==5)=false from rfl,cond_false,show((10:Int)==6)=false from rfl,cond_false,show((10:Int)==9)=false from rfl,aa,cond_false,show((10:Int)==7)=false from rfl,cond_false,show((10:Int)==8)=false from rfl,cond_false,show((10:Int)==10)=true from rfl,cond_true,show aB N r1.1 4 [o.gA8] r1.2=_ from e2,aa]
 exact⟨_,rfl,_,(w1.seq w2).cast (by simp[fO]) (by simp),by simp[tO]⟩
theorem opCn(N:Nat)(hN:1000 < N){o:aD}(ho:O64 o)(hk:o.gD < 1\/10 < o.gD):∃r,aH N [] o 0=some r/\r.2≠0:=by
 unfold aH;obtain⟨r1,e1,w1⟩:=jM N hN 1 (by decide) (by decide) [o.gD] (λx hx=>by rw[al] at hx;rw[hx];exact ho.k) (by simp) [] 0 (by simp)
 have f:∀j:Int,1<=j->j<=10->(o.gD==j)=false:=λj _ _=>by rw[beq_eq_false_iff_ne];omega
 rw[show aB N [] 1 [o.gD] 0=_ from e1,aa,f 1 (by decide) (by decide),f 2 (by decide) (by decide),f 3 (by decide) (by decide),f 4 (by decide) (by decide),f 5 (by decide) (by decide),f 6 (by decide) (by decide),f 7 (by decide) (by decide),f 8 (by decide) (by decide),f 9 (by decide) (by decide),f 10 (by decide) (by decide),cond_false,cond_false,cond_false,aa,cond_false,cond_false,cond_false,aa,cond_false,cond_false,cond_false,aFY,aa]
 exact⟨_,rfl,nY (.inr (by decide))⟩
theorem kinds{o:aD}(h:¬(o.gD < 1\/10 < o.gD)):∃k:Nat,o.gD=(k:Int)/\1<=k/\k<=10:=⟨o.gD.toNat,by omega,by omega,by omega⟩
theorem oB{k:Nat}(h:1<=k)(h':k<=10):k=1\/k=2\/k=3\/k=4\/k=5\/k=6\/k=7\/k=8\/k=9\/k=10:=by omega
theorem opCk(N:Nat)(hN:1000 < N){o:aD}(ho:O64 o){k:Nat}(hk:o.gD=(k:Int))(h1:1<=k)(h2:k<=10):∃r,aH N [] o 0=some r/\∃q,Wr 0 [] 0 (fO o k) 1000 q/\r=(q.1++tO o k,q.2):=by
 rcases oB h1 h2 with rfl | rfl | rfl | rfl | rfl | rfl | rfl | rfl | rfl | rfl
 ·exact opC1 N hN ho hk
 ·exact opC2 N hN ho hk
 ·exact opC3 N hN ho hk
 ·exact opC4 N hN ho hk
 ·exact opC5 N hN ho hk
 ·exact opC6 N hN ho hk
 ·exact opC7 N hN ho hk
 ·exact opC8 N hN ho hk
 ·exact opC9 N hN ho hk
 ·exact opC10 N hN ho hk
theorem sumL{α β γ:Type}(a:α)(f:α->γ)(g:β->γ):lM (.inl a) f g=f a:=rfl
theorem aGl{o:aD}(ho:O64 o)(k:Nat):(tO o k).length<=1000000:=by
 unfold tO;split
 ·exact ho.bl
 ·simp
theorem aFb(N k:Nat)(o:aD){r:List Int×Int}(h:aH N [] o 0=some r)(hl:r.2=0->r.1.length<=2000000):cT N [o] (k+2) [] 0=if r.2=0 then some (.inl r.1) else some (.inr ([],r.2)):=by
 rw[cT,aM,show(decide ((0:Int) < (([o]:List aD).length:Int)))=true from rfl,cond_true,show idx [o] 0=some o from rfl,aa,h,aa]
 by_cases c:r.2=0
 ·rw[show(r.2 != 0)=false by simpa using c,cond_false,iU (by have:=hl c;simp;omega),aa,cT,aM,show(decide (I64 (0+1) < (([o]:List aD).length:Int)))=false from rfl,cond_false,if_pos c]
  rfl
 ·rw[show(r.2 != 0)=true by simpa using c,cond_true,if_neg c]
theorem encC(N:Nat)(o:aD)(r:List Int×Int)(x:Option (Sum (List Int) (List Int×Int)))(h:cT N [o] N [] 0=x):aS N [o]=ae x λo=>lM o (λp2=>cG (decide (((p2.length:Int)) > 65536)) λx9=>cond x9 (some (([],3))) (some ((p2,0)))) (λr=>some r):=by
 unfold aS;rw[aM,show(decide ((([o]:List aD).length:Int) > 256))=false from rfl,cond_false,h]
def bZ : List ByteArray:=[ByteArray.mk #[],ByteArray.mk #[108,111,97,100],aD8,ByteArray.mk #[112,117,116],ByteArray.mk #[116,97,107,101],aD9,aCi,aCw,aDE,aEB,ByteArray.mk #[116,105,99,107]]
theorem cS(N:Nat):hY N=some bZ:=rfl
def nm : Nat->List UInt8
 | 1=>[108,111,97,100]
 | 2=>[117,110,108,111,97,100]
 | 3=>[112,117,116]
 | 4=>[116,97,107,101]
 | 5=>[108,97,121,101,114]
 | 6=>[114,101,110,100,101,114]
 | 7=>[103,114,97,110,116]
 | 8=>[101,120,112,111,114,116]
 | 9=>[113,117,101,114,121]
 | 10=>[116,105,99,107]
 | _=>[]
def pE(x:Int):Bool:=cond (decide (x > 4611686018427387904)) true (decide (x < (-4611686018427387904)))
theorem aDo(N:Nat)(z:List Int)(hz:z.length<=100):∀(k i:Nat) (s:List Int),s.length<=i->i<=z.length->z.length - i < k->eF N z k s (i:Int)=if (z.drop i).any pE=true then some (.inr ([],false)) else some (.inl (s++z.drop i))
 | 0,_,_,_,_,h=>by omega
 | k+1,i,s,hs,hi,hk=>by
  rw[eF]
  by_cases c:i < z.length
  ·rw[dt (by omega),aM,cond_true,mJ c,aa,aM,aM,bj c,ew]
   show cond (pE z[i]) _ _=_;cases pE z[i] with
   | true=>rfl
   | false=>
    rw[cond_false,iU (by simp;omega),aa,mQ (by omega),aDo N z hz k (i+1) _ (by simp;omega) (by omega) (by omega),gu,ax];rfl
  ·rw[df (by omega),aM,cond_false,bt (by omega)]
   simp
def ptL(p:aA):List Int:=[p.gX,p.gY,p.gZ]
theorem ptsC(N:Nat)(z:List aA)(hz:z.length<=100):∀(k i:Nat) (s:List Int),s.length<=3*i->i<=z.length->z.length - i < k->dQ N z k s (i:Int)=some (s++(z.drop i).flatMap ptL)
 | 0,_,_,_,_,h=>by omega
 | k+1,i,s,hs,hi,hk=>by
  rw[dQ]
  by_cases c:i < z.length
  ·rw[dt (by omega),aM,cond_true,mJ c,aa,iU (by simp;omega),aa,mQ (by omega),ptsC N z hz k (i+1) _ (by simp;omega) (by omega) (by omega),bj c,bg,ax];rfl
  ·rw[df (by omega),aM,cond_false,bt (by omega)]
   simp
def aDO(o:aD):List aA:=[o.gI.gA.gJ,o.gI.gA.gG,o.gI.gA.gUp,o.gI.gA.gE]
theorem lo32{x:Int}(h:0<=x/\x < 18446744073709551616):aDu .u64 x 4294967295=fg x 4294967296:=by
 obtain⟨a,rfl⟩:=cl h.1;unfold aDu;have:(br IntKind.u64.bits (a:Int) &&& br IntKind.u64.bits 4294967295).toNat=a % 4294967296:=by
  rw[BitVec.toNat_and,show(br IntKind.u64.bits (a:Int)).toNat=a by
   rw[BitVec.ofInt_natCast,BitVec.toNat_ofNat];exact Nat.mod_eq_of_lt (by have:=h.2;show a < 18446744073709551616;omega),show(br IntKind.u64.bits 4294967295).toNat=2 ^ 32 - 1 from rfl,Nat.and_two_pow_sub_one_eq_mod]
 rw[this,cq (by omega)]
 show U64 _=_;rw[uZ];omega
theorem hi32{x:Int}(h:0<=x/\x < 18446744073709551616):shr .u64 x 32=U64 (gk x 4294967296):=by
 rw[aA8 .u64 x 32 32 rfl (by decide),show(2:Int) ^ 32=4294967296 from rfl,el h.1,uZ]
 omega
theorem ok4{x:Int}(h:Fld.ok ⟨false,4,x⟩=true):pE x=false:=by
 unfold Fld.ok at h;rw[cond_false,ag] at h;have h1:0<=x:=of_decide_eq_true h.1;have h2:big 4 x=false:=by simpa using h.2
 have h3:x < dO 4:=by unfold big at h2;have:=of_decide_eq_false h2;omega
 rw[show dO 4=4294967296 from rfl] at h3;unfold pE;rw[df (by omega),df (by omega)]
 rfl
theorem aB8(s:ByteArray)(i:Nat)(h:i < s.size):s.get! i=s.data.toList[i]'(by simpa using h):=by
 have h':i < s.data.size:=h;show s.data[i]! = _;rw[getElem!_pos s.data i h']
 simp
def eM(s:ByteArray)(i:Nat):UInt8:=(s.data.toList[i]?).getD 0
theorem uG(s:ByteArray)(i:Nat)(h:i < s.size):s.get! i=eM s i:=by
 rw[aB8 s i h]
 unfold eM;rw[af (by simpa using h)]
 rfl
structure aGh(s:ByteArray)(p:Nat):Prop where
 pos:1<=(Utf8.decode s p).2
 le:p+(Utf8.decode s p).2<=s.size
 low:eM s p < 128->Utf8.decode s p=((eM s p).toNat,1)
 high:¬eM s p < 128->128<=(Utf8.decode s p).1
 rest:∀j,1<=j->j < (Utf8.decode s p).2->128<=(eM s (p+j)).toNat
theorem aF1(s:ByteArray)(p:Nat)(h:p < s.size):aGh s p:=by
 have e0:s.get! (p+0)=eM s p:=uG s p h;have hc:∀k,(decide (p+k < s.size)&&((s.get! (p+k)).toNat / 64==2))=true->p+k < s.size/\128<=(eM s (p+k)).toNat:=by
  intro k hk;simp only[ag,decide_eq_true_eq,beq_iff_eq] at hk;obtain⟨k1,k2⟩:=hk;rw[uG s _ k1] at k2;exact⟨k1,by omega⟩
 have key:∀r:Nat×Nat,Utf8.decode s p=r->(eM s p < 128/\r=((eM s p).toNat,1))\/(¬eM s p < 128/\128<=r.1/\((r.2=1)\/(r.2=2/\(p+1 < s.size/\128<=(eM s (p+1)).toNat))\/(r.2=3/\(p+1 < s.size/\128<=(eM s (p+1)).toNat)/\(p+2 < s.size/\128<=(eM s (p+2)).toNat))\/(r.2=4/\(p+1 < s.size/\128<=(eM s (p+1)).toNat)/\(p+2 < s.size/\128<=(eM s (p+2)).toNat)/\(p+3 < s.size/\128<=(eM s (p+3)).toNat)))):=by
  intro r hr;unfold Utf8.decode at hr;dsimp only at hr;have e0':(s.get! (p+0)).toNat=(eM s p).toNat:=by rw[e0]
  split at hr
  ·rename_i h0;left;refine⟨?_,?_⟩
   ·show(eM s p).toNat < 128;rw[<- e0'];exact h0
   ·rw[<- hr,e0']
  ·rename_i h0;right;refine⟨λhh=>h0 (by rw[e0'];exact hh),?_⟩
   have er:Utf8.runeError=65533:=rfl;split at hr
   ·rename_i hb;simp only[ag] at hb;have c1:=hc 1 (by simpa using hb.2)
    split at hr
    ·subst hr;exact⟨by dsimp only;omega,.inr (.inl ⟨rfl,c1⟩)⟩
    ·subst hr;exact⟨by dsimp only;omega,.inl rfl⟩
   ·split at hr
    ·rename_i hb;simp only[ag] at hb;have c1:=hc 1 (by simpa using hb.1.2)
     have c2:=hc 2 (by simpa using hb.2)
     split at hr
     ·rename_i hv;simp only[ag,decide_eq_true_eq] at hv;subst hr;exact⟨by dsimp only;omega,.inr (.inr (.inl ⟨rfl,c1,c2⟩))⟩
     ·subst hr;exact⟨by dsimp only;omega,.inl rfl⟩
    ·split at hr
     ·rename_i hb;simp only[ag] at hb;have c1:=hc 1 (by simpa using hb.1.1.2)
      have c2:=hc 2 (by simpa using hb.1.2)
      have c3:=hc 3 (by simpa using hb.2)
      split at hr
      ·rename_i hv;simp only[ag,decide_eq_true_eq] at hv;subst hr;exact⟨by dsimp only;omega,.inr (.inr (.inr ⟨rfl,c1,c2,c3⟩))⟩
      ·subst hr;exact⟨by dsimp only;omega,.inl rfl⟩
     ·subst hr;exact⟨by dsimp only;omega,.inl rfl⟩
 have K:=key _ rfl;refine⟨?_,?_,?_,?_,?_⟩
 ·rcases K with ⟨_,e⟩ | ⟨_,_,e | ⟨e,_⟩ | ⟨e,_⟩ | ⟨e,_⟩⟩
  ·rw[e];omega
  all_goals (rw[e];omega)
 ·rcases K with ⟨_,e⟩ | ⟨_,_,e | ⟨e,c1⟩ | ⟨e,c1,c2⟩ | ⟨e,c1,c2,c3⟩⟩
  ·rw[e];dsimp only;omega
  all_goals (rw[e];omega)
 ·intro hl;rcases K with ⟨_,e⟩ | ⟨hh,_⟩
  ·exact e
  ·exact absurd hl hh
 ·intro hl;rcases K with ⟨hh,_⟩ | ⟨_,h2,_⟩
  ·exact absurd hh hl
  ·exact h2
 ·intro j j1 j2;rcases K with ⟨_,e⟩ | ⟨_,_,e | ⟨e,c1⟩ | ⟨e,c1,c2⟩ | ⟨e,c1,c2,c3⟩⟩
  ·rw[e] at j2;dsimp only at j2;omega
  ·rw[e] at j2;omega
  ·rw[e] at j2;obtain rfl:j=1:=by omega
   exact c1.2
  ·rw[e] at j2;rcases(show j=1\/j=2 by omega) with rfl | rfl
   ·exact c1.2
   ·exact c2.2
  ·rw[e] at j2;rcases(show j=1\/j=2\/j=3 by omega) with rfl | rfl | rfl
   ·exact c1.2
   ·exact c2.2
   ·exact c3.2
theorem aEj{s:ByteArray}{f p:Nat}(h1:f<=p)(h2:p<=s.size):aAF s (f:Int) (p:Int)=some (s.extract f p):=by
 unfold aAF;rw[dt (show(0:Int)<=(f:Int) by omega),dt (show(f:Int)<=(p:Int) by omega),dt (show(p:Int)<=(s.size:Int) by omega)]
 rfl
theorem fZ(s:ByteArray):s.data.toList.length=s.size:=by simp
theorem sN{a b:ByteArray}(h:a.data.toList=b.data.toList):a=b:=by
 cases a;cases b;congr 1;exact Array.toList_inj.1 h
def dg(d:Int):Int:=if d < 10 then 48+d else 87+d
def dig(c:Int):Int:=if 48<=c/\c<=57 then c - 48 else if 97<=c/\c<=102 then c - 87 else -1
theorem wL(c:Int):dig c < 16:=by
 unfold dig;split
 ·omega
 ·split <;> omega
theorem aCj{d:Int}(h:0<=d/\d < 16):dig (dg d)=d:=by unfold dg dig;split <;> (repeat' split) <;> omega
theorem aCb{c:Int}(h:0<=dig c):dg (dig c)=c:=by
 unfold dig at h ⊢;split
 ·unfold dg;split <;> omega
 ·rename_i h1;rw[if_neg h1] at h;split
  ·unfold dg;split <;> omega
  ·rename_i h2;rw[if_neg h2] at h;omega
theorem dg_B{d:Int}(h:0<=d/\d < 16):isB (dg d):=by unfold dg isB;split <;> omega
def kD(b:List Int):List Int:=b.flatMap λx=>[dg (x / 16),dg (x % 16)]
theorem nG : ∀b:List Int,(kD b).length=2*b.length
 | []=>rfl
 | x :: b=>by
  have:=nG b;unfold kD at this ⊢;rw[bg,am,this]
  simp;omega
theorem aEh : ∀x:Fin 256,idx aAx.data.toList (shr .u8 (x.val:Int) 4)=some (UInt8.ofNat (dg ((x.val:Int) / 16)).toNat)/\idx aAx.data.toList (aDu .u8 (x.val:Int) 15)=some (UInt8.ofNat (dg ((x.val:Int) % 16)).toNat):=by decide +kernel
theorem toB{x:Int}(h:isB x):((UInt8.ofNat x.toNat).toNat:Int)=x:=by
 obtain⟨h0,h1⟩:=h;rw[UInt8.toNat_ofNat']
 omega
theorem hexL(N:Nat)(b:List Int)(hb:fF b)(hl:b.length<=1000):∀(k i:Nat) (z:List Int),i<=b.length->b.length - i < k->z=kD (b.take i)->eZ N b k z (i:Int)=some (kD b)
 | 0,_,_,_,h,_=>by omega
 | k+1,i,z,hi,hk,hz=>by
  rw[eZ,aM]
  by_cases h:i < b.length
  ·have hx:=hb _ (bz h)
   obtain⟨X,hX⟩:=cl hx.1;have hX2:X < 256:=by have:=hx.2;omega
   obtain⟨e1,e2⟩:=aEh ⟨X,hX2⟩
   dsimp only at e1 e2;have hzl:z.length=2*i:=by rw[hz,nG,List.length_take];omega
   rw[dt (show(i:Int) < (b.length:Int) by omega),cond_true,mJ h,aa,hX,e1,aa,e2,aa,toB (dg_B (by omega)),toB (dg_B (by omega)),iU (by simp;omega),aa,mQ (by omega)]
   refine hexL N b hb hl k (i+1) _ (by omega) (by omega) ?_;rw[List.take_succ_eq_append_getElem h,hz,hX]
   unfold kD;rw[dh]
   simp
  ·rw[df (show ¬(i:Int) < (b.length:Int) by omega),cond_false,hz,List.take_of_length_le (by omega)]
def iO(b:List Int):ByteArray:=match b with | []=>⟨#[45]⟩ | _=>mA (kD b)
theorem hexP(N:Nat)(hN:2000 < N)(b:List Int)(hb:fF b)(hl:b.length<=1000):jO N b=some (iO b):=by
 unfold jO;cases b with
 | nil=>rfl
 | cons x b=>
  rw[aM,show(((x :: b).length:Int)==0)=false by simp;omega,cond_false]
  have h:=hexL N (x :: b) hb (by omega) N 0 [] (by omega) (by omega) rfl;have h:eZ N (x :: b) N [] 0=_:=h;rw[h]
  rfl
theorem aCp(N:Nat)(c:Int)(h0:0<=c)(h1:c < 1114112):fJ N c=some (dig c):=by
 unfold fJ dig;rw[aM]
 by_cases h:48<=c/\c<=57
 ·rw[dt (show c>=48 by omega),dt (show c<=57 by omega),cond_true,cond_true,if_pos h]
  have:I32 (c - 48)=c - 48:=by show IntKind.i32.wrap _=_;rw[IntKind.wrap_i32];omega
  rw[this,iG (by omega) (by omega)]
 ·have e1:(cond (decide (c>=48)) (decide (c<=57)) false)=false:=by
   by_cases h2:c>=48
   ·rw[dt h2,cond_true,df (by omega)]
   ·rw[df h2,cond_false]
  rw[e1,cond_false,if_neg h,aM]
  by_cases h3:97<=c/\c<=102
  ·rw[dt (show c>=97 by omega),dt (show c<=102 by omega),cond_true,cond_true,if_pos h3]
   have:I32 (c - 97)=c - 97:=by show IntKind.i32.wrap _=_;rw[IntKind.wrap_i32];omega
   rw[this,iG (x:=c - 97) (by omega) (by omega),aM,iG (by omega) (by omega)]
   congr 1;omega
  ·have e2:(cond (decide (c>=97)) (decide (c<=102)) false)=false:=by
    by_cases h2:c>=97
    ·rw[dt h2,cond_true,df (by omega)]
    ·rw[df h2,cond_false]
   rw[e2,cond_false,if_neg h3]
theorem bor16 : ∀h d:Fin 16,U8 (bor .i64 (shl .i64 (h.val:Int) 4) (d.val:Int))=16*(h.val:Int)+(d.val:Int):=by decide +kernel
theorem aFq{h d:Int}(h0:0<=h/\h < 16)(d0:0<=d/\d < 16):U8 (bor .i64 (shl .i64 h 4) d)=16*h+d:=by
 obtain⟨H,rfl⟩:=cl h0.1;obtain⟨D,rfl⟩:=cl d0.1;exact bor16 ⟨H,by omega⟩ ⟨D,by omega⟩
def iX : List Int->Option (List Int)
 | c :: d :: r=>cond (decide (dig c < 0)||decide (dig d < 0)) none ((iX r).map λl=>(16*dig c+dig d) :: l)
 | _=>some []
def cAt(s:ByteArray)(p:Nat):Int:=((eM s p).toNat:Int)
theorem aED(s:ByteArray)(p:Nat):iS s p < 1114112:=by
 unfold iS Utf8.decode;have e:Utf8.runeError=65533:=rfl;have hb:∀j,(s.get! (p+j)).toNat < 256:=λj=>UInt8.toNat_lt _;have h0:=hb 0;have h1:=hb 1;have h2:=hb 2;have h3:=hb 3;dsimp only
 repeat' split
 all_goals (try simp only[ag,Utf8.valid,fa,decide_eq_true_eq,beq_iff_eq] at *)
 all_goals (try dsimp only)
 all_goals omega
theorem aBN(N:Nat)(s:ByteArray)(p:Nat)(h:p < s.size):fJ N (iS s p)=some (dig (cAt s p))/\(0<=dig (cAt s p)->fU s p=p+1):=by
 have R:=aF1 s p h;have ht:=aED s p;have h0:0<=iS s p:=by unfold iS;omega
 by_cases hl:eM s p < 128
 ·have hd:=R.low hl;have e:iS s p=cAt s p:=by unfold iS cAt;rw[hd]
  have en:fU s p=p+1:=by unfold fU;rw[hd]
  refine⟨?_,λ_=>en⟩
  rw[aCp N _ h0 ht,e]
 ·have hh:=R.high hl;have hc:128<=cAt s p:=by
   have:¬(eM s p).toNat < 128:=hl;unfold cAt;omega
  have e1:dig (cAt s p) = -1:=by unfold dig;rw[if_neg (by omega),if_neg (by omega)]
  have e2:dig (iS s p) = -1:=by
   have:128<=iS s p:=by unfold iS;omega
   unfold dig;rw[if_neg (by omega),if_neg (by omega)]
  refine⟨?_,λhx=>by omega⟩
  rw[aCp N _ h0 ht,e1,e2]
theorem vI(s:ByteArray)(p:Nat)(h:p < s.size):(fL s).drop p=cAt s p :: (fL s).drop (p+1):=by
 have hl:(fL s).length=s.size:=by unfold fL;rw[bx,fZ]
 rw[bj (by omega)]
 congr 1;unfold fL cAt eM;rw[List.getElem_map,af (by rw[fZ];exact h)]
 rfl
theorem aFK(N:Nat)(s:ByteArray)(hs:s.size<=2000):∀(m p k:Nat) (O:List Int) (hg:Int),p % 2=0->p+2*m=s.size->2*m < k->O.length<=p -> 
  cV N s k O p hg=some (match iX ((fL s).drop p) with | some r=>Sum.inl (O++r,s.size) | none=>Sum.inr (([],5):List Int×Int))
 | 0,p,0,_,_,_,_,h,_=>by omega
 | 0,p,k+1,O,hg,hp,hm,hk,hO=>by
  have e:p=s.size:=by omega
  subst e;have hd:(fL s).drop s.size=[]:=List.drop_of_length_le (by unfold fL;rw[bx,fZ];omega)
  rw[cV,df (by omega),cond_false,hd]
  simp[iX]
 | m+1,p,0,_,_,_,_,h,_=>by omega
 | m+1,p,1,_,_,_,_,h,_=>by omega
 | m+1,p,k+2,O,hg,hp,hm,hk,hO=>by
  have h1:p < s.size:=by omega
  have h2:p+1 < s.size:=by omega
  obtain⟨d1,n1⟩:=aBN N s p h1;obtain⟨d2,n2⟩:=aBN N s (p+1) h2;have l1:=wL (cAt s p)
  have l2:=wL (cAt s (p+1))
  rw[vI s p h1,vI s (p+1) h2,iX]
  rw[cV,dt h1,cond_true,d1,aa]
  by_cases c1:dig (cAt s p) < 0
  ·rw[dt c1,cond_true,gx,cond_true]
  ·have t1:fg (p:Int) 2=0:=by rw[cq (by omega)];omega
   have t2:fg ((p+1:Nat):Int) 2=1:=by rw[cq (by omega)];omega
   rw[df c1,cond_false,aM,t1,show((0:Int)==0)=true from rfl,cond_true,n1 (by omega),cV,dt h2,cond_true,d2,aa]
   by_cases c2:dig (cAt s (p+1)) < 0
   ·rw[dt c2,cond_true,gy,cond_true]
   ·rw[df c2,cond_false,aM,t2,show((1:Int)==0)=false from rfl,cond_false,aM,aFq (by omega) (by omega),iU (by simp;omega),aa,n2 (by omega),fh,cond_false]
    rw[aFK N s hs m (p+1+1) k _ _ (by omega) (by omega) (by omega) (by simp;omega)]
    cases iX (List.drop (p+1+1) (fL s)) with
    | none=>rfl
    | some r=>simp
def pI(s:ByteArray):List Int×Int:=if s=⟨#[45]⟩ then([],0) else if s.size=0\/s.size % 2=1 then([],5) else match iX (fL s) with | some r=>(r,0) | none=>([],5)
theorem xY(a b:ByteArray):(ByteArray.toList a==ByteArray.toList b)=decide (a=b):=by
 rw[ByteArray.toList_eq,ByteArray.toList_eq,Bool.eq_iff_iff,beq_iff_eq,decide_eq_true_eq]
 exact⟨λh=>sN h,λh=>by rw[h]⟩
theorem aEA(N:Nat)(hN:2000 < N)(s:ByteArray)(hs:s.size<=1600):eD N s=some (pI s):=by
 unfold eD pI;rw[aM,xY]
 by_cases h:s=⟨#[45]⟩
 ·rw[dt h,cond_true,if_pos h]
 ·rw[df h,cond_false,if_neg h,aM,aM]
  have t:fg (s.size:Int) 2=((s.size % 2:Nat):Int):=by rw[cq (by omega)];omega
  rw[t]
  by_cases h1:s.size=0\/s.size % 2=1
  ·rw[if_pos h1,aM]
   have:(cond ((s.size:Int)==0) true (((s.size % 2:Nat):Int)==1))=true:=by
    rcases h1 with h1 | h1
    ·rw[h1];rfl
    ·rw[h1];cases ((s.size:Int)==0) <;> rfl
   rw[this,cond_true]
  ·rw[if_neg h1,aM]
   have:(cond ((s.size:Int)==0) true (((s.size % 2:Nat):Int)==1))=false:=by
    rw[show((s.size:Int)==0)=false from beq_eq_false_iff_ne.2 (λe=>h1 (.inl (by omega))),cond_false]
    exact beq_eq_false_iff_ne.2 (λe=>h1 (.inr (by omega)))
   rw[this,cond_false,aM]
   have hm:mkO 1 (I64 (gk (s.size:Int) 2))=some ():=by
    have e:gk (s.size:Int) 2=((s.size / 2:Nat):Int):=by rw[el (by omega)];omega
    rw[e,iG (by omega) (by omega)]
    unfold mkO;rw[dt (show(0:Int)<=((s.size / 2:Nat):Int) by omega),dt (show((s.size / 2:Nat):Int)<=140737488355328 by omega),dt (show((s.size / 2:Nat):Int)*((1:Nat):Int)<=140737488355328 by omega)]
    rfl
   have hev:s.size % 2=0:=by
    have:¬s.size % 2=1:=λe=>h1 (.inr e)
    omega
   have hr:=aFK N s (by omega) (s.size / 2) 0 N [] 0 rfl (by omega) (by omega) (be _)
   rw[cm] at hr;rw[hm,aa,hr,aa]
   cases iX (fL s) with
   | none=>rfl
   | some r=>simp[lM]
theorem aAR{l:List Int}(h:fF l):fL (mA l)=l:=by
 unfold fL mA;rw[fy,hA]
 have:∀x∈l,((λb:UInt8=>(b.toNat:Int)) ∘ λx:Int=>UInt8.ofNat x.toNat) x=x:=λx hx=>toB (h x hx)
 rw[fz this]
 simp
theorem qQ(l:List Int):(mA l).size=l.length:=by unfold mA;rw[<- fZ];simp
theorem aGd{b:List Int}(hb:fF b):fF (kD b):=by
 intro x hx;unfold kD at hx;obtain⟨y,hy,hx⟩:=List.mem_flatMap.1 hx;have h:=hb y hy;unfold isB at h;simp only[au,List.mem_nil_iff,or_false] at hx;rcases hx with rfl | rfl
 ·exact dg_B (by omega)
 ·exact dg_B (by omega)
theorem vO : ∀b:List Int,fF b->iX (kD b)=some b
 | [],_=>rfl
 | x :: b,h=>by
  have hx:=h x (by simp)
  unfold isB at hx;have ih:=vO b (λy hy=>h y (by simp[hy]))
  have e:kD (x :: b)=dg (x / 16) :: dg (x % 16) :: kD b:=by unfold kD;rw[bg];rfl
  rw[e,iX,aCj (by omega),aCj (by omega),df (by omega),df (by omega),fh,cond_false,ih]
  simp;omega
theorem vB : ∀(n:Nat) (l r:List Int),l.length=2*n->iX l=some r->kD r=l/\fF r/\r.length=n
 | 0,[],r,_,h=>by simp[iX] at h;subst h;exact⟨rfl,λx hx=>(by cases hx),rfl⟩
 | 0,_ :: _,_,hl,_=>by simp at hl
 | n+1,[],_,hl,_=>by simp at hl
 | n+1,[_],_,hl,_=>by simp at hl;omega
 | n+1,c :: d :: l,r,hl,h=>by
  rw[iX] at h;have l1:=wL c;have l2:=wL d;by_cases c1:dig c < 0
  ·rw[dt c1,gx,cond_true] at h;cases h
  ·by_cases c2:dig d < 0
   ·rw[dt c2,gy,cond_true] at h;cases h
   ·rw[df c1,df c2,fh,cond_false] at h;cases hr:iX l with
    | none=>rw[hr] at h;cases h
    | some r'=>
     rw[hr] at h;simp only[Option.map_some,Option.some.injEq] at h;subst h;obtain⟨i1,i2,i3⟩:=vB n l r' (by simp at hl;omega) hr;have e:kD ((16*dig c+dig d) :: r')=dg ((16*dig c+dig d) / 16) :: dg ((16*dig c+dig d) % 16) :: kD r':=by unfold kD;rw[bg];rfl
     refine⟨?_,?_,by simp[i3]⟩
     ·rw[e,show(16*dig c+dig d) / 16=dig c by omega,show(16*dig c+dig d) % 16=dig d by omega,aCb (by omega),aCb (by omega),i1]
     ·intro x hx;rcases au.1 hx with rfl | hx
      ·unfold isB;omega
      ·exact i2 x hx
theorem aDy{b:List Int}(hb:fF b):pI (iO b)=(b,0):=by
 cases b with
 | nil=>unfold iO pI;rw[if_pos rfl]
 | cons x b=>
  have hsz:(mA (kD (x :: b))).size=2*(x :: b).length:=by rw[qQ,nG]
  show pI (mA (kD (x :: b)))=_;unfold pI;rw[if_neg (by intro e;rw[e] at hsz;simp at hsz;have:(⟨#[45]⟩:ByteArray).size=1:=rfl;omega),if_neg (by rw[hsz];simp only[aj];omega),aAR (aGd hb),vO _ hb]
theorem aC0{s:ByteArray}{r:List Int}(h:pI s=(r,0)):iO r=s/\fF r/\r.length<=s.size:=by
 unfold pI at h;split at h
 ·rename_i e;cases h;exact⟨e.symm,λx hx=>(by cases hx),by simp⟩
 ·split at h
  ·cases h
  ·rename_i h1 h2;cases hv:iX (fL s) with
   | none=>rw[hv] at h;cases h
   | some r'=>
    rw[hv] at h;cases h;have hl:(fL s).length=s.size:=by unfold fL;rw[bx,fZ]
    obtain⟨i1,i2,i3⟩:=vB (s.size / 2) (fL s) r (by omega) hv;refine⟨?_,i2,by omega⟩
    have hne:r≠[]:=by intro e;rw[e] at i3;simp at i3;omega
    have:iO r=mA (kD r):=by cases r with | nil=>exact absurd rfl hne | cons _ _=>rfl
    rw[this,i1]
    apply sN;unfold mA fL;rw[fy,hA]
    have:∀x∈s.data.toList,((λx:Int=>UInt8.ofNat x.toNat) ∘ λb:UInt8=>(b.toNat:Int)) x=x:=λx _=>by simp
    rw[fz this]
    simp
theorem aGn(N:Nat)(b:List Int):fK N b b=some true:=by
 unfold fK;rw[aM,xY,dt rfl]
end Go.UK
