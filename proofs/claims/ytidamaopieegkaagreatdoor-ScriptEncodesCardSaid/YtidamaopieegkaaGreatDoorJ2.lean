/- A part of the proof: what the functions of the program compute. -/
import Derived.Test.YtidamaopieegkaaGreatDoorJ1
import Derived.Test.YtidamaopieegkaaGreatDoorAJ2
open Int renaming emod_eq_of_lt→cn,emod_lt_of_pos→fp,tdiv_eq_ediv_of_nonneg→dq
open List renaming all_cons→gm,any_cons→gk,append_assoc→bd,drop_eq_getElem_cons→bt,drop_eq_nil_of_le→cp,drop_zero→cm,flatMap→er,flatMap_cons→bv,flatMap_map→fx,getElem_mem→bk,length_append→ax,length_cons→ap,length_nil→ar,mem_cons→bz,mem_map→bp,mem_singleton→au,nil_append→d6,not_mem_nil→bu,range→c9
open Option renaming bind→aa,bind_some→ae
namespace Go.UK
open Go Go.Proofs
set_option maxRecDepth 20000
set_option maxHeartbeats 16000000
set_option linter.all false
theorem U8_e(x:Int):U8 x=x % 256:=IntKind.wrap_u8 x
def isW(x:Int):Prop:=0<=x/\x < 4294967296
def isB(x:Int):Prop:=0<=x/\x < 256
theorem isB.w{x:Int}(h:isB x):isW x:=⟨h.1,by have:=h.2;omega⟩
def xP(m:List Int):Prop:=∀x∈m,isB x
theorem xP.getD{m:List Int}(h:xP m)(i:Nat):isB (m.getD i 0):=by
 rw[List.getD_eq_getElem?_getD]
 by_cases hi:i < m.length
 ·rw[List.getElem?_eq_getElem hi];exact h _ (bk hi)
 ·rw[List.getElem?_eq_none (by omega)];exact⟨by simp,by simp⟩
theorem xP.drop{m:List Int}(h:xP m)(n:Nat):xP (m.drop n):=λx hx=>h x (List.mem_of_mem_drop hx)
def leB(w:Nat)(x:Int):List Int:=(c9 w).map (λi=>U8 (shr .u64 x ((8*i:Nat):Int)))
theorem lH(w:Nat)(x:Int):(leB w x).length=w:=by unfold leB;simp
def cB(w:Nat):Int:=256 ^ w
theorem aG7(w:Nat):(2:Int) ^ (8*w)=cB w:=by unfold cB;rw[Int.pow_mul];rfl
theorem shr8(x:Int)(i:Nat)(h:i<=8):shr .u64 x ((8*i:Nat):Int)=x / cB i:=by
 rw[aEL .u64 x _ (8*i) rfl (by show 8*i<=64;omega),aG7]
theorem nW(w:Nat):0 < cB w:=Int.pow_pos (by decide)
theorem aFC(w:Nat):cB (w+1)=cB w*256:=Int.pow_succ _ _
theorem div_s{x:Int}(i:Nat):x / cB (i+1)=x / cB i / 256:=by
 rw[aFC,Int.ediv_ediv_of_nonneg (Int.le_of_lt (nW i))]
theorem uK{α β ρ:Type}(l:List α)(hl:l.length < 9223372036854775807)(bad:α->Bool)(f:α->List β)(r:ρ)(I:List β->Nat->Prop)(F:Nat->List β->Int->Option (Sum (List β) ρ))
  (hI:∀s i (h:i < l.length),I s i->I (s++f l[i]) (i+1)) (h1:∀k s i (h:i < l.length),I s i->F (k+1) s (i:Int)=cond (bad l[i]) (some (.inr r)) (F k (s++f l[i]) (I64 ((i:Int)+1)))) (h2:∀k s,F (k+1) s (l.length:Int)=some (.inl s)) :
  ∀(k i:Nat) (s:List β),I s i->i<=l.length->l.length - i < k->F k s (i:Int)=some (cond ((l.drop i).any bad) (.inr r) (.inl (s++(l.drop i).flatMap f)))
 | 0,i,_,_,_,h=>by omega
 | k+1,i,s,hs,hi,hk=>by
  by_cases h:i < l.length
  ·rw[h1 k s i h hs,bt h,gk]
   cases hb:bad l[i] with
   | true=>rfl
   | false=>
    rw[cond_false,sX (by omega),uK l hl bad f r I F hI h1 h2 k (i+1) _ (hI s i h hs) (by omega) (by omega),Bool.false_or,bv,bd]
  ·obtain rfl:i=l.length:=by omega
   rw[h2,List.drop_length];simp
def big(w:Nat)(x:Int):Bool:=decide (cB w<=x)
def tZ(b:List Int)(w:Nat)(ns:List Int):List Int×Int:=cond (ns.any (big w)) ([],3) (b++ns.flatMap (leB w),0)
def aEu(ns:List Int):Prop:=∀x∈ns,0<=x/\x < 18446744073709551616
theorem putL2(N w:Nat)(hw:w<=8)(x:Int)(s:List Int)(hs:s.length<=100000000000000)(hN:8 < N):fY N (w:Int) x N s 0=some (s++leB w x):=by
 have:=aD0 w (by omega) (λi=>[U8 (shr .u64 x ((8*i:Nat):Int))]) (λs i=>s.length<=100000000000000+i) (fY N (w:Int) x) (by intro s i hi hs;simp;omega) (λk s i hi hs=>by
  have f:I64 (8*(i:Int))=((8*i:Nat):Int):=by rw[oI (by omega) (by omega)];omega
  rw[fY,dt (by omega),cond_true,f,xI .u64 (by omega),ae,pX (by simp;omega),ae]) (λk s=>by rw[fY,df (by omega),cond_false]) (N:=N) (by omega) (s:=s) (by simpa using hs)
 rw[this,zH]
 rfl
theorem aHP(N:Nat)(l:List Int)(h:l.length<=100000000000000):cQ N l=some l:=by
 unfold cQ;rw[pX (by simp;omega),ae,d6]
theorem big8{x:Int}(h:x < 18446744073709551616):big 8 x=false:=by
 unfold big;rw[show cB 8=18446744073709551616 from rfl]
 exact df (by omega)
theorem putP(N:Nat)(b:List Int)(w:Nat)(hw0:1<=w)(hw:w<=8)(ns:List Int)(hns:aEu ns)(hb:b.length<=10000000000000)(hl:ns.length<=1000000000000)(hN:8 < N)(hlN:ns.length < N):eG N b (w:Int) ns=some (tZ b w ns):=by
 unfold eG;rw[df (show ¬(w:Int) < 1 by omega),df (show ¬(w:Int) > 8 by omega),cond_false,bL,cond_false,aHP N b (by omega),ae]
 have:=uK ns (by omega) (big w) (leB w) (([],3):List Int×Int) (λs i=>s.length<=10000000000000+8*i) (λk s i=>iU N ns (w:Int) k s i) (by intro s i h hs;simp[lH];omega) (λk s i h hs=>by
  have hx:=hns _ (bk h)
  have f:I64 (8*(w:Int))=((8*w:Nat):Int):=by rw[oI (by omega) (by omega)];omega
  rw[iU,bL,dt (by omega),cond_true,pG h,ae]
  have e:(cond (decide ((w:Int) < 8)) (aa (yC .u64 ns[i] (I64 (8*(w:Int)))) λx9=>some (decide (x9 > 0))) (some false))=some (big w ns[i]):=by
   by_cases h8:w < 8
   ·rw[dt (by omega),cond_true,f,xI .u64 (by omega),ae,shr8 _ _ (by omega)]
    congr 1;unfold big;have hp:=nW w;by_cases hb:cB w<=ns[i]
    ·have:1<=ns[i] / cB w:=(Int.le_ediv_iff_mul_le hp).2 (by omega)
     rw[dt hb,dt (by omega)]
    ·have:ns[i] / cB w < 1:=Int.ediv_lt_of_lt_mul hp (by omega)
     rw[df hb,df (by omega)]
   ·obtain rfl:w=8:=by omega
    rw[df (by omega),cond_false,big8 hx.2]
  rw[e,ae]
  cases hbg:big w ns[i] with
  | true=>rfl
  | false=>rw[cond_false,cond_false,putL2 N w hw _ _ (by omega) hN,ae]) (λk s=>by rw[iU,bL,df (by omega),cond_false]) N 0 b (by omega) (by omega) (by omega)
 rw[show((0:Nat):Int)=0 from rfl,cm] at this;rw[this,ae]
 unfold tZ;cases ns.any (big w) <;> rfl
def tS(w:Nat)(x:Int):Bool:=decide (x < -(cB w / 2))||decide (cB w / 2<=x)
def aGo(ns:List Int):Prop:=∀x∈ns,fX x
def aAl(b:List Int)(w:Nat)(ns:List Int):List Int×Int:=cond (ns.any (tS w)) ([],3) (tZ b w (ns.map (λx=>x % cB w)))
theorem w8{w:Nat}(h0:1<=w)(h:w<=8):w=1\/w=2\/w=3\/w=4\/w=5\/w=6\/w=7\/w=8:=by omega
theorem shlI(x:Int)(m:Nat)(h:m<=64):shl .i64 x (m:Int)=I64 (x*(2:Int) ^ m):=by
 unfold shl;rw[show min (m:Int).toNat IntKind.i64.bits=m by simp[IntKind.bits];omega]
theorem sgnA{w:Nat}(h0:1<=w)(h:w<=8){x:Int}(hx:fX x):(shr .i64 (shl .i64 x ((64 - 8*w:Nat):Int)) ((64 - 8*w:Nat):Int) != x)=tS w x:=by
 obtain⟨x0,x1⟩:=hx;rw[aEL .i64 _ _ (64 - 8*w) rfl (by show 64 - 8*w<=64;omega),shlI _ _ (by omega),aGr]
 have key:∀b:Bool,(b=true↔((x*(2:Int) ^ (64 - 8*w)+9223372036854775808) % 18446744073709551616 - 9223372036854775808) / (2:Int) ^ (64 - 8*w)≠x)->(((x*(2:Int) ^ (64 - 8*w)+9223372036854775808) % 18446744073709551616 - 9223372036854775808) / (2:Int) ^ (64 - 8*w) != x)=b:=by
  intro b hb;cases b with
  | true=>simpa using hb
  | false=>simpa using hb
 apply key;unfold tS;rw[Bool.or_eq_true,decide_eq_true_eq,decide_eq_true_eq]
 rcases w8 h0 h with rfl | rfl | rfl | rfl | rfl | rfl | rfl | rfl
 ·rw[show(2:Int) ^ (64 - 8*1)=72057594037927936 from rfl,show cB 1 / 2=128 from rfl];omega
 ·rw[show(2:Int) ^ (64 - 8*2)=281474976710656 from rfl,show cB 2 / 2=32768 from rfl];omega
 ·rw[show(2:Int) ^ (64 - 8*3)=1099511627776 from rfl,show cB 3 / 2=8388608 from rfl];omega
 ·rw[show(2:Int) ^ (64 - 8*4)=4294967296 from rfl,show cB 4 / 2=2147483648 from rfl];omega
 ·rw[show(2:Int) ^ (64 - 8*5)=16777216 from rfl,show cB 5 / 2=549755813888 from rfl];omega
 ·rw[show(2:Int) ^ (64 - 8*6)=65536 from rfl,show cB 6 / 2=140737488355328 from rfl];omega
 ·rw[show(2:Int) ^ (64 - 8*7)=256 from rfl,show cB 7 / 2=36028797018963968 from rfl];omega
 ·rw[show(2:Int) ^ (64 - 8*8)=1 from rfl,show cB 8 / 2=9223372036854775808 from rfl];omega
theorem sgnB{w:Nat}(h0:1<=w)(h:w<=8){x:Int}(hx:fX x):shr .u64 (shl .u64 (U64 x) ((64 - 8*w:Nat):Int)) ((64 - 8*w:Nat):Int)=x % cB w:=by
 obtain⟨x0,x1⟩:=hx;rw[aEL .u64 _ _ (64 - 8*w) rfl (by show 64 - 8*w<=64;omega),shl_e _ _ (64 - 8*w) rfl (by omega),aCp]
 rcases w8 h0 h with rfl | rfl | rfl | rfl | rfl | rfl | rfl | rfl
 ·rw[show(2:Int) ^ (64 - 8*1)=72057594037927936 from rfl,show cB 1=256 from rfl];omega
 ·rw[show(2:Int) ^ (64 - 8*2)=281474976710656 from rfl,show cB 2=65536 from rfl];omega
 ·rw[show(2:Int) ^ (64 - 8*3)=1099511627776 from rfl,show cB 3=16777216 from rfl];omega
 ·rw[show(2:Int) ^ (64 - 8*4)=4294967296 from rfl,show cB 4=4294967296 from rfl];omega
 ·rw[show(2:Int) ^ (64 - 8*5)=16777216 from rfl,show cB 5=1099511627776 from rfl];omega
 ·rw[show(2:Int) ^ (64 - 8*6)=65536 from rfl,show cB 6=281474976710656 from rfl];omega
 ·rw[show(2:Int) ^ (64 - 8*7)=256 from rfl,show cB 7=72057594037927936 from rfl];omega
 ·rw[show(2:Int) ^ (64 - 8*8)=1 from rfl,show cB 8=18446744073709551616 from rfl];omega
theorem modU(w:Nat)(h:w<=8)(x:Int):0<=x % cB w/\x % cB w < 18446744073709551616:=by
 have hp:=nW w;have h1:=Int.emod_nonneg x (Int.ne_of_gt hp)
 have h2:=fp x hp;have h3:cB w<=18446744073709551616:=by
  have:∀i:Fin 9,cB i.val<=18446744073709551616:=by decide
  exact this ⟨w,by omega⟩
 omega
theorem sgnP(N:Nat)(b:List Int)(w:Nat)(hw0:1<=w)(hw:w<=8)(ns:List Int)(hns:aGo ns)(hb:b.length<=10000000000000)(hl:ns.length<=1000000000000)(hN:8 < N)(hlN:ns.length < N):cN N b (w:Int) ns=some (aAl b w ns):=by
 unfold cN;rw[df (show ¬(w:Int) < 1 by omega),df (show ¬(w:Int) > 8 by omega),cond_false,bL,cond_false]
 have:=uK ns (by omega) (tS w) (λx=>[x % cB w]) (([],3):List Int×Int) (λs i=>s.length=i) (λk s i=>fE N ns (w:Int) k s i) (by intro s i h hs;simp;omega) (λk s i h hs=>by
  have hx:=hns _ (bk h)
  have f:I64 (64 - I64 (8*(w:Int)))=((64 - 8*w:Nat):Int):=by rw[oI (x:=8*(w:Int)) (by omega) (by omega),oI (by omega) (by omega)];omega
  rw[fE,bL,dt (by omega),cond_true,pG h,ae,f,bL,aCs .i64 (by omega),ae,bL,xI .i64 (by omega),ae,sgnA hw0 hw hx]
  cases hbg:tS w ns[i] with
  | true=>rfl
  | false=>
   rw[cond_false,cond_false,bL,aCs .u64 (by omega),ae,bL,xI .u64 (by omega),ae,sgnB hw0 hw hx,pX (by simp;omega),ae]) (λk s=>by rw[fE,bL,df (by omega),cond_false]) N 0 [] rfl (by omega) (by omega)
 rw[show((0:Nat):Int)=0 from rfl,cm,d6] at this;rw[this,ae]
 unfold aAl;cases ns.any (tS w) with
 | true=>rfl
 | false=>
  rw[cond_false,cond_false]
  show aa (eG N b (w:Int) (ns.flatMap λx=>[x % cB w])) _=_;rw[show(ns.flatMap λx=>[x % cB w])=ns.map (λx=>x % cB w) by
   clear this hns hl hlN
   induction ns with
   | nil=>rfl
   | cons a l ih=>simp[bv,ih]]
  rw[putP N b w hw0 hw _ (by intro y hy;obtain⟨x,_,rfl⟩:=bp.1 hy;exact modU w hw x) hb (by simpa using hl) hN (by simpa using hlN),ae]
theorem tsm3{n:Nat}(B:Nat->Int){t:Nat}(h:t < n):((c9 n).map B).take (t+1)=((c9 n).map B).take t++[B t]:=by
 rw[List.take_succ,List.getElem?_map,List.getElem?_range h]
 rfl
theorem aG1(N w:Nat)(hw:w<=8):∀(k i:Nat),i<=w->w - i < k->fB N (w:Int) k (cB i - 1) (i:Int)=some (cB w - 1)
 | 0,_,_,h=>by omega
 | k+1,i,hi,hk=>by
  rw[fB]
  by_cases h:i < w
  ·have hb:cB i<=72057594037927936:=by
    have:∀i:Fin 8,cB i.val<=72057594037927936:=by decide
    exact this ⟨i,by omega⟩
   have hp:=nW i;have e:U64 (U64 ((cB i - 1)*256)+255)=cB (i+1) - 1:=by rw[aFC,qF (x:=(cB i - 1)*256) (by omega) (by omega),qF (by omega) (by omega)];omega
   rw[dt (by omega),cond_true,bL,e,sX (by omega)]
   exact aG1 N w hw k (i+1) (by omega) (by omega)
  ·obtain rfl:i=w:=by omega
   rw[df (by omega),cond_false]
theorem aEQ(N:Nat)(hN:8 < N)(w:Nat)(hw:w<=8):dC N (w:Int)=some (cB w - 1):=by
 unfold dC;have:=aG1 N w hw N 0 (by omega) (by omega)
 rw[show cB 0 - 1=0 from rfl,show((0:Nat):Int)=0 from rfl] at this;rw[this,ae]
theorem aEy(N w:Nat)(hw:w<=8)(x:Int)(hx:0<=x/\x < 18446744073709551616)(s:List Int)(hs:s.length<=100000000000000):∀(k i:Nat),i<=w->w - i < k->fJ N (w:Int) k (s++(leB w x).take i) (x / cB i) (i:Int)=some (s++leB w x)
 | 0,_,_,h=>by omega
 | k+1,i,hi,hk=>by
  rw[fJ]
  by_cases h:i < w
  ·have hp:=nW i;have h0:0<=x / cB i:=Int.ediv_nonneg hx.1 (by omega)
   have h1:x / cB i<=x:=Int.ediv_le_self _ hx.1;have e1:U8 (Int.tmod (x / cB i) 256)=U8 (shr .u64 x ((8*i:Nat):Int)):=by
    rw[shr8 _ _ (by omega),Int.tmod_eq_emod_of_nonneg h0,U8_e,U8_e];omega
   have e2:U64 (Int.tdiv (x / cB i) 256)=x / cB (i+1):=by
    rw[div_s,dq h0,qF (by omega) (by omega)]
   have e3:(leB w x).take (i+1)=(leB w x).take i++[U8 (shr .u64 x ((8*i:Nat):Int))]:=tsm3 _ h;rw[dt (by omega),cond_true,pX (by simp[lH];omega),ae,e1,e2,sX (by omega),bd,<- e3]
   exact aEy N w hw x hx s hs k (i+1) (by omega) (by omega)
  ·obtain rfl:i=w:=by omega
   rw[df (by omega),cond_false,List.take_of_length_le (by rw[lH];omega)]
theorem putR(N:Nat)(b:List Int)(w:Nat)(hw0:1<=w)(hw:w<=8)(ns:List Int)(hns:aEu ns)(hb:b.length<=10000000000000)(hl:ns.length<=1000000000000)(hN:8 < N)(hlN:ns.length < N):cK N b (w:Int) ns=some (tZ b w ns):=by
 unfold cK;rw[df (show ¬(w:Int) < 1 by omega),df (show ¬(w:Int) > 8 by omega),cond_false,bL,cond_false,pX (by simp;omega),ae,d6]
 have:=uK ns (by omega) (big w) (leB w) (([],3):List Int×Int) (λs i=>s.length<=10000000000000+8*i) (λk s i=>eD N ns (w:Int) k s i) (by intro s i h hs;simp[lH];omega) (λk s i h hs=>by
  have hx:=hns _ (bk h)
  rw[eD,bL,dt (by omega),cond_true,pG h,ae,aEQ N hN w hw,ae]
  have e:decide (ns[i] > cB w - 1)=big w ns[i]:=by
   unfold big;by_cases hb:cB w<=ns[i]
   ·rw[dt hb,dt (by omega)]
   ·rw[df hb,df (by omega)]
  rw[e]
  cases hbg:big w ns[i] with
  | true=>rfl
  | false=>
   have:=aEy N w hw ns[i] hx s (by omega) N 0 (by omega) (by omega)
   rw[List.take_zero,List.append_nil,show cB 0=1 from rfl,Int.ediv_one,show((0:Nat):Int)=0 from rfl] at this;rw[cond_false,cond_false,ae,this,ae]) (λk s=>by rw[eD,bL,df (by omega),cond_false]) N 0 b (by omega) (by omega) (by omega)
 rw[show((0:Nat):Int)=0 from rfl,cm] at this;rw[this,ae]
 unfold tZ;cases ns.any (big w) <;> rfl
theorem sgnR(N:Nat)(b:List Int)(w:Nat)(hw0:1<=w)(hw:w<=8)(ns:List Int)(hns:aGo ns)(hb:b.length<=10000000000000)(hl:ns.length<=1000000000000)(hN:8 < N)(hlN:ns.length < N):dA N b (w:Int) ns=some (aAl b w ns):=by
 unfold dA;have hp:=nW w;have hp2:cB w / 2*2=cB w:=by
  have:∀i:Fin 9,1<=i.val->cB i.val / 2*2=cB i.val:=by decide
  exact this ⟨w,by omega⟩ hw0
 have hp3:cB w<=18446744073709551616:=by
  have:∀i:Fin 9,cB i.val<=18446744073709551616:=by decide
  exact this ⟨w,by omega⟩
 have e3:I64 (U64 (Int.tdiv (cB w - 1) 2))=cB w / 2 - 1:=by
  rw[dq (by omega),qF (by omega) (by omega),oI (by omega) (by omega)];omega
 rw[df (show ¬(w:Int) < 1 by omega),df (show ¬(w:Int) > 8 by omega),cond_false,bL,cond_false,aEQ N hN w hw,ae,bL,e3]
 have:=uK ns (by omega) (tS w) (λx=>[x % cB w]) (([],3):List Int×Int) (λs i=>s.length=i) (λk s i=>cY N ns (cB w / 2 - 1) (w:Int) k s i) (by intro s i h hs;simp;omega) (λk s i h hs=>by
  have hx:=hns _ (bk h)
  obtain⟨x0,x1⟩:=hx;have f:I64 (I64 (0 - (cB w / 2 - 1)) - 1) = -(cB w / 2):=by rw[oI (x:=0 - (cB w / 2 - 1)) (by omega) (by omega),oI (by omega) (by omega)];omega
  rw[cY,bL,dt (by omega),cond_true,pG h,ae,ae,bL,f]
  generalize ns[i]=x at *;have e:(cond (decide (x > cB w / 2 - 1)) (some true) (some (decide (x < -(cB w / 2)))))=some (tS w x):=by
   unfold tS;by_cases h1:cB w / 2<=x
   ·rw[dt (show x > cB w / 2 - 1 by omega),dt h1,Bool.or_true];rfl
   ·rw[df (show ¬x > cB w / 2 - 1 by omega),df h1,Bool.or_false];rfl
  rw[e,ae]
  cases hbg:tS w x with
  | true=>rfl
  | false=>
   unfold tS at hbg;rw[Bool.or_eq_false_iff,decide_eq_false_iff_not,decide_eq_false_iff_not] at hbg;obtain⟨b1,b2⟩:=hbg;have e2:(cond (decide (x < 0)) (aa (dC N (w:Int)) λr15=>aa (some x) λe16=>bS (I64 (0 - I64 (e16+1))) λx17=>some (U64 (r15 - U64 x17))) (some (U64 x)))=some (x % cB w):=by
    by_cases hneg:x < 0
    ·rw[dt hneg,cond_true,aEQ N hN w hw,ae,ae,bL,oI (x:=x+1) (by omega) (by omega),oI (x:=0 - (x+1)) (by omega) (by omega),qF (x:=0 - (x+1)) (by omega) (by omega),qF (by omega) (by omega)]
     have:x % cB w=x+cB w:=by
      rw[<- Int.add_emod_right,cn (by omega) (by omega)]
     rw[this]
     congr 1;omega
    ·rw[df hneg,cond_false,qF (by omega) (by omega),cn (by omega) (by omega)]
   rw[cond_false,cond_false,ae,ae,e2,ae,pX (by simp;omega),ae]) (λk s=>by rw[cY,bL,df (by omega),cond_false]) N 0 [] rfl (by omega) (by omega)
 rw[show((0:Nat):Int)=0 from rfl,cm,d6] at this;rw[this,ae]
 unfold aAl;cases ns.any (tS w) with
 | true=>rfl
 | false=>
  rw[cond_false,cond_false]
  show aa (cK N b (w:Int) (ns.flatMap λx=>[x % cB w])) _=_;rw[show(ns.flatMap λx=>[x % cB w])=ns.map (λx=>x % cB w) by
   clear this hns hl hlN
   induction ns with
   | nil=>rfl
   | cons a l ih=>simp[bv,ih]]
  rw[putR N b w hw0 hw _ (by intro y hy;obtain⟨x,_,rfl⟩:=bp.1 hy;exact modU w hw x) hb (by simpa using hl) hN (by simpa using hlN),ae]
set_option maxHeartbeats 4000000
structure Fld where
 sg:Bool
 w:Nat
 v:Int
def Fld.ok(f:Fld):Bool:=cond f.sg (!(tS f.w f.v)) (decide (0<=f.v) && !(big f.w f.v))
def Fld.b(f:Fld):List Int:=leB f.w (f.v % cB f.w)
def okL(l:List Fld):Bool:=l.all Fld.ok
def bB(l:List Fld):List Int:=l.flatMap Fld.b
theorem aC9(a b:List Fld):okL (a++b)=(okL a&&okL b):=by unfold okL;rw[List.all_append]
theorem aHs(a b:List Fld):bB (a++b)=bB a++bB b:=by unfold bB;rw[List.flatMap_append]
class Tw(σ:Type) where
 tw:σ->Prop
instance twI : Tw Int:=⟨λx=>x=2⟩
instance twB : Tw Bool:=⟨λx=>x=true⟩
theorem uT(x:Bool):x=false\/Tw.tw x:=by cases x;exact .inl rfl;exact .inr rfl
structure Wr{σ:Type}[Tw σ](z:σ)(b:List Int)(e:σ)(fs:List Fld)(n:Nat)(r:List Int×σ):Prop where
 len:r.1.length<=b.length+n
 good:e=z->okL fs=true->r=(b++bB fs,z)
 bad:¬(e=z/\okL fs=true)->r.2≠z
 dom:(e=z\/Tw.tw e)->(r.2=z\/Tw.tw r.2)
theorem Wr.seq{σ:Type}[Tw σ]{z:σ}{b:List Int}{e:σ}{fs gs:List Fld}{n m:Nat}{r q:List Int×σ}(h:Wr z b e fs n r)(k:Wr z r.1 r.2 gs m q):Wr z b e (fs++gs) (n+m) q:=by
 refine⟨by have:=h.len;have:=k.len;omega,λh1 h2=>?_,λh1=>?_,λd=>k.dom (h.dom d)⟩
 ·rw[aC9,Bool.and_eq_true] at h2;have g:=h.good h1 h2.1;have:=k.good (by rw[g]) h2.2;rw[this,g,aHs,bd]
 ·by_cases c:e=z/\okL fs=true
  ·have g:=h.good c.1 c.2;refine k.bad λd=>h1 ⟨c.1,?_⟩
   rw[aC9,c.2,d.2];rfl
  ·exact k.bad λd=>h.bad c d.1
theorem Wr.nil{σ:Type}[Tw σ](z:σ)(b:List Int)(e:σ):Wr z b e [] 0 (b,e):=⟨by simp,λh _=>by rw[h];simp[bB],λh=>λq=>h ⟨q,rfl⟩,λd=>d⟩
theorem Wr.cast{σ:Type}[Tw σ]{z:σ}{b:List Int}{e:σ}{fs gs:List Fld}{n m:Nat}{r:List Int×σ}(h:Wr z b e fs n r)(hf:fs=gs)(hn:n<=m):Wr z b e gs m r:=by
 subst hf;exact⟨by have:=h.len;omega,h.good,h.bad,h.dom⟩
theorem Wr.same{b:List Int}{e:Int}{f:Bool}{fs:List Fld}{n m:Nat}{r:List Int×Int}{q:List Int×Bool}(h:Wr 0 b e fs n r)(k:Wr false b f fs m q)(he:e=0↔f=false):(r.2=0↔q.2=false)/\(r.2=0->r.1=q.1):=by
 by_cases c:e=0/\okL fs=true
 ·rw[h.good c.1 c.2,k.good (he.1 c.1) c.2]
  simp
 ·have h1:=h.bad c;have h2:=k.bad λd=>c ⟨he.2 d.1,d.2⟩
  exact⟨⟨λq=>absurd q h1,λq=>absurd q h2⟩,λq=>absurd q h1⟩
theorem aCI{x:Int}(h:fX x):aEu [U64 x]:=by
 intro y hy;rw[au] at hy;rw[hy]
 exact⟨aHn x,aHH x⟩
def nJ(e a:Int):Int:=if e=0/\a≠0 then 2 else e
theorem aBW(N:Nat)(b1 b2:List Int)(a e:Int):bY N b1 b2 a e=some (nJ e a):=by
 unfold bY nJ;rw[bL]
 by_cases c:e=0
 ·rw[show(e==0)=true by simpa using c,cond_true]
  by_cases d:a=0
  ·rw[show(a != 0)=false by simpa using d,if_neg (by omega)];rfl
  ·rw[show(a != 0)=true by simpa using d,if_pos ⟨c,d⟩];rfl
 ·rw[show(e==0)=false by simpa using c,if_neg (by omega)];rfl
theorem aGk(N:Nat)(b1:List Int)(a e:Int):dK N b1 a e=some (nJ e a):=aBW N b1 b1 a e
theorem sO{e a:Int}(h:e≠0\/a≠0):nJ e a≠0:=by
 unfold nJ;split
 ·decide
 ·omega
theorem uU(e a:Int)(h:e=0\/Tw.tw e):nJ e a=0\/Tw.tw (nJ e a):=by
 unfold nJ;split
 ·exact .inr rfl
 ·exact h
theorem put1V(N:Nat)(hN:100 < N)(b:List Int)(w:Nat)(hw0:1<=w)(hw:w<=8){x:Int}(hx:fX x)(h0:0<=x)(hb:b.length<=100000000):∃r,eG N b (w:Int) [U64 x]=some r/\r.1.length<=b.length+w/\(Fld.ok ⟨false,w,x⟩=true->r=(b++Fld.b ⟨false,w,x⟩,0))/\(Fld.ok ⟨false,w,x⟩=false->r.2≠0):=by
 have hu:U64 x=x:=qF h0 (by have:=hx.2;omega)
 refine⟨_,putP N b w hw0 hw _ (aCI hx) (by omega) (by simp) (by omega) (by simp;omega),?_⟩
 rw[hu]
 unfold tZ Fld.ok Fld.b;rw[show([x]:List Int).any (big w)=big w x by simp,show(er (leB w) [x])=leB w x by simp]
 dsimp only;cases hc:big w x with
 | true=>
  refine⟨by simp,λh=>?_,λ_=>(show(3:Int)≠0 by decide)⟩
  rw[dt h0] at h;cases h
 | false=>
  have hlt:x < cB w:=by unfold big at hc;have:=of_decide_eq_false hc;omega
  refine⟨by rw[cond_false];simp[lH],λ_=>?_,λh=>?_⟩
  ·rw[cond_false,cn h0 hlt]
  ·rw[dt h0] at h;cases h
theorem aG2(N:Nat)(hN:1000 < N)(w:Nat)(hw0:1<=w)(hw:w<=8)(ns:List Int)(h64:∀x∈ns,fX x)(hl:ns.length<=100):∀(k i:Nat) (b:List Int) (e:Int),b.length<=10000000+8*i->i<=ns.length->ns.length - i < k->∃o,cH N ns (w:Int) k b e (i:Int)=some o/\∃r:List Int×Int,(o=Sum.inl r\/o=Sum.inr r)/\Wr 0 b e ((ns.drop i).map λx=>⟨false,w,x⟩) (w*(ns.length - i)) r
 | 0,_,_,_,_,_,h=>by omega
 | k+1,i,b,e,hb,hi,hk=>by
  rw[cH]
  by_cases c:i < ns.length
  ·have hx:=h64 _ (bk c)
   rw[dt (by omega),bL,cond_true,pG c,ae,bt c,List.map_cons]
   by_cases h0:ns[i] < 0
   ·rw[dt h0,cond_true,aGk,ae]
    refine⟨_,rfl,_,.inr rfl,by simp,λ_ h=>?_,λ_=>sO (.inr (by decide)),uU _ _⟩
    exfalso;unfold okL Fld.ok at h;rw[gm] at h;simp only[cond_false,df (show ¬0<=ns[i] by omega),Bool.false_and] at h;cases h
   ·obtain⟨r8,h1,h2,h3,h4⟩:=put1V N (by omega) b w hw0 hw hx (by omega) (by omega)
    rw[df h0,cond_false,h1,ae,aBW,ae,sX (by omega)]
    obtain⟨o,g1,r,g2,g3⟩:=aG2 N hN w hw0 hw ns h64 hl k (i+1) r8.1 (nJ e r8.2) (by omega) (by omega) (by omega)
    refine⟨o,g1,r,g2,?_⟩
    have first:Wr 0 b e [⟨false,w,ns[i]⟩] w (r8.1,nJ e r8.2):=by
     refine⟨h2,λq1 q2=>?_,λq=>?_,uU _ _⟩
     ·have:=h3 (by simpa[okL] using q2)
      rw[this,q1]
      simp[bB,nJ]
     ·by_cases d:Fld.ok ⟨false,w,ns[i]⟩=true
      ·exact sO (.inl λq1=>q ⟨q1,by simpa[okL] using d⟩)
      ·exact sO (.inr (h4 (by simpa using d)))
    refine(first.seq g3).cast rfl ?_;rw[show ns.length - i=ns.length - (i+1)+1 by omega,Nat.mul_add]
    omega
  ·rw[df (by omega),bL,cond_false,cp (by omega)]
   exact⟨_,rfl,_,.inl rfl,(Wr.nil 0 b e).cast rfl (by omega)⟩
theorem mU(N:Nat)(hN:1000 < N)(w:Nat)(hw0:1<=w)(hw:w<=8)(ns:List Int)(h64:∀x∈ns,fX x)(hl:ns.length<=100)(b:List Int)(e:Int)(hb:b.length<=10000000):∃r,aG N b (w:Int) ns e=some r/\Wr 0 b e (ns.map λx=>⟨false,w,x⟩) (8*ns.length) r:=by
 obtain⟨o,h1,r,h2,h3⟩:=aG2 N hN w hw0 hw ns h64 hl N 0 b e (by omega) (by omega) (by omega)
 unfold aG;rw[show cH N ns (w:Int) N b e 0=_ from h1,ae]
 rw[cm,Nat.sub_zero] at h3;refine⟨r,?_,h3.cast rfl (Nat.mul_le_mul_right _ hw)⟩
 rcases h2 with rfl | rfl <;> rfl
theorem sgnW(w:Nat)(b ns:List Int)(hw:w<=8):(aAl b w ns).1.length<=b.length+w*ns.length/\(okL (ns.map λx=>⟨true,w,x⟩)=true->aAl b w ns=(b++bB (ns.map λx=>⟨true,w,x⟩),0))/\(okL (ns.map λx=>⟨true,w,x⟩)=false->(aAl b w ns).2≠0):=by
 have hb:okL (ns.map λx=>⟨true,w,x⟩) = !(ns.any (tS w)):=by
  unfold okL;rw[List.all_map]
  induction ns with
  | nil=>rfl
  | cons x l ih=>rw[gm,gk,ih,Bool.not_or];rfl
 have hp:=nW w;have hbig:(ns.map (λx=>x % cB w)).any (big w)=false:=by
  rw[List.any_eq_false]
  intro y hy;obtain⟨x,_,rfl⟩:=bp.1 hy;have:=fp x hp;unfold big;rw[df (by omega)]
  decide
 rw[hb]
 unfold aAl tZ;rw[hbig,cond_false]
 cases ns.any (tS w) with
 | true=>exact⟨by simp,λh=>(by cases h),λ_=>(show(3:Int)≠0 by decide)⟩
 | false=>
  refine⟨?_,λ_=>?_,λh=>(by cases h)⟩
  ·rw[cond_false]
   dsimp only;rw[ax]
   have:∀l:List Int,(l.flatMap (leB w)).length=w*l.length:=by
    intro l
    induction l with
    | nil=>simp
    | cons x l ih=>rw[bv,ax,lH,ih,ap,Nat.mul_add];omega
   rw[this,List.length_map]
   omega
  ·rw[cond_false]
   unfold bB Fld.b;rw[fx,fx]
theorem aGt(N:Nat)(hN:1000 < N)(w:Nat)(hw0:1<=w)(hw:w<=8)(ns:List Int)(h64:∀x∈ns,fX x)(hl:ns.length<=100)(b:List Int)(e:Int)(hb:b.length<=20000000):∃r,cN N b (w:Int) ns=some r/\Wr 0 b e (ns.map λx=>⟨true,w,x⟩) (8*ns.length) (r.1,nJ e r.2):=by
 refine⟨_,sgnP N b w hw0 hw ns h64 (by omega) (by omega) (by omega) (by omega),?_⟩
 obtain⟨h1,h2,h3⟩:=sgnW w b ns hw;refine⟨Nat.le_trans h1 (Nat.add_le_add_left (Nat.mul_le_mul_right _ hw) _),λq1 q2=>?_,λq=>?_,uU _ _⟩
 ·rw[h2 q2,q1];rfl
 ·by_cases d:okL (ns.map λx=>⟨true,w,x⟩)=true
  ·exact sO (.inl λq1=>q ⟨q1,d⟩)
  ·exact sO (.inr (h3 (by simpa using d)))
theorem jB(N:Nat)(hN:1000 < N)(w:Nat)(hw0:1<=w)(hw:w<=8){x:Int}(hx:fX x)(b:List Int)(e:Bool)(hb:b.length<=20000000):∃r,aC N b (w:Int) x e=some r/\Wr false b e [⟨false,w,x⟩] 8 r:=by
 unfold aC;rw[putR N b w hw0 hw _ (aCI hx) (by omega) (by simp) (by omega) (by simp;omega),ae,bL]
 have ok1:okL [⟨false,w,x⟩]=(decide (0<=x) && !(big w x)):=by simp[okL,Fld.ok]
 by_cases h0:x < 0
 ·rw[dt h0,cond_true,cond_true]
  refine⟨_,rfl,by simp,λ_ h=>?_,λ_=>(show true≠false by decide),λ_=>uT _⟩
  rw[ok1,df (by omega)] at h;cases h
 ·have hu:U64 x=x:=qF (by omega) (by have:=hx.2;omega)
  rw[df h0,cond_false,hu]
  unfold tZ;rw[show([x]:List Int).any (big w)=big w x by simp,show(er (leB w) [x])=leB w x by simp]
  cases hc:big w x with
  | true=>
   rw[cond_true]
   refine⟨_,rfl,by simp,λ_ h=>?_,λ_=>(show true≠false by decide),λ_=>uT _⟩
   rw[ok1,hc] at h;simp at h
  | false=>
   have hlt:x < cB w:=by unfold big at hc;have:=of_decide_eq_false hc;omega
   rw[cond_false]
   refine⟨_,rfl,by show(b++leB w x).length<=_;rw[ax,lH];omega,λh _=>?_,λh=>?_,λ_=>uT _⟩
   ·rw[h]
    show(b++leB w x,false)=_;unfold bB Fld.b;simp[cn (show 0<=x by omega) hlt]
   ·show e≠false;intro q;apply h;rw[ok1,hc,dt (by omega)]
    exact⟨q,rfl⟩
theorem xX(N:Nat)(hN:1000 < N)(w:Nat)(hw0:1<=w)(hw:w<=8){x:Int}(hx:fX x)(b:List Int)(e:Bool)(hb:b.length<=20000000):∃r,aP N b (w:Int) x e=some r/\Wr false b e [⟨true,w,x⟩] 8 r:=by
 unfold aP;obtain⟨h1,h2,h3⟩:=sgnW w b [x] hw;rw[sgnR N b w hw0 hw _ (λy hy=>by rw[au] at hy;rw[hy];exact hx) (by omega) (by simp) (by omega) (by simp;omega),ae]
 by_cases c:okL [⟨true,w,x⟩]=true
 ·have g:=h2 c;rw[g]
  refine⟨_,rfl,?_,λh _=>?_,λh=>?_,λ_=>uT _⟩
  ·show(b++bB _).length<=_;rw[ax]
   unfold bB Fld.b;simp[lH]
   omega
  ·rw[h];rfl
  ·intro q;exact h ⟨q,c⟩
 ·have g:=h3 (by simpa using c)
  rw[show((aAl b w [x]).2 != 0)=true by simpa using g,cond_true]
  exact⟨_,rfl,by simp,λ_ h=>absurd h c,λ_=>(show true≠false by decide),λ_=>uT _⟩
def pF(p:aF):List Fld:=[⟨true,4,p.gX⟩,⟨true,4,p.gY⟩,⟨true,4,p.gZ⟩]
def p64(p:aF):Prop:=fX p.gX/\fX p.gY/\fX p.gZ
theorem aA7(N:Nat)(hN:1000 < N){p:aF}(hp:p64 p)(b:List Int)(e:Bool)(hb:b.length<=19000000):∃r,bH N b p e=some r/\Wr false b e (pF p) 24 r:=by
 unfold bH;obtain⟨r1,e1,w1⟩:=xX N hN 4 (by decide) (by decide) hp.1 b e (by omega)
 have l1:=w1.len;obtain⟨r2,e2,w2⟩:=xX N hN 4 (by decide) (by decide) hp.2.1 r1.1 r1.2 (by omega)
 have l2:=w2.len;obtain⟨r3,e3,w3⟩:=xX N hN 4 (by decide) (by decide) hp.2.2 r2.1 r2.2 (by omega)
 rw[show aP N b 4 p.gX e=_ from e1,ae,show aP N r1.1 4 p.gY r1.2=_ from e2,ae,show aP N r2.1 4 p.gZ r2.2=_ from e3,ae]
 exact⟨_,rfl,((w1.seq w2).seq w3).cast rfl (by decide)⟩
theorem aC6(N:Nat)(hN:1000 < N)(ps:List aF)(h64:∀p∈ps,p64 p)(hl:ps.length<=10):∀(k i:Nat) (b:List Int) (e:Int),b.length<=15000000+24*i->i<=ps.length->ps.length - i < k->∃r,cD N ps k b e (i:Int)=some r/\Wr 0 b e ((ps.drop i).flatMap pF) (24*(ps.length - i)) r
 | 0,_,_,_,_,_,h=>by omega
 | k+1,i,b,e,hb,hi,hk=>by
  rw[cD]
  by_cases c:i < ps.length
  ·have hx:=h64 _ (bk c)
   obtain⟨r7,h1,h2⟩:=aGt N hN 4 (by decide) (by decide) [ps[i].gX,ps[i].gY,ps[i].gZ] (λx hx'=>by simp only[bz,bu,or_false] at hx';rcases hx' with rfl | rfl | rfl;exact hx.1;exact hx.2.1;exact hx.2.2) (by simp) b e (by omega)
   have l2:=h2.len;simp only[ap,ar] at l2;rw[dt (by omega),bL,cond_true,pG c,ae,show cN N b 4 [ps[i].gX,ps[i].gY,ps[i].gZ]=_ from h1,ae,aBW,ae,sX (by omega)]
   obtain⟨r,g1,g2⟩:=aC6 N hN ps h64 hl k (i+1) r7.1 (nJ e r7.2) (by omega) (by omega) (by omega)
   refine⟨r,g1,(h2.seq g2).cast ?_ ?_⟩
   ·rw[bt c,bv];rfl
   ·simp only[ap,ar];omega
  ·rw[df (by omega),bL,cond_false,cp (by omega)]
   exact⟨_,rfl,(Wr.nil 0 b e).cast rfl (by omega)⟩
def vF(v:aB):List Fld:=[⟨false,1,v.gW⟩,⟨false,1,v.gH⟩,⟨false,1,v.gA6⟩,⟨false,1,v.gA7⟩,⟨false,1,v.gA8⟩,⟨false,1,cond v.gA9 1 0⟩,⟨false,8,v.gS⟩]++([v.gE.gB2,v.gE.gB3,v.gE.gUp,v.gE.gB4].flatMap pF++[⟨false,4,v.gE.gA4⟩,⟨false,4,v.gE.gA5⟩])
structure V64(v:aB):Prop where
 w:fX v.gW
 h:fX v.gH
 s:fX v.gA6
 d:fX v.gA7
 c:fX v.gA8
 seed:0<=v.gS/\v.gS < 18446744073709551616
 eye:p64 v.gE.gB2
 rt:p64 v.gE.gB3
 up:p64 v.gE.gUp
 ah:p64 v.gE.gB4
 ln:fX v.gE.gA4
 fo:fX v.gE.gA5
theorem condI(c:Bool):(cond c (some (1:Int)) (some 0))=some (cond c 1 0):=by cases c <;> rfl
theorem aER(c:Bool):fX (cond c 1 0):=by cases c <;> exact⟨by decide,by decide⟩
theorem aFB{x:Int}(h:0<=x/\x < 18446744073709551616)(b:List Int):tZ b 8 [x]=(b++Fld.b ⟨false,8,x⟩,0)/\Fld.ok ⟨false,8,x⟩=true:=by
 have hp:cB 8=18446744073709551616:=rfl;have hb:big 8 x=false:=by unfold big;exact df (by omega)
 unfold tZ Fld.ok Fld.b;dsimp only;rw[show([x]:List Int).any (big 8)=big 8 x by simp,show(er (leB 8) [x])=leB 8 x by simp,hb,dt h.1,cn h.1 (by omega)]
 exact⟨rfl,rfl⟩
theorem aGu{x:Int}(h:0<=x/\x < 18446744073709551616):aEu [x]:=by
 intro y hy;rw[au] at hy;rw[hy];exact h
theorem aGx{σ:Type}[Tw σ]{z:σ}{x:Int}(h:0<=x/\x < 18446744073709551616)(b:List Int)(e:σ):Wr z b e [⟨false,8,x⟩] 8 (b++Fld.b ⟨false,8,x⟩,e):=by
 obtain⟨_,ok⟩:=aFB h b;refine⟨?_,λq _=>?_,λq d=>?_,λd=>d⟩
 ·rw[ax]
  unfold Fld.b;rw[lH]
  exact Nat.le_refl _
 ·rw[q];simp[bB]
 ·exact q ⟨d,by simpa[okL] using ok⟩
theorem viewC(N:Nat)(hN:1000 < N){v:aB}(hv:V64 v)(b:List Int)(e:Int)(hb:b.length<=9000000):∃r,dU N b v e=some r/\Wr 0 b e (vF v) 200 r:=by
 unfold dU;obtain⟨r2,e2,w2⟩:=mU N hN 1 (by decide) (by decide) [v.gW,v.gH,v.gA6,v.gA7,v.gA8,cond v.gA9 1 0] (λx hx=>by simp only[bz,bu,or_false] at hx;rcases hx with rfl | rfl | rfl | rfl | rfl | rfl;exact hv.w;exact hv.h;exact hv.s;exact hv.d;exact hv.c;exact aER _) (by simp) b e (by omega)
 have l2:=w2.len;simp only[ap,ar] at l2;obtain⟨r5,e5,w5⟩:=aC6 N hN [v.gE.gB2,v.gE.gB3,v.gE.gUp,v.gE.gB4] (λx hx=>by simp only[bz,bu,or_false] at hx;rcases hx with rfl | rfl | rfl | rfl;exact hv.eye;exact hv.rt;exact hv.up;exact hv.ah) (by simp) N 0 (r2.1++Fld.b ⟨false,8,v.gS⟩) r2.2 (by rw[ax];unfold Fld.b;rw[lH];show _+8<=_;omega) (by omega) (by simp;omega)
 have l5:=w5.len;rw[ax] at l5;unfold Fld.b at l5;rw[lH] at l5;simp only[ap,ar] at l5
 replace l5:r5.1.length<=r2.1.length+8+24*4:=l5
 obtain⟨r6,e6,w6⟩:=mU N hN 4 (by decide) (by decide) [v.gE.gA4,v.gE.gA5] (λx hx=>by simp only[bz,bu,or_false] at hx;rcases hx with rfl | rfl;exact hv.ln;exact hv.fo) (by simp) r5.1 r5.2 (by omega)
 have w3:=aGx (z:=(0:Int)) hv.seed r2.1 r2.2;rw[condI,ae,show aG N b 1 [v.gW,v.gH,v.gA6,v.gA7,v.gA8,cond v.gA9 1 0] e=_ from e2,ae,show eG N r2.1 8 [v.gS]=some (tZ r2.1 8 [v.gS]) from putP N r2.1 8 (by decide) (by decide) _ (aGu hv.seed) (by omega) (by simp) (by omega) (by simp;omega),(aFB hv.seed r2.1).1,ae,aBW,ae]
 unfold eR;have k0:nJ r2.2 0=r2.2:=by unfold nJ;rw[if_neg (by omega)]
 rw[k0,show cD N [v.gE.gB2,v.gE.gB3,v.gE.gUp,v.gE.gB4] N (r2.1++Fld.b ⟨false,8,v.gS⟩) r2.2 0=_ from e5,ae,ae,show aG N r5.1 4 [v.gE.gA4,v.gE.gA5] r5.2=_ from e6,ae]
 exact⟨_,rfl,(((w2.seq w3).seq w5).seq w6).cast (by unfold vF;simp) (by simp)⟩
theorem viewD(N:Nat)(hN:1000 < N){v:aB}(hv:V64 v)(b:List Int)(e:Bool)(hb:b.length<=9000000):∃r,cU N b v e=some r/\Wr false b e (vF v) 300 r:=by
 unfold cU;obtain⟨r1,e1,w1⟩:=jB N hN 1 (by decide) (by decide) hv.w b e (by omega)
 have l1:=w1.len;obtain⟨r2,e2,w2⟩:=jB N hN 1 (by decide) (by decide) hv.h r1.1 r1.2 (by omega)
 have l2:=w2.len;obtain⟨r3,e3,w3⟩:=jB N hN 1 (by decide) (by decide) hv.s r2.1 r2.2 (by omega)
 have l3:=w3.len;obtain⟨r4,e4,w4⟩:=jB N hN 1 (by decide) (by decide) hv.d r3.1 r3.2 (by omega)
 have l4:=w4.len;obtain⟨r5,e5,w5⟩:=jB N hN 1 (by decide) (by decide) hv.c r4.1 r4.2 (by omega)
 have l5:=w5.len;obtain⟨r6,e6,w6⟩:=jB N hN 1 (by decide) (by decide) (aER v.gA9) r5.1 r5.2 (by omega)
 have l6:=w6.len;have w7:=aGx (z:=false) hv.seed r6.1 r6.2;have l7:=w7.len;obtain⟨s1,f1,x1⟩:=aA7 N hN hv.eye (r6.1++Fld.b ⟨false,8,v.gS⟩) r6.2 (by dsimp only at l7;omega)
 have m1:=x1.len;obtain⟨s2,f2,x2⟩:=aA7 N hN hv.rt s1.1 s1.2 (by dsimp only at l7;omega)
 have m2:=x2.len;obtain⟨s3,f3,x3⟩:=aA7 N hN hv.up s2.1 s2.2 (by dsimp only at l7;omega)
 have m3:=x3.len;obtain⟨s4,f4,x4⟩:=aA7 N hN hv.ah s3.1 s3.2 (by dsimp only at l7;omega)
 have m4:=x4.len;obtain⟨s5,f5,x5⟩:=jB N hN 4 (by decide) (by decide) hv.ln s4.1 s4.2 (by dsimp only at l7;omega)
 have m5:=x5.len;obtain⟨s6,f6,x6⟩:=jB N hN 4 (by decide) (by decide) hv.fo s5.1 s5.2 (by dsimp only at l7;omega)
 rw[show aC N b 1 v.gW e=_ from e1,ae,show aC N r1.1 1 v.gH r1.2=_ from e2,ae,show aC N r2.1 1 v.gA6 r2.2=_ from e3,ae,show aC N r3.1 1 v.gA7 r3.2=_ from e4,ae,show aC N r4.1 1 v.gA8 r4.2=_ from e5,ae]
 have hc:(cond v.gA9 (aa (aC N r5.1 1 1 r5.2) λr7=>some ((r7.1,r7.2))) (aa (aC N r5.1 1 0 r5.2) λr8=>some ((r8.1,r8.2))))=some r6:=by
  cases h:v.gA9 with
  | true=>rw[h] at e6;rw[cond_true,show aC N r5.1 1 1 r5.2=_ from e6];rfl
  | false=>rw[h] at e6;rw[cond_false,show aC N r5.1 1 0 r5.2=_ from e6];rfl
 rw[hc,ae,show cK N r6.1 8 [v.gS]=some (tZ r6.1 8 [v.gS]) from putR N r6.1 8 (by decide) (by decide) _ (aGu hv.seed) (by omega) (by simp) (by omega) (by simp;omega),(aFB hv.seed r6.1).1,ae,f1,ae,f2,ae,f3,ae,f4,ae,show aC N s4.1 4 v.gE.gA4 s4.2=_ from f5,ae,show aC N s5.1 4 v.gE.gA5 s5.2=_ from f6,ae]
 exact⟨_,rfl,((((((((((((w1.seq w2).seq w3).seq w4).seq w5).seq w6).seq w7).seq x1).seq x2).seq x3).seq x4).seq x5).seq x6).cast (by unfold vF;simp) (by decide)⟩
end Go.UK
