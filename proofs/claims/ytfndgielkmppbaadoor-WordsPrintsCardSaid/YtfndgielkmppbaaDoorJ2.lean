/- A part of the proof: what the functions of the program compute. -/
import Derived.Test.YtfndgielkmppbaaDoorJ1
import Derived.Test.YtfndgielkmppbaaDoorAJ2
open BitVec renaming ofInt→bm
open Int renaming emod_eq_of_lt→ck,emod_lt_of_pos→fc,eq_ofNat_of_zero_le→cm,tdiv→d9,tdiv_eq_ediv_of_nonneg→cb,tmod→d7,tmod_eq_emod_of_nonneg→cx
open List renaming all_cons→fv,any_cons→cj,append_assoc→ar,drop_eq_getElem_cons→bf,drop_eq_nil_of_le→bn,drop_zero→bt,flatMap→er,flatMap_append→dm,flatMap_cons→bq,flatMap_map→fg,getD_eq_getElem?_getD→dz,getElem?_eq_getElem→af,getElem_mem→bk,length_append→an,length_cons→ai,length_nil→al,mem_cons→ba,mem_map→cy,mem_singleton→ak,nil_append→cq,not_mem_nil→av,range→bw
open Nat renaming le_trans→cr,mul_add→gb,mul_le_mul_right→cz,pow_succ→fz
open Option renaming bind→ae,bind_some→aa
namespace Go.UK
open Go Go.Proofs
set_option maxRecDepth 20000
set_option maxHeartbeats 16000000
set_option linter.all false
theorem U8_e(x:Int):U8 x=x % 256:=IntKind.wrap_u8 x
def isW(x:Int):Prop:=0<=x/\x < 4294967296
def isB(x:Int):Prop:=0<=x/\x < 256
theorem isB.w{x:Int}(h:isB x):isW x:=⟨h.1,by have:=h.2;omega⟩
def kK(m:List Int):Prop:=∀x∈m,isB x
theorem kK.getD{m:List Int}(h:kK m)(i:Nat):isB (m.getD i 0):=by
 rw[dz]
 by_cases hi:i < m.length
 ·rw[af hi];exact h _ (bk hi)
 ·rw[List.getElem?_eq_none (by omega)];exact⟨by simp,by simp⟩
theorem kK.drop{m:List Int}(h:kK m)(n:Nat):kK (m.drop n):=λx hx=>h x (List.mem_of_mem_drop hx)
theorem appO1{l r:List Int}(h:l.length<=1000000)(h':r.length<=1000000):jM 1 l r=some (l++r):=eM (by omega)
def leB(w:Nat)(x:Int):List Int:=(bw w).map (λi=>U8 (shr .u64 x ((8*i:Nat):Int)))
theorem jC(w:Nat)(x:Int):(leB w x).length=w:=by unfold leB;simp
def bT(w:Nat):Int:=256 ^ w
theorem aFl(w:Nat):(2:Int) ^ (8*w)=bT w:=by unfold bT;rw[Int.pow_mul];rfl
theorem shr8(x:Int)(i:Nat)(h:i<=8):shr .u64 x ((8*i:Nat):Int)=x / bT i:=by
 rw[aAK .u64 x _ (8*i) rfl (by show 8*i<=64;omega),aFl]
theorem lG(w:Nat):0 < bT w:=Int.pow_pos (by decide)
theorem aDS(w:Nat):bT (w+1)=bT w*256:=Int.pow_succ _ _
theorem div_s{x:Int}(i:Nat):x / bT (i+1)=x / bT i / 256:=by
 rw[aDS,Int.ediv_ediv_of_nonneg (Int.le_of_lt (lG i))]
theorem qD{α β ρ:Type}(l:List α)(hl:l.length < 9223372036854775807)(bad:α->Bool)(f:α->List β)(r:ρ)(I:List β->Nat->Prop)(F:Nat->List β->Int->Option (Sum (List β) ρ))
  (hI:∀s i (h:i < l.length),I s i->I (s++f l[i]) (i+1)) (h1:∀k s i (h:i < l.length),I s i->F (k+1) s (i:Int)=cond (bad l[i]) (some (.inr r)) (F k (s++f l[i]) (I64 ((i:Int)+1)))) (h2:∀k s,F (k+1) s (l.length:Int)=some (.inl s)) :
  ∀(k i:Nat) (s:List β),I s i->i<=l.length->l.length - i < k->F k s (i:Int)=some (cond ((l.drop i).any bad) (.inr r) (.inl (s++(l.drop i).flatMap f)))
 | 0,i,_,_,_,h=>by omega
 | k+1,i,s,hs,hi,hk=>by
  by_cases h:i < l.length
  ·rw[h1 k s i h hs,bf h,cj]
   cases hb:bad l[i] with
   | true=>rfl
   | false=>
    rw[cond_false,jK (by omega),qD l hl bad f r I F hI h1 h2 k (i+1) _ (hI s i h hs) (by omega) (by omega),Bool.false_or,bq,ar]
  ·obtain rfl:i=l.length:=by omega
   rw[h2,List.drop_length];simp
def big(w:Nat)(x:Int):Bool:=decide (bT w<=x)
def sM(b:List Int)(w:Nat)(ns:List Int):List Int×Int:=cond (ns.any (big w)) ([],3) (b++ns.flatMap (leB w),0)
def u64L(ns:List Int):Prop:=∀x∈ns,0<=x/\x < 18446744073709551616
theorem putL2(N w:Nat)(hw:w<=8)(x:Int)(s:List Int)(hs:s.length<=100000000000000)(hN:8 < N):eY N (w:Int) x N s 0=some (s++leB w x):=by
 have:=aB9 w (by omega) (λi=>[U8 (shr .u64 x ((8*i:Nat):Int))]) (λs i=>s.length<=100000000000000+i) (eY N (w:Int) x) (by intro s i hi hs;simp;omega) (λk s i hi hs=>by
  have f:I64 (8*(i:Int))=((8*i:Nat):Int):=by rw[jQ (by omega) (by omega)];omega
  rw[eY,dt (by omega),cond_true,f,sY .u64 (by omega),aa,eM (by simp;omega),aa]) (λk s=>by rw[eY,df (by omega),cond_false]) (N:=N) (by omega) (s:=s) (by simpa using hs)
 rw[this,tN]
 rfl
theorem aFL(N:Nat)(l:List Int)(h:l.length<=100000000000000):cX N l=some l:=by
 unfold cX;rw[eM (by simp;omega),aa,cq]
theorem big8{x:Int}(h:x < 18446744073709551616):big 8 x=false:=by
 unfold big;rw[show bT 8=18446744073709551616 from rfl]
 exact df (by omega)
theorem putP(N:Nat)(b:List Int)(w:Nat)(hw0:1<=w)(hw:w<=8)(ns:List Int)(hns:u64L ns)(hb:b.length<=10000000000000)(hl:ns.length<=1000000000000)(hN:8 < N)(hlN:ns.length < N):eN N b (w:Int) ns=some (sM b w ns):=by
 unfold eN;rw[df (show ¬(w:Int) < 1 by omega),df (show ¬(w:Int) > 8 by omega),cond_false,aK,cond_false,aFL N b (by omega),aa]
 have:=qD ns (by omega) (big w) (leB w) (([],3):List Int×Int) (λs i=>s.length<=10000000000000+8*i) (λk s i=>fN N ns (w:Int) k s i) (by intro s i h hs;simp[jC];omega) (λk s i h hs=>by
  have hx:=hns _ (bk h)
  have f:I64 (8*(w:Int))=((8*w:Nat):Int):=by rw[jQ (by omega) (by omega)];omega
  rw[fN,aK,dt (by omega),cond_true,iQ h,aa]
  have e:(cond (decide ((w:Int) < 8)) (ae (yW .u64 ns[i] (I64 (8*(w:Int)))) λx9=>some (decide (x9 > 0))) (some false))=some (big w ns[i]):=by
   by_cases h8:w < 8
   ·rw[dt (by omega),cond_true,f,sY .u64 (by omega),aa,shr8 _ _ (by omega)]
    congr 1;unfold big;have hp:=lG w;by_cases hb:bT w<=ns[i]
    ·have:1<=ns[i] / bT w:=(Int.le_ediv_iff_mul_le hp).2 (by omega)
     rw[dt hb,dt (by omega)]
    ·have:ns[i] / bT w < 1:=Int.ediv_lt_of_lt_mul hp (by omega)
     rw[df hb,df (by omega)]
   ·obtain rfl:w=8:=by omega
    rw[df (by omega),cond_false,big8 hx.2]
  rw[e,aa]
  cases hbg:big w ns[i] with
  | true=>rfl
  | false=>rw[cond_false,cond_false,putL2 N w hw _ _ (by omega) hN,aa]) (λk s=>by rw[fN,aK,df (by omega),cond_false]) N 0 b (by omega) (by omega) (by omega)
 rw[show((0:Nat):Int)=0 from rfl,bt] at this;rw[this,aa]
 unfold sM;cases ns.any (big w) <;> rfl
def pO(w:Nat)(x:Int):Bool:=decide (x < -(bT w / 2))||decide (bT w / 2<=x)
def aEn(ns:List Int):Prop:=∀x∈ns,dI x
def xW(b:List Int)(w:Nat)(ns:List Int):List Int×Int:=cond (ns.any (pO w)) ([],3) (sM b w (ns.map (λx=>x % bT w)))
theorem w8{w:Nat}(h0:1<=w)(h:w<=8):w=1\/w=2\/w=3\/w=4\/w=5\/w=6\/w=7\/w=8:=by omega
theorem shlI(x:Int)(m:Nat)(h:m<=64):shl .i64 x (m:Int)=I64 (x*(2:Int) ^ m):=by
 unfold shl;rw[show min (m:Int).toNat IntKind.i64.bits=m by simp[IntKind.bits];omega]
theorem sgnA{w:Nat}(h0:1<=w)(h:w<=8){x:Int}(hx:dI x):(shr .i64 (shl .i64 x ((64 - 8*w:Nat):Int)) ((64 - 8*w:Nat):Int) != x)=pO w x:=by
 obtain⟨x0,x1⟩:=hx;rw[aAK .i64 _ _ (64 - 8*w) rfl (by show 64 - 8*w<=64;omega),shlI _ _ (by omega),aBT]
 have key:∀b:Bool,(b=true↔((x*(2:Int) ^ (64 - 8*w)+9223372036854775808) % 18446744073709551616 - 9223372036854775808) / (2:Int) ^ (64 - 8*w)≠x)->(((x*(2:Int) ^ (64 - 8*w)+9223372036854775808) % 18446744073709551616 - 9223372036854775808) / (2:Int) ^ (64 - 8*w) != x)=b:=by
  intro b hb;cases b with
  | true=>simpa using hb
  | false=>simpa using hb
 apply key;unfold pO;rw[Bool.or_eq_true,decide_eq_true_eq,decide_eq_true_eq]
 rcases w8 h0 h with rfl | rfl | rfl | rfl | rfl | rfl | rfl | rfl
 ·rw[show(2:Int) ^ (64 - 8*1)=72057594037927936 from rfl,show bT 1 / 2=128 from rfl];omega
 ·rw[show(2:Int) ^ (64 - 8*2)=281474976710656 from rfl,show bT 2 / 2=32768 from rfl];omega
 ·rw[show(2:Int) ^ (64 - 8*3)=1099511627776 from rfl,show bT 3 / 2=8388608 from rfl];omega
 ·rw[show(2:Int) ^ (64 - 8*4)=4294967296 from rfl,show bT 4 / 2=2147483648 from rfl];omega
 ·rw[show(2:Int) ^ (64 - 8*5)=16777216 from rfl,show bT 5 / 2=549755813888 from rfl];omega
 ·rw[show(2:Int) ^ (64 - 8*6)=65536 from rfl,show bT 6 / 2=140737488355328 from rfl];omega
 ·rw[show(2:Int) ^ (64 - 8*7)=256 from rfl,show bT 7 / 2=36028797018963968 from rfl];omega
 ·rw[show(2:Int) ^ (64 - 8*8)=1 from rfl,show bT 8 / 2=9223372036854775808 from rfl];omega
theorem sgnB{w:Nat}(h0:1<=w)(h:w<=8){x:Int}(hx:dI x):shr .u64 (shl .u64 (U64 x) ((64 - 8*w:Nat):Int)) ((64 - 8*w:Nat):Int)=x % bT w:=by
 obtain⟨x0,x1⟩:=hx;rw[aAK .u64 _ _ (64 - 8*w) rfl (by show 64 - 8*w<=64;omega),shl_e _ _ (64 - 8*w) rfl (by omega),wA]
 rcases w8 h0 h with rfl | rfl | rfl | rfl | rfl | rfl | rfl | rfl
 ·rw[show(2:Int) ^ (64 - 8*1)=72057594037927936 from rfl,show bT 1=256 from rfl];omega
 ·rw[show(2:Int) ^ (64 - 8*2)=281474976710656 from rfl,show bT 2=65536 from rfl];omega
 ·rw[show(2:Int) ^ (64 - 8*3)=1099511627776 from rfl,show bT 3=16777216 from rfl];omega
 ·rw[show(2:Int) ^ (64 - 8*4)=4294967296 from rfl,show bT 4=4294967296 from rfl];omega
 ·rw[show(2:Int) ^ (64 - 8*5)=16777216 from rfl,show bT 5=1099511627776 from rfl];omega
 ·rw[show(2:Int) ^ (64 - 8*6)=65536 from rfl,show bT 6=281474976710656 from rfl];omega
 ·rw[show(2:Int) ^ (64 - 8*7)=256 from rfl,show bT 7=72057594037927936 from rfl];omega
 ·rw[show(2:Int) ^ (64 - 8*8)=1 from rfl,show bT 8=18446744073709551616 from rfl];omega
theorem modU(w:Nat)(h:w<=8)(x:Int):0<=x % bT w/\x % bT w < 18446744073709551616:=by
 have hp:=lG w;have h1:=Int.emod_nonneg x (Int.ne_of_gt hp)
 have h2:=fc x hp;have h3:bT w<=18446744073709551616:=by
  have:∀i:Fin 9,bT i.val<=18446744073709551616:=by decide
  exact this ⟨w,by omega⟩
 omega
theorem sgnP(N:Nat)(b:List Int)(w:Nat)(hw0:1<=w)(hw:w<=8)(ns:List Int)(hns:aEn ns)(hb:b.length<=10000000000000)(hl:ns.length<=1000000000000)(hN:8 < N)(hlN:ns.length < N):dM N b (w:Int) ns=some (xW b w ns):=by
 unfold dM;rw[df (show ¬(w:Int) < 1 by omega),df (show ¬(w:Int) > 8 by omega),cond_false,aK,cond_false]
 have:=qD ns (by omega) (pO w) (λx=>[x % bT w]) (([],3):List Int×Int) (λs i=>s.length=i) (λk s i=>eE N ns (w:Int) k s i) (by intro s i h hs;simp;omega) (λk s i h hs=>by
  have hx:=hns _ (bk h)
  have f:I64 (64 - I64 (8*(w:Int)))=((64 - 8*w:Nat):Int):=by rw[jQ (x:=8*(w:Int)) (by omega) (by omega),jQ (by omega) (by omega)];omega
  rw[eE,aK,dt (by omega),cond_true,iQ h,aa,f,aK,aBP .i64 (by omega),aa,aK,sY .i64 (by omega),aa,sgnA hw0 hw hx]
  cases hbg:pO w ns[i] with
  | true=>rfl
  | false=>
   rw[cond_false,cond_false,aK,aBP .u64 (by omega),aa,aK,sY .u64 (by omega),aa,sgnB hw0 hw hx,eM (by simp;omega),aa]) (λk s=>by rw[eE,aK,df (by omega),cond_false]) N 0 [] rfl (by omega) (by omega)
 rw[show((0:Nat):Int)=0 from rfl,bt,cq] at this;rw[this,aa]
 unfold xW;cases ns.any (pO w) with
 | true=>rfl
 | false=>
  rw[cond_false,cond_false]
  show ae (eN N b (w:Int) (ns.flatMap λx=>[x % bT w])) _=_;rw[show(ns.flatMap λx=>[x % bT w])=ns.map (λx=>x % bT w) by
   clear this hns hl hlN
   induction ns with
   | nil=>rfl
   | cons a l ih=>simp[bq,ih]]
  rw[putP N b w hw0 hw _ (by intro y hy;obtain⟨x,_,rfl⟩:=cy.1 hy;exact modU w hw x) hb (by simpa using hl) hN (by simpa using hlN),aa]
theorem tsm3{n:Nat}(B:Nat->Int){t:Nat}(h:t < n):((bw n).map B).take (t+1)=((bw n).map B).take t++[B t]:=by
 rw[List.take_succ,List.getElem?_map,List.getElem?_range h]
 rfl
theorem aEu(N w:Nat)(hw:w<=8):∀(k i:Nat),i<=w->w - i < k->eC N (w:Int) k (bT i - 1) (i:Int)=some (bT w - 1)
 | 0,_,_,h=>by omega
 | k+1,i,hi,hk=>by
  rw[eC]
  by_cases h:i < w
  ·have hb:bT i<=72057594037927936:=by
    have:∀i:Fin 8,bT i.val<=72057594037927936:=by decide
    exact this ⟨i,by omega⟩
   have hp:=lG i;have e:U64 (U64 ((bT i - 1)*256)+255)=bT (i+1) - 1:=by rw[aDS,mU (x:=(bT i - 1)*256) (by omega) (by omega),mU (by omega) (by omega)];omega
   rw[dt (by omega),cond_true,aK,e,jK (by omega)]
   exact aEu N w hw k (i+1) (by omega) (by omega)
  ·obtain rfl:i=w:=by omega
   rw[df (by omega),cond_false]
theorem aDP(N:Nat)(hN:8 < N)(w:Nat)(hw:w<=8):cM N (w:Int)=some (bT w - 1):=by
 unfold cM;have:=aEu N w hw N 0 (by omega) (by omega)
 rw[show bT 0 - 1=0 from rfl,show((0:Nat):Int)=0 from rfl] at this;rw[this,aa]
theorem aDG(N w:Nat)(hw:w<=8)(x:Int)(hx:0<=x/\x < 18446744073709551616)(s:List Int)(hs:s.length<=100000000000000):∀(k i:Nat),i<=w->w - i < k->eH N (w:Int) k (s++(leB w x).take i) (x / bT i) (i:Int)=some (s++leB w x)
 | 0,_,_,h=>by omega
 | k+1,i,hi,hk=>by
  rw[eH]
  by_cases h:i < w
  ·have hp:=lG i;have h0:0<=x / bT i:=Int.ediv_nonneg hx.1 (by omega)
   have h1:x / bT i<=x:=Int.ediv_le_self _ hx.1;have e1:U8 (d7 (x / bT i) 256)=U8 (shr .u64 x ((8*i:Nat):Int)):=by
    rw[shr8 _ _ (by omega),cx h0,U8_e,U8_e];omega
   have e2:U64 (d9 (x / bT i) 256)=x / bT (i+1):=by
    rw[div_s,cb h0,mU (by omega) (by omega)]
   have e3:(leB w x).take (i+1)=(leB w x).take i++[U8 (shr .u64 x ((8*i:Nat):Int))]:=tsm3 _ h;rw[dt (by omega),cond_true,eM (by simp[jC];omega),aa,e1,e2,jK (by omega),ar,<- e3]
   exact aDG N w hw x hx s hs k (i+1) (by omega) (by omega)
  ·obtain rfl:i=w:=by omega
   rw[df (by omega),cond_false,List.take_of_length_le (by rw[jC];omega)]
theorem putR(N:Nat)(b:List Int)(w:Nat)(hw0:1<=w)(hw:w<=8)(ns:List Int)(hns:u64L ns)(hb:b.length<=10000000000000)(hl:ns.length<=1000000000000)(hN:8 < N)(hlN:ns.length < N):cK N b (w:Int) ns=some (sM b w ns):=by
 unfold cK;rw[df (show ¬(w:Int) < 1 by omega),df (show ¬(w:Int) > 8 by omega),cond_false,aK,cond_false,eM (by simp;omega),aa,cq]
 have:=qD ns (by omega) (big w) (leB w) (([],3):List Int×Int) (λs i=>s.length<=10000000000000+8*i) (λk s i=>dO N ns (w:Int) k s i) (by intro s i h hs;simp[jC];omega) (λk s i h hs=>by
  have hx:=hns _ (bk h)
  rw[dO,aK,dt (by omega),cond_true,iQ h,aa,aDP N hN w hw,aa]
  have e:decide (ns[i] > bT w - 1)=big w ns[i]:=by
   unfold big;by_cases hb:bT w<=ns[i]
   ·rw[dt hb,dt (by omega)]
   ·rw[df hb,df (by omega)]
  rw[e]
  cases hbg:big w ns[i] with
  | true=>rfl
  | false=>
   have:=aDG N w hw ns[i] hx s (by omega) N 0 (by omega) (by omega)
   rw[List.take_zero,List.append_nil,show bT 0=1 from rfl,Int.ediv_one,show((0:Nat):Int)=0 from rfl] at this;rw[cond_false,cond_false,aa,this,aa]) (λk s=>by rw[dO,aK,df (by omega),cond_false]) N 0 b (by omega) (by omega) (by omega)
 rw[show((0:Nat):Int)=0 from rfl,bt] at this;rw[this,aa]
 unfold sM;cases ns.any (big w) <;> rfl
theorem sgnR(N:Nat)(b:List Int)(w:Nat)(hw0:1<=w)(hw:w<=8)(ns:List Int)(hns:aEn ns)(hb:b.length<=10000000000000)(hl:ns.length<=1000000000000)(hN:8 < N)(hlN:ns.length < N):eJ N b (w:Int) ns=some (xW b w ns):=by
 unfold eJ;have hp:=lG w;have hp2:bT w / 2*2=bT w:=by
  have:∀i:Fin 9,1<=i.val->bT i.val / 2*2=bT i.val:=by decide
  exact this ⟨w,by omega⟩ hw0
 have hp3:bT w<=18446744073709551616:=by
  have:∀i:Fin 9,bT i.val<=18446744073709551616:=by decide
  exact this ⟨w,by omega⟩
 have e3:I64 (U64 (d9 (bT w - 1) 2))=bT w / 2 - 1:=by
  rw[cb (by omega),mU (by omega) (by omega),jQ (by omega) (by omega)];omega
 rw[df (show ¬(w:Int) < 1 by omega),df (show ¬(w:Int) > 8 by omega),cond_false,aK,cond_false,aDP N hN w hw,aa,aK,e3]
 have:=qD ns (by omega) (pO w) (λx=>[x % bT w]) (([],3):List Int×Int) (λs i=>s.length=i) (λk s i=>cJ N ns (bT w / 2 - 1) (w:Int) k s i) (by intro s i h hs;simp;omega) (λk s i h hs=>by
  have hx:=hns _ (bk h)
  obtain⟨x0,x1⟩:=hx;have f:I64 (I64 (0 - (bT w / 2 - 1)) - 1) = -(bT w / 2):=by rw[jQ (x:=0 - (bT w / 2 - 1)) (by omega) (by omega),jQ (by omega) (by omega)];omega
  rw[cJ,aK,dt (by omega),cond_true,iQ h,aa,aa,aK,f]
  generalize ns[i]=x at *;have e:(cond (decide (x > bT w / 2 - 1)) (some true) (some (decide (x < -(bT w / 2)))))=some (pO w x):=by
   unfold pO;by_cases h1:bT w / 2<=x
   ·rw[dt (show x > bT w / 2 - 1 by omega),dt h1,Bool.or_true];rfl
   ·rw[df (show ¬x > bT w / 2 - 1 by omega),df h1,Bool.or_false];rfl
  rw[e,aa]
  cases hbg:pO w x with
  | true=>rfl
  | false=>
   unfold pO at hbg;rw[Bool.or_eq_false_iff,decide_eq_false_iff_not,decide_eq_false_iff_not] at hbg;obtain⟨b1,b2⟩:=hbg;have e2:(cond (decide (x < 0)) (ae (cM N (w:Int)) λr15=>ae (some x) λe16=>bQ (I64 (0 - I64 (e16+1))) λx17=>some (U64 (r15 - U64 x17))) (some (U64 x)))=some (x % bT w):=by
    by_cases hneg:x < 0
    ·rw[dt hneg,cond_true,aDP N hN w hw,aa,aa,aK,jQ (x:=x+1) (by omega) (by omega),jQ (x:=0 - (x+1)) (by omega) (by omega),mU (x:=0 - (x+1)) (by omega) (by omega),mU (by omega) (by omega)]
     have:x % bT w=x+bT w:=by
      rw[<- Int.add_emod_right,ck (by omega) (by omega)]
     rw[this]
     congr 1;omega
    ·rw[df hneg,cond_false,mU (by omega) (by omega),ck (by omega) (by omega)]
   rw[cond_false,cond_false,aa,aa,e2,aa,eM (by simp;omega),aa]) (λk s=>by rw[cJ,aK,df (by omega),cond_false]) N 0 [] rfl (by omega) (by omega)
 rw[show((0:Nat):Int)=0 from rfl,bt,cq] at this;rw[this,aa]
 unfold xW;cases ns.any (pO w) with
 | true=>rfl
 | false=>
  rw[cond_false,cond_false]
  show ae (cK N b (w:Int) (ns.flatMap λx=>[x % bT w])) _=_;rw[show(ns.flatMap λx=>[x % bT w])=ns.map (λx=>x % bT w) by
   clear this hns hl hlN
   induction ns with
   | nil=>rfl
   | cons a l ih=>simp[bq,ih]]
  rw[putR N b w hw0 hw _ (by intro y hy;obtain⟨x,_,rfl⟩:=cy.1 hy;exact modU w hw x) hb (by simpa using hl) hN (by simpa using hlN),aa]
set_option maxHeartbeats 4000000
def txt(l:List UInt8):ByteArray:=⟨l.toArray⟩
theorem aEZ(a b:List UInt8):txt a++txt b=txt (a++b):=by unfold txt;rw[ByteArray.mk_append_mk]
theorem tJ(l:List UInt8):(txt l).size=l.length:=by unfold txt;show l.toArray.size=_;simp
theorem fX{a b:List UInt8}(h:a.length+b.length<=1000000000):nB (txt a) (txt b)=some (txt (a++b)):=by
 unfold nB;rw[tJ,tJ,dt (by omega),cond_true,aEZ]
theorem aAW{k:Nat}(h:k < 10):aB5 aDZ (k:Int) ((k+1:Nat):Int)=some (txt [UInt8.ofNat (48+k)]):=by
 rcases(show k=0\/k=1\/k=2\/k=3\/k=4\/k=5\/k=6\/k=7\/k=8\/k=9 by omega) with rfl | rfl | rfl | rfl | rfl | rfl | rfl | rfl | rfl | rfl <;> rfl
theorem aDD(u:Nat)(h:u < 18446744073709551616):(Lib.decDigits u).length<=20:=by
 rw[Lib.decDigits_length];exact Lib.nDigits_le20 u h
theorem aAp(N:Nat):∀(k u:Nat),u < 10 ^ k->u < 9223372036854775808->bS N (k+1) (u:Int)=some (txt (Lib.decDigits u))
 | 0,u,h,_=>by
  obtain rfl:u=0:=by simpa using h
  rw[bS,cT,aK,show(((0:Nat):Int) == -9223372036854775808)=false from rfl,cond_false,df (by omega),cond_false,dt (by omega),cond_true]
  have:=aAW (k:=0) (by omega)
  rw[show I64 (((0:Nat):Int)+1)=((0+1:Nat):Int) by decide,this,aa,Lib.decDigits]
  rfl
 | k+1,u,h,h2=>by
  rw[bS,cT,aK,show((u:Int) == -9223372036854775808)=false by simp,cond_false,df (by omega),cond_false]
  by_cases c:u < 10
  ·rw[dt (by omega),cond_true,jK (by omega),aAW c,aa,Lib.decDigits,dif_pos c]
  ·have q1:d9 (u:Int) 10=((u / 10:Nat):Int):=by rw[cb (by omega)];omega
   have q2:d7 (u:Int) 10=((u % 10:Nat):Int):=by rw[cx (by omega)];omega
   have ld:=aDD (u / 10) (by omega)
   rw[df (by omega),cond_false,q1,q2,jQ (x:=((u / 10:Nat):Int)) (by omega) (by omega)]
   rw[aAp N k (u / 10) (by rw[fz] at h;omega) (by omega),aa,jK (by omega),aK,aAW (by omega),aa,fX (by simp;omega),aa]
   conv=>rhs;rw[Lib.decDigits,dif_neg c]
theorem aEg : aE7=txt (Lib.itoa (-9223372036854775808)):=by
 unfold Lib.itoa;rw[if_pos (by decide),show(-9223372036854775808:Int).natAbs=9223372036854775808 from rfl]
 iterate 18 rw[Lib.decDigits,dif_neg (by decide)]
 rw[Lib.decDigits,dif_pos (by decide)]
 rfl
theorem numE(N:Nat)(hN:40 < N){x:Int}(h:dI x):fL N x=some (txt (Lib.itoa x)):=by
 obtain⟨h0,h1⟩:=h;obtain⟨M,rfl⟩:∃M,N=M+2:=⟨N - 2,by omega⟩
 have big:(9223372036854775808:Nat)<=10 ^ M:=cr (by decide) (Nat.pow_le_pow_right (by decide) (show 20<=M by omega))
 unfold fL;by_cases c:x = -9223372036854775808
 ·subst c;rw[bS,cT,aK,show((-9223372036854775808:Int) == -9223372036854775808)=true from rfl,cond_true,aEg]
 by_cases d:x < 0
 ·obtain⟨u,hu⟩:=cm (show 0<=0 - x by omega)
  have hn:x.natAbs=u:=by omega
  have ld:=aDD u (by omega)
  rw[bS,cT,aK,show(x == -9223372036854775808)=false by simpa using c,cond_false,dt d,cond_true,hu,jQ (x:=(u:Int)) (by omega) (by omega)]
  rw[aAp (M+2) M u (by omega) (by omega),aa,show(ByteArray.mk #[45]:ByteArray)=txt [45] from rfl,fX (by simp;omega),aa]
  unfold Lib.itoa;rw[if_pos d,hn]
  rfl
 ·obtain⟨u,rfl⟩:=cm (show 0<=x by omega)
  have e:=aAp (M+2) (M+1) u (by rw[fz];omega) (by omega)
  rw[e]
  unfold Lib.itoa;rw[if_neg d,Int.toNat_natCast]
theorem aF4(x:Int)(h:dI x):(32 :: Lib.itoa x).length<=101:=by
 rw[ai]
 have:=tX x h.1 h.2;omega
theorem aFA(N:Nat)(hN:1000 < N)(l:List Int)(hl:l.length<=100)(h64:∀x∈l,dI x):∀(k i:Nat) (s:List UInt8),s.length<=100000+101*i->i<=l.length->l.length - i < k->dE N l k (txt s) (i:Int)=some (txt (s++eW (l.drop i)))
 | 0,_,_,_,_,h=>by omega
 | k+1,i,s,hs,hi,hk=>by
  rw[dE]
  by_cases c:i < l.length
  ·have hx:=h64 _ (bk c)
   have hx2:=aF4 _ hx;rw[ai] at hx2;rw[dt (by omega),aK,cond_true,show(ByteArray.mk #[32]:ByteArray)=txt [32] from rfl,fX (by simp;omega),aa,iQ c,aa,numE N (by omega) hx,aa,fX (by rw[an];simp;omega),aa,jK (by omega),aFA N hN l hl h64 k (i+1) _ (by simp only[an,ai,al];omega) (by omega) (by omega),bf c,show eW (l[i] :: l.drop (i+1))=(32 :: Lib.itoa l[i])++eW (l.drop (i+1)) by unfold eW;rw[bq]]
   simp only[ar,List.cons_append,cq]
  ·rw[df (by omega),aK,cond_false,bn (by omega)]
   simp[eW]
theorem oM(N:Nat)(hN:1000 < N)(s:List UInt8)(l:List Int)(hs:s.length<=100000)(hl:l.length<=100)(h64:∀x∈l,dI x):aU N (txt s) l=some (txt (s++eW l)):=by
 unfold aU;have:=aFA N hN l hl h64 N 0 s (by omega) (by omega) (by omega)
 rw[bt] at this;rw[show dE N l N (txt s) 0=_ from this,aa]
theorem lO{s:List UInt8}{l:List Int}(h0:s≠[])(hs:s.length<=100000)(hl:l.length<=100)(h64:∀x∈l,dI x):jE (txt s) l=some (txt (s++eW l)):=by
 unfold jE;have hne:s.length≠0:=by simpa using h0
 rw[tJ,dt hne,dt (by omega),dt (by omega),show l.all zT=true by
  rw[List.all_eq_true]
  intro x hx;have:=h64 x hx;unfold zT;rw[dt this.1,dt this.2];rfl]
 rfl
theorem rF(a b:List Int):eW (a++b)=eW a++eW b:=by unfold eW;rw[dm]
theorem oI : ∀(l:List Int),(∀x∈l,dI x)->(eW l).length<=200*l.length:=λl h=>rB l λx hx=>h x hx
theorem aDI : vD.data.toList.length=16:=rfl
theorem idx6{i:Nat}(h:i < 16):idx vD.data.toList (i:Int)=some (vD.data.toList.getD i 0):=by
 rw[aC7,dz,af (by rw[aDI];exact h)];rfl
theorem lo4{a:Nat}(h:a < 256):aCH .u8 (a:Int) 15=((a % 16:Nat):Int):=by
 unfold aCH;have:(bm IntKind.u8.bits (a:Int) &&& bm IntKind.u8.bits 15).toNat=a % 16:=by
  rw[BitVec.toNat_and,show(bm IntKind.u8.bits (a:Int)).toNat=a by
   rw[BitVec.ofInt_natCast,BitVec.toNat_ofNat];exact Nat.mod_eq_of_lt h,show(bm IntKind.u8.bits 15).toNat=2 ^ 4 - 1 from rfl,Nat.and_two_pow_sub_one_eq_mod]
 rw[this]
 show U8 _=_;rw[U8_e];omega
theorem hexE(N:Nat){a:List Int}(ha:kK a)(hl:a.length<=1000):∀(k i:Nat) (s:List Int),s.length<=2*i->i<=a.length->a.length - i < k->∃r:List Int,r.length<=2000/\fQ N a k s (i:Int)=some r/\dN N a k s (i:Int)=some r
 | 0,_,_,_,_,h=>by omega
 | k+1,i,s,hs,hi,hk=>by
  rw[fQ,dN]
  by_cases c:i < a.length
  ·have hx:=ha _ (bk c)
   obtain⟨x,e⟩:=cm hx.1;have hx2:x < 256:=by have:=hx.2;omega
   have q1:d9 (x:Int) 16=((x / 16:Nat):Int):=by rw[cb (by omega)];omega
   have q2:d7 (x:Int) 16=((x % 16:Nat):Int):=by rw[cx (by omega)];omega
   have q3:shr .u8 (x:Int) 4=((x / 16:Nat):Int):=by rw[aAK .u8 (x:Int) 4 4 rfl (by decide),show(2:Int) ^ 4=16 from rfl];omega
   have q4:U8 ((x / 16:Nat):Int)=((x / 16:Nat):Int):=by rw[U8_e];omega
   rw[dt (by omega),aK,aK,cond_true,cond_true,iQ c,e,aa,aa,q1,q4,q3,lo4 hx2,idx6 (by omega),aa,aa,aa,q2,idx6 (by omega),aa,aa,appO1 (by omega) (by simp),aa,aa,jK (by omega)]
   exact hexE N ha hl k (i+1) _ (by simp only[an,ai,al];omega) (by omega) (by omega)
  ·rw[df (by omega),aK,aK,cond_false,cond_false]
   exact⟨s,by omega,rfl,rfl⟩
theorem hexR(N:Nat)(hN:2000 < N){a:List Int}(ha:kK a)(hl:a.length<=1000):∃r:List UInt8,r.length<=2000/\iZ N a=some (txt r)/\dV N a=some (txt r):=by
 unfold iZ dV;rw[aK,aK]
 by_cases c:a.length=0
 ·rw[show((a.length:Int)==0)=true by simp[c],cond_true,cond_true]
  exact⟨[45],by simp,rfl,rfl⟩
 ·obtain⟨r,h1,h2,h3⟩:=hexE N ha hl N 0 [] (by simp) (by omega) (by omega)
  rw[show((a.length:Int)==0)=false by rw[beq_eq_false_iff_ne];omega,cond_false,cond_false,show fQ N a N [] 0=_ from h2,show dN N a N [] 0=_ from h3,aa]
  refine⟨r.map λx=>UInt8.ofNat x.toNat,by simpa using h1,rfl,rfl⟩
structure Fld where
 sg:Bool
 w:Nat
 v:Int
def Fld.ok(f:Fld):Bool:=cond f.sg (!(pO f.w f.v)) (decide (0<=f.v) && !(big f.w f.v))
def Fld.b(f:Fld):List Int:=leB f.w (f.v % bT f.w)
def okL(l:List Fld):Bool:=l.all Fld.ok
def bB(l:List Fld):List Int:=l.flatMap Fld.b
theorem xH(a b:List Fld):okL (a++b)=(okL a&&okL b):=by unfold okL;rw[List.all_append]
theorem aFW(a b:List Fld):bB (a++b)=bB a++bB b:=by unfold bB;rw[dm]
structure Wr{σ:Type}(z:σ)(b:List Int)(e:σ)(fs:List Fld)(n:Nat)(r:List Int×σ):Prop where
 len:r.1.length<=b.length+n
 good:e=z->okL fs=true->r=(b++bB fs,z)
 bad:¬(e=z/\okL fs=true)->r.2≠z
theorem Wr.seq{σ:Type}{z:σ}{b:List Int}{e:σ}{fs gs:List Fld}{n m:Nat}{r q:List Int×σ}(h:Wr z b e fs n r)(k:Wr z r.1 r.2 gs m q):Wr z b e (fs++gs) (n+m) q:=by
 refine⟨by have:=h.len;have:=k.len;omega,λh1 h2=>?_,λh1=>?_⟩
 ·rw[xH,Bool.and_eq_true] at h2;have g:=h.good h1 h2.1;have:=k.good (by rw[g]) h2.2;rw[this,g,aFW,ar]
 ·by_cases c:e=z/\okL fs=true
  ·have g:=h.good c.1 c.2;refine k.bad λd=>h1 ⟨c.1,?_⟩
   rw[xH,c.2,d.2];rfl
  ·exact k.bad λd=>h.bad c d.1
theorem Wr.nil{σ:Type}(z:σ)(b:List Int)(e:σ):Wr z b e [] 0 (b,e):=⟨by simp,λh _=>by rw[h];simp[bB],λh=>λq=>h ⟨q,rfl⟩⟩
theorem Wr.cast{σ:Type}{z:σ}{b:List Int}{e:σ}{fs gs:List Fld}{n m:Nat}{r:List Int×σ}(h:Wr z b e fs n r)(hf:fs=gs)(hn:n<=m):Wr z b e gs m r:=by
 subst hf;exact⟨by have:=h.len;omega,h.good,h.bad⟩
theorem Wr.same{b:List Int}{e:Int}{f:Bool}{fs:List Fld}{n m:Nat}{r:List Int×Int}{q:List Int×Bool}(h:Wr 0 b e fs n r)(k:Wr false b f fs m q)(he:e=0↔f=false):(r.2=0↔q.2=false)/\(r.2=0->r.1=q.1):=by
 by_cases c:e=0/\okL fs=true
 ·rw[h.good c.1 c.2,k.good (he.1 c.1) c.2]
  simp
 ·have h1:=h.bad c;have h2:=k.bad λd=>c ⟨he.2 d.1,d.2⟩
  exact⟨⟨λq=>absurd q h1,λq=>absurd q h2⟩,λq=>absurd q h1⟩
theorem aCy{x:Int}(h:dI x):u64L [U64 x]:=by
 intro y hy;rw[ak] at hy;rw[hy]
 exact⟨aFa x,aFU x⟩
def mQ(e a:Int):Int:=if e=0/\a≠0 then 2 else e
theorem aAH(N:Nat)(b1 b2:List Int)(a e:Int):bN N b1 b2 a e=some (mQ e a):=by
 unfold bN mQ;rw[aK]
 by_cases c:e=0
 ·rw[show(e==0)=true by simpa using c,cond_true]
  by_cases d:a=0
  ·rw[show(a != 0)=false by simpa using d,if_neg (by omega)];rfl
  ·rw[show(a != 0)=true by simpa using d,if_pos ⟨c,d⟩];rfl
 ·rw[show(e==0)=false by simpa using c,if_neg (by omega)];rfl
theorem aE6(N:Nat)(b1:List Int)(a e:Int):cZ N b1 a e=some (mQ e a):=aAH N b1 b1 a e
theorem oO{e a:Int}(h:e≠0\/a≠0):mQ e a≠0:=by
 unfold mQ;split
 ·decide
 ·omega
theorem put1V(N:Nat)(hN:100 < N)(b:List Int)(w:Nat)(hw0:1<=w)(hw:w<=8){x:Int}(hx:dI x)(h0:0<=x)(hb:b.length<=1000000):∃r,eN N b (w:Int) [U64 x]=some r/\r.1.length<=b.length+w/\(Fld.ok ⟨false,w,x⟩=true->r=(b++Fld.b ⟨false,w,x⟩,0))/\(Fld.ok ⟨false,w,x⟩=false->r.2≠0):=by
 have hu:U64 x=x:=mU h0 (by have:=hx.2;omega)
 refine⟨_,putP N b w hw0 hw _ (aCy hx) (by omega) (by simp) (by omega) (by simp;omega),?_⟩
 rw[hu]
 unfold sM Fld.ok Fld.b;rw[show([x]:List Int).any (big w)=big w x by simp,show(er (leB w) [x])=leB w x by simp]
 dsimp only;cases hc:big w x with
 | true=>
  refine⟨by simp,λh=>?_,λ_=>(show(3:Int)≠0 by decide)⟩
  rw[dt h0] at h;cases h
 | false=>
  have hlt:x < bT w:=by unfold big at hc;have:=of_decide_eq_false hc;omega
  refine⟨by rw[cond_false];simp[jC],λ_=>?_,λh=>?_⟩
  ·rw[cond_false,ck h0 hlt]
  ·rw[dt h0] at h;cases h
theorem aFB(N:Nat)(hN:1000 < N)(w:Nat)(hw0:1<=w)(hw:w<=8)(ns:List Int)(h64:∀x∈ns,dI x)(hl:ns.length<=100):∀(k i:Nat) (b:List Int) (e:Int),b.length<=100000+8*i->i<=ns.length->ns.length - i < k->∃o,bX N ns (w:Int) k b e (i:Int)=some o/\∃r:List Int×Int,(o=Sum.inl r\/o=Sum.inr r)/\Wr 0 b e ((ns.drop i).map λx=>⟨false,w,x⟩) (w*(ns.length - i)) r
 | 0,_,_,_,_,_,h=>by omega
 | k+1,i,b,e,hb,hi,hk=>by
  rw[bX]
  by_cases c:i < ns.length
  ·have hx:=h64 _ (bk c)
   rw[dt (by omega),aK,cond_true,iQ c,aa,bf c,List.map_cons]
   by_cases h0:ns[i] < 0
   ·rw[dt h0,cond_true,aE6,aa]
    refine⟨_,rfl,_,.inr rfl,by simp,λ_ h=>?_,λ_=>oO (.inr (by decide))⟩
    exfalso;unfold okL Fld.ok at h;rw[fv] at h;simp only[cond_false,df (show ¬0<=ns[i] by omega),Bool.false_and] at h;cases h
   ·obtain⟨r8,h1,h2,h3,h4⟩:=put1V N (by omega) b w hw0 hw hx (by omega) (by omega)
    rw[df h0,cond_false,h1,aa,aAH,aa,jK (by omega)]
    obtain⟨o,g1,r,g2,g3⟩:=aFB N hN w hw0 hw ns h64 hl k (i+1) r8.1 (mQ e r8.2) (by omega) (by omega) (by omega)
    refine⟨o,g1,r,g2,?_⟩
    have first:Wr 0 b e [⟨false,w,ns[i]⟩] w (r8.1,mQ e r8.2):=by
     refine⟨h2,λq1 q2=>?_,λq=>?_⟩
     ·have:=h3 (by simpa[okL] using q2)
      rw[this,q1]
      simp[bB,mQ]
     ·by_cases d:Fld.ok ⟨false,w,ns[i]⟩=true
      ·exact oO (.inl λq1=>q ⟨q1,by simpa[okL] using d⟩)
      ·exact oO (.inr (h4 (by simpa using d)))
    refine(first.seq g3).cast rfl ?_;rw[show ns.length - i=ns.length - (i+1)+1 by omega,gb]
    omega
  ·rw[df (by omega),aK,cond_false,bn (by omega)]
   exact⟨_,rfl,_,.inl rfl,(Wr.nil 0 b e).cast rfl (by omega)⟩
theorem kA(N:Nat)(hN:1000 < N)(w:Nat)(hw0:1<=w)(hw:w<=8)(ns:List Int)(h64:∀x∈ns,dI x)(hl:ns.length<=100)(b:List Int)(e:Int)(hb:b.length<=100000):∃r,aB N b (w:Int) ns e=some r/\Wr 0 b e (ns.map λx=>⟨false,w,x⟩) (8*ns.length) r:=by
 obtain⟨o,h1,r,h2,h3⟩:=aFB N hN w hw0 hw ns h64 hl N 0 b e (by omega) (by omega) (by omega)
 unfold aB;rw[show bX N ns (w:Int) N b e 0=_ from h1,aa]
 rw[bt,Nat.sub_zero] at h3;refine⟨r,?_,h3.cast rfl (cz _ hw)⟩
 rcases h2 with rfl | rfl <;> rfl
theorem sgnW(w:Nat)(b ns:List Int)(hw:w<=8):(xW b w ns).1.length<=b.length+w*ns.length/\(okL (ns.map λx=>⟨true,w,x⟩)=true->xW b w ns=(b++bB (ns.map λx=>⟨true,w,x⟩),0))/\(okL (ns.map λx=>⟨true,w,x⟩)=false->(xW b w ns).2≠0):=by
 have hb:okL (ns.map λx=>⟨true,w,x⟩) = !(ns.any (pO w)):=by
  unfold okL;rw[List.all_map]
  induction ns with
  | nil=>rfl
  | cons x l ih=>rw[fv,cj,ih,Bool.not_or];rfl
 have hp:=lG w;have hbig:(ns.map (λx=>x % bT w)).any (big w)=false:=by
  rw[List.any_eq_false]
  intro y hy;obtain⟨x,_,rfl⟩:=cy.1 hy;have:=fc x hp;unfold big;rw[df (by omega)]
  decide
 rw[hb]
 unfold xW sM;rw[hbig,cond_false]
 cases ns.any (pO w) with
 | true=>exact⟨by simp,λh=>(by cases h),λ_=>(show(3:Int)≠0 by decide)⟩
 | false=>
  refine⟨?_,λ_=>?_,λh=>(by cases h)⟩
  ·rw[cond_false]
   dsimp only;rw[an]
   have:∀l:List Int,(l.flatMap (leB w)).length=w*l.length:=by
    intro l
    induction l with
    | nil=>simp
    | cons x l ih=>rw[bq,an,jC,ih,ai,gb];omega
   rw[this,List.length_map]
   omega
  ·rw[cond_false]
   unfold bB Fld.b;rw[fg,fg]
theorem aEr(N:Nat)(hN:1000 < N)(w:Nat)(hw0:1<=w)(hw:w<=8)(ns:List Int)(h64:∀x∈ns,dI x)(hl:ns.length<=100)(b:List Int)(e:Int)(hb:b.length<=200000):∃r,dM N b (w:Int) ns=some r/\Wr 0 b e (ns.map λx=>⟨true,w,x⟩) (8*ns.length) (r.1,mQ e r.2):=by
 refine⟨_,sgnP N b w hw0 hw ns h64 (by omega) (by omega) (by omega) (by omega),?_⟩
 obtain⟨h1,h2,h3⟩:=sgnW w b ns hw;refine⟨cr h1 (Nat.add_le_add_left (cz _ hw) _),λq1 q2=>?_,λq=>?_⟩
 ·rw[h2 q2,q1];rfl
 ·by_cases d:okL (ns.map λx=>⟨true,w,x⟩)=true
  ·exact oO (.inl λq1=>q ⟨q1,d⟩)
  ·exact oO (.inr (h3 (by simpa using d)))
theorem fS(N:Nat)(hN:1000 < N)(w:Nat)(hw0:1<=w)(hw:w<=8){x:Int}(hx:dI x)(b:List Int)(e:Bool)(hb:b.length<=200000):∃r,aA N b (w:Int) x e=some r/\Wr false b e [⟨false,w,x⟩] 8 r:=by
 unfold aA;rw[putR N b w hw0 hw _ (aCy hx) (by omega) (by simp) (by omega) (by simp;omega),aa,aK]
 have ok1:okL [⟨false,w,x⟩]=(decide (0<=x) && !(big w x)):=by simp[okL,Fld.ok]
 by_cases h0:x < 0
 ·rw[dt h0,cond_true,cond_true]
  refine⟨_,rfl,by simp,λ_ h=>?_,λ_=>(show true≠false by decide)⟩
  rw[ok1,df (by omega)] at h;cases h
 ·have hu:U64 x=x:=mU (by omega) (by have:=hx.2;omega)
  rw[df h0,cond_false,hu]
  unfold sM;rw[show([x]:List Int).any (big w)=big w x by simp,show(er (leB w) [x])=leB w x by simp]
  cases hc:big w x with
  | true=>
   rw[cond_true]
   refine⟨_,rfl,by simp,λ_ h=>?_,λ_=>(show true≠false by decide)⟩
   rw[ok1,hc] at h;simp at h
  | false=>
   have hlt:x < bT w:=by unfold big at hc;have:=of_decide_eq_false hc;omega
   rw[cond_false]
   refine⟨_,rfl,by show(b++leB w x).length<=_;rw[an,jC];omega,λh _=>?_,λh=>?_⟩
   ·rw[h]
    show(b++leB w x,false)=_;unfold bB Fld.b;simp[ck (show 0<=x by omega) hlt]
   ·show e≠false;intro q;apply h;rw[ok1,hc,dt (by omega)]
    exact⟨q,rfl⟩
theorem uR(N:Nat)(hN:1000 < N)(w:Nat)(hw0:1<=w)(hw:w<=8){x:Int}(hx:dI x)(b:List Int)(e:Bool)(hb:b.length<=200000):∃r,aG N b (w:Int) x e=some r/\Wr false b e [⟨true,w,x⟩] 8 r:=by
 unfold aG;obtain⟨h1,h2,h3⟩:=sgnW w b [x] hw;rw[sgnR N b w hw0 hw _ (λy hy=>by rw[ak] at hy;rw[hy];exact hx) (by omega) (by simp) (by omega) (by simp;omega),aa]
 by_cases c:okL [⟨true,w,x⟩]=true
 ·have g:=h2 c;rw[g]
  refine⟨_,rfl,?_,λh _=>?_,λh=>?_⟩
  ·show(b++bB _).length<=_;rw[an]
   unfold bB Fld.b;simp[jC]
   omega
  ·rw[h];rfl
  ·intro q;exact h ⟨q,c⟩
 ·have g:=h3 (by simpa using c)
  rw[show((xW b w [x]).2 != 0)=true by simpa using g,cond_true]
  exact⟨_,rfl,by simp,λ_ h=>absurd h c,λ_=>(show true≠false by decide)⟩
def pF(p:aC):List Fld:=[⟨true,4,p.gX⟩,⟨true,4,p.gY⟩,⟨true,4,p.gZ⟩]
def p64(p:aC):Prop:=dI p.gX/\dI p.gY/\dI p.gZ
theorem yH(N:Nat)(hN:1000 < N){p:aC}(hp:p64 p)(b:List Int)(e:Bool)(hb:b.length<=190000):∃r,bD N b p e=some r/\Wr false b e (pF p) 24 r:=by
 unfold bD;obtain⟨r1,e1,w1⟩:=uR N hN 4 (by decide) (by decide) hp.1 b e (by omega)
 have l1:=w1.len;obtain⟨r2,e2,w2⟩:=uR N hN 4 (by decide) (by decide) hp.2.1 r1.1 r1.2 (by omega)
 have l2:=w2.len;obtain⟨r3,e3,w3⟩:=uR N hN 4 (by decide) (by decide) hp.2.2 r2.1 r2.2 (by omega)
 rw[show aG N b 4 p.gX e=_ from e1,aa,show aG N r1.1 4 p.gY r1.2=_ from e2,aa,show aG N r2.1 4 p.gZ r2.2=_ from e3,aa]
 exact⟨_,rfl,((w1.seq w2).seq w3).cast rfl (by decide)⟩
theorem aBE(N:Nat)(hN:1000 < N)(ps:List aC)(h64:∀p∈ps,p64 p)(hl:ps.length<=10):∀(k i:Nat) (b:List Int) (e:Int),b.length<=150000+24*i->i<=ps.length->ps.length - i < k->∃r,bU N ps k b e (i:Int)=some r/\Wr 0 b e ((ps.drop i).flatMap pF) (24*(ps.length - i)) r
 | 0,_,_,_,_,_,h=>by omega
 | k+1,i,b,e,hb,hi,hk=>by
  rw[bU]
  by_cases c:i < ps.length
  ·have hx:=h64 _ (bk c)
   obtain⟨r7,h1,h2⟩:=aEr N hN 4 (by decide) (by decide) [ps[i].gX,ps[i].gY,ps[i].gZ] (λx hx'=>by simp only[ba,av,or_false] at hx';rcases hx' with rfl | rfl | rfl;exact hx.1;exact hx.2.1;exact hx.2.2) (by simp) b e (by omega)
   have l2:=h2.len;simp only[ai,al] at l2;rw[dt (by omega),aK,cond_true,iQ c,aa,show dM N b 4 [ps[i].gX,ps[i].gY,ps[i].gZ]=_ from h1,aa,aAH,aa,jK (by omega)]
   obtain⟨r,g1,g2⟩:=aBE N hN ps h64 hl k (i+1) r7.1 (mQ e r7.2) (by omega) (by omega) (by omega)
   refine⟨r,g1,(h2.seq g2).cast ?_ ?_⟩
   ·rw[bf c,bq];rfl
   ·simp only[ai,al];omega
  ·rw[df (by omega),aK,cond_false,bn (by omega)]
   exact⟨_,rfl,(Wr.nil 0 b e).cast rfl (by omega)⟩
def vF(v:aY):List Fld:=[⟨false,1,v.gW⟩,⟨false,1,v.gH⟩,⟨false,1,v.gV⟩,⟨false,1,v.gA0⟩,⟨false,1,v.gA1⟩,⟨false,1,cond v.gA5 1 0⟩,⟨false,8,v.gO⟩]++([v.gE.gR,v.gE.gS,v.gE.gUp,v.gE.gU].flatMap pF++[⟨false,4,v.gE.gA4⟩,⟨false,4,v.gE.gA8⟩])
structure V64(v:aY):Prop where
 w:dI v.gW
 h:dI v.gH
 s:dI v.gV
 d:dI v.gA0
 c:dI v.gA1
 seed:0<=v.gO/\v.gO < 18446744073709551616
 eye:p64 v.gE.gR
 rt:p64 v.gE.gS
 up:p64 v.gE.gUp
 ah:p64 v.gE.gU
 ln:dI v.gE.gA4
 fo:dI v.gE.gA8
theorem aDa(c:Bool):(cond c (some (1:Int)) (some 0))=some (cond c 1 0):=by cases c <;> rfl
theorem aAv(c:Bool):dI (cond c 1 0):=by cases c <;> exact⟨by decide,by decide⟩
theorem aDR{x:Int}(h:0<=x/\x < 18446744073709551616)(b:List Int):sM b 8 [x]=(b++Fld.b ⟨false,8,x⟩,0)/\Fld.ok ⟨false,8,x⟩=true:=by
 have hp:bT 8=18446744073709551616:=rfl;have hb:big 8 x=false:=by unfold big;exact df (by omega)
 unfold sM Fld.ok Fld.b;dsimp only;rw[show([x]:List Int).any (big 8)=big 8 x by simp,show(er (leB 8) [x])=leB 8 x by simp,hb,dt h.1,ck h.1 (by omega)]
 exact⟨rfl,rfl⟩
theorem aEm{x:Int}(h:0<=x/\x < 18446744073709551616):u64L [x]:=by
 intro y hy;rw[ak] at hy;rw[hy];exact h
theorem aEz{σ:Type}{z:σ}{x:Int}(h:0<=x/\x < 18446744073709551616)(b:List Int)(e:σ):Wr z b e [⟨false,8,x⟩] 8 (b++Fld.b ⟨false,8,x⟩,e):=by
 obtain⟨_,ok⟩:=aDR h b;refine⟨?_,λq _=>?_,λq d=>?_⟩
 ·rw[an]
  unfold Fld.b;rw[jC]
  exact Nat.le_refl _
 ·rw[q];simp[bB]
 ·exact q ⟨d,by simpa[okL] using ok⟩
theorem viewC(N:Nat)(hN:1000 < N){v:aY}(hv:V64 v)(b:List Int)(e:Int)(hb:b.length<=90000):∃r,dD N b v e=some r/\Wr 0 b e (vF v) 200 r:=by
 unfold dD;obtain⟨r2,e2,w2⟩:=kA N hN 1 (by decide) (by decide) [v.gW,v.gH,v.gV,v.gA0,v.gA1,cond v.gA5 1 0] (λx hx=>by simp only[ba,av,or_false] at hx;rcases hx with rfl | rfl | rfl | rfl | rfl | rfl;exact hv.w;exact hv.h;exact hv.s;exact hv.d;exact hv.c;exact aAv _) (by simp) b e (by omega)
 have l2:=w2.len;simp only[ai,al] at l2;obtain⟨r5,e5,w5⟩:=aBE N hN [v.gE.gR,v.gE.gS,v.gE.gUp,v.gE.gU] (λx hx=>by simp only[ba,av,or_false] at hx;rcases hx with rfl | rfl | rfl | rfl;exact hv.eye;exact hv.rt;exact hv.up;exact hv.ah) (by simp) N 0 (r2.1++Fld.b ⟨false,8,v.gO⟩) r2.2 (by rw[an];unfold Fld.b;rw[jC];show _+8<=_;omega) (by omega) (by simp;omega)
 have l5:=w5.len;rw[an] at l5;unfold Fld.b at l5;rw[jC] at l5;simp only[ai,al] at l5
 replace l5:r5.1.length<=r2.1.length+8+24*4:=l5
 obtain⟨r6,e6,w6⟩:=kA N hN 4 (by decide) (by decide) [v.gE.gA4,v.gE.gA8] (λx hx=>by simp only[ba,av,or_false] at hx;rcases hx with rfl | rfl;exact hv.ln;exact hv.fo) (by simp) r5.1 r5.2 (by omega)
 have w3:=aEz (z:=(0:Int)) hv.seed r2.1 r2.2;rw[aDa,aa,show aB N b 1 [v.gW,v.gH,v.gV,v.gA0,v.gA1,cond v.gA5 1 0] e=_ from e2,aa,show eN N r2.1 8 [v.gO]=some (sM r2.1 8 [v.gO]) from putP N r2.1 8 (by decide) (by decide) _ (aEm hv.seed) (by omega) (by simp) (by omega) (by simp;omega),(aDR hv.seed r2.1).1,aa,aAH,aa]
 unfold dT;have k0:mQ r2.2 0=r2.2:=by unfold mQ;rw[if_neg (by omega)]
 rw[k0,show bU N [v.gE.gR,v.gE.gS,v.gE.gUp,v.gE.gU] N (r2.1++Fld.b ⟨false,8,v.gO⟩) r2.2 0=_ from e5,aa,aa,show aB N r5.1 4 [v.gE.gA4,v.gE.gA8] r5.2=_ from e6,aa]
 exact⟨_,rfl,(((w2.seq w3).seq w5).seq w6).cast (by unfold vF;simp) (by simp)⟩
theorem viewD(N:Nat)(hN:1000 < N){v:aY}(hv:V64 v)(b:List Int)(e:Bool)(hb:b.length<=90000):∃r,cF N b v e=some r/\Wr false b e (vF v) 300 r:=by
 unfold cF;obtain⟨r1,e1,w1⟩:=fS N hN 1 (by decide) (by decide) hv.w b e (by omega)
 have l1:=w1.len;obtain⟨r2,e2,w2⟩:=fS N hN 1 (by decide) (by decide) hv.h r1.1 r1.2 (by omega)
 have l2:=w2.len;obtain⟨r3,e3,w3⟩:=fS N hN 1 (by decide) (by decide) hv.s r2.1 r2.2 (by omega)
 have l3:=w3.len;obtain⟨r4,e4,w4⟩:=fS N hN 1 (by decide) (by decide) hv.d r3.1 r3.2 (by omega)
 have l4:=w4.len;obtain⟨r5,e5,w5⟩:=fS N hN 1 (by decide) (by decide) hv.c r4.1 r4.2 (by omega)
 have l5:=w5.len;obtain⟨r6,e6,w6⟩:=fS N hN 1 (by decide) (by decide) (aAv v.gA5) r5.1 r5.2 (by omega)
 have l6:=w6.len;have w7:=aEz (z:=false) hv.seed r6.1 r6.2;have l7:=w7.len;obtain⟨s1,f1,x1⟩:=yH N hN hv.eye (r6.1++Fld.b ⟨false,8,v.gO⟩) r6.2 (by dsimp only at l7;omega)
 have m1:=x1.len;obtain⟨s2,f2,x2⟩:=yH N hN hv.rt s1.1 s1.2 (by dsimp only at l7;omega)
 have m2:=x2.len;obtain⟨s3,f3,x3⟩:=yH N hN hv.up s2.1 s2.2 (by dsimp only at l7;omega)
 have m3:=x3.len;obtain⟨s4,f4,x4⟩:=yH N hN hv.ah s3.1 s3.2 (by dsimp only at l7;omega)
 have m4:=x4.len;obtain⟨s5,f5,x5⟩:=fS N hN 4 (by decide) (by decide) hv.ln s4.1 s4.2 (by dsimp only at l7;omega)
 have m5:=x5.len;obtain⟨s6,f6,x6⟩:=fS N hN 4 (by decide) (by decide) hv.fo s5.1 s5.2 (by dsimp only at l7;omega)
 rw[show aA N b 1 v.gW e=_ from e1,aa,show aA N r1.1 1 v.gH r1.2=_ from e2,aa,show aA N r2.1 1 v.gV r2.2=_ from e3,aa,show aA N r3.1 1 v.gA0 r3.2=_ from e4,aa,show aA N r4.1 1 v.gA1 r4.2=_ from e5,aa]
 have hc:(cond v.gA5 (ae (aA N r5.1 1 1 r5.2) λr7=>some ((r7.1,r7.2))) (ae (aA N r5.1 1 0 r5.2) λr8=>some ((r8.1,r8.2))))=some r6:=by
  cases h:v.gA5 with
  | true=>rw[h] at e6;rw[cond_true,show aA N r5.1 1 1 r5.2=_ from e6];rfl
  | false=>rw[h] at e6;rw[cond_false,show aA N r5.1 1 0 r5.2=_ from e6];rfl
 rw[hc,aa,show cK N r6.1 8 [v.gO]=some (sM r6.1 8 [v.gO]) from putR N r6.1 8 (by decide) (by decide) _ (aEm hv.seed) (by omega) (by simp) (by omega) (by simp;omega),(aDR hv.seed r6.1).1,aa,f1,aa,f2,aa,f3,aa,f4,aa,show aA N s4.1 4 v.gE.gA4 s4.2=_ from f5,aa,show aA N s5.1 4 v.gE.gA8 s5.2=_ from f6,aa]
 exact⟨_,rfl,((((((((((((w1.seq w2).seq w3).seq w4).seq w5).seq w6).seq w7).seq x1).seq x2).seq x3).seq x4).seq x5).seq x6).cast (by unfold vF;simp) (by decide)⟩
end Go.UK
