/- A part of the proof: what the functions of the program compute. -/
import Derived.Test.YtidamaopieegkaaGreatDoorJ1
import Derived.Test.YtidamaopieegkaaGreatDoorAJ2
open Bool renaming and_eq_true→aj
open List renaming all_cons→dp,any_cons→hV,append_assoc→af,drop_eq_getElem_cons→bp,drop_eq_nil_of_le→cr,drop_zero→d8,flatMap→ib,flatMap_cons→ce,flatMap_map→go,getElem_mem→bx,length_append→ax,length_cons→aq,length_nil→ay,map_cons→cm,mem_append→bt,mem_cons→bq,mem_map→bw,mem_singleton→az,nil_append→ew,not_mem_nil→bv
open Nat renaming ble_eq_true_of_le→db,mul_add→ik,mul_le_mul_right→co
open Option renaming bind→ae,bind_some→aa
namespace Go.UK
open Go Go.Proofs
set_option maxRecDepth 20000
set_option maxHeartbeats 16000000
set_option linter.all false
theorem U8_e(x:Int):U8 x=x % 256:=IntKind.wrap_u8 x
def isW(x:Int):Prop:=0<=x/\x < 4294967296
def isB(x:Int):Prop:=0<=x/\x < 256
theorem isB.w{x:Int}(h:isB x):isW x:=⟨h.1,by have:=h.2;omega⟩
theorem U8_b(x:Int):isB (U8 x):=by rw[U8_e];exact⟨by omega,by omega⟩
def aJ(m:List Int):Prop:=∀x∈m,isB x
theorem aJ.app{a b:List Int}(ha:aJ a)(hb:aJ b):aJ (a++b):=λx hx=>by
 rcases bt.1 hx with h | h
 ·exact ha x h
 ·exact hb x h
theorem aJ.getD{m:List Int}(h:aJ m)(i:Nat):isB (m.getD i 0):=by
 rw[List.getD_eq_getElem?_getD]
 by_cases hi:i < m.length
 ·rw[List.getElem?_eq_getElem hi];exact h _ (bx hi)
 ·rw[List.getElem?_eq_none (by omega)];exact⟨by simp,by simp⟩
theorem aJ.drop{m:List Int}(h:aJ m)(n:Nat):aJ (m.drop n):=λx hx=>h x (List.mem_of_mem_drop hx)
theorem aEL{α:Type}{l:List α}{n:Nat}(h:n<=l.length):nD l (n:Int) (l.length:Int)=some (l.drop n):=by
 rw[aCz (by omega) (by omega) (by omega)];simp
def leB(w:Nat)(x:Int):List Int:=(List.range w).map (λi=>U8 (shr .u64 x ((8*i:Nat):Int)))
theorem lJ(w:Nat)(x:Int):(leB w x).length=w:=by unfold leB;simp
theorem zP(w:Nat)(x:Int):aJ (leB w x):=by
 intro y hy;unfold leB at hy;obtain⟨i,_,rfl⟩:=bw.1 hy;exact U8_b _
def cJ(w:Nat):Int:=256 ^ w
theorem aAP(w:Nat):(2:Int) ^ (8*w)=cJ w:=by unfold cJ;rw[Int.pow_mul];rfl
theorem shr8(x:Int)(i:Nat)(h:i<=8):shr .u64 x ((8*i:Nat):Int)=x / cJ i:=by
 rw[aB3 .u64 x _ (8*i) rfl (by show 8*i<=64;omega),aAP]
theorem oM(w:Nat):0 < cJ w:=Int.pow_pos (by decide)
theorem yD(w:Nat):cJ (w+1)=cJ w*256:=Int.pow_succ _ _
theorem aAJ{α β ρ:Type}(l:List α)(hl:l.length < 9223372036854775807)(bad:α->Bool)(f:α->List β)(r:ρ)(I:List β->Nat->Prop)(F:Nat->List β->Int->Option (Sum (List β) ρ))
  (hI:∀s i (h:i < l.length),I s i->I (s++f l[i]) (i+1)) (h1:∀k s i (h:i < l.length),I s i->F (k+1) s (i:Int)=cond (bad l[i]) (some (.inr r)) (F k (s++f l[i]) (I64 ((i:Int)+1)))) (h2:∀k s,F (k+1) s (l.length:Int)=some (.inl s)) :
  ∀(k i:Nat) (s:List β),I s i->i<=l.length->l.length - i < k->F k s (i:Int)=some (cond ((l.drop i).any bad) (.inr r) (.inl (s++(l.drop i).flatMap f)))
 | 0,i,_,_,_,h=>by omega
 | k+1,i,s,hs,hi,hk=>by
  by_cases h:i < l.length
  ·rw[h1 k s i h hs,bp h,hV]
   cases hb:bad l[i] with
   | true=>rfl
   | false=>
    rw[cond_false,tG (by omega),aAJ l hl bad f r I F hI h1 h2 k (i+1) _ (hI s i h hs) (by omega) (by omega),Bool.false_or,ce,af]
  ·obtain rfl:i=l.length:=by omega
   rw[h2,List.drop_length];simp
def big(w:Nat)(x:Int):Bool:=decide (cJ w<=x)
def aBz(b:List Int)(w:Nat)(ns:List Int):List Int×Int:=cond (ns.any (big w)) ([],3) (b++ns.flatMap (leB w),0)
def u64L(ns:List Int):Prop:=∀x∈ns,0<=x/\x < 18446744073709551616
theorem putL2(N w:Nat)(hw:w<=8)(x:Int)(s:List Int)(hs:s.length<=100000000000000)(hN:8 < N):fJ N (w:Int) x N s 0=some (s++leB w x):=by
 have:=aD5 w (by omega) (λi=>[U8 (shr .u64 x ((8*i:Nat):Int))]) (λs i=>s.length<=100000000000000+i) (fJ N (w:Int) x) (by intro s i hi hs;simp;omega) (λk s i hi hs=>by
  have f:I64 (8*(i:Int))=((8*i:Nat):Int):=by rw[kN (by omega) (by omega)];omega
  rw[fJ,dt (by omega),cond_true,f,rN .u64 (by omega),aa,nU (by simp;omega),aa]) (λk s=>by rw[fJ,df (by omega),cond_false]) (N:=N) (by omega) (s:=s) (by simpa using hs)
 rw[this,yO]
 rfl
theorem aB8(N:Nat)(l:List Int)(h:l.length<=100000000000000):cU N l=some l:=by
 unfold cU;rw[nU (by simp;omega),aa,ew]
theorem big8{x:Int}(h:x < 18446744073709551616):big 8 x=false:=by
 unfold big;rw[show cJ 8=18446744073709551616 from rfl]
 exact df (by omega)
theorem putP(N:Nat)(b:List Int)(w:Nat)(hw0:1<=w)(hw:w<=8)(ns:List Int)(hns:u64L ns)(hb:b.length<=10000000000000)(hl:ns.length<=1000000000000)(hN:8 < N)(hlN:ns.length < N):eQ N b (w:Int) ns=some (aBz b w ns):=by
 unfold eQ;rw[df (show ¬(w:Int) < 1 by omega),df (show ¬(w:Int) > 8 by omega),cond_false,bW,cond_false,aB8 N b (by omega),aa]
 have:=aAJ ns (by omega) (big w) (leB w) (([],3):List Int×Int) (λs i=>s.length<=10000000000000+8*i) (λk s i=>iB N ns (w:Int) k s i) (by intro s i h hs;simp[lJ];omega) (λk s i h hs=>by
  have hx:=hns _ (bx h)
  have f:I64 (8*(w:Int))=((8*w:Nat):Int):=by rw[kN (by omega) (by omega)];omega
  rw[iB,bW,dt (by omega),cond_true,oJ h,aa]
  have e:(cond (decide ((w:Int) < 8)) (ae (xL .u64 ns[i] (I64 (8*(w:Int)))) λx9=>some (decide (x9 > 0))) (some false))=some (big w ns[i]):=by
   by_cases h8:w < 8
   ·rw[dt (by omega),cond_true,f,rN .u64 (by omega),aa,shr8 _ _ (by omega)]
    congr 1;unfold big;have hp:=oM w;by_cases hb:cJ w<=ns[i]
    ·have:1<=ns[i] / cJ w:=(Int.le_ediv_iff_mul_le hp).2 (by omega)
     rw[dt hb,dt (by omega)]
    ·have:ns[i] / cJ w < 1:=Int.ediv_lt_of_lt_mul hp (by omega)
     rw[df hb,df (by omega)]
   ·obtain rfl:w=8:=by omega
    rw[df (by omega),cond_false,big8 hx.2]
  rw[e,aa]
  cases hbg:big w ns[i] with
  | true=>rfl
  | false=>rw[cond_false,cond_false,putL2 N w hw _ _ (by omega) hN,aa]) (λk s=>by rw[iB,bW,df (by omega),cond_false]) N 0 b (by omega) (by omega) (by omega)
 rw[show((0:Nat):Int)=0 from rfl,d8] at this;rw[this,aa]
 unfold aBz;cases ns.any (big w) <;> rfl
def aAj(w:Nat)(x:Int):Bool:=decide (x < -(cJ w / 2))||decide (cJ w / 2<=x)
def in64L(ns:List Int):Prop:=∀x∈ns,dG x
def aDf(b:List Int)(w:Nat)(ns:List Int):List Int×Int:=cond (ns.any (aAj w)) ([],3) (aBz b w (ns.map (λx=>x % cJ w)))
theorem w8{w:Nat}(h0:1<=w)(h:w<=8):w=1\/w=2\/w=3\/w=4\/w=5\/w=6\/w=7\/w=8:=by omega
theorem shlI(x:Int)(m:Nat)(h:m<=64):shl .i64 x (m:Int)=I64 (x*(2:Int) ^ m):=by
 unfold shl;rw[show min (m:Int).toNat IntKind.i64.bits=m by simp[IntKind.bits];omega]
theorem sgnA{w:Nat}(h0:1<=w)(h:w<=8){x:Int}(hx:dG x):(shr .i64 (shl .i64 x ((64 - 8*w:Nat):Int)) ((64 - 8*w:Nat):Int) != x)=aAj w x:=by
 obtain⟨x0,x1⟩:=hx;rw[aB3 .i64 _ _ (64 - 8*w) rfl (by show 64 - 8*w<=64;omega),shlI _ _ (by omega),tZ]
 have key:∀b:Bool,(b=true↔((x*(2:Int) ^ (64 - 8*w)+9223372036854775808) % 18446744073709551616 - 9223372036854775808) / (2:Int) ^ (64 - 8*w)≠x)->(((x*(2:Int) ^ (64 - 8*w)+9223372036854775808) % 18446744073709551616 - 9223372036854775808) / (2:Int) ^ (64 - 8*w) != x)=b:=by
  intro b hb;cases b with
  | true=>simpa using hb
  | false=>simpa using hb
 apply key;unfold aAj;rw[Bool.or_eq_true,decide_eq_true_eq,decide_eq_true_eq]
 rcases w8 h0 h with rfl | rfl | rfl | rfl | rfl | rfl | rfl | rfl
 ·rw[show(2:Int) ^ (64 - 8*1)=72057594037927936 from rfl,show cJ 1 / 2=128 from rfl];omega
 ·rw[show(2:Int) ^ (64 - 8*2)=281474976710656 from rfl,show cJ 2 / 2=32768 from rfl];omega
 ·rw[show(2:Int) ^ (64 - 8*3)=1099511627776 from rfl,show cJ 3 / 2=8388608 from rfl];omega
 ·rw[show(2:Int) ^ (64 - 8*4)=4294967296 from rfl,show cJ 4 / 2=2147483648 from rfl];omega
 ·rw[show(2:Int) ^ (64 - 8*5)=16777216 from rfl,show cJ 5 / 2=549755813888 from rfl];omega
 ·rw[show(2:Int) ^ (64 - 8*6)=65536 from rfl,show cJ 6 / 2=140737488355328 from rfl];omega
 ·rw[show(2:Int) ^ (64 - 8*7)=256 from rfl,show cJ 7 / 2=36028797018963968 from rfl];omega
 ·rw[show(2:Int) ^ (64 - 8*8)=1 from rfl,show cJ 8 / 2=9223372036854775808 from rfl];omega
theorem sgnB{w:Nat}(h0:1<=w)(h:w<=8){x:Int}(hx:dG x):shr .u64 (shl .u64 (U64 x) ((64 - 8*w:Nat):Int)) ((64 - 8*w:Nat):Int)=x % cJ w:=by
 obtain⟨x0,x1⟩:=hx;rw[aB3 .u64 _ _ (64 - 8*w) rfl (by show 64 - 8*w<=64;omega),aHT _ _ (64 - 8*w) rfl (by omega),aC6]
 rcases w8 h0 h with rfl | rfl | rfl | rfl | rfl | rfl | rfl | rfl
 ·rw[show(2:Int) ^ (64 - 8*1)=72057594037927936 from rfl,show cJ 1=256 from rfl];omega
 ·rw[show(2:Int) ^ (64 - 8*2)=281474976710656 from rfl,show cJ 2=65536 from rfl];omega
 ·rw[show(2:Int) ^ (64 - 8*3)=1099511627776 from rfl,show cJ 3=16777216 from rfl];omega
 ·rw[show(2:Int) ^ (64 - 8*4)=4294967296 from rfl,show cJ 4=4294967296 from rfl];omega
 ·rw[show(2:Int) ^ (64 - 8*5)=16777216 from rfl,show cJ 5=1099511627776 from rfl];omega
 ·rw[show(2:Int) ^ (64 - 8*6)=65536 from rfl,show cJ 6=281474976710656 from rfl];omega
 ·rw[show(2:Int) ^ (64 - 8*7)=256 from rfl,show cJ 7=72057594037927936 from rfl];omega
 ·rw[show(2:Int) ^ (64 - 8*8)=1 from rfl,show cJ 8=18446744073709551616 from rfl];omega
theorem modU(w:Nat)(h:w<=8)(x:Int):0<=x % cJ w/\x % cJ w < 18446744073709551616:=by
 have hp:=oM w;have h1:=Int.emod_nonneg x (Int.ne_of_gt hp)
 have h2:=Int.emod_lt_of_pos x hp;have h3:cJ w<=18446744073709551616:=by
  have:∀i:Fin 9,cJ i.val<=18446744073709551616:=by decide
  exact this ⟨w,by omega⟩
 omega
theorem sgnP(N:Nat)(b:List Int)(w:Nat)(hw0:1<=w)(hw:w<=8)(ns:List Int)(hns:in64L ns)(hb:b.length<=10000000000000)(hl:ns.length<=1000000000000)(hN:8 < N)(hlN:ns.length < N):dC N b (w:Int) ns=some (aDf b w ns):=by
 unfold dC;rw[df (show ¬(w:Int) < 1 by omega),df (show ¬(w:Int) > 8 by omega),cond_false,bW,cond_false]
 have:=aAJ ns (by omega) (aAj w) (λx=>[x % cJ w]) (([],3):List Int×Int) (λs i=>s.length=i) (λk s i=>eV N ns (w:Int) k s i) (by intro s i h hs;simp;omega) (λk s i h hs=>by
  have hx:=hns _ (bx h)
  have f:I64 (64 - I64 (8*(w:Int)))=((64 - 8*w:Nat):Int):=by rw[kN (x:=8*(w:Int)) (by omega) (by omega),kN (by omega) (by omega)];omega
  rw[eV,bW,dt (by omega),cond_true,oJ h,aa,f,bW,tE .i64 (by omega),aa,bW,rN .i64 (by omega),aa,sgnA hw0 hw hx]
  cases hbg:aAj w ns[i] with
  | true=>rfl
  | false=>
   rw[cond_false,cond_false,bW,tE .u64 (by omega),aa,bW,rN .u64 (by omega),aa,sgnB hw0 hw hx,nU (by simp;omega),aa]) (λk s=>by rw[eV,bW,df (by omega),cond_false]) N 0 [] rfl (by omega) (by omega)
 rw[show((0:Nat):Int)=0 from rfl,d8,ew] at this;rw[this,aa]
 unfold aDf;cases ns.any (aAj w) with
 | true=>rfl
 | false=>
  rw[cond_false,cond_false]
  show ae (eQ N b (w:Int) (ns.flatMap λx=>[x % cJ w])) _=_;rw[show(ns.flatMap λx=>[x % cJ w])=ns.map (λx=>x % cJ w) by
   clear this hns hl hlN
   induction ns with
   | nil=>rfl
   | cons a l ih=>simp[ce,ih]]
  rw[putP N b w hw0 hw _ (by intro y hy;obtain⟨x,_,rfl⟩:=bw.1 hy;exact modU w hw x) hb (by simpa using hl) hN (by simpa using hlN),aa]
theorem aGY{i:Nat}(h:i<=8):cJ i<=18446744073709551616:=by
 have:∀i:Fin 9,cJ i.val<=18446744073709551616:=by decide
 exact this ⟨i,by omega⟩
set_option maxHeartbeats 4000000
structure Fld where
 sg:Bool
 w:Nat
 v:Int
def Fld.ok(f:Fld):Bool:=cond f.sg (!(aAj f.w f.v)) (decide (0<=f.v) && !(big f.w f.v))
def Fld.b(f:Fld):List Int:=leB f.w (f.v % cJ f.w)
def okL(l:List Fld):Bool:=l.all Fld.ok
def bB(l:List Fld):List Int:=l.flatMap Fld.b
theorem aV(a b:List Fld):okL (a++b)=(okL a&&okL b):=by unfold okL;rw[List.all_append]
theorem bE(a b:List Fld):bB (a++b)=bB a++bB b:=by unfold bB;rw[List.flatMap_append]
class Tw(σ:Type) where
 tw:σ->Prop
instance twI : Tw Int:=⟨λx=>x=2⟩
instance twB : Tw Bool:=⟨λx=>x=true⟩
structure Wr{σ:Type}[Tw σ](z:σ)(b:List Int)(e:σ)(fs:List Fld)(n:Nat)(r:List Int×σ):Prop where
 len:r.1.length<=b.length+n
 good:e=z->okL fs=true->r=(b++bB fs,z)
 bad:¬(e=z/\okL fs=true)->r.2≠z
 dom:(e=z\/Tw.tw e)->(r.2=z\/Tw.tw r.2)
theorem Wr.seq{σ:Type}[Tw σ]{z:σ}{b:List Int}{e:σ}{fs gs:List Fld}{n m:Nat}{r q:List Int×σ}(h:Wr z b e fs n r)(k:Wr z r.1 r.2 gs m q):Wr z b e (fs++gs) (n+m) q:=by
 refine⟨by have:=h.len;have:=k.len;omega,λh1 h2=>?_,λh1=>?_,λd=>k.dom (h.dom d)⟩
 ·rw[aV,aj] at h2;have g:=h.good h1 h2.1;have:=k.good (by rw[g]) h2.2;rw[this,g,bE,af]
 ·by_cases c:e=z/\okL fs=true
  ·have g:=h.good c.1 c.2;refine k.bad λd=>h1 ⟨c.1,?_⟩
   rw[aV,c.2,d.2];rfl
  ·exact k.bad λd=>h.bad c d.1
theorem Wr.nil{σ:Type}[Tw σ](z:σ)(b:List Int)(e:σ):Wr z b e [] 0 (b,e):=⟨by simp,λh _=>by rw[h];simp[bB],λh=>λq=>h ⟨q,rfl⟩,λd=>d⟩
theorem Wr.cast{σ:Type}[Tw σ]{z:σ}{b:List Int}{e:σ}{fs gs:List Fld}{n m:Nat}{r:List Int×σ}(h:Wr z b e fs n r)(hf:fs=gs)(hn:n<=m):Wr z b e gs m r:=by
 subst hf;exact⟨by have:=h.len;omega,h.good,h.bad,h.dom⟩
theorem Wr.same{b:List Int}{e:Int}{f:Bool}{fs:List Fld}{n m:Nat}{r:List Int×Int}{q:List Int×Bool}(h:Wr 0 b e fs n r)(k:Wr false b f fs m q)(he:e=0↔f=false):(r.2=0↔q.2=false)/\(r.2=0->r.1=q.1):=by
 by_cases c:e=0/\okL fs=true
 ·rw[h.good c.1 c.2,k.good (he.1 c.1) c.2]
  simp
 ·have h1:=h.bad c;have h2:=k.bad λd=>c ⟨he.2 d.1,d.2⟩
  exact⟨⟨λq=>absurd q h1,λq=>absurd q h2⟩,λq=>absurd q h1⟩
theorem aIK{x:Int}(h:dG x):u64L [U64 x]:=by
 intro y hy;rw[az] at hy;rw[hy]
 exact⟨aIX x,aHt x⟩
def mI(e a:Int):Int:=if e=0/\a≠0 then 2 else e
theorem aA6(N:Nat)(b1 b2:List Int)(a e:Int):cD N b1 b2 a e=some (mI e a):=by
 unfold cD mI;rw[bW]
 by_cases c:e=0
 ·rw[show(e==0)=true by simpa using c,cond_true]
  by_cases d:a=0
  ·rw[show(a != 0)=false by simpa using d,if_neg (by omega)];rfl
  ·rw[show(a != 0)=true by simpa using d,if_pos ⟨c,d⟩];rfl
 ·rw[show(e==0)=false by simpa using c,if_neg (by omega)];rfl
theorem aHJ(N:Nat)(b1:List Int)(a e:Int):dK N b1 a e=some (mI e a):=aA6 N b1 b1 a e
theorem rT{e a:Int}(h:e≠0\/a≠0):mI e a≠0:=by
 unfold mI;split
 ·decide
 ·omega
theorem uC(e a:Int)(h:e=0\/Tw.tw e):mI e a=0\/Tw.tw (mI e a):=by
 unfold mI;split
 ·exact .inr rfl
 ·exact h
theorem put1V(N:Nat)(hN:100 < N)(b:List Int)(w:Nat)(hw0:1<=w)(hw:w<=8){x:Int}(hx:dG x)(h0:0<=x)(hb:b.length<=100000000):∃r,eQ N b (w:Int) [U64 x]=some r/\r.1.length<=b.length+w/\(Fld.ok ⟨false,w,x⟩=true->r=(b++Fld.b ⟨false,w,x⟩,0))/\(Fld.ok ⟨false,w,x⟩=false->r.2≠0):=by
 have hu:U64 x=x:=aFZ h0 (by have:=hx.2;omega)
 refine⟨_,putP N b w hw0 hw _ (aIK hx) (by omega) (by simp) (by omega) (by simp;omega),?_⟩
 rw[hu]
 unfold aBz Fld.ok Fld.b;rw[show([x]:List Int).any (big w)=big w x by simp,show(ib (leB w) [x])=leB w x by simp]
 dsimp only;cases hc:big w x with
 | true=>
  refine⟨by simp,λh=>?_,λ_=>(show(3:Int)≠0 by decide)⟩
  rw[dt h0] at h;cases h
 | false=>
  have hlt:x < cJ w:=by unfold big at hc;have:=of_decide_eq_false hc;omega
  refine⟨by rw[cond_false];simp[lJ],λ_=>?_,λh=>?_⟩
  ·rw[cond_false,Int.emod_eq_of_lt h0 hlt]
  ·rw[dt h0] at h;cases h
theorem aG9(N:Nat)(hN:1000 < N)(w:Nat)(hw0:1<=w)(hw:w<=8)(ns:List Int)(h64:∀x∈ns,dG x)(hl:ns.length<=100):∀(k i:Nat) (b:List Int) (e:Int),b.length<=10000000+8*i->i<=ns.length->ns.length - i < k->∃o,cL N ns (w:Int) k b e (i:Int)=some o/\∃r:List Int×Int,(o=Sum.inl r\/o=Sum.inr r)/\Wr 0 b e ((ns.drop i).map λx=>⟨false,w,x⟩) (w*(ns.length - i)) r
 | 0,_,_,_,_,_,h=>by omega
 | k+1,i,b,e,hb,hi,hk=>by
  rw[cL]
  by_cases c:i < ns.length
  ·have hx:=h64 _ (bx c)
   rw[dt (by omega),bW,cond_true,oJ c,aa,bp c,cm]
   by_cases h0:ns[i] < 0
   ·rw[dt h0,cond_true,aHJ,aa]
    refine⟨_,rfl,_,.inr rfl,by simp,λ_ h=>?_,λ_=>rT (.inr (by decide)),uC _ _⟩
    exfalso;unfold okL Fld.ok at h;rw[dp] at h;simp only[cond_false,df (show ¬0<=ns[i] by omega),Bool.false_and] at h;cases h
   ·obtain⟨r8,h1,h2,h3,h4⟩:=put1V N (by omega) b w hw0 hw hx (by omega) (by omega)
    rw[df h0,cond_false,h1,aa,aA6,aa,tG (by omega)]
    obtain⟨o,g1,r,g2,g3⟩:=aG9 N hN w hw0 hw ns h64 hl k (i+1) r8.1 (mI e r8.2) (by omega) (by omega) (by omega)
    refine⟨o,g1,r,g2,?_⟩
    have first:Wr 0 b e [⟨false,w,ns[i]⟩] w (r8.1,mI e r8.2):=by
     refine⟨h2,λq1 q2=>?_,λq=>?_,uC _ _⟩
     ·have:=h3 (by simpa[okL] using q2)
      rw[this,q1]
      simp[bB,mI]
     ·by_cases d:Fld.ok ⟨false,w,ns[i]⟩=true
      ·exact rT (.inl λq1=>q ⟨q1,by simpa[okL] using d⟩)
      ·exact rT (.inr (h4 (by simpa using d)))
    refine(first.seq g3).cast rfl ?_;rw[show ns.length - i=ns.length - (i+1)+1 by omega,ik]
    omega
  ·rw[df (by omega),bW,cond_false,cr (by omega)]
   exact⟨_,rfl,_,.inl rfl,(Wr.nil 0 b e).cast rfl (by omega)⟩
theorem lQ(N:Nat)(hN:1000 < N)(w:Nat)(hw0:1<=w)(hw:w<=8)(ns:List Int)(h64:∀x∈ns,dG x)(hl:ns.length<=100)(b:List Int)(e:Int)(hb:b.length<=10000000):∃r,aI N b (w:Int) ns e=some r/\Wr 0 b e (ns.map λx=>⟨false,w,x⟩) (8*ns.length) r:=by
 obtain⟨o,h1,r,h2,h3⟩:=aG9 N hN w hw0 hw ns h64 hl N 0 b e (by omega) (by omega) (by omega)
 unfold aI;rw[show cL N ns (w:Int) N b e 0=_ from h1,aa]
 rw[d8,Nat.sub_zero] at h3;refine⟨r,?_,h3.cast rfl (co _ hw)⟩
 rcases h2 with rfl | rfl <;> rfl
theorem sgnW(w:Nat)(b ns:List Int)(hw:w<=8):(aDf b w ns).1.length<=b.length+w*ns.length/\(okL (ns.map λx=>⟨true,w,x⟩)=true->aDf b w ns=(b++bB (ns.map λx=>⟨true,w,x⟩),0))/\(okL (ns.map λx=>⟨true,w,x⟩)=false->(aDf b w ns).2≠0):=by
 have hb:okL (ns.map λx=>⟨true,w,x⟩) = !(ns.any (aAj w)):=by
  unfold okL;rw[List.all_map]
  induction ns with
  | nil=>rfl
  | cons x l ih=>rw[dp,hV,ih,Bool.not_or];rfl
 have hp:=oM w;have hbig:(ns.map (λx=>x % cJ w)).any (big w)=false:=by
  rw[List.any_eq_false]
  intro y hy;obtain⟨x,_,rfl⟩:=bw.1 hy;have:=Int.emod_lt_of_pos x hp;unfold big;rw[df (by omega)]
  decide
 rw[hb]
 unfold aDf aBz;rw[hbig,cond_false]
 cases ns.any (aAj w) with
 | true=>exact⟨by simp,λh=>(by cases h),λ_=>(show(3:Int)≠0 by decide)⟩
 | false=>
  refine⟨?_,λ_=>?_,λh=>(by cases h)⟩
  ·rw[cond_false]
   dsimp only;rw[ax]
   have:∀l:List Int,(l.flatMap (leB w)).length=w*l.length:=by
    intro l
    induction l with
    | nil=>simp
    | cons x l ih=>rw[ce,ax,lJ,ih,aq,ik];omega
   rw[this,List.length_map]
   omega
  ·rw[cond_false]
   unfold bB Fld.b;rw[go,go]
theorem aG7(N:Nat)(hN:1000 < N)(w:Nat)(hw0:1<=w)(hw:w<=8)(ns:List Int)(h64:∀x∈ns,dG x)(hl:ns.length<=100)(b:List Int)(e:Int)(hb:b.length<=20000000):∃r,dC N b (w:Int) ns=some r/\Wr 0 b e (ns.map λx=>⟨true,w,x⟩) (8*ns.length) (r.1,mI e r.2):=by
 refine⟨_,sgnP N b w hw0 hw ns h64 (by omega) (by omega) (by omega) (by omega),?_⟩
 obtain⟨h1,h2,h3⟩:=sgnW w b ns hw;refine⟨Nat.le_trans h1 (Nat.add_le_add_left (co _ hw) _),λq1 q2=>?_,λq=>?_,uC _ _⟩
 ·rw[h2 q2,q1];rfl
 ·by_cases d:okL (ns.map λx=>⟨true,w,x⟩)=true
  ·exact rT (.inl λq1=>q ⟨q1,d⟩)
  ·exact rT (.inr (h3 (by simpa using d)))
def pF(p:aG):List Fld:=[⟨true,4,p.gX⟩,⟨true,4,p.gY⟩,⟨true,4,p.gZ⟩]
def p64(p:aG):Prop:=dG p.gX/\dG p.gY/\dG p.gZ
theorem aCv(N:Nat)(hN:1000 < N)(ps:List aG)(h64:∀p∈ps,p64 p)(hl:ps.length<=10):∀(k i:Nat) (b:List Int) (e:Int),b.length<=15000000+24*i->i<=ps.length->ps.length - i < k->∃r,cH N ps k b e (i:Int)=some r/\Wr 0 b e ((ps.drop i).flatMap pF) (24*(ps.length - i)) r
 | 0,_,_,_,_,_,h=>by omega
 | k+1,i,b,e,hb,hi,hk=>by
  rw[cH]
  by_cases c:i < ps.length
  ·have hx:=h64 _ (bx c)
   obtain⟨r7,h1,h2⟩:=aG7 N hN 4 (by decide) (by decide) [ps[i].gX,ps[i].gY,ps[i].gZ] (λx hx'=>by simp only[bq,bv,or_false] at hx';rcases hx' with rfl | rfl | rfl;exact hx.1;exact hx.2.1;exact hx.2.2) (by simp) b e (by omega)
   have l2:=h2.len;simp only[aq,ay] at l2;rw[dt (by omega),bW,cond_true,oJ c,aa,show dC N b 4 [ps[i].gX,ps[i].gY,ps[i].gZ]=_ from h1,aa,aA6,aa,tG (by omega)]
   obtain⟨r,g1,g2⟩:=aCv N hN ps h64 hl k (i+1) r7.1 (mI e r7.2) (by omega) (by omega) (by omega)
   refine⟨r,g1,(h2.seq g2).cast ?_ ?_⟩
   ·rw[bp c,ce];rfl
   ·simp only[aq,ay];omega
  ·rw[df (by omega),bW,cond_false,cr (by omega)]
   exact⟨_,rfl,(Wr.nil 0 b e).cast rfl (by omega)⟩
def vF(v:aD):List Fld:=[⟨false,1,v.gW⟩,⟨false,1,v.gH⟩,⟨false,1,v.gB2⟩,⟨false,1,v.gB1⟩,⟨false,1,v.gA9⟩,⟨false,1,cond v.gA6 1 0⟩,⟨false,8,v.gA3⟩]++([v.gD.gA5,v.gD.gA2,v.gD.gUp,v.gD.gA1].flatMap pF++[⟨false,4,v.gD.gS⟩,⟨false,4,v.gD.gR⟩])
structure V64(v:aD):Prop where
 w:dG v.gW
 h:dG v.gH
 s:dG v.gB2
 d:dG v.gB1
 c:dG v.gA9
 seed:0<=v.gA3/\v.gA3 < 18446744073709551616
 eye:p64 v.gD.gA5
 rt:p64 v.gD.gA2
 up:p64 v.gD.gUp
 ah:p64 v.gD.gA1
 ln:dG v.gD.gS
 fo:dG v.gD.gR
theorem condI(c:Bool):(cond c (some (1:Int)) (some 0))=some (cond c 1 0):=by cases c <;> rfl
theorem aH1(c:Bool):dG (cond c 1 0):=by cases c <;> exact⟨by decide,by decide⟩
theorem aHL{x:Int}(h:0<=x/\x < 18446744073709551616)(b:List Int):aBz b 8 [x]=(b++Fld.b ⟨false,8,x⟩,0)/\Fld.ok ⟨false,8,x⟩=true:=by
 have hp:cJ 8=18446744073709551616:=rfl;have hb:big 8 x=false:=by unfold big;exact df (by omega)
 unfold aBz Fld.ok Fld.b;dsimp only;rw[show([x]:List Int).any (big 8)=big 8 x by simp,show(ib (leB 8) [x])=leB 8 x by simp,hb,dt h.1,Int.emod_eq_of_lt h.1 (by omega)]
 exact⟨rfl,rfl⟩
theorem seedU{x:Int}(h:0<=x/\x < 18446744073709551616):u64L [x]:=by
 intro y hy;rw[az] at hy;rw[hy];exact h
theorem seedW{σ:Type}[Tw σ]{z:σ}{x:Int}(h:0<=x/\x < 18446744073709551616)(b:List Int)(e:σ):Wr z b e [⟨false,8,x⟩] 8 (b++Fld.b ⟨false,8,x⟩,e):=by
 obtain⟨_,ok⟩:=aHL h b;refine⟨?_,λq _=>?_,λq d=>?_,λd=>d⟩
 ·rw[ax]
  unfold Fld.b;rw[lJ]
  exact Nat.le_refl _
 ·rw[q];simp[bB]
 ·exact q ⟨d,by simpa[okL] using ok⟩
theorem viewC(N:Nat)(hN:1000 < N){v:aD}(hv:V64 v)(b:List Int)(e:Int)(hb:b.length<=9000000):∃r,dV N b v e=some r/\Wr 0 b e (vF v) 200 r:=by
 unfold dV;obtain⟨r2,e2,w2⟩:=lQ N hN 1 (by decide) (by decide) [v.gW,v.gH,v.gB2,v.gB1,v.gA9,cond v.gA6 1 0] (λx hx=>by simp only[bq,bv,or_false] at hx;rcases hx with rfl | rfl | rfl | rfl | rfl | rfl;exact hv.w;exact hv.h;exact hv.s;exact hv.d;exact hv.c;exact aH1 _) (by simp) b e (by omega)
 have l2:=w2.len;simp only[aq,ay] at l2;obtain⟨r5,e5,w5⟩:=aCv N hN [v.gD.gA5,v.gD.gA2,v.gD.gUp,v.gD.gA1] (λx hx=>by simp only[bq,bv,or_false] at hx;rcases hx with rfl | rfl | rfl | rfl;exact hv.eye;exact hv.rt;exact hv.up;exact hv.ah) (by simp) N 0 (r2.1++Fld.b ⟨false,8,v.gA3⟩) r2.2 (by rw[ax];unfold Fld.b;rw[lJ];show _+8<=_;omega) (by omega) (by simp;omega)
 have l5:=w5.len;rw[ax] at l5;unfold Fld.b at l5;rw[lJ] at l5;simp only[aq,ay] at l5
 replace l5:r5.1.length<=r2.1.length+8+24*4:=l5
 obtain⟨r6,e6,w6⟩:=lQ N hN 4 (by decide) (by decide) [v.gD.gS,v.gD.gR] (λx hx=>by simp only[bq,bv,or_false] at hx;rcases hx with rfl | rfl;exact hv.ln;exact hv.fo) (by simp) r5.1 r5.2 (by omega)
 have w3:=seedW (z:=(0:Int)) hv.seed r2.1 r2.2;rw[condI,aa,show aI N b 1 [v.gW,v.gH,v.gB2,v.gB1,v.gA9,cond v.gA6 1 0] e=_ from e2,aa,show eQ N r2.1 8 [v.gA3]=some (aBz r2.1 8 [v.gA3]) from putP N r2.1 8 (by decide) (by decide) _ (seedU hv.seed) (by omega) (by simp) (by omega) (by simp;omega),(aHL hv.seed r2.1).1,aa,aA6,aa]
 unfold eG;have k0:mI r2.2 0=r2.2:=by unfold mI;rw[if_neg (by omega)]
 rw[k0,show cH N [v.gD.gA5,v.gD.gA2,v.gD.gUp,v.gD.gA1] N (r2.1++Fld.b ⟨false,8,v.gA3⟩) r2.2 0=_ from e5,aa,aa,show aI N r5.1 4 [v.gD.gS,v.gD.gR] r5.2=_ from e6,aa]
 exact⟨_,rfl,(((w2.seq w3).seq w5).seq w6).cast (by unfold vF;simp) (by simp)⟩
structure O64(o:aF):Prop where
 k:dG o.gE
 ha:dG o.gQ
 me:dG o.gC.gK
 ma:dG o.gC.gI
 te:dG o.gC.gG
 n:dG o.gC.gN
 m:∀x∈o.gC.gT.gM.toList,dG x
 x:dG o.gC.gT.gT.gX
 y:dG o.gC.gT.gT.gY
 z:dG o.gC.gT.gT.gZ
 la:dG o.gF
 v:V64 o.gB0
 q:dG o.gA7
 wh:dG o.gJ
 lb:0<=o.gA0/\o.gA0 < 4294967296
 mn:dG o.gA4
 ti:dG o.gA8
 bl:o.gL.length<=140737488351232
def zO(o:aF):List Int:=o.gC.gT.gM.toList++[o.gC.gT.gT.gX,o.gC.gT.gT.gY,o.gC.gT.gT.gZ]
def fO(o:aF):Nat->List Fld
 | 1=>[⟨false,1,o.gE⟩,⟨false,4,o.gQ⟩,⟨false,2,(o.gL.length:Int)⟩]
 | 2=>[⟨false,1,o.gE⟩,⟨false,4,o.gQ⟩]
 | 3=>[⟨false,1,o.gE⟩,⟨false,4,o.gC.gK⟩,⟨false,4,o.gC.gI⟩,⟨false,4,o.gC.gG⟩,⟨false,4,o.gC.gN⟩]++(zO o).map λx=>⟨true,8,x⟩
 | 4=>[⟨false,1,o.gE⟩,⟨false,4,o.gC.gK⟩,⟨false,4,o.gC.gI⟩,⟨false,4,o.gC.gG⟩,⟨false,4,o.gC.gN⟩]
 | 5=>[⟨false,1,o.gE⟩,⟨false,1,o.gF⟩]++(vF o.gB0++[⟨false,2,o.gA7⟩])
 | 6=>[⟨false,1,o.gE⟩,⟨false,1,o.gF⟩]
 | 7=>[⟨false,1,o.gE⟩,⟨false,1,o.gF⟩,⟨false,1,o.gJ⟩,⟨false,4,I64 o.gA0⟩,⟨false,4,o.gA4⟩]
 | 8=>[⟨false,1,o.gE⟩,⟨false,1,o.gF⟩,⟨false,1,o.gJ⟩]
 | 9=>[⟨false,1,o.gE⟩,⟨false,1,o.gF⟩]
 | 10=>[⟨false,1,o.gE⟩,⟨false,4,o.gA8⟩]
 | _=>[]
def tO(o:aF):Nat->List Int
 | 1=>o.gL
 | _=>[]
theorem yJ(o:aF):(zO o).length=12:=by unfold zO;simp
theorem zO_64{o:aF}(h:O64 o):∀x∈zO o,dG x:=by
 intro x hx;unfold zO at hx;rw[bt] at hx;rcases hx with hx | hx
 ·exact h.m x hx
 ·simp only[bq,bv,or_false] at hx;rcases hx with rfl | rfl | rfl
  ·exact h.x
  ·exact h.y
  ·exact h.z
theorem aEa{α:Type}{l r:List α}(h:l.length+r.length<=150000000000000):pK 1 l r=some (l++r):=by
 unfold pK;rw[show okA (l.length+r.length) 1=true by
  unfold okA;rw[Nat.mul_one]
  by_cases c:l.length+r.length<=140737488355328
  ·rw[db c];rfl
  ·rw[db (show 1024<=l.length+r.length by omega),db h];simp]
 rfl
theorem lenI{n:Nat}(h:n<=140737488351232):dG (n:Int):=⟨by omega,by omega⟩
theorem O64.lb64{o:aF}(h:O64 o):dG (I64 o.gA0):=by
 have:=h.lb;rw[kN (by omega) (by omega)]
 exact⟨by omega,by omega⟩
theorem aF0(N:Nat)(hN:1000 < N)(ns:List Int)(h64:∀p∈ns,dG p)(hl:ns.length<=20):∀(k i:Nat) (b:List Int) (e:Int),b.length<=15000000+8*i->i<=ns.length->ns.length - i < k->∃r,cV N ns k b e (i:Int)=some r/\Wr 0 b e ((ns.drop i).map λx=>⟨true,8,x⟩) (8*(ns.length - i)) r
 | 0,_,_,_,_,_,h=>by omega
 | k+1,i,b,e,hb,hi,hk=>by
  rw[cV]
  by_cases c:i < ns.length
  ·have hx:=h64 _ (bx c)
   obtain⟨r7,h1,h2⟩:=aG7 N hN 8 (by decide) (by decide) [ns[i]] (λx hx'=>by rw[az] at hx';rw[hx'];exact hx) (by simp) b e (by omega)
   have l2:=h2.len;simp only[aq,ay] at l2;rw[dt (by omega),bW,cond_true,oJ c,aa,show dC N b 8 [ns[i]]=_ from h1,aa,aA6,aa,tG (by omega)]
   obtain⟨r,g1,g2⟩:=aF0 N hN ns h64 hl k (i+1) r7.1 (mI e r7.2) (by omega) (by omega) (by omega)
   refine⟨r,g1,(h2.seq g2).cast ?_ ?_⟩
   ·rw[bp c,cm];rfl
   ·simp only[aq,ay];omega
  ·rw[df (by omega),bW,cond_false,cr (by omega)]
   exact⟨_,rfl,(Wr.nil 0 b e).cast rfl (by omega)⟩
theorem opC1(N:Nat)(hN:1000 < N){o:aF}(ho:O64 o)(hk:o.gE=1):∃r,aM N [] o 0=some r/\∃q,Wr 0 [] 0 (fO o 1) 1000 q/\r=(q.1++tO o 1,q.2):=by
 unfold aM;obtain⟨r1,e1,w1⟩:=lQ N hN 1 (by decide) (by decide) [o.gE] (λx hx=>by rw[az] at hx;rw[hx];exact ho.k) (by simp) [] 0 (by first | omega | simp)
 have l1:=w1.len;simp only[aq,ay] at l1;obtain⟨r2,e2,w2⟩:=lQ N hN 4 (by decide) (by decide) [o.gQ] (λx hx=>by rw[az] at hx;rw[hx];exact ho.ha) (by simp) r1.1 r1.2 (by first | omega | simp)
 have l2:=w2.len;simp only[aq,ay] at l2;obtain⟨r3,e3,w3⟩:=lQ N hN 2 (by decide) (by decide) [(o.gL.length:Int)] (λx hx=>by rw[az] at hx;rw[hx];exact(lenI ho.bl)) (by simp) r2.1 r2.2 (by first | omega | simp)
 have l3:=w3.len;simp only[aq,ay] at l3;rw[show aI N [] 1 [o.gE] 0=_ from e1,aa,hk,show((1:Int)==1)=true from rfl,cond_true,show aI N r1.1 4 [o.gQ] r1.2=_ from e2,aa,bW,show aI N r2.1 2 [(o.gL.length:Int)] r2.2=_ from e3,aa,aEa (by have:=ho.bl;omega),aa]
 exact⟨_,rfl,_,((w1.seq w2).seq w3).cast (by simp[fO]) (by simp),by simp[tO]⟩
theorem opC2(N:Nat)(hN:1000 < N){o:aF}(ho:O64 o)(hk:o.gE=2):∃r,aM N [] o 0=some r/\∃q,Wr 0 [] 0 (fO o 2) 1000 q/\r=(q.1++tO o 2,q.2):=by
 unfold aM;obtain⟨r1,e1,w1⟩:=lQ N hN 1 (by decide) (by decide) [o.gE] (λx hx=>by rw[az] at hx;rw[hx];exact ho.k) (by simp) [] 0 (by first | omega | simp)
 have l1:=w1.len;simp only[aq,ay] at l1;obtain⟨r2,e2,w2⟩:=lQ N hN 4 (by decide) (by decide) [o.gQ] (λx hx=>by rw[az] at hx;rw[hx];exact ho.ha) (by simp) r1.1 r1.2 (by first | omega | simp)
 have l2:=w2.len;simp only[aq,ay] at l2;rw[show aI N [] 1 [o.gE] 0=_ from e1,aa,hk,show((2:Int)==1)=false from rfl,cond_false,show((2:Int)==2)=true from rfl,cond_true,show aI N r1.1 4 [o.gQ] r1.2=_ from e2,aa]
 exact⟨_,rfl,_,(w1.seq w2).cast (by simp[fO]) (by simp),by simp[tO]⟩
theorem opC3(N:Nat)(hN:1000 < N){o:aF}(ho:O64 o)(hk:o.gE=3):∃r,aM N [] o 0=some r/\∃q,Wr 0 [] 0 (fO o 3) 1000 q/\r=(q.1++tO o 3,q.2):=by
 unfold aM;obtain⟨r1,e1,w1⟩:=lQ N hN 1 (by decide) (by decide) [o.gE] (λx hx=>by rw[az] at hx;rw[hx];exact ho.k) (by simp) [] 0 (by first | omega | simp)
 have l1:=w1.len;simp only[aq,ay] at l1;obtain⟨r2,e2,w2⟩:=lQ N hN 4 (by decide) (by decide) [o.gC.gK,o.gC.gI,o.gC.gG,o.gC.gN] (λx hx=>by simp only[bq,bv,or_false] at hx;rcases hx with rfl | rfl | rfl | rfl;exact ho.me;exact ho.ma;exact ho.te;exact ho.n) (by simp) r1.1 r1.2 (by first | omega | simp)
 have l2:=w2.len;simp only[aq,ay] at l2;obtain⟨r3,e3,w3⟩:=aF0 N hN (zO o) (zO_64 ho) (by rw[yJ];omega) N 0 r2.1 r2.2 (by omega) (by omega) (by rw[yJ];omega)
 rw[d8,yJ] at w3;rw[show aI N [] 1 [o.gE] 0=_ from e1,aa,hk,show((3:Int)==1)=false from rfl,cond_false,show((3:Int)==2)=false from rfl,cond_false,show((3:Int)==3)=true from rfl,cond_true,aa,cond_true,show aI N r1.1 4 [o.gC.gK,o.gC.gI,o.gC.gG,o.gC.gN] r1.2=_ from e2,aa,show((3:Int)==4)=false from rfl,cond_false,nU (by simp),aa,show cV N (o.gC.gT.gM.toList++[o.gC.gT.gT.gX,o.gC.gT.gT.gY,o.gC.gT.gT.gZ]) N r2.1 r2.2 0=_ from e3,aa]
 exact⟨_,rfl,_,((w1.seq w2).seq w3).cast (by simp[fO]) (by simp),by simp[tO]⟩
theorem opC4(N:Nat)(hN:1000 < N){o:aF}(ho:O64 o)(hk:o.gE=4):∃r,aM N [] o 0=some r/\∃q,Wr 0 [] 0 (fO o 4) 1000 q/\r=(q.1++tO o 4,q.2):=by
 unfold aM;obtain⟨r1,e1,w1⟩:=lQ N hN 1 (by decide) (by decide) [o.gE] (λx hx=>by rw[az] at hx;rw[hx];exact ho.k) (by simp) [] 0 (by first | omega | simp)
 have l1:=w1.len;simp only[aq,ay] at l1;obtain⟨r2,e2,w2⟩:=lQ N hN 4 (by decide) (by decide) [o.gC.gK,o.gC.gI,o.gC.gG,o.gC.gN] (λx hx=>by simp only[bq,bv,or_false] at hx;rcases hx with rfl | rfl | rfl | rfl;exact ho.me;exact ho.ma;exact ho.te;exact ho.n) (by simp) r1.1 r1.2 (by first | omega | simp)
 have l2:=w2.len;simp only[aq,ay] at l2;rw[show aI N [] 1 [o.gE] 0=_ from e1,aa,hk,show((4:Int)==1)=false from rfl,cond_false,show((4:Int)==2)=false from rfl,cond_false,show((4:Int)==3)=false from rfl,cond_false,show((4:Int)==4)=true from rfl,aa,cond_true,show aI N r1.1 4 [o.gC.gK,o.gC.gI,o.gC.gG,o.gC.gN] r1.2=_ from e2,aa]
 rw[cond_true]
 exact⟨_,rfl,_,(w1.seq w2).cast (by simp[fO]) (by simp),by simp[tO]⟩
theorem opC5(N:Nat)(hN:1000 < N){o:aF}(ho:O64 o)(hk:o.gE=5):∃r,aM N [] o 0=some r/\∃q,Wr 0 [] 0 (fO o 5) 1000 q/\r=(q.1++tO o 5,q.2):=by
 unfold aM;obtain⟨r1,e1,w1⟩:=lQ N hN 1 (by decide) (by decide) [o.gE] (λx hx=>by rw[az] at hx;rw[hx];exact ho.k) (by simp) [] 0 (by first | omega | simp)
 have l1:=w1.len;simp only[aq,ay] at l1;obtain⟨r2,e2,w2⟩:=lQ N hN 1 (by decide) (by decide) [o.gF] (λx hx=>by rw[az] at hx;rw[hx];exact ho.la) (by simp) r1.1 r1.2 (by first | omega | simp)
 have l2:=w2.len;simp only[aq,ay] at l2;obtain⟨r3,e3,w3⟩:=viewC N hN ho.v r2.1 r2.2 (by omega)
 have l3:=w3.len;obtain⟨r4,e4,w4⟩:=lQ N hN 2 (by decide) (by decide) [o.gA7] (λx hx=>by rw[az] at hx;rw[hx];exact ho.q) (by simp) r3.1 r3.2 (by first | omega | simp)
 have l4:=w4.len;simp only[aq,ay] at l4;rw[show aI N [] 1 [o.gE] 0=_ from e1,aa,hk,show((5:Int)==1)=false from rfl,cond_false,show((5:Int)==2)=false from rfl,cond_false,show((5:Int)==3)=false from rfl,cond_false,show((5:Int)==4)=false from rfl,aa,cond_false,show((5:Int)==5)=true from rfl,cond_true,show aI N r1.1 1 [o.gF] r1.2=_ from e2,aa,e3,aa,show aI N r3.1 2 [o.gA7] r3.2=_ from e4,aa]
 exact⟨_,rfl,_,(((w1.seq w2).seq w3).seq w4).cast (by simp[fO]) (by simp),by simp[tO]⟩
theorem opC6(N:Nat)(hN:1000 < N){o:aF}(ho:O64 o)(hk:o.gE=6):∃r,aM N [] o 0=some r/\∃q,Wr 0 [] 0 (fO o 6) 1000 q/\r=(q.1++tO o 6,q.2):=by
 unfold aM;obtain⟨r1,e1,w1⟩:=lQ N hN 1 (by decide) (by decide) [o.gE] (λx hx=>by rw[az] at hx;rw[hx];exact ho.k) (by simp) [] 0 (by first | omega | simp)
 have l1:=w1.len;simp only[aq,ay] at l1;obtain⟨r2,e2,w2⟩:=lQ N hN 1 (by decide) (by decide) [o.gF] (λx hx=>by rw[az] at hx;rw[hx];exact ho.la) (by simp) r1.1 r1.2 (by first | omega | simp)
 have l2:=w2.len;simp only[aq,ay] at l2;rw[show aI N [] 1 [o.gE] 0=_ from e1,aa,hk,show((6:Int)==1)=false from rfl,cond_false,show((6:Int)==2)=false from rfl,cond_false,show((6:Int)==3)=false from rfl,cond_false,show((6:Int)==4)=false from rfl,aa,cond_false,show((6:Int)==5)=false from rfl,cond_false,show((6:Int)==6)=true from rfl,cond_true,aa,cond_true,show aI N r1.1 1 [o.gF] r1.2=_ from e2,aa]
 exact⟨_,rfl,_,(w1.seq w2).cast (by simp[fO]) (by simp),by simp[tO]⟩
theorem opC7(N:Nat)(hN:1000 < N){o:aF}(ho:O64 o)(hk:o.gE=7):∃r,aM N [] o 0=some r/\∃q,Wr 0 [] 0 (fO o 7) 1000 q/\r=(q.1++tO o 7,q.2):=by
 unfold aM;obtain⟨r1,e1,w1⟩:=lQ N hN 1 (by decide) (by decide) [o.gE] (λx hx=>by rw[az] at hx;rw[hx];exact ho.k) (by simp) [] 0 (by first | omega | simp)
 have l1:=w1.len;simp only[aq,ay] at l1;obtain⟨r2,e2,w2⟩:=lQ N hN 1 (by decide) (by decide) [o.gF,o.gJ] (λx hx=>by simp only[bq,bv,or_false] at hx;rcases hx with rfl | rfl;exact ho.la;exact ho.wh) (by simp) r1.1 r1.2 (by first | omega | simp)
 have l2:=w2.len;simp only[aq,ay] at l2;obtain⟨r3,e3,w3⟩:=lQ N hN 4 (by decide) (by decide) [I64 o.gA0,o.gA4] (λx hx=>by simp only[bq,bv,or_false] at hx;rcases hx with rfl | rfl;exact ho.lb64;exact ho.mn) (by simp) r2.1 r2.2 (by first | omega | simp)
 have l3:=w3.len;simp only[aq,ay] at l3;rw[show aI N [] 1 [o.gE] 0=_ from e1,aa,hk,show((7:Int)==1)=false from rfl,cond_false,show((7:Int)==2)=false from rfl,cond_false,show((7:Int)==3)=false from rfl,cond_false,show((7:Int)==4)=false from rfl,aa,cond_false,show((7:Int)==5)=false from rfl,cond_false,show((7:Int)==6)=false from rfl,cond_false,show((7:Int)==9)=false from rfl,aa,cond_false,show((7:Int)==7)=true from rfl,cond_true,show aI N r1.1 1 [o.gF,o.gJ] r1.2=_ from e2,aa,show aI N r2.1 4 [I64 o.gA0,o.gA4] r2.2=_ from e3,aa]
 exact⟨_,rfl,_,((w1.seq w2).seq w3).cast (by simp[fO]) (by simp),by simp[tO]⟩
theorem opC8(N:Nat)(hN:1000 < N){o:aF}(ho:O64 o)(hk:o.gE=8):∃r,aM N [] o 0=some r/\∃q,Wr 0 [] 0 (fO o 8) 1000 q/\r=(q.1++tO o 8,q.2):=by
 unfold aM;obtain⟨r1,e1,w1⟩:=lQ N hN 1 (by decide) (by decide) [o.gE] (λx hx=>by rw[az] at hx;rw[hx];exact ho.k) (by simp) [] 0 (by first | omega | simp)
 have l1:=w1.len;simp only[aq,ay] at l1;obtain⟨r2,e2,w2⟩:=lQ N hN 1 (by decide) (by decide) [o.gF,o.gJ] (λx hx=>by simp only[bq,bv,or_false] at hx;rcases hx with rfl | rfl;exact ho.la;exact ho.wh) (by simp) r1.1 r1.2 (by first | omega | simp)
 have l2:=w2.len;simp only[aq,ay] at l2;rw[show aI N [] 1 [o.gE] 0=_ from e1,aa,hk,show((8:Int)==1)=false from rfl,cond_false,show((8:Int)==2)=false from rfl,cond_false,show((8:Int)==3)=false from rfl,cond_false,show((8:Int)==4)=false from rfl,aa,cond_false,show((8:Int)==5)=false from rfl,cond_false,show((8:Int)==6)=false from rfl,cond_false,show((8:Int)==9)=false from rfl,aa,cond_false,show((8:Int)==7)=false from rfl,cond_false,show((8:Int)==8)=true from rfl,cond_true,show aI N r1.1 1 [o.gF,o.gJ] r1.2=_ from e2,aa]
 exact⟨_,rfl,_,(w1.seq w2).cast (by simp[fO]) (by simp),by simp[tO]⟩
theorem opC9(N:Nat)(hN:1000 < N){o:aF}(ho:O64 o)(hk:o.gE=9):∃r,aM N [] o 0=some r/\∃q,Wr 0 [] 0 (fO o 9) 1000 q/\r=(q.1++tO o 9,q.2):=by
 unfold aM;obtain⟨r1,e1,w1⟩:=lQ N hN 1 (by decide) (by decide) [o.gE] (λx hx=>by rw[az] at hx;rw[hx];exact ho.k) (by simp) [] 0 (by first | omega | simp)
 have l1:=w1.len;simp only[aq,ay] at l1;obtain⟨r2,e2,w2⟩:=lQ N hN 1 (by decide) (by decide) [o.gF] (λx hx=>by rw[az] at hx;rw[hx];exact ho.la) (by simp) r1.1 r1.2 (by first | omega | simp)
 have l2:=w2.len;simp only[aq,ay] at l2;rw[show aI N [] 1 [o.gE] 0=_ from e1,aa,hk,show((9:Int)==1)=false from rfl,cond_false,show((9:Int)==2)=false from rfl,cond_false,show((9:Int)==3)=false from rfl,cond_false,show((9:Int)==4)=false from rfl,aa,cond_false,show((9:Int)==5)=false from rfl,cond_false,show((9:Int)==6)=false from rfl,cond_false,show((9:Int)==9)=true from rfl,aa,cond_true,show aI N r1.1 1 [o.gF] r1.2=_ from e2,aa]
 exact⟨_,rfl,_,(w1.seq w2).cast (by simp[fO]) (by simp),by simp[tO]⟩
theorem opC10(N:Nat)(hN:1000 < N){o:aF}(ho:O64 o)(hk:o.gE=10):∃r,aM N [] o 0=some r/\∃q,Wr 0 [] 0 (fO o 10) 1000 q/\r=(q.1++tO o 10,q.2):=by
 unfold aM;obtain⟨r1,e1,w1⟩:=lQ N hN 1 (by decide) (by decide) [o.gE] (λx hx=>by rw[az] at hx;rw[hx];exact ho.k) (by simp) [] 0 (by first | omega | simp)
 have l1:=w1.len;simp only[aq,ay] at l1;obtain⟨r2,e2,w2⟩:=lQ N hN 4 (by decide) (by decide) [o.gA8] (λx hx=>by rw[az] at hx;rw[hx];exact ho.ti) (by simp) r1.1 r1.2 (by first | omega | simp)
 have l2:=w2.len;simp only[aq,ay] at l2;rw[show aI N [] 1 [o.gE] 0=_ from e1,aa,hk,show((10:Int)==1)=false from rfl,cond_false,show((10:Int)==2)=false from rfl,cond_false,show((10:Int)==3)=false from rfl,cond_false,show((10:Int)==4)=false from rfl,aa,cond_false,show((10:Int)==5)=false from rfl,cond_false,show((10:Int)==6)=false from rfl,cond_false,show((10:Int)==9)=false from rfl,aa,cond_false,show((10:Int)==7)=false from rfl,cond_false,show((10:Int)==8)=false from rfl,cond_false,show((10:Int)==10)=true from rfl,cond_true,show aI N r1.1 4 [o.gA8] r1.2=_ from e2,aa]
 exact⟨_,rfl,_,(w1.seq w2).cast (by simp[fO]) (by simp),by simp[tO]⟩
theorem opCn(N:Nat)(hN:1000 < N){o:aF}(ho:O64 o)(hk:o.gE < 1\/10 < o.gE):∃r,aM N [] o 0=some r/\r.2=2:=by
 unfold aM;obtain⟨r1,e1,w1⟩:=lQ N hN 1 (by decide) (by decide) [o.gE] (λx hx=>by rw[az] at hx;rw[hx];exact ho.k) (by simp) [] 0 (by simp)
 have f:∀j:Int,1<=j->j<=10->(o.gE==j)=false:=λj _ _=>by rw[beq_eq_false_iff_ne];omega
 rw[show aI N [] 1 [o.gE] 0=_ from e1,aa,f 1 (by decide) (by decide),f 2 (by decide) (by decide),f 3 (by decide) (by decide),f 4 (by decide) (by decide),f 5 (by decide) (by decide),f 6 (by decide) (by decide),f 7 (by decide) (by decide),f 8 (by decide) (by decide),f 9 (by decide) (by decide),f 10 (by decide) (by decide),cond_false,cond_false,cond_false,aa,cond_false,cond_false,cond_false,aa,cond_false,cond_false,cond_false,aHJ,aa]
 exact⟨_,rfl,(uC _ _ (w1.dom (.inl rfl))).resolve_left (rT (.inr (by decide)))⟩
theorem aFC{o:aF}(h:¬(o.gE < 1\/10 < o.gE)):∃k:Nat,o.gE=(k:Int)/\1<=k/\k<=10:=⟨o.gE.toNat,by omega,by omega,by omega⟩
theorem tens{k:Nat}(h:1<=k)(h':k<=10):k=1\/k=2\/k=3\/k=4\/k=5\/k=6\/k=7\/k=8\/k=9\/k=10:=by omega
theorem opCk(N:Nat)(hN:1000 < N){o:aF}(ho:O64 o){k:Nat}(hk:o.gE=(k:Int))(h1:1<=k)(h2:k<=10):∃r,aM N [] o 0=some r/\∃q,Wr 0 [] 0 (fO o k) 1000 q/\r=(q.1++tO o k,q.2):=by
 rcases tens h1 h2 with rfl | rfl | rfl | rfl | rfl | rfl | rfl | rfl | rfl | rfl
 ·exact opC1 N hN ho hk
 ·exact opC2 N hN ho hk
 ·exact opC3 N hN ho hk
 ·exact opC4 N hN ho hk
 ·exact opC5 N hN ho hk
 ·exact opC6 N hN ho hk
 ·exact opC7 N hN ho hk
 ·exact opC8 N hN ho hk
 ·exact opC9 N hN ho hk
 ·exact opC10 N hN ho hk
theorem sumL{α β γ:Type}(a:α)(f:α->γ)(g:β->γ):oL (.inl a) f g=f a:=rfl
def opB(o:aF):List Int:=bB (fO o o.gE.toNat)++tO o o.gE.toNat
def gO(o:aF):Prop:=1<=o.gE/\o.gE<=10/\okL (fO o o.gE.toNat)=true
theorem aEO{o:aF}(h:okL (fO o 1)=true):o.gL.length < 65536:=by
 simp only[fO,okL,dp,List.all_nil,Bool.and_true,aj] at h;have h:=h.2.2;unfold Fld.ok at h;rw[cond_false,aj] at h;have h:=h.2;unfold big at h;simp only[Bool.not_eq_true',decide_eq_false_iff_not,show cJ 2=65536 from rfl] at h;omega
theorem aID{o:aF}{k:Nat}(h:okL (fO o k)=true):(tO o k).length<=65535:=by
 unfold tO;split
 ·have:=aEO h;omega
 ·simp
end Go.UK
