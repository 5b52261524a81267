/- A part of the proof: what the functions of the program compute. -/
import Derived.Test.YtmmabhkichiikaaGreatJ2
open Int renaming ediv_le_self→j7,ediv_nonneg→ck,emod_lt_of_pos→cm,emod_nonneg→ct,eq_ofNat_of_zero_le→bm,le_refl→ff,mul_le_mul_of_nonneg_right→eo,tdiv→d7,tdiv_eq_ediv_of_nonneg→dp,toNat_natCast→bn
open List renaming Perm→fp,append_assoc→av,getElem?_append_left→bd,getElem?_append_right→ci,getElem?_eq_getElem→af,getElem?_eq_some_iff→fh,getElem?_set_ne→da,getElem?_set_self→dc,getElem_mem→bh,getElem_of_mem→co,getElem_set_ne→jv,getElem_set_self→jc,length_append→ar,length_set→ce,length_take→bo,map_append→d9,mem_append→b9,mem_cons_of_mem→gm,mem_cons_self→k9,mem_of_getElem?→az,mem_or_eq_of_mem_set→iv,mem_singleton→c9,nil_append→fc,nodup_append→kg,perm_append_comm→fo,sum_append→l8,take_length→ku,take_of_length_le→fm,take_zero→lc
open Nat renaming beq_refl→i5,le_refl→ay
open Option renaming bind→aa,bind_some→ae
namespace Go.UK
open Go Go.Proofs
set_option maxRecDepth 20000
set_option maxHeartbeats 2000000
set_option linter.all false
theorem T.loopG{σ ρ:Type}{n:Nat}(I:Nat->σ->Prop)(Q:ρ->Prop){F:Nat->σ->Int->Option ρ}
  (hstep:∀k s i,i < n->I i s->(∀s',I (i+1) s'->T (F k s' ((i+1:Nat):Int)) Q)->T (F (k+1) s (i:Int)) Q) (hend:∀k s,I n s->T (F (k+1) s (n:Int)) Q) :
  ∀(k i:Nat) (s:σ),I i s->i<=n->n - i < k->T (F k s (i:Int)) Q
 | 0,i,_,_,_,h=>by omega
 | k+1,i,s,hs,hi,hk=>by
  by_cases h:i < n
  ·exact hstep k s i h hs λs' h'=>T.loopG I Q hstep hend k (i+1) s' h' (by omega) (by omega)
  ·obtain rfl:i=n:=by omega
   exact hend _ _ hs
theorem T.loopG0{σ ρ:Type}{n:Nat}(I:Nat->σ->Prop)(Q:ρ->Prop){F:Nat->σ->Int->Option ρ}
  (hstep:∀k s i,i < n->I i s->(∀s',I (i+1) s'->T (F k s' ((i+1:Nat):Int)) Q)->T (F (k+1) s (i:Int)) Q) (hend:∀k s,I n s->T (F (k+1) s (n:Int)) Q) {N:Nat} (hN:n < N) {s:σ} (hs:I 0 s):T (F N s 0) Q:=
 T.loopG I Q hstep hend N 0 s hs (by omega) (by omega)
theorem T.true{α:Type}{o:Option α}{P:α->Prop}(h:T o P):T o (λ_=>True):=h.mono λ_ _=>trivial
theorem aGM(N:Nat){a b:Int}(ha:cD a)(hb:cD b):T (iX N a b) wok:=by
 obtain⟨w,e,h,_⟩:=aNF N ha hb;exact⟨w,e,h⟩
theorem aO3{x y c:Int}(hx:0<=x)(hx':x < 18446744073709551616)(hy:0<=y)(hy':y < 18446744073709551616)(hc:0<=c)(hc':c<=1):T (aAz x y c) (λr=>0<=r.1/\r.1 < 18446744073709551616/\0<=r.2/\r.2<=1):=by
 unfold aAz;rw[dt hx,dt hy,dt hc,dt hc']
 exact⟨_,rfl,by dsimp only;omega,by dsimp only;omega,by dsimp only;omega,by dsimp only;omega⟩
theorem aTC(k:Nat){w:aT}{y:Int}(hw:wok w)(hy:cD y):T (rO (k+3) w y) (λr=>wok r.1/\cD r.2.1):=by
 obtain⟨⟨w1,w2⟩,w3,w4⟩:=hw;unfold rO;refine T.cond (λ_=>T.ret ⟨⟨z64,by decide,by decide⟩,z64⟩) (λhc=>?_)
 have hy0:y≠0:=by simpa using hc
 refine T.bind (P:=λp=>0<=p.1/\p.1 < 18446744073709551616/\0<=p.2/\p.2 < 18446744073709551616) ?_ λp hp=>?_
 ·refine T.cond (λ_=>?_) (λ_=>T.ret ⟨aCU _,aEU _,w3,w4⟩)
  obtain⟨h',l',e,a1,a2,a3,a4,_⟩:=aIc (k+3) (h:=U64 w.gHi) (l:=w.gLo) (aCU _) (aEU _) w3 w4;exact T.eq e (T.ret ⟨a1,a2,a3,a4⟩)
 obtain⟨p1,p2,p3,p4⟩:=hp;refine T.eq (wsz (k+3) hy) ?_;have hY:0 < (if y < 0 then -y else y)/\(if y < 0 then -y else y) < 18446744073709551616:=by obtain⟨y1,y2⟩:=hy;split <;> omega
 dsimp only;generalize (if y < 0 then -y else y)=Y at *;obtain⟨Y1,Y2⟩:=hY;refine T.eq (aL2 (k+3) Y1 p1 p2) ?_;refine T.eq (aSL k Y1 Y2 (ct _ (by omega)) (cm _ Y1) p3 p4) ?_;dsimp only;have q1:0<=p.1 / Y/\p.1 / Y < 18446744073709551616:=⟨ck p1 (by omega),Int.lt_of_le_of_lt (j7 _ p1) p2⟩
 have m1:=ct p.1 (show Y≠0 by omega)
 have m2:=cm p.1 Y1;have q2:0<=(p.1 % Y*18446744073709551616+p.2) / Y:=ck (by omega) (by omega)
 have q3:(p.1 % Y*18446744073709551616+p.2) / Y < 18446744073709551616:=by
  rw[Int.ediv_lt_iff_lt_mul Y1]
  generalize p.1 % Y=m at *;omega
 generalize (p.1 % Y*18446744073709551616+p.2) / Y=Q at *;generalize (p.1 % Y*18446744073709551616+p.2) % Y=R at *;generalize p.1 / Y=P1 at *;refine T.bind (P:=λp=>0<=p.1/\p.1 < 18446744073709551616/\0<=p.2.1/\p.2.1 < 18446744073709551616) ?_ λp6 h6=>?_
 ·simp only[aO]
  refine T.cond (λ_=>?_) (λ_=>T.ret ⟨q1.1,q1.2,q2,q3⟩)
  refine T.bind (aO3 q2 q3 (by decide) (by decide) (by decide) (by decide)) λr9 h9=>T.ret ⟨aCU _,aEU _,h9.1,h9.2.1⟩
 simp only[aO]
 refine T.bind (aT7 (k+3) _ h6.1 h6.2.1 h6.2.2.1 h6.2.2.2) λr11 h11=>?_;refine T.cond (λ_=>T.ret ⟨⟨z64,by decide,by decide⟩,z64⟩) (λ_=>?_)
 refine T.bind (P:=λ_=>True) (T.cond (λ_=>T.ret trivial) (λ_=>T.ret trivial)) λp12 _=>T.ret ⟨h11,cG _⟩
theorem aIZ(k:Nat){a b y:Int}(ha:cD a)(hb:cD b)(hy:cD y):T (kJ (k+3) a b y) cD:=by
 unfold kJ;refine T.cond (λ_=>T.ret z64) (λ_=>?_)
 refine T.bind (aGM _ ha hb) λr1 h1=>T.bind (aTC k h1 hy) λr2 h2=>T.bind (aIX _ h2.1) λr3 h3=>?_;refine T.cond (λ_=>T.ret h3.1) (λ_=>T.cond (λ_=>T.ret ⟨by decide,by decide⟩) (λ_=>T.ret ⟨by decide,by decide⟩))
theorem wofT(N:Nat){a:Int}(ha:cD a):T (xP N a) wok:=by
 unfold xP;obtain⟨h1,h2⟩:=ha;refine T.ret ⟨?_,aCU _,aEU _⟩
 show -9223372036854775808<=shr .i64 a 63/\shr .i64 a 63<=9223372036854775807;rw[aOx]
 omega
theorem aPT(N:Nat)(a b:aT):T (wK N a b) (λ_=>True):=by
 unfold wK;simp only[aO]
 refine T.cond (λ_=>T.ret trivial) (λ_=>T.bind (P:=λ_=>True) (T.cond (λ_=>T.ret trivial) (λ_=>T.ret trivial)) λ_ _=>T.cond (λ_=>T.ret trivial) (λ_=>T.ret trivial))
theorem aSZ(N:Nat)(l:List aT)(h:∀w∈l,wok w)(hl:l.length < N)(hb:l.length < 1000000):T (yY N l) (λr=>wok r.1):=by
 unfold yY;have w0:wok (aT.mk 0 0):=⟨z64,by decide,by decide⟩
 refine T.bind (T.loopG0 (n:=l.length) (λ_ s=>wok s) (λr=>match r with | .inl s=>wok s | .inr p=>wok p.1) (F:=sG N l) (λk s i hi hs hk=>?_) (λk s hs=>?_) hl w0) λo ho=>?_
 ·rw[sG,aO,dt (by omega),cond_true,eP,af hi,ae]
  have he:=h _ (bh hi)
  refine T.bind (aO3 hs.2.1 hs.2.2 he.2.1 he.2.2 (by decide) (by decide)) λr6 h6=>T.bind (aO3 (aCU _) (aEU _) (aCU _) (aEU _) h6.2.2.1 h6.2.2.2) λr7 h7=>?_;simp only[aO]
  refine T.cond (λ_=>T.ret w0) (λ_=>?_)
  rw[cW (by omega)]
  exact hk _ ⟨cG _,h6.1,h6.2.1⟩
 ·rw[sG,aO,df (by omega),cond_false]
  exact T.ret hs
 ·cases o with
  | inl s=>exact T.ret ho
  | inr p=>exact T.ret ho
theorem aUO(N:Nat)(l:List Int)(h:∀x∈l,cD x)(hl:l.length < N)(hb:l.length < 1000000):T (lC N l) cD:=by
 unfold lC;refine T.bind (T.loopG0 (n:=l.length) (λ_ s=>cD s) cD (F:=nZ N l) (λk s i hi hs hk=>?_) (λk s hs=>?_) hl z64) λo ho=>T.ret ho
 ·rw[nZ,aO,dt (by omega),cond_true,eP,af hi,ae]
  refine T.eq (aJy hs (h _ (bh hi))) ?_;rw[cW (by omega)]
  exact hk _ (dD _)
 ·rw[nZ,aO,df (by omega),cond_false]
  exact T.ret hs
theorem aEc(k:Nat)(l:List aA)(h:∀x∈l,vin x)(hl:l.length < k+3)(hb:l.length < 1000000):T (jY (k+3) l) vin:=by
 unfold jY;refine T.bind (T.loopG0 (n:=l.length) (λ_ s=>vin s) vin (F:=kU (k+3) l) (λk' s i hi hs hk=>?_) (λk s hs=>?_) hl ⟨⟨by decide,by decide⟩,⟨by decide,by decide⟩,⟨by decide,by decide⟩⟩) λo ho=>T.ret ho
 ·rw[kU,aO,dt (by omega),cond_true,eP,af hi,ae]
  refine T.eq (aSi k hs (h _ (bh hi))) ?_;rw[cW (by omega)]
  exact hk _ ⟨dD _,dD _,dD _⟩
 ·rw[kU,aO,df (by omega),cond_false]
  exact T.ret hs
theorem aUM(k:Nat)(l:List aA)(h:∀x∈l,vin x)(hl:l.length < k+3)(hb:l.length < 1000):T (lW (k+3) l) vin:=by
 refine⟨_,aIH k l h hl hb,?_⟩
 have:∀(l:List aA) (a:aA),vin a->vin (l.foldl aJL a):=by
  intro l
  induction l with
  | nil=>intro a ha;exact ha
  | cons x l ih=>intro a _;exact ih _ (uT _ _)
 exact this l _ ⟨z64,z64,z64⟩
theorem aQ9(k:Nat){u v:aA}(hu:vin u)(hv:vin v):T (uH (k+4) u v) cD:=by
 unfold uH;refine T.bind (aEc (k+1) _ (by intro x hx;simp at hx;rcases hx with rfl | rfl;exact hu;exact hv) (by simp) (by simp)) λr hr=>?_;refine T.bind (aUO _ _ (by intro x hx;simp at hx;rcases hx with rfl | rfl | rfl;exact hr.1;exact hr.2.1;exact hr.2.2) (by simp) (by simp)) λr2 h2=>T.ret h2
theorem wok0{x:Int}(h:cD x):wok (aT.mk x 0):=⟨h,ff _,show(0:Int) < 18446744073709551616 by decide⟩
theorem wval0{x:Int}(h:0<=x):0<=vH (aT.mk x 0):=by show 0<=x*18446744073709551616+0;omega
theorem aMQ(N:Nat)(a:Int):T (rB N a) (λr => -1073741824<=r/\r<=1073741824):=by
 unfold rB;simp only[aO,wI,tR]
 exact T.ret ⟨by omega,by omega⟩
theorem aLH(k:Nat){a b:Int}(ha:cD a)(hb:cD b):T (mQ (k+3) a b) cD:=by
 unfold mQ;refine T.bind (aTC k (w:=aT.mk a 0) (wok0 ha) hb) λr1 h1=>T.bind (aIX _ h1.1) λr2 h2=>T.ret h2.1
theorem aTE{a:Int}(h:-1073741824<=a/\a<=1073741824):0<=a*a/\a*a<=1152921504606846976:=by
 have h0:a*a=(a.natAbs:Int)*(a.natAbs:Int):=by rw[<- Int.natAbs_mul_self' a]
 have h1:a.natAbs<=1073741824:=by omega
 have h2:a.natAbs*a.natAbs<=1073741824*1073741824:=Nat.mul_le_mul h1 h1;rw[h0]
 constructor
 ·exact_mod_cast Nat.zero_le _
 ·have:((a.natAbs*a.natAbs:Nat):Int)<=((1073741824*1073741824:Nat):Int):=by exact_mod_cast h2
  rw[Int.natCast_mul] at this;exact this
theorem aCD(k:Nat)(p:aB):T (iQ (k+65) p) vin:=by
 unfold iQ;refine T.bind (aMQ _ _) λr1 h1=>T.bind (aMQ _ _) λr2 h2=>T.bind (aMQ _ _) λr3 h3=>?_;simp only[aO]
 have s1:=aTE h1;have s2:=aTE h2;have s3:=aTE h3;have hx:0<=I64 (I64 (I64 (r1*r1)+I64 (r2*r2))+I64 (r3*r3))/\I64 (I64 (I64 (r1*r1)+I64 (r2*r2))+I64 (r3*r3))<=9223372036854775807:=by
  generalize r1*r1=a at *;generalize r2*r2=b at *;generalize r3*r3=c at *;rw[bD (x:=a) (by omega) (by omega),bD (x:=b) (by omega) (by omega),bD (x:=c) (by omega) (by omega),bD (x:=a+b) (by omega) (by omega),bD (by omega) (by omega)]
  omega
 generalize I64 (I64 (I64 (r1*r1)+I64 (r2*r2))+I64 (r3*r3))=X at *;obtain⟨r,e,_⟩:=aVH k (w:=aT.mk X 0) (wok0 ⟨by omega,hx.2⟩) (wval0 hx.1)
 refine T.eq e ?_;refine T.cond (λ_=>T.ret ⟨z64,z64,z64⟩) (λ_=>?_)
 have c:∀{r:Int},(-1073741824<=r/\r<=1073741824)->cD r:=λh=>⟨by omega,by omega⟩
 refine T.bind (aLH (k+62) (c h1) (cG _)) λ_ a=>T.bind (aLH (k+62) (c h2) (cG _)) λ_ b=>T.bind (aLH (k+62) (c h3) (cG _)) λ_ d=>T.ret ⟨a,b,d⟩
theorem aLz(N:Nat){a:Int}(ha:cD a):T (qK N a) wok:=by
 unfold qK;exact T.bind (aGM _ ha ha) λr h=>T.ret h
theorem aQQ(k:Nat){v:aA}(hv:vin v):T (rN (k+65) v) cD:=by
 unfold rN;obtain⟨a,b,c⟩:=hv;refine T.bind (aLz _ a) λr1 h1=>T.bind (aLz _ b) λr2 h2=>T.bind (aLz _ c) λr3 h3=>T.bind (aSZ _ _ (by intro x hx;simp at hx;rcases hx with rfl | rfl | rfl;exact h1;exact h2;exact h3) (by simp) (by simp)) λr4 h4=>?_;refine T.cond (λ_=>T.ret ⟨by decide,by decide⟩) (λ_=>?_)
 simp only[aO]
 refine T.bind (P:=λ_=>True) ?_ λr5 _=>T.ret (cG _)
 by_cases h:r4.1.gHi < 0
 ·unfold wQ;rw[dt h,cond_true]
  exact T.ret trivial
 ·obtain⟨r,e,_⟩:=aVH k (w:=r4.1) h4 (by obtain⟨_,q,_⟩:=h4;show 0<=r4.1.gHi*18446744073709551616+r4.1.gLo;omega)
  exact⟨_,e,trivial⟩
theorem aJl{α:Type}(l:List α)(G:α->Option Int)(P:α->Prop){F:Nat->Int->Option (Sum Unit Int)}
  (hF:∀k i,F (k+1) i=aR (decide (i < ((l.length:Int)))) λx=>cond x (aa (idx l i) λe=>aa (G e) λr=>cond (r != 0) (some (Sum.inr r)) (F k (I64 (i+1)))) (some (Sum.inl (()))))
  (hG:∀x∈l,T (G x) (λr=>r=0->P x)) {N:Nat} (hN:l.length < N) (hl:l.length < 1000000) :
  T (aa (F N 0) λo=>kG o (λ_=>some 0) (λr=>some r)) (λr=>r=0->∀x∈l,P x):=by
 refine T.bind (T.loopG0 (n:=l.length) (λi _=>∀j,(h:j < l.length)->j < i->P l[j]) (λo=>match o with | .inl _=>∀x∈l,P x | .inr r=>r≠0) (F:=λk (_:Unit) i=>F k i) (λk s i hi hs hk=>?_) (λk s hs=>?_) hN (s:=()) (λj _ h=>absurd h (by omega))) λo ho=>?_
 ·rw[hF,aO,dt (by omega),cond_true,eP,af hi,ae]
  refine T.bind (hG _ (bh hi)) λr hr=>?_;refine T.cond (λhc=>T.ret (by simpa using hc)) (λhc=>?_)
  rw[cW (by omega)]
  refine hk () λj h hj=>?_;by_cases e:j=i
  ·subst e;exact hr (by simpa using hc)
  ·exact hs j h (by omega)
 ·rw[hF,aO,df (by omega),cond_false]
  refine T.ret λx hx=>?_;obtain⟨j,h,rfl⟩:=co hx;exact hs j h h
 ·cases o with
  | inl _=>exact T.ret λ_=>ho
  | inr r=>exact T.ret λe=>absurd e ho
theorem aRk{α:Type}(l:List α)(G:α->Option Bool)(P:α->Prop){F:Nat->Int->Option (Sum Unit Int)}
  (hF:∀k i,F (k+1) i=aR (decide (i < ((l.length:Int)))) λx=>cond x (aa (idx l i) λe=>aa (G e) λr=>cond r (some (Sum.inr i)) (F k (I64 (i+1)))) (some (Sum.inl (()))))
  (hG:∀x∈l,T (G x) (λr=>r=false->P x)) {N:Nat} (hN:l.length < N) (hl:l.length < 1000000) :
  T (aa (F N 0) λo=>kG o (λ_=>some (-1)) (λr=>some r)) (λr=>decide (r>=0)=false->∀x∈l,P x):=by
 refine T.bind (T.loopG0 (n:=l.length) (λi _=>∀j,(h:j < l.length)->j < i->P l[j]) (λo=>match o with | .inl _=>∀x∈l,P x | .inr r=>0<=r) (F:=λk (_:Unit) i=>F k i) (λk s i hi hs hk=>?_) (λk s hs=>?_) hN (s:=()) (λj _ h=>absurd h (by omega))) λo ho=>?_
 ·rw[hF,aO,dt (by omega),cond_true,eP,af hi,ae]
  refine T.bind (hG _ (bh hi)) λr hr=>?_;refine T.cond (λhc=>T.ret (by dsimp only;omega)) (λhc=>?_)
  rw[cW (by omega)]
  refine hk () λj h hj=>?_;by_cases e:j=i
  ·subst e;exact hr hc
  ·exact hs j h (by omega)
 ·rw[hF,aO,df (by omega),cond_false]
  refine T.ret λx hx=>?_;obtain⟨j,h,rfl⟩:=co hx;exact hs j h h
 ·cases o with
  | inl _=>exact T.ret λ_=>ho
  | inr r=>exact T.ret λe=>absurd (of_decide_eq_false e) (by simpa using ho)
def pwi(m:Int)(p:aB):Prop:=(-m<=p.gX/\p.gX<=m)/\(-m<=p.gY/\p.gY<=m) /\ -m<=p.gZ/\p.gZ<=m
theorem aJv{m:Int}{p:aB}(h:pwi m p)(hm:m<=1000000000):pin p:=by
 obtain⟨⟨a,b⟩,⟨c,d⟩,e,f⟩:=h;exact⟨⟨by omega,by omega⟩,⟨by omega,by omega⟩,by omega,by omega⟩
theorem aLe(N:Nat)(p:aB){m:Int}(hm:0<=m)(hm':m<=1000000000):T (uF N p m) (λr=>r=true↔pwi m p):=by
 unfold uF;simp only[aO,tR,wI]
 rw[bD (by omega) (by omega)]
 unfold pwi;refine T.bind (P:=λr=>r=true↔((-m<=p.gX/\p.gX<=m)/\(-m<=p.gY/\p.gY<=m) /\ -m<=p.gZ/\p.gZ<=m)) ?_ λr h=>T.ret h;refine T.cond (λh=>T.ret ?_) (λh=>T.ret ?_)
 ·have:=of_decide_eq_true h;rw[decide_eq_true_eq]
  omega
 ·have:=of_decide_eq_false h;constructor
  ·intro h;cases h
  ·intro h;omega
theorem aSg(N:Nat)(a b:aB):T (xE N a b) (λr=>r=true->pwi 65536 a/\pwi 131072 b/\aB.eq b (aB.mk 0 0 0)=false):=by
 unfold xE;refine T.bind (P:=λr=>r=true->pwi 65536 a/\pwi 131072 b/\aB.eq b (aB.mk 0 0 0)=false) ?_ λr h=>T.ret h;refine T.bind (aLe N a (by decide) (by decide)) λr2 h2=>?_;refine T.cond (λhc=>?_) (λ_=>T.ret λh=>by cases h)
 refine T.bind (aLe N b (by decide) (by decide)) λr3 h3=>?_;refine T.cond (λhc'=>?_) (λ_=>T.ret λh=>by cases h)
 simp only[aO]
 refine T.ret λh=>⟨h2.1 hc,h3.1 hc',by simpa using h⟩
theorem aNQ(N:Nat)(a b:aB):T (sK N a b) pin:=⟨_,rfl,cG _,cG _,cG _⟩
theorem aMV(N:Nat)(a b:aB):T (wW N a b) pin:=⟨_,rfl,cG _,cG _,cG _⟩
theorem aMv(N:Nat)(a b:aB):T (zN N a b) cD:=⟨_,rfl,cG _⟩
def qL(m:aS):Prop:=cD m.gC3/\cD m.gC0/\cD m.gU/\cD m.gV
theorem aEe : qL (aS.mk 0 0 0 0):=⟨z64,z64,z64,z64⟩
theorem hit1T(N:Nat)(p:aB):T (aAL N p) (λr=>r=false->pwi 65536 p):=by
 unfold aAL;refine T.bind (aLe N p (by decide) (by decide)) λr h=>T.ret λe=>h.1 (by simpa using e)
theorem hitCT(N:Nat)(l:List aB)(hN:l.length < N)(hl:l.length < 1000000):T (cN N l) (λr=>r=false->∀p∈l,pwi 65536 p):=by
 unfold cN fC;refine T.bind (aRk l (aAL N) (pwi 65536) (λk i=>by rw[cO]) (λp _=>hit1T N p) hN hl) λr h=>T.ret h
theorem hitT(N:Nat)(hN:3 < N)(o d:aB)(P:Vector aB 3):T (aCg N o d P) (λr=>qL r.1):=by
 unfold aCg;refine T.bind (P:=λ_=>True) ?_ λp1 _=>?_
 ·refine T.bind (aSg N o d) λr2 h2=>?_;refine T.cond (λ_=>T.ret trivial) (λ_=>?_)
  refine T.bind (T.slc (by decide) (by decide) (by simp)) λs3 h3=>T.bind (hitCT N s3 (by omega) (by omega)) λr4 _=>T.ret trivial
 refine T.cond (λ_=>T.ret aEe) (λ_=>?_)
 refine T.bind (T.idx (by decide) (by simp)) λe5 _=>T.bind (T.idx (by decide) (by simp)) λe6 _=>T.bind (aNQ N _ _) λr7 _=>?_;refine T.bind (T.idx (by decide) (by simp)) λe8 _=>T.bind (T.idx (by decide) (by simp)) λe9 _=>T.bind (aNQ N _ _) λr10 _=>?_;refine T.bind (aMV N _ _) λr11 _=>T.bind (T.idx (by decide) (by simp)) λe12 _=>T.bind (aNQ N _ _) λr13 _=>T.bind (aMV N _ _) λr14 _=>?_;refine T.bind (aMv N _ _) λr15 h15=>T.bind (aMv N _ _) λr16 h16=>T.bind (aMv N _ _) λr17 h17=>T.bind (aMv N _ _) λr18 h18=>?_;refine T.bind (P:=qL) (T.cond (λ_=>T.ret ⟨cG _,cG _,cG _,cG _⟩) (λ_=>T.ret ⟨h15,h16,h17,h18⟩)) λp19 h19=>?_;simp only[aO]
 exact T.cond (λ_=>T.ret aEe) (λ_=>T.ret h19)
theorem aRi(N:Nat){m n:aS}(hm:qL m)(hn:qL n):T (zI N m n) (λ_=>True):=by
 unfold zI;simp only[aO]
 refine T.cond (λ_=>T.ret trivial) (λ_=>T.bind (aGM N hm.1 hn.2.1) λr2 _=>T.bind (aGM N hn.1 hm.2.1) λr3 _=>T.bind (aPT N _ _) λr4 _=>T.ret trivial)
theorem aVV(N:Nat)(hN:2 < N){a b:Int}(ha:cD a)(hb:cD b):T (aBN N a b) cD:=by
 unfold aBN;refine T.bind (wofT N ha) λr1 h1=>T.bind (wofT N hb) λr2 h2=>T.bind (aSZ N _ (by intro x hx;simp at hx;rcases hx with rfl | rfl;exact h1;exact h2) (by simpa using hN) (by simp)) λr3 h3=>?_;refine T.bind (wofT N ⟨by decide,by decide⟩) λr4 _=>T.bind (wofT N ⟨by decide,by decide⟩) λr5 _=>T.bind (aPT N _ _) λr6 _=>?_;refine T.cond (λ_=>T.ret ⟨by decide,by decide⟩) (λ_=>T.bind (aPT N _ _) λr7 _=>?_)
 refine T.cond (λ_=>T.ret ⟨by decide,by decide⟩) (λ_=>T.bind (aIX N h3) λr8 h8=>T.ret h8.1)
theorem aMR(k:Nat){a b:Int}{m:aS}(ha:cD a)(hb:cD b)(hm:qL m):T (mR (k+3) a b m) cD:=by
 unfold mR;refine T.cond (λ_=>T.bind (aVV _ (by omega) ha z64) λr h=>T.ret h) (λ_=>?_)
 refine T.bind (aIZ k hb hm.1 hm.2.1) λr2 h2=>T.bind (aVV _ (by omega) ha h2) λr h=>T.ret h
theorem aTy(k:Nat){o d:aB}{m:aS}(ho:pin o)(hd:pin d)(hm:qL m):T (xN (k+3) o d m) pin:=by
 unfold xN;refine T.bind (aMR k ho.1 hd.1 hm) λ_ a=>T.bind (aMR k ho.2.1 hd.2.1 hm) λ_ b=>T.bind (aMR k ho.2.2 hd.2.2 hm) λ_ c=>T.ret ⟨a,b,c⟩
def few(s:aE):Prop:=s.gL.length<=20/\s.gA4.length<=10/\s.gQ.length<=6/\s.gI.length<=5/\(∀t∈s.gQ,t.gA6.length<=260)
theorem aGU{α:Type}(l:List α)(n:Nat):(l.take n).length<=n:=by rw[bo];omega
theorem T.slcMin{α:Type}(l:List α)(n:Nat):T (xR l 0 (dO (l.length:Int) (n:Int))) (λr=>r=l.take n):=⟨_,aSW l n,rfl⟩
theorem fewT2(N:Nat)(hN:10 < N)(s:aE):T (oH N s) (λr=>few r/\r.gA4.length<=8/\r.gQ.length<=4/\r.gJ.length<=20):=by
 unfold oH;have main:∀(m i:Nat) (a:List aC),i<=4->a.length=i->(∀t∈a,t.gA6.length<=260)->5 - i<=m->T (nQ N s m a (i:Int)) (λr=>r.length<=4/\∀t∈r,t.gA6.length<=260):=by
  intro m
  induction m with
  | zero=>intro i a h1 _ _ h;omega
  | succ m ih=>
   intro i a h1 h2 h3 h4;rw[nQ]
   simp only[aO]
   refine T.cond (λhc=>?_) (λ_=>T.ret ⟨by omega,h3⟩)
   have hc1:(i:Int) < (s.gQ.length:Int)/\(i:Int) < 4:=by
    by_cases h:(i:Int) < (s.gQ.length:Int)
    ·rw[dt h,cond_true] at hc;exact⟨h,of_decide_eq_true hc⟩
    ·rw[df h,cond_false] at hc;cases hc
   refine T.bind (T.idx (by omega) hc1.1) λe6 _=>?_;refine T.bind (T.slcMin e6.gA6 260) λs8 h8=>?_;refine T.eq (bY (by simp;omega)) ?_;rw[cW (by omega)]
   refine ih (i+1) _ (by omega) (by simp;omega) ?_ (by omega)
   intro t ht;rw[b9,c9] at ht;rcases ht with ht | rfl
   ·exact h3 t ht
   ·rw[h8];exact aGU _ _
 refine T.bind (main N 0 [] (by decide) rfl (λt h=>absurd h (by simp)) (by omega)) λp1 h1=>?_;simp only[aO]
 refine T.bind (T.slcMin s.gL 20) λs11 h11=>T.bind (T.slcMin s.gA4 8) λs13 h13=>T.bind (T.slcMin s.gI 5) λs15 h15=>T.bind (T.slcMin s.gJ 20) λs17 h17=>T.bind (T.slcMin s.gS 20) λs19 _=>?_;have m8:s13.length<=8:=by rw[h13];exact aGU _ _
 refine T.ret ⟨⟨?_,Nat.le_trans m8 (by decide),by have:=h1.1;show p1.length<=6;omega,?_,h1.2⟩,m8,h1.1,by show s17.length<=20;rw[h17];exact aGU _ _⟩
 ·show s11.length<=20;rw[h11];exact aGU _ _
 ·show s15.length<=5;rw[h15];exact aGU _ _
def aPR(s:aE)(t:aJ):Prop:=(0<=t.gC5/\t.gC5 < (s.gA4.length:Int))/\t.gB7 < (s.gQ.length:Int)/\(∀v∈t.gUv.toList,∀x∈v.toList,0<=x/\x<=65535)/\∀p∈t.gP.toList,pwi 65536 p
theorem v2mem{α:Type}{v:Vector α 2}{P:α->Prop}(h0:∀x,v.toList[0]? = some x->P x)(h1:∀x,v.toList[1]? = some x->P x):∀x∈v.toList,P x:=by
 intro x hx;obtain⟨j,h,rfl⟩:=co hx;have h':j < 2:=by simpa using h
 match j,h' with
 | 0,_=>exact h0 _ (af h)
 | 1,_=>exact h1 _ (af h)
theorem aU6{α:Type}{v:Vector α 3}{P:α->Prop}(h0:∀x,v.toList[0]? = some x->P x)(h1:∀x,v.toList[1]? = some x->P x)(h2:∀x,v.toList[2]? = some x->P x):∀x∈v.toList,P x:=by
 intro x hx;obtain⟨j,h,rfl⟩:=co hx;have h':j < 3:=by simpa using h
 match j,h' with
 | 0,_=>exact h0 _ (af h)
 | 1,_=>exact h1 _ (af h)
 | 2,_=>exact h2 _ (af h)
theorem T.vg{α:Type}{m:Nat}{v:Vector α m}{i:Nat}(h:i < m):T (v.toList[i]?) (λx=>v.toList[i]? = some x):=⟨_,Go.UK.aML v i h,Go.UK.aML v i h⟩
theorem T.vgI{α:Type}{m:Nat}{v:Vector α m}{i:Nat}(h:i < m):T (v.toList[(i:Int).toNat]?) (λx=>v.toList[i]? = some x):=T.vg h
theorem lO{α:Type}{o:Option α}{a b:α}(h:o=some a)(h':o=some b):a=b:=by rw[h] at h';exact Option.some.inj h'
theorem triT(N:Nat)(hN:10 < N)(s:aE)(t:aJ):T (oG N s t) (λr=>r=0->aPR s t):=by
 unfold oG;simp only[aO]
 refine T.cond (λ_=>T.ret λh=>by cases h) (λhc=>?_)
 have c1:(0<=t.gC5/\t.gC5 < (s.gA4.length:Int))/\t.gB7 < (s.gQ.length:Int):=by
  have o:∀{a:Prop} [Decidable a] {b:Bool},cond b true (decide a)=false->b=false/\¬a:=by
   intro a _ b h;cases b with
   | true=>cases h
   | false=>exact⟨rfl,of_decide_eq_false h⟩
  obtain⟨hc,_⟩:=o hc;obtain⟨hc,_⟩:=o hc;obtain⟨hc,h4⟩:=o hc;obtain⟨hc,_⟩:=o hc;obtain⟨hc,h2⟩:=o hc;exact⟨⟨by have:=of_decide_eq_false hc;omega,by omega⟩,by omega⟩
 refine T.bind (T.loopG0 (n:=3) (λi _=>∀j,(h:j < 3)->j < i->∀x∈t.gUv[j].toList,0<=x/\x<=65535) (λo=>match o with | .inl _=>∀v∈t.gUv.toList,∀x∈v.toList,0<=x/\x<=65535 | .inr r=>r≠0) (F:=λk (_:Unit) i=>lA N t k i) (λk _ i hi hs hk=>?_) (λk _ hs=>?_) (by omega) (s:=()) (λj _ h=>absurd h (by omega))) λo ho=>?_
 ·rw[lA,dt (by omega),cond_true]
  refine T.bind (T.idx (by omega) (by simp;omega)) λe10 h10=>?_;have e10e:e10=t.gUv[i]:=lO h10 (by rw[bn];exact aML _ _ hi)
  refine T.bind (P:=λr=>r=false->∀x∈e10.toList,0<=x/\x<=65535) ?_ λp11 h11=>?_
  ·refine T.bind (T.inRO (by decide) (by decide)) λ_ _=>T.bind (T.vg (i:=0) (by decide)) λa ha=>T.bind (T.inRO (by decide) (by decide)) λ_ _=>T.bind (T.vg (i:=1) (by decide)) λb hb=>?_;simp only[aO,wI,tR]
   refine T.cond (λ_=>T.ret λh=>by cases h) (λh1=>?_)
   refine T.bind (T.inRO (by decide) (by decide)) λ_ _=>T.bind (T.vg (i:=0) (by decide)) λa' ha'=>T.bind (T.inRO (by decide) (by decide)) λ_ _=>T.bind (T.vg (i:=1) (by decide)) λb' hb'=>?_;refine T.ret λh2=>?_;obtain rfl:=lO ha ha';obtain rfl:=lO hb hb';have h1:=of_decide_eq_false h1;have h2:=of_decide_eq_false h2;exact v2mem (λx hx=>by obtain rfl:=lO ha hx;omega) (λx hx=>by obtain rfl:=lO hb hx;omega)
  refine T.cond (λ_=>T.ret (λh=>by cases h)) (λhc=>?_)
  rw[cW (by omega)]
  refine hk () λj h hj=>?_;by_cases e:j=i
  ·subst e;rw[<- e10e];exact h11 hc
  ·exact hs j h (by omega)
 ·rw[lA,df (by omega),cond_false]
  refine T.ret λv hv=>?_;obtain⟨j,h,rfl⟩:=co hv;have h':j < 3:=by simpa using h
  have:=hs j h' h';simpa using this
 cases o with
 | inr r=>exact T.ret λe=>absurd e ho
 | inl _=>
 refine T.bind (T.loopG0 (n:=3) (λi _=>∀j,(h:j < 3)->j < i->pwi 65536 t.gP[j]) (λo=>match o with | .inl _=>∀v∈t.gP.toList,pwi 65536 v | .inr r=>r≠0) (F:=λk (_:Unit) i=>lB N t k i) (λk _ i hi hs hk=>?_) (λk _ hs=>?_) (by omega) (s:=()) (λj _ h=>absurd h (by omega))) λo' ho'=>?_
 ·rw[lB,dt (by omega),cond_true]
  refine T.bind (T.idx (by omega) (by simp;omega)) λe10 h10=>?_;have e10e:e10=t.gP[i]:=lO h10 (by rw[bn];exact aML _ _ hi)
  refine T.bind (aSg N _ _) λr hr=>?_;refine T.cond (λ_=>T.ret (λh=>by cases h)) (λhc=>?_)
  rw[cW (by omega)]
  refine hk () λj h hj=>?_;by_cases e:j=i
  ·subst e;rw[<- e10e];exact(hr (by simpa using hc)).1
  ·exact hs j h (by omega)
 ·rw[lB,df (by omega),cond_false]
  refine T.ret λv hv=>?_;obtain⟨j,h,rfl⟩:=co hv;have h':j < 3:=by simpa using h
  have:=hs j h' h';simpa using this
 cases o' with
 | inr r=>exact T.ret λe=>absurd e ho'
 | inl _=>exact T.ret λ_=>⟨c1.1,c1.2,ho,ho'⟩
theorem aSC(N:Nat)(hN:30 < N)(s:aE)(h:few s):T (dK N s.gL s) (λr=>r=0->∀t∈s.gL,aPR s t):=by
 unfold dK;have h1:=h.1;refine aJl s.gL (λt=>mA N t s) (aPR s) (λk i=>by rw[eC]) (λt _=>?_) (by omega) (by omega)
 unfold mA;exact T.bind (triT N (by omega) s t) λr h=>T.ret h
theorem aF2(N:Nat)(m:Int)(l:List Int)(hN:l.length < N)(hl:l.length < 1000000):T (nB N m l) (λr=>r=false->∀x∈l,0<=x/\x<=m):=by
 unfold nB iD iW;refine T.bind (P:=λr=>r=false->∀x∈l,0<=x/\x<=m) ?_ λr h=>T.ret h;refine T.bind (aRk l (λe=>pR N e m) (λx=>0<=x/\x<=m) (λk i=>by rw[dP]) (λx _=>?_) hN hl) λr h=>T.ret h;unfold pR;simp only[aO]
 refine T.ret λh=>?_;by_cases h1:x < 0
 ·rw[dt h1,cond_true] at h;cases h
 ·rw[df h1,cond_false] at h;have:=of_decide_eq_false h;omega
def aDk(m:aN):Prop:=(∀x∈m.gA9.toList,0<=x/\x<=65535)/\0<=m.gD5/\m.gD5<=65535
theorem matT(N:Nat)(hN:10 < N)(m:aN):T (qJ N m) (λr=>r=0->aDk m):=by
 unfold qJ;refine T.bind (P:=λr=>r=false->aDk m) ?_ λp1 h1=>T.cond (λ_=>T.ret λh=>by cases h) (λhc=>T.ret λ_=>h1 hc)
 refine T.bind (aF2 N 4 _ (by simp;omega) (by simp)) λr2 _=>?_;refine T.cond (λ_=>T.ret λh=>by cases h) (λ_=>?_)
 refine T.bind (T.idx (by decide) (by simp)) λa ha=>T.bind (T.idx (by decide) (by simp)) λb hb=>T.bind (T.idx (by decide) (by simp)) λc hc=>?_;refine T.bind (aF2 N 65535 _ (by simp;omega) (by simp)) λr6 h6=>T.ret λe=>?_;have h:=h6 e;refine⟨aU6 (λx hx=>?_) (λx hx=>?_) (λx hx=>?_),h _ (by simp)⟩
 ·obtain rfl:=lO ha hx;exact h _ (by simp)
 ·obtain rfl:=lO hb hx;exact h _ (by simp)
 ·obtain rfl:=lO hc hx;exact h _ (by simp)
theorem aSh(N:Nat)(hN:30 < N)(s:aE)(h:few s):T (fG N s.gA4) (λr=>r=0->∀t∈s.gA4,aDk t):=by
 unfold fG;have h1:=h.2.1;exact aJl s.gA4 (qJ N) aDk (λk i=>by rw[dZ]) (λt _=>matT N (by omega) t) (by omega) (by omega)
def aPW(t:aC):Prop:=(t.gG=1\/t.gG=2\/t.gG=4\/t.gG=8\/t.gG=16)/\(t.gA6.length:Int)=t.gG*t.gG/\∀v∈t.gA6,∀x∈v.toList,0<=x/\x<=255
theorem aRc(N:Nat)(l:List Int)(a:Int)(hN:l.length < N)(hl:l.length < 1000000):T (lK N l a) (λr=>r=true->a∈l):=by
 unfold lK rK;refine T.bind (P:=λr=>0<=r->a∈l) ?_ λr h=>T.ret λe=>h (of_decide_eq_true e)
 refine T.bind (T.loopG0 (n:=l.length) (λ_ _=>True) (λo=>match o with | .inl _=>True | .inr r=>a∈l) (F:=λk (_:Unit) i=>fI N l a k i) (λk _ i hi hs hk=>?_) (λk _ hs=>?_) hN (s:=()) trivial) λo ho=>?_
 ·rw[fI,aO,dt (by omega),cond_true,eP,af hi,ae]
  refine T.cond (λhc=>T.ret ?_) (λ_=>?_)
  ·have e:a=l[i]:=by simpa using hc
   show a∈l;rw[e];exact bh hi
  ·rw[cW (by omega)];exact hk () trivial
 ·rw[fI,aO,df (by omega),cond_false];exact T.ret trivial
 ·cases o with
  | inl _=>exact T.ret λh=>absurd h (by decide)
  | inr r=>exact T.ret λ_=>ho
theorem texT(N:Nat)(t:aC)(hN:t.gA6.length < N)(hN':10 < N)(hl:t.gA6.length < 1000000):T (lG N t) (λr=>r=0->aPW t):=by
 unfold lG;refine T.bind (aRc N _ _ (by simp;omega) (by simp)) λr1 h1=>?_;simp only[aO]
 refine T.cond (λ_=>T.ret λh=>by cases h) (λhc=>?_)
 have c:t.gG∈[1,2,4,8,16]/\(t.gA6.length:Int)=I64 (t.gG*t.gG):=by
  cases r1 with
  | false=>cases hc
  | true=>exact⟨h1 rfl,by simpa using hc⟩
 have c1:t.gG=1\/t.gG=2\/t.gG=4\/t.gG=8\/t.gG=16:=by simpa using c.1
 have c2:(t.gA6.length:Int)=t.gG*t.gG:=by
  rw[c.2];rcases c1 with h | h | h | h | h <;> rw[h] <;> decide
 refine T.bind (T.loopG0 (n:=t.gA6.length) (λi _=>∀j,(h:j < t.gA6.length)->j < i->∀x∈t.gA6[j].toList,0<=x/\x<=255) (λo=>match o with | .inl _=>∀v∈t.gA6,∀x∈v.toList,0<=x/\x<=255 | .inr r=>r≠0) (F:=λk (_:Unit) i=>lQ N (t.gA6.length:Int) t k i) (λk _ i hi hs hk=>?_) (λk _ hs=>?_) hN (s:=()) (λj _ h=>absurd h (by omega))) λo ho=>?_
 ·rw[lQ,dt (by omega),cond_true,eP,af hi,ae]
  refine T.bind (P:=λr=>r=false->∀x∈(t.gA6[i]).toList,0<=x/\x<=255) ?_ λp11 h11=>?_
  ·refine T.bind (T.inRO (by decide) (by decide)) λ_ _=>T.bind (T.vg (i:=0) (by decide)) λa ha=>T.bind (T.inRO (by decide) (by decide)) λ_ _=>T.bind (T.vg (i:=1) (by decide)) λb hb=>T.bind (T.inRO (by decide) (by decide)) λ_ _=>T.bind (T.vg (i:=2) (by decide)) λd hd=>?_;simp only[aO,wI,tR]
   refine T.cond (λ_=>T.ret λh=>by cases h) (λh1=>?_)
   refine T.bind (T.inRO (by decide) (by decide)) λ_ _=>T.bind (T.vg (i:=0) (by decide)) λa' ha'=>T.bind (T.inRO (by decide) (by decide)) λ_ _=>T.bind (T.vg (i:=1) (by decide)) λb' hb'=>T.bind (T.inRO (by decide) (by decide)) λ_ _=>T.bind (T.vg (i:=2) (by decide)) λd' hd'=>?_;refine T.ret λh2=>?_;obtain rfl:=lO ha ha';obtain rfl:=lO hb hb';obtain rfl:=lO hd hd';have h1:=of_decide_eq_false h1;have h2:=of_decide_eq_false h2;exact aU6 (λx hx=>by obtain rfl:=lO ha hx;omega) (λx hx=>by obtain rfl:=lO hb hx;omega) (λx hx=>by obtain rfl:=lO hd hx;omega)
  refine T.cond (λ_=>T.ret (λh=>by cases h)) (λhc=>?_)
  rw[cW (by omega)]
  refine hk () λj h hj=>?_;by_cases e:j=i
  ·subst e;exact h11 hc
  ·exact hs j h (by omega)
 ·rw[lQ,df (by omega),cond_false]
  refine T.ret λv hv=>?_;obtain⟨j,h,rfl⟩:=co hv;exact hs j h h
 cases o with
 | inr r=>exact T.ret λe=>absurd e ho
 | inl _=>exact T.ret λ_=>⟨c1,c2,ho⟩
theorem aTo(N:Nat)(hN:300 < N)(s:aE)(h:few s):T (iG N s.gQ) (λr=>r=0->∀t∈s.gQ,aPW t):=by
 unfold iG;have h1:=h.2.2.1;exact aJl s.gQ (lG N) aPW (λk i=>by rw[fK]) (λt ht=>texT N t (by have:=h.2.2.2.2 t ht;omega) (by omega) (by have:=h.2.2.2.2 t ht;omega)) (by omega) (by omega)
def xZ(l:aQ):Prop:=(∀x∈l.gA9.toList,0<=x/\x<=1048576)/\pwi 4096 l.gAt/\pwi 4096 l.gU/\pwi 4096 l.gV
theorem aMJ(N:Nat)(p:aB):T (pG N p) (λr=>r=false->pwi 4096 p):=by
 unfold pG pwi;simp only[aO,tR,wI]
 refine T.bind (P:=λr=>r=false->(-4096<=p.gX/\p.gX<=4096)/\(-4096<=p.gY/\p.gY<=4096) /\ -4096<=p.gZ/\p.gZ<=4096) ?_ λr h=>T.ret h;refine T.cond (λ_=>T.ret λh=>by cases h) (λh=>T.ret λh2=>?_)
 have h:=of_decide_eq_false h;have h2:=of_decide_eq_false h2;omega
theorem aSF(N:Nat)(hN:10 < N)(l:aQ):T (sH N l) (λr=>r=0->xZ l):=by
 unfold sH;refine T.bind (P:=λr=>r=false->∀x∈l.gA9.toList,0<=x/\x<=1048576) ?_ λp1 h1=>?_
 ·refine T.bind (aF2 N 2 _ (by simp;omega) (by simp)) λr2 _=>?_;refine T.cond (λ_=>T.ret λh=>by cases h) (λ_=>?_)
  refine T.bind (T.slc (by decide) (by decide) (by simp)) λs3 h3=>T.bind (aF2 N _ s3 (by omega) (by omega)) λr4 h4=>T.ret λe=>?_;have hs:s3=l.gA9.toList:=by rw[h3.1];exact fm (show l.gA9.toList.length<=3 by simp)
  rw[<- hs];exact h4 e
 refine T.cond (λ_=>T.ret λh=>by cases h) (λhc=>?_)
 refine T.bind (P:=λr=>r=false->pwi 4096 l.gAt/\pwi 4096 l.gU/\pwi 4096 l.gV) ?_ λp5 h5=>?_
 ·refine T.bind (aMJ N _) λr6 h6=>T.cond (λ_=>T.ret λh=>by cases h) (λc6=>?_)
  refine T.bind (aMJ N _) λr7 h7=>T.cond (λ_=>T.ret λh=>by cases h) (λc7=>?_)
  exact T.bind (aMJ N _) λr8 h8=>T.ret λc8=>⟨h6 c6,h7 c7,h8 c8⟩
 refine T.cond (λ_=>T.ret λh=>by cases h) (λhc5=>?_)
 have ok:xZ l:=⟨h1 hc,h5 hc5⟩
 simp only[aO]
 refine T.bind (P:=λ_=>True) ?_ λo _=>?_
 ·refine T.cond (λ_=>T.cond (λ_=>T.ret trivial) (λ_=>?_)) (λ_=>T.cond (λ_=>?_) (λ_=>T.ret trivial))
  ·exact T.bind (P:=λ_=>True) (T.cond (λ_=>T.ret trivial) (λ_=>T.ret trivial)) λ_ _=>T.cond (λ_=>T.ret trivial) (λ_=>T.ret trivial)
  ·exact T.bind (P:=λ_=>True) (T.cond (λ_=>T.ret trivial) (λ_=>T.ret trivial)) λ_ _=>T.cond (λ_=>T.ret trivial) (λ_=>T.ret trivial)
 ·cases o with
  | inl _=>exact T.ret λ_=>ok
  | inr r=>exact T.ret λ_=>ok
theorem aOw(N:Nat)(hN:30 < N)(s:aE)(h:few s):T (jC N s.gI) (λr=>r=0->∀t∈s.gI,xZ t):=by
 unfold jC;have h1:=h.2.2.2.1;exact aJl s.gI (sH N) xZ (λk i=>by rw[hP]) (λt _=>aSF N (by omega) t) (by omega) (by omega)
structure aUR(s:aE):Prop where
 few:few s
 tri:∀t∈s.gL,aPR s t
 mat:∀t∈s.gA4,aDk t
 tex:∀t∈s.gQ,aPW t
 light:∀t∈s.gI,xZ t
theorem aWZ(N:Nat)(hN:300 < N)(s:aE)(h:few s):T (kI N s) (λr=>r=0->aUR s):=by
 unfold kI;simp only[aO]
 refine T.cond (λ_=>T.ret λh=>by cases h) (λ_=>?_)
 have nz:∀{r:Int} {P:Prop},(r != 0)=true->(r=0->P):=λh e=>by rw[e] at h;cases h
 refine T.bind (aSC N (by omega) s h) λr3 h3=>T.cond (λc=>T.ret (nz c)) (λc3=>?_)
 refine T.bind (aSh N (by omega) s h) λr4 h4=>T.cond (λc=>T.ret (nz c)) (λc4=>?_)
 refine T.bind (aTo N (by omega) s h) λr5 h5=>T.cond (λc=>T.ret (nz c)) (λc5=>?_)
 refine T.bind (aOw N (by omega) s h) λr6 h6=>T.ret λe=>?_;exact⟨h,h3 (by simpa using c3),h4 (by simpa using c4),h5 (by simpa using c5),h6 e⟩
def aOJ(v:aG):Prop:=aQL v.gD7 v.gW v.gH/\(1<=v.gA8/\v.gA8<=16)/\(0<=v.gK/\v.gK<=8)/\0<=v.gM/\v.gM<=2
theorem mayVT(N:Nat)(v:aG):T (wZ N v) (λr=>r=0->aOJ v):=by
 unfold wZ;refine T.bind (aJi N _ _ _) λr1 h1=>?_;refine T.cond (λc=>T.ret λe=>by rw[e] at c;cases c) (λc=>?_)
 simp only[aO]
 refine T.cond (λ_=>T.ret λh=>by cases h) (λhc=>T.ret λ_=>?_)
 have o:∀{a:Prop} [Decidable a] {b:Bool},cond b true (decide a)=false->b=false/\¬a:=by
  intro a _ b h;cases b with
  | true=>cases h
  | false=>exact⟨rfl,of_decide_eq_false h⟩
 obtain⟨hc,c6⟩:=o hc;obtain⟨hc,c5⟩:=o hc;obtain⟨hc,c4⟩:=o hc;obtain⟨hc,c3⟩:=o hc;obtain⟨hc,c2⟩:=o hc;have c1:=of_decide_eq_false hc;exact⟨h1 (by simpa using c),by omega,by omega,by omega,by omega⟩
def dW(c:Int):Int×Int:=cond (c==0) (16,4) (cond (c==1) (64,4) (cond (c==2) (256,8) (0,0)))
theorem aOf(N:Nat)(c:Int):lH N c=some (dW c):=by
 unfold lH dW;cases (c==0) <;> cases (c==1) <;> cases (c==2) <;> rfl
theorem aWn(N:Nat)(c:Int):T (lH N c) (λr=>r=dW c):=⟨_,aOf N c,rfl⟩
def fits(s:aE)(c:Int):Prop:=(s.gL.length:Int)<=(dW c).1/\(s.gI.length:Int)<=(dW c).2
theorem aVG(N:Nat)(s:aE)(c:Int):T (rE N s c) (λr=>r=0->fits s c):=by
 unfold rE;refine T.eq (aOf N c) ?_;simp only[aO]
 refine T.cond (λ_=>T.ret λh=>by cases h) (λhc=>T.ret λ_=>?_)
 by_cases h:(s.gL.length:Int) > (dW c).1
 ·rw[dt h,cond_true] at hc;cases hc
 ·rw[df h,cond_false] at hc;have:=of_decide_eq_false hc;exact⟨by omega,by omega⟩
theorem aMn(k:Nat){a b:Int}(ha:cD a)(hb:cD b)(h0:S64 (b*4294967296)≠0):T (lU (k+3) a b) cD:=by
 unfold lU;refine T.eq (rQ _ ha) (T.eq (rQ _ hb) (T.eq (yH k (dD _) (dD _) h0) (T.ret (dD _))))
theorem aTG(k:Nat)(c:Vector Int 3){b:Int}(hc:∀x∈c.toList,cD x)(hb:cD b)(h0:S64 (b*4294967296)≠0):T (vO (k+3) c b) vin:=by
 unfold vO;refine T.bind (T.idx (by decide) (by simp)) λe1 h1=>T.bind (aMn k (hc _ (az h1)) hb h0) λr2 a=>?_;refine T.bind (T.idx (by decide) (by simp)) λe3 h3=>T.bind (aMn k (hc _ (az h3)) hb h0) λr4 b=>?_;refine T.bind (T.idx (by decide) (by simp)) λe5 h5=>T.bind (aMn k (hc _ (az h5)) hb h0) λr6 d=>T.ret ⟨a,b,d⟩
theorem aMI(k:Nat){l:aQ}(h:xZ l):T (sI (k+3) l) vin:=by
 unfold sI;exact T.bind (aTG k _ (λx hx=>by have:=h.1 x hx;exact⟨by omega,by omega⟩) ⟨by decide,by decide⟩ (by decide)) λr h=>T.ret h
theorem skyT(k:Nat)(hk:10 < k)(l:List aQ)(h:∀x∈l,xZ x)(hl:l.length<=5):T (aBZ (k+3) l) (λr=>vin r/\(l=[]->r=aA.mk 0 0 0)):=by
 unfold aBZ;refine T.bind (T.loopG0 (n:=l.length) (λi s=>s.length<=i/\∀v∈s,vin v) (λr=>r.length<=l.length/\∀v∈r,vin v) (F:=sO (k+3) l) (λk' s i hi hs hk'=>?_) (λk' s hs=>?_) (by omega) (s:=[]) ⟨by simp,λv h=>absurd h (by simp)⟩) λr hr=>?_
 ·rw[sO,aO,dt (by omega),cond_true]
  refine T.bind (P:=λp=>p.1.length<=i+1/\∀v∈p.1,vin v) ?_ λp5 h5=>?_
  ·rw[eP,af hi,ae]
   refine T.cond (λ_=>?_) (λ_=>T.ret ⟨by dsimp only;omega,hs.2⟩)
   refine T.bind (aMI k (h _ (bh hi))) λr7 h7=>T.eq (bY (by simp;omega)) (T.ret ⟨by simp;omega,?_⟩)
   intro v hv;rw[b9,c9] at hv;rcases hv with hv | rfl
   ·exact hs.2 v hv
   ·exact h7
  ·rw[cW (by omega)];exact hk' _ h5
 ·rw[sO,aO,df (by omega),cond_false];exact T.ret hs
 ·refine T.eq (aIH k r hr.2 (by omega) (by omega)) (T.ret ⟨?_,λh=>?_⟩)
  ·obtain⟨x,e,hx⟩:=aUM k r hr.2 (by omega) (by omega)
   rw[aIH k r hr.2 (by omega) (by omega)] at e;cases e;exact hx
  ·subst h;have:r=[]:=List.eq_nil_of_length_eq_zero (by have:=hr.1;simpa using this)
   subst this;rfl
def aN2(t:aC):Prop:=(t.gG=1\/t.gG=2\/t.gG=4\/t.gG=8\/t.gG=16)/\(t.gA6.length:Int)=t.gG*t.gG
theorem aJS(N:Nat){t:aC}(h:aN2 t)(x y:Int):T (pS N t x y) (λ_=>True):=by
 obtain⟨h1,h2⟩:=h;unfold pS;simp only[aO]
 have b:∀(a:Int) (m:Nat),t.gG=(m:Int)+1->m < 100->0<=kB .i64 a (I64 (t.gG - 1))/\kB .i64 a (I64 (t.gG - 1))<=(m:Int):=by
  intro a m h hm;rw[h,show I64 ((m:Int)+1 - 1)=(m:Int) by rw[bD (by omega) (by omega)];omega]
  exact aSY m (by omega)
 have key:∀m:Nat,t.gG=(m:Int)+1->m < 100->T (aa (idx t.gA6 (I64 (I64 (kB .i64 y (I64 (t.gG - 1))*t.gG)+kB .i64 x (I64 (t.gG - 1))))) λe4=>some e4) (λ_=>True):=by
  intro m hm hb;have bx:=b x m hm hb;have by':=b y m hm hb
  generalize kB .i64 x (I64 (t.gG - 1))=X at *;generalize kB .i64 y (I64 (t.gG - 1))=Y at *;rw[hm] at h2 ⊢;have n1:0<=Y*((m:Int)+1):=Int.mul_nonneg by'.1 (by omega)
  have n2:Y*((m:Int)+1)<=(m:Int)*((m:Int)+1):=eo by'.2 (by omega)
  have n3:(m:Int)*((m:Int)+1)<=100*101:=by
   have:(m:Int)*((m:Int)+1)<=100*((m:Int)+1):=eo (by omega) (by omega)
   omega
  have n4:((m:Int)+1)*((m:Int)+1)=(m:Int)*((m:Int)+1)+((m:Int)+1):=by rw[Int.add_mul,Int.one_mul]
  rw[n4] at h2;generalize Y*((m:Int)+1)=Z at *;generalize (m:Int)*((m:Int)+1)=W at *;rw[bD (x:=Z) (by omega) (by omega),bD (by omega) (by omega)]
  exact T.bind (T.idx (by omega) (by omega)) λ_ _=>T.ret trivial
 rcases h1 with h | h | h | h | h
 ·exact key 0 h (by decide)
 ·exact key 1 h (by decide)
 ·exact key 3 h (by decide)
 ·exact key 7 h (by decide)
 ·exact key 15 h (by decide)
theorem aVd(N:Nat)(hN:10 < N)(a b c d:Vector Int 3):T (kX N a b c d N (#v[0,0,0]) 0) (λ_=>True):=by
 refine T.loopG0 (n:=3) (λ_ _=>True) _ (F:=kX N a b c d) (λk s i hi _ hk=>?_) (λk s _=>?_) (by omega) trivial
 ·rw[kX,dt (by omega),cond_true]
  refine T.bind (T.inRO (by omega) (by omega)) λ_ _=>T.bind (T.vg hi) λ_ _=>T.bind (T.inRO (by omega) (by omega)) λ_ _=>T.bind (T.vg hi) λ_ _=>T.bind (T.inRO (by omega) (by omega)) λ_ _=>T.bind (T.vg hi) λ_ _=>?_;simp only[aO]
  refine T.bind (T.inRO (by omega) (by omega)) λ_ _=>T.bind (T.vg hi) λ_ _=>T.bind (T.inRO (by omega) (by omega)) λ_ _=>T.bind (T.vg hi) λ_ _=>?_;rw[cW (by omega)]
  exact hk _ trivial
 ·rw[kX,df (by omega),cond_false];exact T.ret trivial
theorem halfT(N:Nat)(hN:100 < N){t:aC}(h:aN2 t)(h1:t.gG > 1):T (yC N t) (λr=>aN2 r/\r.gG*2=t.gG):=by
 unfold yC;obtain⟨H,e1,e2,e3⟩:∃H:Nat,I64 (d7 t.gG 2)=(H:Int)/\t.gG=(H:Int)*2/\(H=1\/H=2\/H=4\/H=8):=by
  rcases h.1 with e | e | e | e | e
  ·omega
  ·exact⟨1,by rw[e];decide,by rw[e];decide,by simp⟩
  ·exact⟨2,by rw[e];decide,by rw[e];decide,by simp⟩
  ·exact⟨4,by rw[e];decide,by rw[e];decide,by simp⟩
  ·exact⟨8,by rw[e];decide,by rw[e];decide,by simp⟩
 simp only[aO,e1]
 have sq:I64 ((H:Int)*(H:Int))=((H*H:Nat):Int):=by rcases e3 with e | e | e | e <;> subst e <;> decide
 have sb:H*H<=64:=by rcases e3 with e | e | e | e <;> subst e <;> decide
 have nz:(H:Int)≠0:=by omega
 refine T.bind (T.loopG0 (n:=H*H) (λi s=>s.length=i) (λr=>r.length=H*H) (F:=mM N (H:Int) (H:Int) t) (λk s i hi hs hk=>?_) (λk s hs=>?_) (by omega) (s:=[]) rfl) λp4 h4=>T.ret ⟨⟨?_,?_⟩,?_⟩
 ·rw[mM]
  simp only[aO,e1,sq]
  rw[dt (by omega),cond_true]
  refine T.eq (aQF .i64 nz) (T.eq (aEa .i64 nz) ?_)
  refine T.bind (aJS N h _ _) λr12 _=>T.bind (aJS N h _ _) λr14 _=>T.bind (aJS N h _ _) λr16 _=>T.bind (aJS N h _ _) λr19 _=>T.bind (aVd N (by omega) _ _ _ _) λp20 _=>?_;refine T.eq (bY (by simp;omega)) ?_;rw[cW (by omega)]
  exact hk _ (by simp;omega)
 ·rw[mM]
  simp only[aO,sq]
  rw[df (by omega),cond_false]
  exact T.ret hs
 ·show(H:Int)=1\/(H:Int)=2\/(H:Int)=4\/(H:Int)=8\/(H:Int)=16;omega
 ·show(p4.length:Int)=(H:Int)*(H:Int)
  rw[h4];push_cast;rfl
 ·show(H:Int)*2=t.gG;exact e2.symm
def aHw(l:List aC):Prop:=l.length<=20/\∀t∈l,t.gA6.length<=260
theorem aK8{t:aC}(h:aN2 t):t.gA6.length<=260:=by
 obtain⟨h1,h2⟩:=h;rcases h1 with e | e | e | e | e <;> rw[e] at h2 <;> omega
theorem lvR2(N:Nat)(l:List aC)(a t:aC)(h:l.length<=1000):nR N l a t=some (l++[t]):=by
 unfold nR;rw[bY (by simp;omega)]
 rfl
theorem aR5(N:Nat)(hN:100 < N):∀(j k:Nat) (l:List aC) (t:aC),aN2 t->t.gG<=2 ^ j->j < k->(l.length+j<=10/\∀t∈l,t.gA6.length<=260)->T (bR N k l t) (λr=>aHw r.1):=by
 intro j
 induction j with
 | zero=>
  intro k l t ht hs hk hl;obtain⟨k,rfl⟩:∃k',k=k'+1:=⟨k - 1,by omega⟩
  rw[bR]
  refine T.eq (lvR2 N _ _ _ (by omega)) ?_;rw[df (by simpa using hs),cond_false]
  refine T.ret ⟨by simp;omega,?_⟩
  intro u hu;rw[b9,c9] at hu;rcases hu with hu | rfl
  ·exact hl.2 u hu
  ·exact aK8 ht
 | succ j ih=>
  intro k l t ht hs hk hl;obtain⟨k,rfl⟩:∃k',k=k'+1:=⟨k - 1,by omega⟩
  rw[bR]
  refine T.eq (lvR2 N _ _ _ (by omega)) ?_;have all:∀u∈l++[t],u.gA6.length<=260:=by
   intro u hu;rw[b9,c9] at hu;rcases hu with hu | rfl
   ·exact hl.2 u hu
   ·exact aK8 ht
  refine T.cond (λhc=>?_) (λ_=>T.ret ⟨by simp;omega,all⟩)
  refine T.bind (halfT N hN ht (of_decide_eq_true hc)) λr5 h5=>?_;have hp:(2:Int) ^ (j+1)=2 ^ j*2:=Int.pow_succ _ _;exact ih k _ r5 h5.1 (by have:=h5.2;omega) (by omega) ⟨by simp;omega,all⟩
theorem aUH(N:Nat)(l:List (Vector Int 3))(h:l.length<=1000):T (eY N l) (λr=>r=l):=by
 unfold eY;exact T.eq (bY (by simp;omega)) (T.ret (by simp))
theorem aUK(N:Nat)(hN:300 < N)(t:aC)(h:t.gA6.length<=260):T (qQ N t) (λr=>aHw r.1):=by
 unfold qQ;refine T.bind (texT N t (by omega) (by omega) (by omega)) λr1 h1=>?_;refine T.cond (λ_=>T.ret ⟨by simp,λt h=>absurd h (by simp)⟩) (λhc=>?_)
 have ok:=h1 (by simpa using hc)
 refine T.bind (aUH N _ (by omega)) λr2 h2=>?_;subst h2;unfold zP dJ;refine T.eq rfl ?_;refine T.bind (P:=λr=>aHw r.1) ?_ λr4 h4=>T.ret h4;refine T.bind (aR5 N (by omega) 4 N [] _ ⟨ok.1,ok.2.1⟩ (by have:=ok.1;show t.gG<=2 ^ 4;omega) (by omega) ⟨by simp,λt h=>absurd h (by simp)⟩) λp1 h1=>T.ret h1
theorem aRE(N:Nat)(l:List aJ)(m:Int)(hm':0<=m/\m<=4096)(hl':(l.length:Int)<=m):T (xM N l m) (λq=>match q with | .inl e=>False | .inr r=>r.2=0/\(r.1.length:Int)=m/\r.1.length<=4096/\(∀i,l.length<=i->∀t,r.1[i]? = some t->t.gD4=0)/\∀i,i < l.length->r.1[i]? = l[i]?):=by
 unfold xM;simp only[aO]
 rw[df (show ¬m < 0 by omega),df (show ¬m > 4096 by omega)]
 refine T.cond (λhc=>by cases hc) (λhc=>?_)
 have hm:=hm';obtain⟨n,rfl⟩:=bm hm.1;refine T.cond (λhc=>absurd (of_decide_eq_true hc) (by omega)) (λhc2=>?_)
 have hl:=of_decide_eq_false hc2;refine T.eq (a:=()) (by unfold mkO;rw[dt (by omega),dt (by omega),dt (by omega)];rfl) ?_;rw[bn]
 unfold cpD;rw[dt (by simp),cond_true,ae]
 have hlen:∀z:aJ,(cpy (List.replicate n z) l 0 n).length=n:=by intro z;unfold cpy;simp;omega
 refine T.eq (a:=()) (by unfold yS;rw[hlen,i5];rfl) ?_;refine T.ret ⟨rfl,by rw[hlen],by rw[hlen];omega,?_,λi hi=>?_⟩
 case refine_2=>
  unfold cpy;rw[show min l.length n=l.length by omega,lc,fc,ku,bd hi]
 intro i hi t ht;unfold cpy at ht;rw[show min l.length n=l.length by omega,lc,fc,ku,ci hi,List.getElem?_drop] at ht;have hm:=az ht;rw[List.mem_replicate] at hm;rw[hm.2]
def ple(p q:aB):Prop:=p.gX<=q.gX/\p.gY<=q.gY/\p.gZ<=q.gZ
theorem aRH(N:Nat)(l:List aB){m:Int}(hm:0<=m)(h:∀p∈l,pwi m p)(hN:l.length < N)(hl:l.length < 1000000):T (pH N l) (λr=>pwi m r.1/\pwi m r.2/\∀p∈l,ple r.1 p/\ple p r.2):=by
 unfold pH;have z:pwi m (aB.mk 0 0 0):=by unfold pwi;dsimp only;omega
 refine T.bind (T.loopG0 (n:=l.length) (λi (s:aB×aB)=>pwi m s.1/\pwi m s.2/\∀j,(hj:j < l.length)->j < i->ple s.1 l[j]/\ple l[j] s.2) (λr=>pwi m r.1/\pwi m r.2/\∀p∈l,ple r.1 p/\ple p r.2) (F:=λk (s:aB×aB) i=>uJ N l k s.1 s.2 i) (λk s i hi hs hk=>?_) (λk s hs=>?_) hN (s:=(aB.mk 0 0 0,aB.mk 0 0 0)) ⟨z,z,λj _ h=>absurd h (by omega)⟩) λr hr=>T.ret hr
 ·rw[uJ,aO,dt (by omega),cond_true,eP,af hi,ae]
  have he:=h _ (bh hi)
  generalize hx:l[i]=x at *;refine T.bind (P:=λp=>pwi m p.1/\pwi m p.2/\∀j,(hj:j < l.length)->j < i->ple p.1 l[j]/\ple l[j] p.2) ?_ λp7 h7=>?_
  ·refine T.cond (λhc=>?_) (λ_=>T.ret hs)
   have:i=0:=by have:=of_decide_eq_true hc;omega
   exact T.ret ⟨he,he,λj _ h=>absurd h (by omega)⟩
  ·rw[cW (by omega)]
   obtain⟨a,b,c⟩:=h7;refine hk (_,_) ⟨?_,?_,λj hj hji=>?_⟩
   ·unfold pwi at *;simp only[wI];omega
   ·unfold pwi at *;simp only[tR];omega
   ·by_cases e:j=i
    ·subst e;rw[hx]
     unfold ple;simp only[wI,tR];omega
    ·have:=c j hj (by omega)
     unfold ple at *;simp only[wI,tR];omega
 ·rw[uJ,aO,df (by omega),cond_false]
  refine T.ret ⟨hs.1,hs.2.1,λp hp=>?_⟩
  obtain⟨j,hj,rfl⟩:=co hp;exact hs.2.2 j hj hj
def tpw(t:aJ):Prop:=∀p∈t.gP.toList,pwi 65536 p
theorem T.slc3{α:Type}(v:Vector α 3):T (xR v.toList 0 3) (λr=>r=v.toList):=by
 refine⟨_,aGe (by decide) (by decide) (by simp),?_⟩
 exact fm (show v.toList.length<=3 by simp)
theorem aLq(N:Nat)(hN:3 < N){t:aJ}(h:tpw t):T (pH N t.gP.toList) (λr=>pwi 65536 r.1/\pwi 65536 r.2/\∀p∈t.gP.toList,ple r.1 p/\ple p r.2):=
 aRH N _ (by decide) h (by simpa using hN) (by simp)
theorem aIV(N:Nat)(hN:3 < N){t:aJ}(h:tpw t):T (kW N t) (pwi 131072):=by
 unfold kW;refine T.bind (T.slc3 t.gP) λs hs=>?_;subst hs;refine T.bind (aLq N hN h) λr2 h2=>?_;simp only[aO]
 obtain⟨a,b,_⟩:=h2;refine T.ret ?_;unfold pwi at *;dsimp only;rw[bD (by omega) (by omega),bD (by omega) (by omega),bD (by omega) (by omega)]
 omega
def ax(p:aB)(i:Int):Int:=if i=0 then p.gX else if i=1 then p.gY else p.gZ
theorem aE5(N:Nat)(p:aB){i:Int}(h0:0<=i)(h3:i < 3):T (nD N p i) (λr=>r=ax p i):=by
 have:i=0\/i=1\/i=2:=by omega
 rcases this with rfl | rfl | rfl <;> exact⟨_,rfl,rfl⟩
theorem ax_b{m:Int}{p:aB}(h:pwi m p)(i:Int) : -m<=ax p i/\ax p i<=m:=by
 unfold pwi at h;unfold ax;split
 ·omega
 ·split <;> omega
def ord(n:Nat)(l:List Int):Prop:=∀x∈l,0<=x/\x < (n:Int)
def aCC(l:List aJ):Prop:=(∀t∈l,tpw t)/\l.length<=20
theorem T.tri{l:List aJ}(h:aCC l){e:Int}(he:0<=e/\e < (l.length:Int)):T (Go.UK.idx l e) tpw:=
 (T.idx he.1 he.2).mono λt ht=>h.1 t (az ht)
theorem aWb(N:Nat)(hN:3 < N){l:List aJ}(h:aCC l){a b i:Int}(ha:0<=a/\a < (l.length:Int))(hb:0<=b/\b < (l.length:Int))(hi:0<=i/\i < 3):T (tJ N a b l i) (λ_=>True):=by
 unfold tJ;refine T.bind (T.tri h ha) λ_ h1=>T.bind (aIV N hN h1) λ_ _=>T.bind (aE5 N _ hi.1 hi.2) λ_ _=>?_;refine T.bind (T.tri h hb) λ_ h1=>T.bind (aIV N hN h1) λ_ _=>T.bind (aE5 N _ hi.1 hi.2) λ_ _=>T.ret trivial
def aKR(a b:Int):Prop:=a≠b/\(-131072<=a/\a<=131072)/\(-131072<=b/\b<=131072)
theorem binT0(N:Nat){x a b:Int}(h:aKR a b):T (zL N x a b) (λ_=>True):=by
 unfold zL;simp only[aO]
 obtain⟨h1,h2,h3⟩:=h;rw[bD (x:=b - a) (by omega) (by omega)]
 exact T.eq (aEa .i64 (by omega)) (T.ret trivial)
theorem binT(N:Nat){x a b:Int}(h:aKR a b)(hx:a<=x/\x<=b):T (zL N x a b) (λr=>0<=r/\r < 8):=by
 unfold zL;simp only[aO]
 obtain⟨h1,h2,h3⟩:=h;rw[bD (x:=b - a) (by omega) (by omega),bD (x:=x - a) (by omega) (by omega),bD (x:=(x - a)*8) (by omega) (by omega)]
 refine T.eq (aEa .i64 (by omega)) (T.ret ?_)
 rw[dp (by omega)]
 have q0:0<=(x - a)*8 / (b - a):=ck (by omega) (by omega)
 have q1:(x - a)*8 / (b - a)<=(x - a)*8:=j7 _ (by omega)
 rw[show IntKind.i64.wrap ((x - a)*8 / (b - a))=(x - a)*8 / (b - a) from bD (by omega) (by omega),wI]
 omega
theorem aLo(N:Nat)(hN:3 < N){l:List aJ}(h:aCC l){e a b c i:Int}(he:0<=e/\e < (l.length:Int))(hab:aKR a b)(hi:0<=i/\i < 3):T (jA N e l a b c i) (λ_=>True):=by
 unfold jA;refine T.bind (T.tri h he) λ_ h1=>T.bind (aIV N hN h1) λ_ _=>T.bind (aE5 N _ hi.1 hi.2) λ_ _=>T.bind (binT0 N hab) λ_ _=>T.ret trivial
theorem aW5(N:Nat)(hN:3 < N){l:List aJ}(h:aCC l){e e' a b c i:Int}(he:0<=e/\e < (l.length:Int))(he':0<=e'/\e' < (l.length:Int))(hab:aKR a b)(hi:0<=i/\i < 3):T (uR N e e' l a b c i) (λ_=>True):=by
 unfold uR;refine T.bind (aLo N hN h he hab hi) λ_ _=>T.bind (aLo N hN h he' hab hi) λ_ _=>T.cond (λ_=>T.ret trivial) (λ_=>?_)
 refine T.bind (aLo N hN h he' hab hi) λ_ _=>T.cond (λ_=>T.ret trivial) (λ_=>T.ret trivial)
theorem T.inRS{L lo n:Nat}{i:Int}(h1:lo+n<=L)(h2:0<=i)(h3:i < (n:Int)):T (aAa L lo n i) (λ_=>True):=⟨(),by unfold Go.UK.aAa;rw[dt h1,dt h2,dt h3];rfl,trivial⟩
theorem T.slcG{L lo0 n:Nat}{lo hi:Int}(h1:lo0+n<=L)(h2:0<=lo)(h3:lo<=hi)(h4:hi<=(n:Int))(h5:lo=0\/lo < (n:Int)):T (aMh L lo0 n lo hi) (λ_=>True):=⟨(),by unfold Go.UK.aMh;rw[dt h1,dt h2,dt h3,dt h4,dt h5];rfl,trivial⟩
theorem T.lenO{α:Type}{l:List α}{n:Nat}(h:l.length=n):T (yS l n) (λ_=>True):=⟨(),by unfold Go.UK.yS;rw[h,i5];rfl,trivial⟩
theorem T.setO{α:Type}{l:List α}{j:Nat}{e:α}(h:j < l.length):T (aC3 l j e) (λr=>r=l.set j e):=⟨_,by unfold Go.UK.aC3;rw[show Nat.blt j l.length=Bool.true by rw[Nat.blt_eq];exact h];rfl,rfl⟩
theorem T.appG{α:Type}{b m:Nat}{l r:List α}(h:m<=l.length)(h':(m+r.length)*b<=140737488355328):T (aOC b l m r) (λx=>x=vT l m r):=⟨_,by unfold Go.UK.aOC;rw[dt h,show Nat.ble ((m+r.length)*b) 140737488355328=Bool.true by rw[Nat.ble_eq];exact h'];rfl,rfl⟩
theorem T.get0{α:Type}{l:List α}{j:Nat}(h:j < l.length):T (l[j]?) (λe=>e∈l):=⟨l[j],af h,bh h⟩
theorem aIS{n:Nat}{l:List Int}{j:Nat}{e:Int}(h:ord n l)(he:0<=e/\e < (n:Int)):ord n (l.set j e):=by
 intro x hx;rcases iv hx with hx | rfl
 ·exact h x hx
 ·exact he
structure rG(lo m:Nat)(b r:List Int):Prop where
 len:r.length=b.length
 out:∀j,j < lo\/lo+m<=j->r[j]? = b[j]?
 sub:∀j,lo<=j->j < lo+m->∃j',lo<=j'/\j' < lo+m/\r[j]? = b[j']?
 sup:∀j,lo<=j->j < lo+m->∃j',lo<=j'/\j' < lo+m/\b[j]? = r[j']?
theorem rG.rfl'(lo m:Nat)(b:List Int):rG lo m b b:=⟨rfl,λ_ _=>rfl,λj h h'=>⟨j,h,h',rfl⟩,λj h h'=>⟨j,h,h',rfl⟩⟩
theorem rG.trans{lo m:Nat}{a b c:List Int}(h:rG lo m a b)(g:rG lo m b c):rG lo m a c:=by
 refine⟨g.len.trans h.len,λj hj=>(g.out j hj).trans (h.out j hj),λj h1 h2=>?_,λj h1 h2=>?_⟩
 ·obtain⟨j1,a1,a2,a3⟩:=g.sub j h1 h2;obtain⟨j2,b1,b2,b3⟩:=h.sub j1 a1 a2;exact⟨j2,b1,b2,a3.trans b3⟩
 ·obtain⟨j1,a1,a2,a3⟩:=h.sup j h1 h2;obtain⟨j2,b1,b2,b3⟩:=g.sup j1 a1 a2;exact⟨j2,b1,b2,a3.trans b3⟩
theorem rG.swap{lo m:Nat}{b:List Int}{x y:Nat}{e f:Int}(hx:lo<=x/\x < lo+m)(hy:lo<=y/\y < lo+m)(he:b[y]? = some e)(hf:b[x]? = some f):rG lo m b ((b.set x e).set y f):=by
 have lx:x < b.length:=by obtain⟨h,_⟩:=fh.1 hf;exact h
 have ly:y < b.length:=by obtain⟨h,_⟩:=fh.1 he;exact h
 have g:∀j,((b.set x e).set y f)[j]? = if j=y then some f else if j=x then some e else b[j]? := by
  intro j;by_cases h1:j=y
  ·subst h1;rw[if_pos rfl,dc (by rw[ce];exact ly)]
  ·rw[if_neg h1,da (by omega)]
   by_cases h2:j=x
   ·subst h2;rw[if_pos rfl,dc lx]
   ·rw[if_neg h2,da (by omega)]
 refine⟨by rw[ce,ce],λj hj=>?_,λj h1 h2=>?_,λj h1 h2=>?_⟩
 ·rw[g,if_neg (by omega),if_neg (by omega)]
 ·rw[g]
  by_cases c1:j=y
  ·rw[if_pos c1];exact⟨x,hx.1,hx.2,hf.symm⟩
  ·rw[if_neg c1]
   by_cases c2:j=x
   ·rw[if_pos c2];exact⟨y,hy.1,hy.2,he.symm⟩
   ·rw[if_neg c2];exact⟨j,h1,h2,rfl⟩
 ·by_cases c1:j=y
  ·refine⟨if x=y then y else x,by split <;> omega,by split <;> omega,?_⟩
   rw[g]
   by_cases c3:x=y
   ·rw[if_pos c3,if_pos rfl,c1,<- c3,hf]
   ·rw[if_neg c3,if_neg c3,if_pos rfl,c1,he]
  ·by_cases c2:j=x
   ·refine⟨y,hy.1,hy.2,?_⟩
    rw[g,if_pos rfl,c2,hf]
   ·refine⟨j,h1,h2,?_⟩
    rw[g,if_neg c1,if_neg c2]
def okS(n lo m:Nat)(b:List Int)(s:List Int×Nat):Prop:=ord n s.1/\rG lo m b s.1/\s.2=m
theorem ia1{a:Nat}(h:a < 900000):I64 ((a:Int)+1)=((a+1:Nat):Int):=cW (by omega)
theorem ins2A(N:Nat)(hN:3 < N){R:List aJ}(hT:aCC R){lo m:Nat}{a:Int}{i:Int}(hi:0<=i/\i < 3)(ha:0<=a){b:List Int}(hL:lo+m<=b.length)(hm:m<=20) :
  ∀(j k:Nat) (s:List Int),j < m->j < k->ord R.length s->rG lo m b s->T (bI N a lo R i k s m (j:Int)) (okS R.length lo m b):=by
 intro j
 induction j with
 | zero=>
  intro k s hj hk ho hs;have hsl:=hs.len;obtain⟨k,rfl⟩:∃k',k=k'+1:=⟨k - 1,by omega⟩
  rw[bI,df (by omega),cond_false]
  exact T.eq rfl (T.ret ⟨ho,hs,rfl⟩)
 | succ j ih=>
  intro k s hj hk ho hs;have hsl:=hs.len;obtain⟨k,rfl⟩:∃k',k=k'+1:=⟨k - 1,by omega⟩
  rw[bI,show I64 (((j+1:Nat):Int) - 1)=(j:Int) by rw[bD (by omega) (by omega)];omega]
  simp only[aAx,bn]
  refine T.bind (P:=λ_=>True) ?_ λp9 _=>T.cond (λ_=>?_) (λ_=>T.ret ⟨ho,hs,rfl⟩)
  ·refine T.cond (λ_=>?_) (λ_=>T.ret trivial)
   refine T.bind (T.inRS (by omega) (by omega) (by omega)) λ_ _=>T.bind (T.get0 (by omega)) λe11 h11=>T.bind (T.inRS (by omega) (by omega) (by omega)) λ_ _=>T.bind (T.get0 (by omega)) λe13 h13=>?_;exact T.bind (aWb N hN hT (ho _ h11) (ho _ h13) hi) λ_ _=>T.ret trivial
  ·refine T.bind (T.inRS (by omega) (by omega) (by omega)) λ_ _=>T.bind (T.get (by omega)) λe16 h16=>T.bind (T.inRS (by omega) (by omega) (by omega)) λ_ _=>T.bind (T.get (by omega)) λe18 h18=>?_;refine T.bind (T.inRS (by omega) (by omega) (by omega)) λ_ _=>T.bind (T.setO (by omega)) λz20 h20=>T.bind (T.inRS (by omega) (by omega) (by omega)) λ_ _=>T.bind (T.setO (by rw[h20,ce];omega)) λz22 h22=>?_;subst h22;subst h20;exact ih k _ (by omega) (by omega) (aIS (aIS ho (ho _ (az h16))) (ho _ (az h18))) (hs.trans (rG.swap ⟨by omega,by omega⟩ ⟨by omega,by omega⟩ h16 h18))
theorem insA(N:Nat)(hN:50 < N){R:List aJ}(hT:aCC R){L lo m:Nat}{a b:Nat}{i:Int}(hi:0<=i/\i < 3)(ha:a<=20)(hb:b<=m)(hL:lo+m<=L)(hm:m<=20){s:List Int}(ho:ord R.length s)(hs0:s.length=L):T (bL N s lo m (a:Int) (b:Int) R i) (λr=>ord R.length r/\rG lo m s r):=by
 unfold bL;have main:∀(k j:Nat) (q:List Int),b - j < k->j < 1000->ord R.length q->rG lo m s q->T (bU N (b:Int) (a:Int) lo R i k q m (j:Int)) (λr=>ord R.length r/\rG lo m s r):=by
  intro k
  induction k with
  | zero=>intro j q h;omega
  | succ k ih=>
   intro j q hj hj' ho hs;rw[bU]
   refine T.cond (λhc=>?_) (λ_=>T.ret ⟨ho,hs⟩)
   have hjb:j < b:=by have:=of_decide_eq_true hc;omega
   refine T.bind (ins2A N (by omega) hT hi (by omega) (b:=s) (by rw[hs0];exact hL) hm j N q (by omega) (by omega) ho hs) λp5 h5=>?_;obtain⟨q',m'⟩:=p5;obtain⟨o1,o2,o3⟩:=h5;dsimp only at o1 o2 o3;subst o3;rw[cW (by omega)]
   exact ih (j+1) q' (by omega) (by omega) o1 o2
 by_cases h:True
 ·rw[ia1 (by omega)]
  exact T.bind (main N (a+1) s (by omega) (by omega) ho (rG.rfl' lo m s)) λr h=>T.ret h
 ·exact absurd trivial h
theorem aUj(N:Nat)(hN:50 < N){R:List aJ}(hT:aCC R){L lo m:Nat}{i:Int}(hi:0<=i/\i < 3)(hL:lo+m<=L)(hm:m<=20){s:List Int}(ho:ord R.length s)(hs:s.length=L):T (cX N s lo m R i) (λr=>ord R.length r/\rG lo m s r):=by
 unfold cX iL;refine T.bind (P:=λr=>ord R.length r/\rG lo m s r) ?_ λr h=>T.ret h;obtain⟨N,rfl⟩:∃n,N=n+2:=⟨N - 2,by omega⟩
 have fin:∀(q:List Int) (a:Nat),a<=m->ord R.length q->rG lo m s q->T (aa (bL (N+2) q lo m (a:Int) (m:Int) R i) λr8=>aa (yS r8 q.length) λ_=>aa (cI (N+2) (m:Int) (N+2) 20) λp10=>some r8) (λr=>ord R.length r/\rG lo m s r):=by
  intro q a ha ho hq;refine T.bind (insA (N+2) (by omega) hT hi (by omega) (ay _) hL hm ho (hq.len.trans hs)) λr8 h8=>T.bind (T.lenO h8.2.len) λ_ _=>?_;rw[cI,df (by omega),cond_false]
  exact T.eq rfl (T.ret ⟨h8.1,hq.trans h8.2⟩)
 by_cases h:m=20
 ·rw[bW,dt (by omega),cond_true]
  have r1:=insA (N+2) (by omega) hT hi (a:=0) (b:=20) (by omega) (by omega) hL hm ho hs;obtain⟨q,e,oq,lq⟩:=r1;rw[show((0:Nat):Int)=0 from rfl,show((20:Nat):Int)=20 from rfl] at e;refine T.eq (a:=(q,m,20)) ?_ (fin q 20 (by omega) oq lq)
  rw[e,ae,show yS q s.length=some () by unfold yS;rw[lq.len,i5];rfl,ae]
  rw[bW,show I64 (20+20)=40 by decide,df (by omega),cond_false]
 ·rw[bW,df (by omega),cond_false]
  exact T.eq rfl (fin s 0 (by omega) ho (rG.rfl' lo m s))
theorem ins2B(N:Nat)(hN:3 < N){R:List aJ}(hT:aCC R){lo m:Nat}{a:Int}{u v w i:Int}(hab:aKR u v)(hi:0<=i/\i < 3)(ha:0<=a){b:List Int}(hL:lo+m<=b.length)(hm:m<=20) :
  ∀(j k:Nat) (s:List Int),j < m->j < k->ord R.length s->rG lo m b s->T (bJ N a lo R u v w i k s m (j:Int)) (okS R.length lo m b):=by
 intro j
 induction j with
 | zero=>
  intro k s hj hk ho hs;have hsl:=hs.len;obtain⟨k,rfl⟩:∃k',k=k'+1:=⟨k - 1,by omega⟩
  rw[bJ,df (by omega),cond_false]
  exact T.eq rfl (T.ret ⟨ho,hs,rfl⟩)
 | succ j ih=>
  intro k s hj hk ho hs;have hsl:=hs.len;obtain⟨k,rfl⟩:∃k',k=k'+1:=⟨k - 1,by omega⟩
  rw[bJ,show I64 (((j+1:Nat):Int) - 1)=(j:Int) by rw[bD (by omega) (by omega)];omega]
  simp only[aAx,bn]
  refine T.bind (P:=λ_=>True) ?_ λp9 _=>T.cond (λ_=>?_) (λ_=>T.ret ⟨ho,hs,rfl⟩)
  ·refine T.cond (λ_=>?_) (λ_=>T.ret trivial)
   refine T.bind (T.inRS (by omega) (by omega) (by omega)) λ_ _=>T.bind (T.get0 (by omega)) λe11 h11=>T.bind (T.inRS (by omega) (by omega) (by omega)) λ_ _=>T.bind (T.get0 (by omega)) λe13 h13=>?_;exact T.bind (aW5 N hN hT (ho _ h11) (ho _ h13) hab hi) λ_ _=>T.ret trivial
  ·refine T.bind (T.inRS (by omega) (by omega) (by omega)) λ_ _=>T.bind (T.get (by omega)) λe16 h16=>T.bind (T.inRS (by omega) (by omega) (by omega)) λ_ _=>T.bind (T.get (by omega)) λe18 h18=>?_;refine T.bind (T.inRS (by omega) (by omega) (by omega)) λ_ _=>T.bind (T.setO (by omega)) λz20 h20=>T.bind (T.inRS (by omega) (by omega) (by omega)) λ_ _=>T.bind (T.setO (by rw[h20,ce];omega)) λz22 h22=>?_;subst h22;subst h20;exact ih k _ (by omega) (by omega) (aIS (aIS ho (ho _ (az h16))) (ho _ (az h18))) (hs.trans (rG.swap ⟨by omega,by omega⟩ ⟨by omega,by omega⟩ h16 h18))
theorem insB(N:Nat)(hN:50 < N){R:List aJ}(hT:aCC R){L lo m:Nat}{a b:Nat}{u v w i:Int}(hab:aKR u v)(hi:0<=i/\i < 3)(ha:a<=20)(hb:b<=m)(hL:lo+m<=L)(hm:m<=20){s:List Int}(ho:ord R.length s)(hs0:s.length=L):T (bP N s lo m (a:Int) (b:Int) R u v w i) (λr=>ord R.length r/\rG lo m s r):=by
 unfold bP;have main:∀(k j:Nat) (q:List Int),b - j < k->j < 1000->ord R.length q->rG lo m s q->T (bX N (b:Int) (a:Int) lo R u v w i k q m (j:Int)) (λr=>ord R.length r/\rG lo m s r):=by
  intro k
  induction k with
  | zero=>intro j q h;omega
  | succ k ih=>
   intro j q hj hj' ho hs;rw[bX]
   refine T.cond (λhc=>?_) (λ_=>T.ret ⟨ho,hs⟩)
   have hjb:j < b:=by have:=of_decide_eq_true hc;omega
   refine T.bind (ins2B N (by omega) hT hab hi (by omega) (b:=s) (by rw[hs0];exact hL) hm j N q (by omega) (by omega) ho hs) λp5 h5=>?_;obtain⟨q',m'⟩:=p5;obtain⟨o1,o2,o3⟩:=h5;dsimp only at o1 o2 o3;subst o3;rw[cW (by omega)]
   exact ih (j+1) q' (by omega) (by omega) o1 o2
 by_cases h:True
 ·rw[ia1 (by omega)]
  exact T.bind (main N (a+1) s (by omega) (by omega) ho (rG.rfl' lo m s)) λr h=>T.ret h
 ·exact absurd trivial h
theorem aUA(N:Nat)(hN:50 < N){R:List aJ}(hT:aCC R){L lo m:Nat}{u v w i:Int}(hab:aKR u v)(hi:0<=i/\i < 3)(hL:lo+m<=L)(hm:m<=20){s:List Int}(ho:ord R.length s)(hs:s.length=L):T (dA N s lo m R u v w i) (λr=>ord R.length r/\rG lo m s r):=by
 unfold dA iU;refine T.bind (P:=λr=>ord R.length r/\rG lo m s r) ?_ λr h=>T.ret h;obtain⟨N,rfl⟩:∃n,N=n+2:=⟨N - 2,by omega⟩
 have fin:∀(q:List Int) (a:Nat),a<=m->ord R.length q->rG lo m s q->T (aa (bP (N+2) q lo m (a:Int) (m:Int) R u v w i) λr8=>aa (yS r8 q.length) λ_=>aa (cM (N+2) (m:Int) (N+2) 20) λp10=>some r8) (λr=>ord R.length r/\rG lo m s r):=by
  intro q a ha ho hq;refine T.bind (insB (N+2) (by omega) hT hab hi (by omega) (ay _) hL hm ho (hq.len.trans hs)) λr8 h8=>T.bind (T.lenO h8.2.len) λ_ _=>?_;rw[cM,df (by omega),cond_false]
  exact T.eq rfl (T.ret ⟨h8.1,hq.trans h8.2⟩)
 by_cases h:m=20
 ·rw[cA,dt (by omega),cond_true]
  have r1:=insB (N+2) (by omega) hT (w:=w) hab hi (a:=0) (b:=20) (by omega) (by omega) hL hm ho hs;obtain⟨q,e,oq,lq⟩:=r1;rw[show((0:Nat):Int)=0 from rfl,show((20:Nat):Int)=20 from rfl] at e;refine T.eq (a:=(q,m,20)) ?_ (fin q 20 (by omega) oq lq)
  rw[e,ae,show yS q s.length=some () by unfold yS;rw[lq.len,i5];rfl,ae]
  rw[cA,show I64 (20+20)=40 by decide,df (by omega),cond_false]
 ·rw[cA,df (by omega),cond_false]
  exact T.eq rfl (fin s 0 (by omega) ho (rG.rfl' lo m s))
structure aMe(R:List aJ)(b:List Int)(lo m:Nat):Prop where
 tris:aCC R
 ord:ord R.length b
 len:lo+m<=b.length
 few:m<=20
theorem aMe.get{R:List aJ}{b:List Int}{lo m:Nat}(h:aMe R b lo m){i:Nat}(hi:i < m):T (b[aBC lo ((i:Int).toNat)]?) (λe=>0<=e/\e < (R.length:Int)):=by
 rw[aAx,bn]
 have:=h.len;exact(T.get0 (by omega)).mono λe he=>h.ord e he
theorem aMe.rs{R:List aJ}{b:List Int}{lo m:Nat}(h:aMe R b lo m){i:Nat}(hi:i < m):T (aAa b.length lo m (i:Int)) (λ_=>True):=T.inRS h.len (by omega) (by omega)
def tinB(lo hi:aB)(t:aJ):Prop:=∀p∈t.gP.toList,ple lo p/\ple p hi
def aEN(R:List aJ)(b:List Int)(lo m:Nat)(x y:aB):Prop:=∀j,lo<=j->j < lo+m->∀e,b[j]? = some e->∀t,R[e.toNat]? = some t->tinB x y t
theorem aQc{a b c:aB}(h:ple a b)(g:ple b c):ple a c:=by unfold ple at *;omega
theorem boxDT(N:Nat)(hN:30 < N){R:List aJ}{b:List Int}{lo m:Nat}(h:aMe R b lo m):T (aA1 N b R lo m) (λr=>(pwi 65536 r.1/\pwi 65536 r.2)/\aEN R b lo m r.1 r.2):=by
 unfold aA1;have z:pwi 65536 (aB.mk 0 0 0):=by unfold pwi;dsimp only;omega
 have fw:=h.few;refine T.bind (T.loopG0 (n:=m) (λi (s:aB×aB)=>(pwi 65536 s.1/\pwi 65536 s.2)/\aEN R b lo i s.1 s.2) (λr=>(pwi 65536 r.1/\pwi 65536 r.2)/\aEN R b lo m r.1 r.2) (F:=λk (s:aB×aB) i=>pJ N m b lo R k s.1 s.2 i) (λk s i hi hs hk=>?_) (λk s hs=>?_) (by omega) (s:=(aB.mk 0 0 0,aB.mk 0 0 0)) ⟨⟨z,z⟩,λj _ h=>absurd h (by omega)⟩) λr hr=>T.ret hr
 ·rw[pJ,aO,dt (by omega),cond_true]
  refine T.bind (P:=λp=>(pwi 65536 p.1/\pwi 65536 p.2.1)/\aEN R b lo (i+1) p.1 p.2.1) ?_ λp6 h6=>by rw[cW (by omega)];exact hk (_,_) h6
  refine T.bind (h.rs hi) λ_ _=>?_;obtain⟨e8,ee,h8⟩:=h.get hi;refine T.eq ee ?_;rw[aAx,bn] at ee;have hidx:e8.toNat < R.length:=by omega
  have et:R[e8.toNat]? = some R[e8.toNat]:=af hidx;have h9:tpw R[e8.toNat]:=h.tris.1 _ (bh hidx)
  refine T.eq (a:=R[e8.toNat]) ?_ (T.bind (T.slc3 _) λs10 h10=>?_)
  ·have:e8=((e8.toNat:Nat):Int):=by omega
   exact(congrArg (idx R) this).trans ((eP R e8.toNat).trans et)
  generalize R[e8.toNat]=t at *;subst h10;refine T.bind (aLq N (by omega) h9) λr11 h11=>?_;have one:∀{x y:aB},(∀p∈t.gP.toList,ple x p/\ple p y)->(∀j,lo<=j->j < lo+i->∀e,b[j]? = some e->∀t,R[e.toNat]? = some t->tinB x y t)->aEN R b lo (i+1) x y:=by
   intro x y hx hy j j1 j2 e he t' ht';by_cases c:j=lo+i
   ·subst c;have:e8=e:=lO ee he;subst this;rw[et] at ht';cases ht';exact hx
   ·exact hy j j1 (by omega) e he t' ht'
  refine T.cond (λhc=>T.ret ⟨⟨h11.1,h11.2.1⟩,one h11.2.2 λj j1 j2=>?_⟩) (λ_=>?_)
  ·have:=of_decide_eq_true hc;omega
  refine T.bind (aRH N _ (m:=65536) (by decide) (by intro p hp;simp at hp;rcases hp with rfl | rfl;exact hs.1.1;exact h11.1) (by simp;omega) (by simp)) λr12 h12=>?_;refine T.bind (aRH N _ (m:=65536) (by decide) (by intro p hp;simp at hp;rcases hp with rfl | rfl;exact hs.1.2;exact h11.2.1) (by simp;omega) (by simp)) λr13 h13=>T.ret ⟨⟨h12.1,h13.2.1⟩,one (λp hp=>⟨aQc (h12.2.2 _ (by simp)).1 (h11.2.2 p hp).1,aQc (h11.2.2 p hp).2 (h13.2.2 _ (by simp)).2⟩) λj j1 j2 e he t' ht' p hp=>?_⟩
  have q:=hs.2 j j1 j2 e he t' ht' p hp;exact⟨aQc (h12.2.2 s.1 (by simp)).1 q.1,aQc q.2 (h13.2.2 s.2 (by simp)).2⟩
 ·rw[pJ,aO,df (by omega),cond_false];exact T.ret hs
def aE3(s:bB):Prop:=pwi 65536 s.glo/\pwi 65536 s.ghi
theorem aS2 : aE3 (bB.mk 0 (aB.mk 0 0 0) (aB.mk 0 0 0)):=by unfold aE3 pwi;dsimp only;omega
theorem aSE(N:Nat)(hN:10 < N){s:bB}(hs:aE3 s)(n:Int){a b:aB}(ha:pwi 65536 a)(hb:pwi 65536 b):T (qO N s n a b) aE3:=by
 unfold qO;refine T.cond (λ_=>T.ret hs) (λ_=>?_)
 refine T.bind (P:=λp=>pwi 65536 p.1/\pwi 65536 p.2) ?_ λp1 h1=>T.ret ⟨h1.1,h1.2⟩
 refine T.cond (λ_=>?_) (λ_=>T.ret ⟨ha,hb⟩)
 refine T.bind (aRH N _ (m:=65536) (by decide) (by intro p hp;simp at hp;rcases hp with rfl | rfl;exact hs.1;exact ha) (by simp;omega) (by simp)) λr12 h12=>?_;refine T.bind (aRH N _ (m:=65536) (by decide) (by intro p hp;simp at hp;rcases hp with rfl | rfl;exact hs.2;exact hb) (by simp;omega) (by simp)) λr13 h13=>T.ret ⟨h12.1,h13.2.1⟩
theorem aVB(N:Nat)(s:bB):T (sB N s) (λ_=>True):=by
 unfold sB;refine T.cond (λ_=>T.ret trivial) (λ_=>T.bind (P:=λ_=>True) (by unfold aFc;simp only[aO];exact T.ret trivial) λ_ _=>T.ret trivial)
def midP(N:Nat)(R:List aJ)(b:List Int)(lo m:Nat)(i u v:Int):Prop:=∀j,j < m->∀e,b[lo+j]? = some e->T (aa (idx R e) λt=>kW N t) (λp=>u<=ax p i/\ax p i<=v)
theorem cutT(N:Nat)(hN:30 < N){R:List aJ}{b:List Int}{lo m:Nat}(h:aMe R b lo m){i u v:Int}(hi:0<=i/\i < 3)(hab:aKR u v)(hm:midP N R b lo m i u v):T (wG N b R lo m i u v) (λ_=>True):=by
 unfold wG;have fw:=h.few;refine T.bind (P:=λp1=>∀s∈p1.toList,aE3 s) ?_ λp1 h1=>?_
 ·refine T.loopG0 (n:=m) (λ_ (s:Vector bB 8)=>∀x∈s.toList,aE3 x) _ (F:=lS N m b lo R i u v) (λk s j hj hs hk=>?_) (λk s hs=>?_) (by omega) (by intro x hx;simp at hx;rw[hx];exact aS2)
  ·rw[lS,aO,dt (by omega),cond_true]
   have hmj:=hm j hj;refine T.bind (h.rs hj) λ_ _=>?_;have hg:=h.get hj;obtain⟨e6,ee6,he6⟩:=hg;refine T.eq ee6 ?_;rw[aAx,bn] at ee6;have hmid:=hmj e6 ee6;obtain⟨t,et,ht⟩:=T.tri h.tris he6;refine T.eq et (T.bind (T.slc3 _) λs8 h8=>?_)
   subst h8;refine T.bind (aLq N (by omega) ht) λr9 h9=>T.eq et ?_;rw[et,ae] at hmid;obtain⟨q,eq1,hq⟩:=hmid;refine T.eq eq1 (T.bind (aE5 N q hi.1 hi.2) λr12 h12=>?_)
   subst h12;refine T.bind (binT N hab hq) λr13 h13=>T.bind (T.inRO h13.1 (by omega)) λ_ _=>?_;have hv:r13.toNat < 8:=by omega
   refine T.eq (aML s _ hv) (T.bind (aSE N (by omega) (hs _ (vmem s hv)) 1 h9.1 h9.2.1) λr16 h16=>T.bind (T.inRO h13.1 (by omega)) λ_ _=>T.eq (aML s _ hv) ?_)
   rw[cW (by omega)]
   refine hk _ λx hx=>?_;rw[Vector.toList_setIfInBounds] at hx;rcases iv hx with hx | rfl
   ·exact hs x hx
   ·exact h16
  ·rw[lS,aO,df (by omega),cond_false];exact T.ret hs
 refine T.bind (P:=λ_=>True) ?_ λp19 _=>T.ret trivial;have main:∀(k j:Nat) (a c:Int),8 - j < k->j<=8->T (oT N p1 k a c (j:Int)) (λ_=>True):=by
  intro k
  induction k with
  | zero=>intro j a c h;omega
  | succ k ih=>
   intro j a c hk hj;rw[oT]
   refine T.cond (λhc=>?_) (λ_=>T.ret trivial)
   have hj8:j < 8:=by have:=of_decide_eq_true hc;omega
   refine T.bind (P:=λ_=>True) ?_ λp23 _=>by rw[cW (by omega)];exact ih (j+1) _ _ (by omega) (by omega)
   refine T.bind (P:=λ_=>True) ?_ λp24 _=>?_
   ·refine(T.loopG0 (n:=8) (λ_ (s:bB×bB)=>aE3 s.1/\aE3 s.2) (λ_=>True) (F:=λk (s:bB×bB) x=>lX N p1 (j:Int) k s.1 s.2 x) (λk s x hx hs hk=>?_) (λk s hs=>?_) (by omega) (s:=(bB.mk 0 (aB.mk 0 0 0) (aB.mk 0 0 0),bB.mk 0 (aB.mk 0 0 0) (aB.mk 0 0 0))) ⟨aS2,aS2⟩)
    ·rw[lX,dt (by omega),cond_true]
     refine T.bind (P:=λp=>aE3 p.1/\aE3 p.2.1) ?_ λp28 h28=>by rw[cW (by omega)];exact hk (_,_) h28
     refine T.bind (T.idx (by omega) (by simp;omega)) λe29 h29=>?_;have he:=h1 _ (az h29)
     refine T.cond (λ_=>T.bind (aSE N (by omega) hs.1 _ he.1 he.2) λr h=>T.ret ⟨h,hs.2⟩) (λ_=>T.bind (aSE N (by omega) hs.2 _ he.1 he.2) λr h=>T.ret ⟨hs.1,h⟩)
    ·rw[lX,df (by omega),cond_false];exact T.ret trivial
   refine T.bind (aVB N _) λ_ _=>T.letO λ_ _=>T.bind (aVB N _) λ_ _=>?_;simp only[aO]
   exact T.cond (λ_=>T.ret trivial) (λ_=>T.ret trivial)
 exact main N 1 _ _ (by omega) (by decide)
theorem aT2(N:Nat)(hN:30 < N){R:List aJ}{b:List Int}{lo m:Nat}(h:aMe R b lo m){i u v w:Int}(hi:0<=i/\i < 3)(hab:aKR u v):T (dF N b lo m R u v w i) (λr=>r < (m:Int)/\r<=20):=by
 unfold dF;have fw:=h.few;by_cases hm:m=0
 ·subst hm;obtain⟨N,rfl⟩:∃n,N=n+1:=⟨N - 1,by omega⟩
  rw[bH,aO,df (by omega),cond_false]
  exact T.eq rfl (T.ret ⟨by decide,by decide⟩)
 refine T.bind (T.loopG0 (n:=m) (λ_ _=>True) (λo=>match o with | .inl _=>True | .inr r=>r < (m:Int)/\r<=20) (F:=λk (_:Unit) x=>bH N m b lo R u v w i k x) (λk _ x hx _ hk=>?_) (λk _ _=>?_) (by omega) (s:=()) trivial) λo ho=>?_
 ·rw[bH,aO,dt (by omega),cond_true]
  refine T.bind (h.rs hx) λ_ _=>T.bind (h.get hx) λe he=>T.bind (aLo N (by omega) h.tris he hab hi) λr _=>T.cond (λ_=>T.ret (show(x:Int) < (m:Int)/\(x:Int)<=20 by omega)) (λ_=>by rw[cW (by omega)];exact hk () trivial)
 ·rw[bH,aO,df (by omega),cond_false];exact T.ret trivial
 ·cases o with
  | inl _=>exact T.ret ⟨by omega,by decide⟩
  | inr r=>exact T.ret ho
theorem aSw{p q:aB}(h:ple p q)(i:Int):ax p i<=ax q i:=by
 obtain⟨a,b,c⟩:=h;unfold ax;split
 ·exact a
 ·split
  ·exact b
  ·exact c
theorem partT(N:Nat)(hN:50 < N){R:List aJ}{b:List Int}{lo m:Nat}(h:aMe R b lo m)(d:Int):T (yG N b R lo m d) (λr=>ord R.length r.1/\rG lo m b r.1/\(r.2 > 0->r.2 < (m:Int))):=by
 unfold yG;have fw:=h.few;rw[aO]
 refine T.cond (λ_=>T.ret ⟨h.ord,rG.rfl' lo m b,λh=>absurd h (show ¬(0:Int) > 0 by decide)⟩) (λhc=>?_)
 have hm4:=of_decide_eq_false hc;refine T.bind (P:=λp2=>p2.length=m/\(∀p∈p2,pwi 131072 p)/\∀j,j < m->∀e,b[lo+j]? = some e->T (aa (idx R e) λt=>kW N t) (λp=>p∈p2)) ?_ λp2 h2=>?_
 ·refine T.loopG0 (n:=m) (λx (s:List aB)=>s.length=x/\(∀p∈s,pwi 131072 p)/\∀j,j < x->∀e,b[lo+j]? = some e->T (aa (idx R e) λt=>kW N t) (λp=>p∈s)) _ (F:=mT N m b lo R) (λk s x hx hs hk=>?_) (λk s hs=>?_) (by omega) ⟨rfl,λp h=>absurd h (by simp),λj h=>absurd h (by omega)⟩
  ·rw[mT,aO,dt (by omega),cond_true]
   refine T.bind (h.rs hx) λ_ _=>?_;obtain⟨e,ee,he⟩:=h.get hx;refine T.eq ee ?_;rw[aAx,bn] at ee;obtain⟨t,et,ht⟩:=T.tri h.tris he;refine T.eq et ?_;obtain⟨q,eq1,hq⟩:=aIV N (by omega) ht;refine T.eq eq1 (T.eq (bY (by simp;omega)) ?_)
   rw[cW (by omega)]
   refine hk _ ⟨by simp;omega,?_,?_⟩
   ·intro p hp;rw[b9,c9] at hp;rcases hp with hp | rfl
    ·exact hs.2.1 p hp
    ·exact hq
   ·intro j hj e' he';by_cases ej:j=x
    ·subst ej;obtain rfl:=lO ee he';rw[et,ae]
     exact⟨q,eq1,by simp⟩
    ·exact(hs.2.2 j (by omega) e' he').mono λp hp=>by rw[b9];exact Or.inl hp
  ·rw[mT,aO,df (by omega),cond_false];exact T.ret hs
 refine T.bind (aRH N p2 (m:=131072) (by decide) h2.2.1 (by omega) (by omega)) λr11 h11=>?_;refine T.bind (P:=λi=>0<=i/\i < 3) ?_ λi hi=>?_
 ·have main:∀(k j:Nat) (a:Int),3 - j < k->j<=3->(0<=a/\a < 3)->T (pT N r11 k a (j:Int)) (λi=>0<=i/\i < 3):=by
   intro k
   induction k with
   | zero=>intro j a h;omega
   | succ k ih=>
    intro j a hk hj ha;rw[pT]
    refine T.cond (λhc=>?_) (λ_=>T.ret ha)
    have hj3:j < 3:=by have:=of_decide_eq_true hc;omega
    refine T.bind (P:=λi=>0<=i/\i < 3) ?_ λp h=>by rw[cW (by omega)];exact ih (j+1) _ (by omega) (by omega) h
    refine T.bind (aE5 N _ (by omega) (by omega)) λ_ _=>T.bind (aE5 N _ (by omega) (by omega)) λ_ _=>T.bind (aE5 N _ ha.1 ha.2) λ_ _=>T.bind (aE5 N _ ha.1 ha.2) λ_ _=>?_;rw[aO]
    exact T.cond (λ_=>T.ret ⟨by omega,by omega⟩) (λ_=>T.ret ha)
  exact main N 1 0 (by omega) (by decide) (by decide)
 refine T.bind (aE5 N _ hi.1 hi.2) λu hu=>T.bind (aE5 N _ hi.1 hi.2) λv hv=>?_;refine T.cond (λ_=>T.ret ⟨h.ord,rG.rfl' lo m b,λh=>absurd h (show ¬(0:Int) > 0 by decide)⟩) (λhc2=>?_)
 have hab:aKR u v:=⟨by simpa using hc2,by rw[hu];exact ax_b h11.1 i,by rw[hv];exact ax_b h11.2.1 i⟩
 refine T.cond (λ_=>?_) (λ_=>?_)
 ·refine T.bind (aUj N hN h.tris hi h.len fw h.ord rfl) λr23 h23=>T.bind (T.lenO h23.2.len) λ_ _=>?_;rw[aO]
  refine T.ret ⟨h23.1,h23.2,λ_=>?_⟩
  show I64 (d7 (m:Int) 2) < (m:Int)
  rw[dp (by omega),bD (by omega) (by omega)]
  omega
 ·refine T.bind (cutT N (by omega) h hi hab ?_) λw _=>?_
  ·intro j hj e he;refine(h2.2.2 j hj e he).mono λp hp=>?_;have:=h11.2.2 p hp;rw[hu,hv]
   exact⟨aSw this.1 i,aSw this.2 i⟩
  refine T.bind (aUA N hN h.tris (w:=w) hab hi h.len fw h.ord rfl) λr27 h27=>T.bind (T.lenO h27.2.len) λ_ _=>?_;refine T.bind (aT2 N (by omega) (b:=r27) (lo:=lo) (m:=m) ⟨h.tris,h27.1,by rw[h27.2.len];exact h.len,fw⟩ (w:=w) hi hab) λr29 h29=>T.ret ⟨h27.1,h27.2,λ_=>h29.1⟩
def aKw(n len i:Nat)(d:aX):Prop:=(0<=d.gB3->((i:Int) < d.gB3/\d.gB3 < (len:Int))/\(i:Int) < d.gB6/\d.gB6 < (len:Int))/\(d.gB3 < 0->0<=d.gC7/\1<=d.gC2/\d.gC7+d.gC2<=(n:Int))
def aHk(n len:Nat)(t:aW):Prop:=(0<=t.gA2/\t.gA2 < (len:Int))/\0<=t.gC/\1<=t.gA0/\t.gC+t.gA0<=(n:Int)
def aBX(l:List aW):Int:=(l.map λt=>2*t.gA0 - 1).sum
def aD8(l:List aW):Int:=(l.map λt=>2*t.gA0 - 2).sum
theorem aHD(a b:List aW):aBX (a++b)=aBX a+aBX b:=by unfold aBX;rw[d9,l8]
theorem aKn(a b:List aW):aD8 (a++b)=aD8 a+aD8 b:=by unfold aD8;rw[d9,l8]
theorem aJb{n len:Nat}{l:List aW}(h:∀t∈l,aHk n len t):(l.length:Int)<=aBX l:=by
 induction l with
 | nil=>exact ff _
 | cons t l ih=>
  have h1:=ih λt ht=>h t (gm _ ht)
  have h2:=h t (k9 ..)
  obtain⟨_,_,h3,_⟩:=h2;show((l.length+1:Nat):Int)<=(2*t.gA0 - 1)+aBX l;omega
theorem aTM{n len:Nat}{l:List aW}(h:∀t∈l,aHk n len t):0<=aD8 l:=by
 induction l with
 | nil=>exact ff _
 | cons t l ih=>
  have h1:=ih λt ht=>h t (gm _ ht)
  have h2:=h t (k9 ..)
  obtain⟨_,_,h3,_⟩:=h2;show 0<=(2*t.gA0 - 2)+aD8 l;omega
theorem aO8{n len len' i:Nat}{d:aX}(h:aKw n len i d)(hl:len<=len'):aKw n len' i d:=by
 unfold aKw at *;refine⟨λh0=>?_,h.2⟩
 have:=h.1 h0;omega
theorem aOh{n len len':Nat}{t:aW}(h:aHk n len t)(hl:len<=len'):aHk n len' t:=by unfold aHk at *;omega
theorem aGx{α:Type}(l:List α)(m:Nat)(r:List α)(h:m<=l.length):(vT l m r).take (m+r.length)=l.take m++r:=by
 unfold vT;rw[List.take_append_of_le_length (by rw[ar,bo];omega)]
 exact fm (by rw[ar,bo];omega)
theorem aLj{α:Type}(l:List α)(m:Nat)(r:List α)(h:m<=l.length):m+r.length<=(vT l m r).length:=by rw[aNT h];omega
theorem aCX{α:Type}{l:List α}{m:Nat}{e:α}(h:l[m]? = some e):l.take (m+1)=l.take m++[e]:=by
 rw[List.take_succ,h];rfl
theorem zR{R:List aJ}{o o':List Int}{lo m f c:Nat}{x y:aB}(h:aEN R o f c x y)(s:rG lo m o o')(hr:(f<=lo/\lo+m<=f+c)\/f+c<=lo\/lo+m<=f):aEN R o' f c x y:=by
 intro j j1 j2 e he t ht;by_cases hj:lo<=j/\j < lo+m
 ·obtain⟨j',a1,a2,a3⟩:=s.sub j hj.1 hj.2;rw[a3] at he;exact h j' (by omega) (by omega) e he t ht
 ·rw[s.out j (by omega)] at he;exact h j j1 j2 e he t ht
def nodB(nd:aX):Prop:=pwi 65536 nd.gLo/\pwi 65536 nd.gHi
inductive Cv(R:List aJ)(o:List Int)(d:List aX)(D:Int->Prop):Int->Nat->Nat->List aW->Prop
 | pend (t:aW) (f c:Nat):t.gC=(f:Int)->t.gA0=(c:Int)->Cv R o d D t.gA2 f c [t]
 | leaf (i:Int) (f c:Nat) (nd:aX):D i->d[i.toNat]? = some nd->nd.gB3 < 0->nd.gC7=(f:Int)->nd.gC2=(c:Int)->aEN R o f c nd.gLo nd.gHi->nodB nd->Cv R o d D i f c []
 | node (i:Int) (f c1 c2:Nat) (nd:aX) (L1 L2:List aW):D i->d[i.toNat]? = some nd->0<=nd.gB3->Cv R o d D nd.gB3 f c1 L1->Cv R o d D nd.gB6 (f+c1) c2 L2->aEN R o f (c1+c2) nd.gLo nd.gHi->nodB nd->Cv R o d D i f (c1+c2) (L1++L2)
theorem Cv.rng{R:List aJ}{o:List Int}{d:List aX}{D:Int->Prop}{i:Int}{f c:Nat}{L:List aW}(h:Cv R o d D i f c L):∀t∈L,∃f' c':Nat,t.gC=(f':Int)/\t.gA0=(c':Int)/\f<=f'/\f'+c'<=f+c:=by
 induction h with
 | pend t f c h1 h2=>
  intro u hu;have:u=t:=by simpa using hu
  subst this;exact⟨f,c,h1,h2,by omega,by omega⟩
 | leaf=>intro u hu;exact absurd hu (by simp)
 | node i f c1 c2 nd L1 L2 _ _ _ _ _ _ _ i1 i2=>
  intro u hu;rw[b9] at hu;rcases hu with hu | hu
  ·obtain⟨f',c',a,b,x,y⟩:=i1 u hu;exact⟨f',c',a,b,by omega,by omega⟩
  ·obtain⟨f',c',a,b,x,y⟩:=i2 u hu;exact⟨f',c',a,b,by omega,by omega⟩
theorem Cv.far{R:List aJ}{o o':List Int}{d d':List aX}{D D':Int->Prop}{lo m:Nat}(s:rG lo m o o')(hD:∀i,D i->D' i/\d'[i.toNat]? = d[i.toNat]?){i:Int}{f c:Nat}{L:List aW}(h:Cv R o d D i f c L):(f+c<=lo\/lo+m<=f)->Cv R o' d' D' i f c L:=by
 induction h with
 | pend t f c h1 h2=>intro _;exact .pend t f c h1 h2
 | leaf i f c nd h1 h2 h3 h4 h5 h6 h7=>intro hr;exact .leaf i f c nd (hD i h1).1 ((hD i h1).2.trans h2) h3 h4 h5 (zR h6 s (Or.inr hr)) h7
 | node i f c1 c2 nd L1 L2 h1 h2 h3 _ _ h6 h7 i1 i2=>intro hr;exact .node i f c1 c2 nd L1 L2 (hD i h1).1 ((hD i h1).2.trans h2) h3 (i1 (by omega)) (i2 (by omega)) (zR h6 s (Or.inr hr)) h7
theorem Cv.mono{R:List aJ}{o:List Int}{d:List aX}{D D':Int->Prop}(hD:∀i,D i->D' i){i:Int}{f c:Nat}{L:List aW}(h:Cv R o d D i f c L):Cv R o d D' i f c L:=by
 induction h with
 | pend t f c h1 h2=>exact .pend t f c h1 h2
 | leaf i f c nd h1 h2 h3 h4 h5 h6 h7=>exact .leaf i f c nd (hD i h1) h2 h3 h4 h5 h6 h7
 | node i f c1 c2 nd L1 L2 h1 h2 h3 _ _ h6 h7 i1 i2=>exact .node i f c1 c2 nd L1 L2 (hD i h1) h2 h3 i1 i2 h6 h7
theorem Cv.near{R:List aJ}{o o':List Int}{d d':List aX}{D D':Int->Prop}{lo m:Nat}(s:rG lo m o o')(hD:∀i,D i->D' i/\d'[i.toNat]? = d[i.toNat]?){t:aW}(ht1:t.gC=(lo:Int))(ht2:t.gA0=(m:Int)){Ln:List aW}(hn:Cv R o' d' D' t.gA2 lo m Ln){i:Int}{f c:Nat}{L:List aW}(h:Cv R o d D i f c L):t∈L->∃La Lb,L=La++t :: Lb/\Cv R o' d' D' i f c (La++(Ln++Lb)):=by
 induction h with
 | pend u f c h1 h2=>
  intro hu;have:t=u:=by simpa using hu
  subst this;obtain rfl:f=lo:=by omega
  obtain rfl:c=m:=by omega
  exact⟨[],[],rfl,by simpa using hn⟩
 | leaf=>intro hu;exact absurd hu (by simp)
 | node i f c1 c2 nd L1 L2 h1 h2 h3 g1 g2 h6 h7 i1 i2=>
  intro hu;rw[b9] at hu;rcases hu with hu | hu
  ·obtain⟨f',c',a,b,x,y⟩:=g1.rng t hu;obtain⟨La,Lb,e,q⟩:=i1 hu;refine⟨La,Lb++L2,by rw[e];simp,?_⟩
   have:=Cv.node i f c1 c2 nd _ L2 (hD i h1).1 ((hD i h1).2.trans h2) h3 q (g2.far s hD (by omega)) (zR h6 s (by omega)) h7;simpa[av] using this
  ·obtain⟨f',c',a,b,x,y⟩:=g2.rng t hu;obtain⟨La,Lb,e,q⟩:=i2 hu;refine⟨L1++La,Lb,by rw[e];simp,?_⟩
   have:=Cv.node i f c1 c2 nd L1 _ (hD i h1).1 ((hD i h1).2.trans h2) h3 (g1.far s hD (by omega)) q (zR h6 s (by omega)) h7;simpa[av] using this
def aPr(n:Nat)(o:List Int):Prop:=∀e:Nat,e < n->∃j:Nat,j < n/\o[j]? = some (e:Int)
theorem aIh{n lo m:Nat}{o o':List Int}(h:aPr n o)(s:rG lo m o o')(hn:lo+m<=n):aPr n o':=by
 intro e he;obtain⟨j,h1,h2⟩:=h e he;by_cases hj:lo<=j/\j < lo+m
 ·obtain⟨j',a1,a2,a3⟩:=s.sup j hj.1 hj.2;exact⟨j',by omega,by rw[<- a3];exact h2⟩
 ·exact⟨j,h1,by rw[s.out j (by omega)];exact h2⟩
def aJ7(d:List aX)(l:List aW)(i:Int):Prop:=(0<=i/\i < (d.length:Int))/\∀t∈l,t.gA2≠i
structure Bld(R:List aJ)(o:List Int)(d:List aX)(l:List aW):Prop where
 tris:aCC R
 ord:ord R.length o
 len:o.length=R.length
 todo:∀t∈l,aHk R.length d.length t
 good:∀i,(h:i < d.length)->(∃t∈l,t.gA2=(i:Int))\/aKw R.length d.length i d[i]
 room:(d.length:Int)+aD8 l<=39
 full:aPr R.length o
 one:(l.map (·.gA2)).Nodup
 tree:∃L,Cv R o d (aJ7 d l) 0 0 R.length L/\L.Perm l
def aCs(n:Nat)(b:bC):Prop:=ord n b.gD2/\b.gD2.length=n/\b.gB0.length<=39/\∀i,(h:i < b.gB0.length)->aKw n b.gB0.length i b.gB0[i]
def xW(R:List aJ)(b:bC):Prop:=(R.length=0/\b.gB0=[])\/(0 < R.length/\aPr R.length b.gD2/\Cv R b.gD2 b.gB0 (λ_=>True) 0 0 R.length [])
theorem aJg{l:List aW}{t:aW}(h:((l++[t]).map (·.gA2)).Nodup):(l.map (·.gA2)).Nodup/\∀u∈l,u.gA2≠t.gA2:=by
 rw[d9,kg] at h;refine⟨h.1,λu hu e=>?_⟩
 exact h.2.2 _ (List.mem_map_of_mem hu) _ (by simp) e
theorem aKg{L La Lb l Ln:List aW}{t:aW}(e:L=La++t :: Lb)(h:L.Perm (l++[t])):(La++(Ln++Lb)).Perm (l++Ln):=by
 subst e;have h1:(t :: (La++Lb)).Perm (t :: l):=(List.perm_middle.symm.trans h).trans (fo (l₁:=l) (l₂:=[t]))
 have h2:(La++Lb).Perm l:=fp.cons_inv h1;have h3:(La++(Ln++Lb)).Perm (La++(Lb++Ln)):=fp.append_left La fo;rw[<- av] at h3;rw[<- av]
 refine(by rw[av];exact fp.append_left La fo:(La++Ln++Lb).Perm (La++(Lb++Ln))).trans ?_;rw[<- av]
 exact fp.append_right Ln h2
theorem Bld.leaf{R:List aJ}{o o':List Int}{d:List aX}{l:List aW}{t:aW}{x:aX}(h:Bld R o d (l++[t]))(ho:Go.UK.ord R.length o')(hl:rG t.gC.toNat t.gA0.toNat o o')(hx:x.gB3 < 0)(hf:x.gC7=t.gC)(hc:x.gC2=t.gA0)(hb:aEN R o t.gC.toNat t.gA0.toNat x.gLo x.gHi)(hn:nodB x):Bld R o' (d.set t.gA2.toNat x) l:=by
 have ht:=h.todo t (by simp)
 obtain⟨n1,n2⟩:=aJg h.one;refine⟨h.tris,ho,hl.len.trans h.len,λu hu=>by rw[ce];exact h.todo u (by simp[hu]),λi hi=>?_,?_,aIh h.full hl (by obtain⟨_,a,b,c⟩:=ht;omega),n1,?_⟩
 ·rw[ce] at hi ⊢;by_cases e:i=t.gA2.toNat
  ·subst e;right;rw[jc]
   obtain⟨_,a,b,c⟩:=ht;exact⟨λh=>by omega,λ_=>by rw[hf,hc];omega⟩
  ·rw[jv (by omega)]
   rcases h.good i hi with ⟨u,hu,e'⟩ | g
   ·rw[b9,c9] at hu;rcases hu with hu | rfl
    ·exact Or.inl ⟨u,hu,e'⟩
    ·omega
   ·exact Or.inr g
 ·rw[ce]
  have r:=h.room;rw[aKn] at r;have:aD8 [t]=2*t.gA0 - 2+0:=rfl;obtain⟨_,_,b,_⟩:=ht;omega
 ·obtain⟨L,cv,pm⟩:=h.tree;obtain⟨⟨a1,a2⟩,b1,b2,b3⟩:=ht;have hD:∀i,aJ7 d (l++[t]) i->aJ7 (d.set t.gA2.toNat x) l i/\(d.set t.gA2.toNat x)[i.toNat]? = d[i.toNat]? := by
   intro i ⟨q1,q2⟩
   have:=q2 t (by simp)
   exact⟨⟨by rw[ce];exact q1,λu hu=>q2 u (by simp[hu])⟩,da (by omega)⟩
  have new:Cv R o' (d.set t.gA2.toNat x) (aJ7 (d.set t.gA2.toNat x) l) t.gA2 t.gC.toNat t.gA0.toNat []:=
   .leaf _ _ _ x ⟨by rw[ce];exact⟨a1,a2⟩,n2⟩ (dc (by omega)) hx (by omega) (by omega) (zR hb hl (by omega)) hn
  obtain⟨La,Lb,e,q⟩:=Cv.near (t:=t) hl hD (by omega) (by omega) new cv (pm.mem_iff.2 (by simp))
  exact⟨_,q,by have:=aKg (Ln:=[]) e pm;simpa using this⟩
theorem Bld.inner{R:List aJ}{o o':List Int}{d:List aX}{l:List aW}{t u v:aW}{x:aX}{e1 e2:aX}{c:Int}(h:Bld R o d (l++[t]))(ho:Go.UK.ord R.length o')(hl:rG t.gC.toNat t.gA0.toNat o o')(hx:x.gB3=(d.length:Int))(hy:x.gB6=(d.length:Int)+1)(hc:0 < c/\c < t.gA0)
  (hu:u.gA2=(d.length:Int)+1/\u.gC=t.gC+c/\u.gA0=t.gA0 - c) (hv:v.gA2=(d.length:Int)/\v.gC=t.gC/\v.gA0=c) (hb:aEN R o t.gC.toNat t.gA0.toNat x.gLo x.gHi) (hn:nodB x):Bld R o' ((d++[e1,e2]).set t.gA2.toNat x) (l++[u,v]):=by
 have ht:=h.todo t (by simp)
 obtain⟨n1,n2⟩:=aJg h.one;have dl:((d++[e1,e2]).set t.gA2.toNat x).length=d.length+2:=by rw[ce,ar];rfl
 have old:∀w∈l,w.gA2 < (d.length:Int):=λw hw=>(h.todo w (by simp[hw])).1.2;refine⟨h.tris,ho,hl.len.trans h.len,λw hw=>?_,λi hi=>?_,?_,aIh h.full hl (by obtain⟨_,a,b,c⟩:=ht;omega),?_,?_⟩
 ·rw[dl]
  rw[b9] at hw;rcases hw with hw | hw
  ·exact aOh (h.todo w (by simp[hw])) (by omega)
  ·obtain⟨_,a,b,c'⟩:=ht;simp at hw;rcases hw with rfl | rfl
   ·unfold aHk;omega
   ·unfold aHk;omega
 ·simp only[dl]
  rw[dl] at hi;by_cases e:i=t.gA2.toNat
  ·subst e;right;rw[jc]
   obtain⟨⟨a1,a2⟩,a,b,c⟩:=ht;exact⟨λ_=>by rw[hx,hy];omega,λh=>by omega⟩
  ·rw[jv (by omega)]
   by_cases hd:i < d.length
   ·rcases h.good i hd with ⟨w,hw,e'⟩ | g
    ·rw[b9,c9] at hw;rcases hw with hw | rfl
     ·exact Or.inl ⟨w,by rw[b9];exact Or.inl hw,e'⟩
     ·omega
    ·right;rw[List.getElem_append_left hd]
     exact aO8 g (by omega)
   ·left;have:i=d.length\/i=d.length+1:=by omega
    rcases this with rfl | rfl
    ·exact⟨v,by simp,hv.1⟩
    ·exact⟨u,by simp,by rw[hu.1];omega⟩
 ·rw[dl]
  have r:=h.room;rw[aKn] at r ⊢;have e1:aD8 [t]=2*t.gA0 - 2+0:=rfl;have e2:aD8 [u,v]=2*u.gA0 - 2+(2*v.gA0 - 2+0):=rfl;omega
 ·rw[d9,kg]
  refine⟨n1,by simp;rw[hu.1,hv.1];omega,λa ha b hb e=>?_⟩
  rw[List.mem_map] at ha;obtain⟨w,hw,rfl⟩:=ha;have:=old w hw;simp at hb;rcases hb with rfl | rfl
  ·rw[hu.1] at e;omega
  ·rw[hv.1] at e;omega
 ·obtain⟨L,cv,pm⟩:=h.tree;obtain⟨⟨a1,a2⟩,b1,b2,b3⟩:=ht;have hD:∀i,aJ7 d (l++[t]) i->aJ7 ((d++[e1,e2]).set t.gA2.toNat x) (l++[u,v]) i/\((d++[e1,e2]).set t.gA2.toNat x)[i.toNat]? = d[i.toNat]? := by
   intro i ⟨q1,q2⟩
   have:=q2 t (by simp)
   refine⟨⟨by rw[dl];omega,λw hw=>?_⟩,by rw[da (by omega),bd (by omega)]⟩
   rw[b9] at hw;rcases hw with hw | hw
   ·exact q2 w (by simp[hw])
   ·simp at hw;rcases hw with rfl | rfl
    ·rw[hu.1];omega
    ·rw[hv.1];omega
  obtain⟨cn,rfl⟩:=bm (show 0<=c by omega)
  have new:Cv R o' ((d++[e1,e2]).set t.gA2.toNat x) (aJ7 ((d++[e1,e2]).set t.gA2.toNat x) (l++[u,v])) t.gA2 t.gC.toNat t.gA0.toNat ([v]++[u]):=by
   have hm:t.gA0.toNat=cn+(t.gA0.toNat - cn):=by omega
   rw[hm]
   refine .node _ _ cn (t.gA0.toNat - cn) x [v] [u] ⟨by rw[dl];omega,λw hw=>?_⟩ (dc (by rw[ar];omega)) (by omega) ?_ ?_ (by rw[<- hm];exact zR hb hl (by omega)) hn
   ·rw[b9] at hw;rcases hw with hw | hw
    ·exact n2 w hw
    ·simp at hw;rcases hw with rfl | rfl
     ·rw[hu.1];omega
     ·rw[hv.1];omega
   ·rw[hx,<- hv.1];exact .pend v _ _ (by omega) (by omega)
   ·rw[hy,<- hu.1];exact .pend u _ _ (by omega) (by omega)
  obtain⟨La,Lb,e,q⟩:=Cv.near (t:=t) hl hD (by omega) (by omega) new cv (pm.mem_iff.2 (by simp))
  refine⟨_,q,(aKg (Ln:=[v]++[u]) e pm).trans ?_⟩
  exact fp.append_left l (fp.swap u v [])
theorem aUI(N:Nat)(hN:100 < N){R:List aJ}:∀(k:Nat) (o:List Int) (d:List aX) (s:List aW) (m:Nat),m<=s.length->Bld R o d (s.take m)->aBX (s.take m) < (k:Int)->aBX (s.take m)<=100 ->
  T (rA N R k o d s m) (λr=>Bld R r.1 r.2.1 []):=by
 intro k
 induction k with
 | zero=>
  intro o d s m hm h hw;have:=aJb h.todo;omega
 | succ k ih=>
  intro o d s m hm h hw hw';rw[rA,aO]
  have lenT:(s.take m).length=m:=by rw[bo];omega
  have wl:=aJb h.todo;rw[lenT] at wl;refine T.cond (λhc=>?_) (λhc=>?_)
  ·obtain⟨m,rfl⟩:∃m',m=m'+1:=⟨m - 1,by have:=of_decide_eq_true hc;omega⟩
   have im:I64 (((m+1:Nat):Int) - 1)=(m:Int):=by rw[bD (by omega) (by omega)];omega
   simp only[aO,im,bn]
   obtain⟨t,et⟩:∃t,s[m]? = some t:=⟨_,af (by omega)⟩
   have hs:=aCX et;rw[hs] at h hw hw';have ht:=h.todo t (by simp)
   obtain⟨⟨tn1,tn2⟩,t1,t2,t3⟩:=ht;have n20:=h.tris.2;have ol:=h.len;have rm:=h.room;have rg:=aTM h.todo;rw[aHD,show aBX [t]=2*t.gA0 - 1+0 from rfl] at hw hw';have wl2:=aJb (l:=s.take m) λu hu=>h.todo u (by simp[hu])
   rw[show(s.take m).length=m by rw[bo];omega] at wl2;refine T.bind (T.inRS (by omega) (by omega) (by omega)) λ_ _=>T.eq et (T.bind (T.slcG (by omega) (by omega) (by omega) (by omega) (Or.inl rfl)) λ_ _=>?_)
   have ifc:I64 (t.gC+t.gA0)=t.gC+t.gA0:=bD (by omega) (by omega)
   rw[ifc]
   refine T.bind (T.slcG (by omega) t1 (by omega) (by omega) (by omega)) λ_ _=>?_;have hp:aMe R o t.gC.toNat ((t.gC+t.gA0).toNat - t.gC.toNat):=⟨h.tris,h.ord,by omega,by omega⟩
   have cnt:(t.gC+t.gA0).toNat - t.gC.toNat=t.gA0.toNat:=by omega
   rw[cnt] at hp ⊢;refine T.bind (boxDT N (by omega) hp) λr30 h30=>?_;have step:∀(o':List Int) (d':List aX) (s':List aW) (x:aX) (m':Nat),m'<=s'.length->t.gA2 < (d'.length:Int)->Bld R o' (d'.set t.gA2.toNat x) (s'.take m')->aBX (s'.take m') < (k:Int)->aBX (s'.take m')<=100 ->
     T (aa (dS t.gA2 d'.length) λ_=>aa (aC3 d' t.gA2.toNat x) λz41=>rA N R k o' z41 s' m') (λr=>Bld R r.1 r.2.1 []):=by
    intro o' d' s' x m' h1 h2 h3 h4 h5;refine T.bind (T.inRO tn1 h2) λ_ _=>T.bind (T.setO (by omega)) λz hz=>?_;subst hz;exact ih _ _ _ _ h1 h3 h4 h5
   refine T.bind (P:=λp=>p.2.2.2.2<=p.2.2.1.length/\t.gA2 < (p.2.1.length:Int)/\Bld R p.1 (p.2.1.set t.gA2.toNat p.2.2.2.1) (p.2.2.1.take p.2.2.2.2)/\aBX (p.2.2.1.take p.2.2.2.2) < (k:Int)/\aBX (p.2.2.1.take p.2.2.2.2)<=100) ?_ λp31 h31=>step _ _ _ _ _ h31.1 h31.2.1 h31.2.2.1 h31.2.2.2.1 h31.2.2.2.2;refine T.bind (partT N (by omega) hp t.gD9) λr32 h32=>T.bind (T.lenO h32.2.1.len) λ_ _=>?_;refine T.cond (λhc=>?_) (λ_=>?_)
   ·have c0:=of_decide_eq_true hc;have c1:=h32.2.2 c0;have i1:I64 ((d.length:Int)+1)=(d.length:Int)+1:=bD (by omega) (by omega)
    have i2:I64 (t.gC+r32.2)=t.gC+r32.2:=bD (by omega) (by omega)
    have i3:I64 (t.gA0 - r32.2)=t.gA0 - r32.2:=bD (by omega) (by omega)
    rw[i1,i2,i3]
    refine T.eq (bY (by simp;omega)) (T.bind (T.appG (by omega) (show(m+2)*32<=140737488355328 by omega)) λz39 h39=>T.ret ?_)
    subst h39;have tk:∀a b:aW,(vT s m [a,b]).take (m+2)=s.take m++[a,b]:=λa b=>aGx s m [a,b] (by omega)
    dsimp only;refine⟨aLj s m [_,_] (by omega),by rw[ar];simp;omega,?_,?_,?_⟩
    ·rw[tk]
     exact h.inner (c:=r32.2) h32.1 h32.2.1 rfl rfl ⟨c0,by omega⟩ ⟨rfl,rfl,rfl⟩ ⟨rfl,rfl,rfl⟩ h30.2 h30.1
    ·rw[tk,aHD]
     show aBX (s.take m)+(2*(t.gA0 - r32.2) - 1+(2*r32.2 - 1+0)) < (k:Int)
     omega
    ·rw[tk,aHD]
     show aBX (s.take m)+(2*(t.gA0 - r32.2) - 1+(2*r32.2 - 1+0))<=100;omega
   ·refine T.ret ⟨by dsimp only;omega,tn2,?_,by dsimp only;omega,by dsimp only;omega⟩
    exact h.leaf h32.1 h32.2.1 (show(-1:Int) < 0 by decide) rfl rfl h30.2 h30.1
  ·have:m=0:=by have:=of_decide_eq_false hc;omega
   subst this;exact T.ret h
theorem aTe(N:Nat)(hN:10 < N){t:aJ}(h:tpw t):T (aB3 N t) (λr=>pwi 65536 r.1/\pwi 65536 r.2):=by
 unfold aB3;refine T.bind (P:=λr=>pwi 65536 r.1/\pwi 65536 r.2) ?_ λ_ h=>T.ret h;have z:pwi 65536 (aB.mk 0 0 0):=by unfold pwi;dsimp only;omega
 refine T.loopG0 (n:=3) (λ_ (s:aB×aB)=>pwi 65536 s.1/\pwi 65536 s.2) _ (F:=λk (s:aB×aB) i=>qY N t k s.1 s.2 i) (λk s i hi hs hk=>?_) (λk s hs=>?_) (by omega) (s:=(aB.mk 0 0 0,aB.mk 0 0 0)) ⟨z,z⟩
 ·rw[qY,aO,dt (by omega),cond_true]
  refine T.bind (T.inRO (by omega) (by omega)) λ_ _=>T.eq (aML t.gP i hi) ?_;have he:=h _ (vmem t.gP hi)
  generalize t.gP[i]=e at *;refine T.bind (P:=λp=>pwi 65536 p.1/\pwi 65536 p.2) (T.cond (λ_=>T.ret ⟨he,he⟩) (λ_=>T.ret hs)) λp hp=>?_;rw[cW (by omega)]
  refine hk (_,_) ⟨?_,?_⟩
  ·unfold pwi at *;simp only[wI];omega
  ·unfold pwi at *;simp only[tR];omega
 ·rw[qY,aO,df (by omega),cond_false];exact T.ret hs
theorem aW3(N:Nat)(hN:100 < N){R:List aJ}(hR:aCC R):T (aCH N R) (λr=>r.2=0/\aCs R.length r.1/\xW R r.1):=by
 unfold aCH;have n20:=hR.2;rw[aO]
 refine T.cond (λhc=>absurd (of_decide_eq_true hc) (by omega)) (λ_=>?_)
 refine T.bind (T.loopG0 (n:=R.length) (λ_ _=>True) (λo=>match o with | .inl _=>True | .inr r=>False) (F:=λk (_:Unit) i=>qZ N R k i) (λk _ i hi _ hk=>?_) (λk _ _=>?_) (by omega) (s:=()) trivial) λo ho=>?_
 ·rw[qZ,aO,dt (by omega),cond_true]
  refine T.bind (T.tri hR ⟨by omega,by omega⟩) λ_ ht=>T.eq (a:=()) (by decide) (T.bind (aTe N (by omega) ht) λr7 h7=>T.bind (P:=λp=>p=false) ?_ λp8 h8=>?_)
  ·obtain⟨g1,g2⟩:=h7;unfold pwi at g1 g2;simp only[aO,wI,tR]
   rw[df (show ¬min (min r7.1.gX r7.1.gY) r7.1.gZ < -1048576 by omega),df (show ¬max (max r7.2.gX r7.2.gY) r7.2.gZ > 1048576 by omega)]
   exact⟨_,rfl,rfl⟩
  ·rw[h8,cond_false,cW (by omega)];exact hk () trivial
 ·rw[qZ,aO,df (by omega),cond_false];exact T.ret trivial
 cases o with
 | inr r=>exact ho.elim
 | inl _=>
 show T (aR _ _) _;rw[aO]
 refine T.cond (λhc=>T.ret ⟨rfl,?_⟩) (λhc=>?_)
 ·have:R.length=0:=by have h0:(R.length:Int)=0:=(by simpa using hc);omega
  refine⟨?_,Or.inl ⟨this,rfl⟩⟩
  rw[this]
  exact⟨λx h=>absurd h (by simp),rfl,by simp,λi h=>absurd h (by simp)⟩
 ·have n0:R.length≠0:=by intro e;rw[e] at hc;cases hc
  refine T.bind (T.loopG0 (n:=R.length) (λi (s:List Int)=>s.length=i/\ord R.length s/\∀j:Nat,j < i->s[j]? = some (j:Int)) (λr=>r.length=R.length/\ord R.length r/\∀j:Nat,j < R.length->r[j]? = some (j:Int)) (F:=qP N R) (λk s i hi hs hk=>?_) (λk s hs=>?_) (by omega) (s:=[]) ⟨rfl,λx h=>absurd h (by simp),λj h=>absurd h (by omega)⟩) λp12 h12=>?_
  ·rw[qP,aO,dt (by omega),cond_true]
   refine T.eq (bY (by simp;omega)) ?_;rw[cW (by omega)]
   refine hk _ ⟨by simp;omega,λx hx=>?_,λj hj=>?_⟩
   ·rw[b9,c9] at hx;rcases hx with hx | rfl
    ·exact hs.2.1 x hx
    ·omega
   ·by_cases c:j=i
    ·subst c;rw[ci (by omega),hs.1];simp
    ·rw[bd (by omega)];exact hs.2.2 j (by omega)
  ·rw[qP,aO,df (by omega),cond_false];exact T.ret hs
  ·refine T.bind (aUI N hN N p12 _ _ 1 (ay _) ⟨hR,h12.2.1,h12.1,?_,?_,?_,λe he=>⟨e,he,h12.2.2 e he⟩,by simp,⟨_,.pend (aW.mk 0 0 (R.length:Int) 1) 0 R.length rfl rfl,fp.refl _⟩⟩ ?_ ?_) λp17 h17=>T.ret ⟨rfl,?_⟩
   ·intro t ht;have:t=aW.mk 0 0 (R.length:Int) 1:=by simpa using ht
    subst this;exact⟨⟨ff _,by simp⟩,ff _,by show 1<=(R.length:Int);omega,by show 0+(R.length:Int)<=(R.length:Int);omega⟩
   ·intro i hi;have:i=0:=by simpa using hi
    subst this;exact Or.inl ⟨aW.mk 0 0 (R.length:Int) 1,by simp,rfl⟩
   ·show(1:Int)+(2*(R.length:Int) - 2+0)<=39;omega
   ·show 2*(R.length:Int) - 1+0 < (N:Int)
    omega
   ·show 2*(R.length:Int) - 1+0<=100;omega
   ·obtain⟨L,cv,pm⟩:=h17.tree;have:=pm.eq_nil;subst this;refine⟨⟨h17.ord,h17.len,?_,λi hi=>?_⟩,Or.inr ⟨by omega,h17.full,Cv.mono (λ_ _=>trivial) cv⟩⟩
    ·have:=h17.room;have e:aD8 ([]:List aW)=0:=rfl;show p17.2.1.length<=39;omega
    ·rcases h17.good i hi with ⟨t,ht,_⟩ | g
     ·exact absurd ht (by simp)
     ·exact g
theorem aTS(N:Nat)(hN:100 < N){R:List aJ}(hR:aCC R):T (zV N R) (λq=>match q with | .inl e=>False | .inr r=>r.2=0/\∃bv,r.1=aL.mk bv true R 0/\aCs R.length bv/\xW R bv):=by
 unfold zV;refine T.bind (aW3 N hN hR) λr1 h1=>?_;refine T.cond (λhc=>by rw[h1.1] at hc;cases hc) (λhc=>?_)
 have n20:=hR.2;unfold eU;refine T.eq (a:=R) (by rw[bY (by simp;omega)];simp) (T.ret ⟨rfl,r1.1,rfl,h1.2⟩)
structure Rdy(b:List (List aC))(s:aE)(v:aG)(sky:aA):Prop where
 tri:∀t∈s.gL,(0<=t.gC5/\t.gC5 < (s.gA4.length:Int))/\t.gB7 < (b.length:Int)/\(∀v∈t.gUv.toList,∀x∈v.toList,0<=x/\x<=65535)/\∀p∈t.gP.toList,pwi 65536 p
 few:s.gL.length<=20
 mat:∀m∈s.gA4,aDk m
 light:∀l∈s.gI,xZ l
 lights:s.gI.length<=5
 lev:∀l∈b,aHw l
 dark:s.gI=[]->sky=aA.mk 0 0 0
 sky:vin sky
 view:aOJ v
def aMG(n:Nat)(gl:List aJ):Prop:=gl.length<=4096/\∀i,n<=i->∀t,gl[i]? = some t->t.gD4=0
def newS(s:aE)(v:aG)(r:(List aJ)×(List aN)×(List aQ)×(List (List aC))×aA×(List aJ)×Int):Prop:=
 r.1=s.gL/\r.2.1=s.gA4/\r.2.2.1=s.gI/\Rdy r.2.2.2.1 s v r.2.2.2.2.1/\aMG s.gL.length r.2.2.2.2.2.1/\r.2.2.2.2.2.2=0/\v.gA5=true/\(r.2.2.2.2.2.1.length:Int)=(dW v.gM).1/\fits s v.gM/\∀i,i < s.gL.length->r.2.2.2.2.2.1[i]? = s.gL[i]?
def newW(s:aE)(v:aG)(r:(List aJ)×(List aN)×(List aQ)×(List (List aC))×aA×aL×Int):Prop:=
 r.1=s.gL/\r.2.1=s.gA4/\r.2.2.1=s.gI/\Rdy r.2.2.2.1 s v r.2.2.2.2.1/\(∃bv,aCs s.gL.length bv/\r.2.2.2.2.2.1=aL.mk bv true s.gL 0/\xW s.gL bv)/\r.2.2.2.2.2.2=0/\v.gA5=false
def aRr(N:Nat)(s:aE)(v:aG)(r:Int):Prop:=(kI N s=some r/\r≠0)\/(kI N s=some 0/\wZ N v=some r/\r≠0)\/(kI N s=some 0/\wZ N v=some 0/\rE N s v.gM=some r)
def newL(N:Nat)(s:aE)(b:List (List aC))(sky:aA):Prop:=mF N (s.gQ.length:Int) s N [] 0=some b/\aBZ N s.gI=some sky
theorem newT(N:Nat)(hN:300 < N)(s:aE)(v:aG)(hs:few s):T (jX N s v) (λq=>match q with
  | .inl e=>e≠0/\aRr N s v e
  | .inr (.inl r)=>False
  | .inr (.inr (.inl r))=>newS s v r/\aRr N s v 0/\newL N s r.2.2.2.1 r.2.2.2.2.1
  | .inr (.inr (.inr (.inl r)))=>False
  | .inr (.inr (.inr (.inr r)))=>newW s v r/\aRr N s v 0/\newL N s r.2.2.2.1 r.2.2.2.2.1):=by
 unfold jX;have nz:∀{r:Int},(r != 0)=true->r≠0:=λh=>by simpa using h
 have ez:∀{r:Int},(r != 0)=false->r=0:=λh=>by simpa using h
 obtain⟨r1,e1,h1⟩:=aWZ N hN s hs;refine T.eq e1 (T.cond (λhc=>T.ret ⟨nz hc,Or.inl ⟨e1,nz hc⟩⟩) (λhc1=>?_))
 rw[ez hc1] at e1;have ok:=h1 (ez hc1)
 obtain⟨r2,e2,h2⟩:=mayVT N v;refine T.eq e2 (T.cond (λhc=>T.ret ⟨nz hc,Or.inr (Or.inl ⟨e1,e2,nz hc⟩)⟩) (λhc2=>?_))
 rw[ez hc2] at e2;have vok:=h2 (ez hc2)
 obtain⟨r3,e3,h3⟩:=aVG N s v.gM;refine T.eq e3 (T.cond (λhc=>T.ret ⟨nz hc,Or.inr (Or.inr ⟨e1,e2,e3⟩)⟩) (λhc3=>?_))
 rw[ez hc3] at e3;have nv:aRr N s v 0:=Or.inr (Or.inr ⟨e1,e2,e3⟩)
 have cb:0<=(dW v.gM).1/\(dW v.gM).1<=4096:=by unfold dW;cases (v.gM==0) <;> cases (v.gM==1) <;> cases (v.gM==2) <;> decide
 have fit:=h3 (ez hc3)
 obtain⟨⟨f1,f2,f3,f4,f5⟩,okt,okm,okx,okl⟩:=ok;obtain⟨N,rfl⟩:∃n,N=n+3:=⟨N - 3,by omega⟩
 obtain⟨r4,e4,h4⟩:=skyT N (by omega) _ okl f4;refine T.eq e4 ?_;refine T.eq (bY (by simp;omega)) (T.eq (bY (by simp;omega)) (T.eq (bY (by simp;omega)) ?_))
 simp only[aO,fc]
 have lvT:T (mF (N+3) (s.gQ.length:Int) s (N+3) [] 0) (λr=>r.length=s.gQ.length/\∀x∈r,aHw x):=by
  refine T.loopG0 (n:=s.gQ.length) (λi (l:List (List aC))=>l.length=i/\∀x∈l,aHw x) (λr=>r.length=s.gQ.length/\∀x∈r,aHw x) (F:=mF (N+3) (s.gQ.length:Int) s) (λk l i hi hl hk=>?_) (λk l hl=>?_) (by omega) (s:=[]) ⟨rfl,λx h=>absurd h (by simp)⟩
  ·rw[mF,dt (by omega),cond_true,eP,af hi,ae]
   refine T.bind (aUK (N+3) hN _ (f5 _ (bh hi))) λr13 h13=>T.eq (bY (by simp;omega)) ?_;rw[cW (by omega)]
   refine hk _ ⟨by simp;omega,λx hx=>?_⟩
   rw[b9,c9] at hx;rcases hx with hx | rfl
   ·exact hl.2 x hx
   ·exact h13
  ·rw[mF,df (by omega),cond_false];exact T.ret hl
 obtain⟨p9,e9,h9⟩:=lvT;refine T.eq e9 ?_;have rdy:Rdy p9 s v r4:=⟨λt ht=>by have:=okt t ht;exact⟨this.1,by rw[h9.1];exact this.2.1,this.2.2.1,this.2.2.2⟩,f1,okm,okl,f4,h9.2,h4.2,h4.1,vok⟩
 refine T.cond (λhc=>?_) (λhc=>?_)
 ·refine T.bind (aWn _ _) λr15 h15=>T.bind (aRE (N+3) s.gL r15.1 (by rw[h15];exact cb) (by rw[h15];exact fit.1)) λq hq=>?_;cases q with
  | inl e=>exact hq.elim
  | inr r=>exact T.ret ⟨⟨rfl,rfl,rfl,rdy,⟨hq.2.2.1,hq.2.2.2.1⟩,hq.1,hc,by rw[<- h15];exact hq.2.1,fit,hq.2.2.2.2⟩,nv,e9,e4⟩
 ·refine T.bind (aTS (N+3) (by omega) (R:=s.gL) ⟨λt ht=>(okt t ht).2.2.2,f1⟩) λq hq=>?_;cases q with
  | inl e=>exact hq.elim
  | inr r=>obtain⟨h0,bv,h1,h2,h3⟩:=hq;exact T.ret ⟨⟨rfl,rfl,rfl,rdy,⟨bv,h2,h1,h3⟩,h0,hc⟩,nv,e9,e4⟩
def TU{ι ρ α:Type}(f:ι->Option ρ)(P:α->Prop)(S:ι->α->ρ->Prop):Prop:=∃a,P a/\∀i,∃r,f i=some r/\S i a r
section
variable {ι ρ ρ' α β:Type}
theorem TU.bind{A:ι->Option ρ}{B:ι->ρ->Option ρ'}{P:α->Prop}{S:ι->α->ρ->Prop}{Q:β->Prop}{S':ι->β->ρ'->Prop}(h:TU A P S)
  (hf:∀a,P a->∀r:ι->ρ,(∀i,S i a (r i))->TU (λi=>B i (r i)) Q S'):TU (λi=>aa (A i) (B i)) Q S':=by
 obtain⟨a,pa,h⟩:=h;have h':∃r:ι->ρ,∀i,A i=some (r i)/\S i a (r i):=⟨λi=>(h i).choose,λi=>(h i).choose_spec⟩
 obtain⟨r,hr⟩:=h';obtain⟨b,qb,hb⟩:=hf a pa r λi=>(hr i).2;refine⟨b,qb,λi=>?_⟩
 obtain⟨x,e,s⟩:=hb i;exact⟨x,by show aa (A i) (B i)=some x;rw[(hr i).1];exact e,s⟩
theorem TU.t{o:Option α}{B:ι->α->Option ρ}{P:α->Prop}{Q:β->Prop}{S:ι->β->ρ->Prop}(h:T o P)(hf:∀a,P a->TU (λi=>B i a) Q S):TU (λi=>aa o (B i)) Q S:=by
 obtain⟨a,rfl,pa⟩:=h;exact hf a pa
theorem TU.e{A:ι->Option ρ}{B:ι->ρ->Option ρ'}{a:ρ}{Q:β->Prop}{S':ι->β->ρ'->Prop}(e:∀i,A i=some a)(h:TU (λi=>B i a) Q S'):TU (λi=>aa (A i) (B i)) Q S':=by
 rw[show(λi=>aa (A i) (B i))=λi=>B i a from funext λi=>by rw[e i];rfl];exact h
theorem TU.cond{c:Bool}{A B:ι->Option ρ}{Q:β->Prop}{S:ι->β->ρ->Prop}(h1:c=true->TU A Q S)(h2:c=false->TU B Q S):TU (λi=>_root_.cond c (A i) (B i)) Q S:=by
 cases c with
 | true=>exact h1 rfl
 | false=>exact h2 rfl
theorem TU.ret{g:ι->ρ}(b:β){Q:β->Prop}{S:ι->β->ρ->Prop}(hq:Q b)(h:∀i,S i b (g i)):TU (λi=>some (g i)) Q S:=⟨b,hq,λi=>⟨g i,rfl,h i⟩⟩
theorem TU.mono{f:ι->Option ρ}{P P':α->Prop}{S S':ι->α->ρ->Prop}(h:TU f P S)(hp:∀a,P a->P' a)(hs:∀i a r,P a->S i a r->S' i a r):TU f P' S':=by
 obtain⟨a,pa,h⟩:=h;refine⟨a,hp a pa,λi=>?_⟩
 obtain⟨r,e,s⟩:=h i;exact⟨r,e,hs i a r pa s⟩
theorem TU.loop{σ τ:Type}{n:Nat}{P:α->Prop}{S:ι->α->ρ->Prop}(I:Nat->σ->(ι->τ)->Prop){F:ι->Nat->τ->σ->Int->Option ρ}
  (hstep:∀k (h:ι->τ) s j,j < n->I j s h->(∀s' h',I (j+1) s' h'->TU (λi=>F i k (h' i) s' ((j+1:Nat):Int)) P S)->TU (λi=>F i (k+1) (h i) s (j:Int)) P S)
  (hend:∀k (h:ι->τ) s,I n s h->TU (λi=>F i (k+1) (h i) s (n:Int)) P S):∀(k j:Nat) (s:σ) (h:ι->τ),I j s h->j<=n->n - j < k->TU (λi=>F i k (h i) s (j:Int)) P S
 | 0,j,_,_,_,_,hk=>by omega
 | k+1,j,s,h,hi,hj,hk=>by
  by_cases hn:j < n
  ·exact hstep k h s j hn hi λs' h' hi'=>TU.loop I hstep hend k (j+1) s' h' hi' (by omega) (by omega)
  ·obtain rfl:j=n:=by omega
   exact hend k h s hi
theorem TU.loop0{σ τ:Type}{n:Nat}{P:α->Prop}{S:ι->α->ρ->Prop}(I:Nat->σ->(ι->τ)->Prop){F:ι->Nat->τ->σ->Int->Option ρ}
  (hstep:∀k (h:ι->τ) s j,j < n->I j s h->(∀s' h',I (j+1) s' h'->TU (λi=>F i k (h' i) s' ((j+1:Nat):Int)) P S)->TU (λi=>F i (k+1) (h i) s (j:Int)) P S)
  (hend:∀k (h:ι->τ) s,I n s h->TU (λi=>F i (k+1) (h i) s (n:Int)) P S) {N:Nat} (hN:n < N) {s:σ} {h:ι->τ} (hi:I 0 s h):TU (λi=>F i N (h i) s 0) P S:=
 TU.loop I hstep hend N 0 s h hi (by omega) (by omega)
end
def swp(gl:List aJ)(t:Int):aK:=aK.mk (fD.mk t) true gl
def cQ(a b n:Int):Prop:=I64 b=I64 (a+n)/\(cD a->cD b)
theorem aER{a b:Int}{n:Nat}(h:cQ a b (n:Int)):cQ a (I64 (b+1)) ((n+1:Nat):Int):=by
 obtain⟨h,_⟩:=h;refine⟨?_,λ_=>cG _⟩
 rw[vR] at *;rw[vR] at *;rw[vR] at *;omega
theorem kM(a:Int):cQ a a 0:=⟨by rw[Int.add_zero],λh=>h⟩
theorem oM{a b c n m:Int}(h:cQ a b n)(h':cQ b c m):cQ a c (n+m):=by
 obtain⟨h,g⟩:=h;obtain⟨h',g'⟩:=h';refine⟨?_,λx=>g' (g x)⟩
 rw[vR] at *;rw[vR] at *;omega
theorem aPM{a b n:Int}(h:cQ a b n)(ha:cD a):b=I64 (a+n):=by
 obtain⟨h1,h2⟩:=h.2 ha;rw[<- h.1,bD (by omega) (by omega)]
theorem aTm(N:Nat)(hN:3 < N){n:Nat}{gl:List aJ}(h:aMG n gl)(o d:aB)(m s:Int){j:Nat}(hj:j < gl.length):∃a:aS×Bool,qL a.1/\(a.2=true->j < n)/\∀t,eW N o d m s (j:Int) (swp gl t)=some a:=by
 have key:T (eW N o d m s (j:Int) (swp gl 0)) (λa=>qL a.1/\(a.2=true->j < n)):=by
  unfold eW uC swp;refine T.eq rfl ?_;refine T.bind (T.idx (by omega) (by dsimp only;omega)) λe2 h2=>T.bind (hitT N hN _ _ _) λr3 h3=>?_;refine T.bind (P:=λr=>r=true->j < n) ?_ λp4 h4=>T.ret ⟨h3,h4⟩
  refine T.cond (λ_=>?_) (λ_=>T.ret λh=>by cases h)
  refine T.bind (T.idx (by omega) (by dsimp only;omega)) λe5 h5=>?_;rw[aO]
  refine T.cond (λhc=>T.ret λ_=>?_) (λ_=>T.ret λh=>by cases h)
  by_cases hn:j < n
  ·exact hn
  ·have:=h.2 j (by omega) e5 (by rw[bn] at h5;exact h5)
   rw[this] at hc;exfalso;have z:kB .u8 0 m=0:=by
    unfold kB;have:BitVec.ofInt IntKind.u8.bits 0 &&& BitVec.ofInt IntKind.u8.bits m=0:=by
     rw[show BitVec.ofInt IntKind.u8.bits 0=0 from rfl]
     exact BitVec.zero_and
    rw[this];rfl
   rw[z] at hc;cases hc
 obtain⟨a,e,h1,h2⟩:=key;exact⟨a,h1,h2,λt=>e⟩
theorem aR0{ι:Type}(N:Nat)(hN:4100 < N){n:Nat}{gl:List aJ}(h:aMG n gl)(o d:aB)(m s:Int)(t:ι->Int) :
  TU (λi=>kH N o d m s (swp gl (t i))) (λa:Int×aS=>a.1 < (n:Int)/\qL a.2) (λi a r=>∃t',r=(swp gl t',a)/\cQ (t i) t' (gl.length:Int)):=by
 unfold kH jW;refine TU.e (a:=false) (λi=>rfl) ?_;simp only[cond_false]
 have h4:=h.1;refine TU.bind (P:=λa:aS×Int=>a.2 < (n:Int)/\qL a.1) (S:=λi a r=>∃t',r=(swp gl t',a)/\cQ (t i) t' (gl.length:Int)) ?_ λa ha r hr=>?_
 ·refine TU.loop0 (n:=gl.length) (λj (s:aS×Int) t'=>(s.2 < (n:Int)/\qL s.1)/\∀i,cQ (t i) (t' i) (j:Int)) (F:=λi k t' (x:aS×Int) j=>dE N (swp gl (t i)) o d m s k (swp gl t') x.1 x.2 j) (λk t' x j hj hx hk=>?_) (λk t' x hx=>?_) (by omega) (s:=(aS.mk 0 0 0 0,-1)) (h:=t) ⟨⟨by dsimp only;omega,aEe⟩,λi=>kM _⟩
  ·obtain⟨a,a1,a2,a3⟩:=aTm N (by omega) h o d m s hj;simp only[dE,aO]
   simp only[show ∀t,(swp gl t).gl=gl from λ_=>rfl,dt (show(j:Int) < (gl.length:Int) by omega),cond_true,a3,ae]
   refine TU.t (P:=λp:aS×aS×Int=>p.2.2 < (n:Int)/\qL p.1) ?_ λp hp=>?_
   ·refine T.bind (P:=λ_=>True) (T.cond (λ_=>T.ret trivial) (λ_=>T.bind (aRi N a1 hx.1.2) λ_ _=>T.ret trivial)) λp10 _=>?_;refine T.cond (λhc=>T.ret ⟨?_,a1⟩) (λ_=>T.ret ⟨hx.1.1,hx.1.2⟩)
    have:a.2=true:=by
     cases h2:a.2 with
     | true=>rfl
     | false=>rw[h2] at hc;cases hc
    have:=a2 this;show(j:Int) < (n:Int)
    omega
   ·rw[cW (by omega)]
    exact hk (p.1,p.2.2) (λi=>I64 (t' i+1)) ⟨hp,λi=>aER (hx.2 i)⟩
  ·simp only[dE,aO]
   simp only[show ∀t,(swp gl t).gl=gl from λ_=>rfl,df (show ¬(gl.length:Int) < (gl.length:Int) by omega),cond_false]
   exact TU.ret x hx.1 λi=>⟨t' i,rfl,hx.2 i⟩
 ·refine TU.ret (a.2,a.1) ha λi=>?_;obtain⟨t',e,p⟩:=hr i;rw[e]
  exact⟨t',rfl,p⟩
theorem anyU{ι:Type}(N:Nat)(hN:4100 < N){n:Nat}{gl:List aJ}(h:aMG n gl)(o d:aB)(m s:Int)(w:Bool)(t:ι->Int) :
  TU (λi=>jK N o d m s w (swp gl (t i))) (λ_:Bool=>True) (λi a r=>∃t',r=(swp gl t',a)/\cQ (t i) t' (gl.length:Int)):=by
 unfold jK jW;refine TU.e (a:=false) (λi=>rfl) ?_;simp only[cond_false]
 have h4:=h.1;refine TU.bind (P:=λa:Bool=>True) (S:=λi a r=>∃t',r=(swp gl t',a)/\cQ (t i) t' (gl.length:Int)) ?_ λa ha r hr=>?_
 ·refine TU.loop0 (n:=gl.length) (λj (s:Bool) t'=>∀i,cQ (t i) (t' i) (j:Int)) (F:=λi k t' (x:Bool) j=>cY N (swp gl (t i)) o d m s w k (swp gl t') x j) (λk t' x j hj hx hk=>?_) (λk t' x hx=>?_) (by omega) (s:=false) (h:=t) (λi=>kM _)
  ·obtain⟨a,a1,a2,a3⟩:=aTm N (by omega) h o d m s hj;simp only[cY,aO]
   simp only[show ∀t,(swp gl t).gl=gl from λ_=>rfl,dt (show(j:Int) < (gl.length:Int) by omega),cond_true,a3,ae]
   rw[cW (by omega)]
   refine TU.cond (λ_=>?_) (λ_=>?_)
   ·exact hk _ (λi=>I64 (t' i+1)) (λi=>aER (hx i))
   ·exact hk _ (λi=>I64 (t' i+1)) (λi=>aER (hx i))
  ·simp only[cY,aO]
   simp only[show ∀t,(swp gl t).gl=gl from λ_=>rfl,df (show ¬(gl.length:Int) < (gl.length:Int) by omega),cond_false]
   exact TU.ret x trivial λi=>⟨t' i,rfl,hx i⟩
 ·refine TU.ret a trivial λi=>?_;obtain⟨t',e,p⟩:=hr i;rw[e]
  exact⟨t',rfl,p⟩
def wlk(b:bC)(gl:List aJ)(t:Int):aL:=aL.mk b true gl t
def aAh(r:aY):Prop:=cD r.gn/\cD r.gd
theorem aGl(N:Nat){a b:aY}(ha:aAh a)(hb:aAh b):T (iB N a b) (λ_=>True):=by
 unfold iB;exact T.bind (aGM N ha.1 hb.2) λ_ _=>T.bind (aGM N hb.1 ha.2) λ_ _=>T.bind (aPT N _ _) λ_ _=>T.ret trivial
theorem aVD(N:Nat)(hN:10 < N)(lo hi o:aB){d:aB}(hd:pin d):T (aAP N lo hi o d) (λr=>aAh r.1):=by
 unfold aAP;have z1:aAh (aY.mk 0 1):=⟨z64,by decide,by decide⟩
 have z0:aAh (aY.mk 0 0):=⟨z64,z64⟩
 refine T.bind (T.loopG0 (n:=3) (λ_ (s:aY×aY×Bool)=>aAh s.1/\aAh s.2.1) (λo=>match o with | .inl p=>aAh p.1/\aAh p.2.1 | .inr p=>aAh p.1) (F:=λk (s:aY×aY×Bool) i=>qN N lo hi o d k s.1 s.2.1 s.2.2 i) (λk s i hi' hs hk=>?_) (λk s hs=>?_) (by omega) (s:=(aY.mk 0 1,aY.mk 0 0,false)) ⟨z1,z0⟩) λq hq=>?_
 ·rw[qN,dt (by omega),cond_true]
  refine T.bind (P:=λo=>match o with | .inl p=>aAh p.1/\aAh p.2.1 | .inr p=>aAh p.1) ?_ λq hq=>?_
  ·refine T.bind (P:=λe:Vector Int 4=>∃x,e.toList[3]? = some x/\cD x) ?_ λe7 h7=>?_
   ·have:i=0\/i=1\/i=2:=by omega
    rcases this with rfl | rfl | rfl
    ·exact⟨_,rfl,_,rfl,hd.1⟩
    ·exact⟨_,rfl,_,rfl,hd.2.1⟩
    ·exact⟨_,rfl,_,rfl,hd.2.2⟩
   obtain⟨x,ex,hx⟩:=h7;refine T.bind (T.inRO (by decide) (by decide)) λ_ _=>T.bind (T.vg (i:=0) (by decide)) λe9 _=>T.bind (T.inRO (by decide) (by decide)) λ_ _=>T.bind (T.vg (i:=2) (by decide)) λe11 _=>?_;refine T.bind (T.inRO (by decide) (by decide)) λ_ _=>T.bind (T.vg (i:=1) (by decide)) λe13 _=>T.bind (T.inRO (by decide) (by decide)) λ_ _=>T.bind (T.vg (i:=2) (by decide)) λe15 _=>?_;refine T.bind (T.inRO (by decide) (by decide)) λ_ _=>T.eq (a:=x) ex ?_;simp only[aO]
   refine T.cond (λ_=>T.ret hs.1) (λ_=>?_)
   refine T.bind (P:=λ_=>True) (T.cond (λ_=>T.ret trivial) (λ_=>T.ret trivial)) λp19 _=>?_;refine T.cond (λ_=>T.ret hs.1) (λ_=>T.cond (λ_=>T.ret hs) (λ_=>?_))
   have r1:∀a b:Int,cD b->aAh (aY.mk (I64 a) b):=λa b h=>⟨cG _,h⟩
   refine T.cond (λ_=>?_) (λ_=>?_)
   ·refine T.bind (P:=aAh) (T.bind (aGl N hs.1 (r1 _ _ (cG _))) λ_ _=>T.cond (λ_=>T.ret (r1 _ _ (cG _))) (λ_=>T.ret hs.1)) λp24 h24=>?_;refine T.bind (P:=λ_=>True) (T.cond (λ_=>T.ret trivial) (λ_=>T.bind (aGl N (r1 _ _ (cG _)) hs.2) λ_ _=>T.ret trivial)) λp26 _=>?_;exact T.cond (λ_=>T.ret ⟨h24,r1 _ _ (cG _)⟩) (λ_=>T.ret ⟨h24,hs.2⟩)
   ·refine T.bind (P:=aAh) (T.bind (aGl N hs.1 (r1 _ _ hx)) λ_ _=>T.cond (λ_=>T.ret (r1 _ _ hx)) (λ_=>T.ret hs.1)) λp24 h24=>?_;refine T.bind (P:=λ_=>True) (T.cond (λ_=>T.ret trivial) (λ_=>T.bind (aGl N (r1 _ _ hx) hs.2) λ_ _=>T.ret trivial)) λp26 _=>?_;exact T.cond (λ_=>T.ret ⟨h24,r1 _ _ hx⟩) (λ_=>T.ret ⟨h24,hs.2⟩)
  ·cases q with
   | inl p=>rw[cW (by omega)];exact hk (_,_,_) hq
   | inr p=>exact T.ret hq
 ·rw[qN,df (by omega),cond_false];exact T.ret hs
 ·cases q with
  | inl p=>exact T.bind (P:=λ_=>True) (T.cond (λ_=>T.ret trivial) (λ_=>T.bind (aGl N hq.2 hq.1) λ_ _=>T.ret trivial)) λ_ _=>T.ret hq.1
  | inr p=>exact T.ret hq
theorem aP0(N:Nat)(hN:3 < N)(b:bC){gl:List aJ}(o d:aB)(m s:Int){j:Int}(hj:0<=j/\j < (gl.length:Int)):∃a:aS×Bool,qL a.1/\∀t,dC N o d m s j (wlk b gl t)=some a:=by
 have key:T (dC N o d m s j (wlk b gl 0)) (λa=>qL a.1):=by
  unfold dC wlk;refine T.bind (T.idx hj.1 hj.2) λe1 _=>?_;simp only[aO]
  refine T.cond (λ_=>T.ret aEe) (λ_=>?_)
  exact T.bind (T.idx hj.1 hj.2) λe1 _=>T.bind (hitT N hN _ _ _) λr h=>T.ret h
 obtain⟨a,e,h1⟩:=key;exact⟨a,h1,λt=>e⟩
def aTV(b:bC)(l:List Int):Prop:=∀x∈l,0<=x/\x < (b.gB0.length:Int)
theorem T.slcN{α:Type}{l:List α}{lo hi:Int}(h0:0<=lo)(h1:lo<=hi)(h2:hi<=(l.length:Int)):T (xR l lo hi) (λr=>r=(l.take hi.toNat).drop lo.toNat/\(∀x∈r,x∈l)/\r.length<=l.length):=by
 refine⟨_,aGe h0 h1 h2,rfl,λx hx=>List.mem_of_mem_take (List.mem_of_mem_drop hx),?_⟩
 rw[List.length_drop,bo];omega
theorem aKs{α:Type}{l:List α}{e:Int}(h0:0<=e)(h:e.toNat < l.length):idx l e=some l[e.toNat]:=by
 have:e=((e.toNat:Nat):Int):=by omega
 exact(congrArg (idx l) this).trans ((eP l e.toNat).trans (af h))
theorem aUZ(k:Nat){n:aA}(hn:vin n)(d:aB):T (oJ (k+70) n d) vin:=by
 unfold oJ;refine T.bind (aCD (k+5) d) λr1 h1=>T.bind (aQ9 (k+66) hn h1) λr2 _=>T.cond (λ_=>T.ret hn) (λ_=>?_)
 exact T.eq (rD (k+67) hn ⟨by decide,by decide⟩) (T.ret (pK _ _))
theorem pickT(N:Nat){l:List aC}(h:aHw l)(i:Int):T (aAv N l i) (λr=>r.1.gA6.length<=260):=by
 unfold aAv;rw[aO]
 refine T.cond (λ_=>T.ret (by simp)) (λhc=>?_)
 have h0:(l.length:Int)≠0:=by simpa using hc
 have h20:=h.1;rw[aO,bD (x:=(l.length:Int) - 1) (by omega) (by omega),wI,tR]
 exact T.bind (T.idx (by omega) (by omega)) λe3 h3=>T.ret (h.2 _ (az h3))
def aTN(u:Vector (Vector Int 2) 3):Prop:=∀v∈u.toList,∀x∈v.toList,0<=x/\x<=65535
theorem uvT{u:Vector (Vector Int 2) 3}(h:aTN u){i j:Int}(hi:0<=i/\i < 3)(hj:0<=j/\j < 2){β:Type}{f:Int->Option β}{Q:β->Prop}(hf:∀e,cD e->T (f e) Q):T (aa (idx u.toList i) λe=>aa (idx e.toList j) f) Q:=by
 refine T.bind (T.idx hi.1 (by simp;omega)) λe he=>T.bind (T.idx hj.1 (by simp;omega)) λx hx=>hf x ?_;have:=h _ (az he) _ (az hx)
 exact⟨by omega,by omega⟩
theorem aSf(k:Nat){j:Int}(hj:0<=j/\j < 2){m:aS}(hm:qL m){u:Vector (Vector Int 2) 3}(hu:aTN u):T (oV (k+5) j m u) (λ_=>True):=by
 unfold oV;rw[aO]
 refine uvT hu ⟨by decide,by decide⟩ hj λe3 h3=>T.bind (aGM _ (cG _) h3) λr4 h4=>?_;refine uvT hu ⟨by decide,by decide⟩ hj λe6 h6=>T.bind (aGM _ hm.2.2.1 h6) λr7 h7=>?_;refine uvT hu ⟨by decide,by decide⟩ hj λe9 h9=>T.bind (aGM _ hm.2.2.2 h9) λr10 h10=>?_;refine T.bind (aSZ _ _ (by intro x hx;simp at hx;rcases hx with rfl | rfl | rfl;exact h4;exact h7;exact h10) (by simp) (by simp)) λr11 h11=>?_;refine T.cond (λ_=>T.ret trivial) (λ_=>T.bind (aTC (k+2) h11 hm.2.1) λr12 h12=>T.bind (aIX _ h12.1) λr13 h13=>?_)
 simp only[aO]
 exact T.cond (λ_=>T.ret trivial) (λ_=>T.cond (λ_=>T.ret trivial) (λ_=>T.ret trivial))
theorem baryT(k:Nat){m:aS}(hm:qL m){u:Vector (Vector Int 2) 3}(hu:aTN u):T (aAs (k+5) m u) (λ_=>True):=by
 unfold aAs;refine T.bind (P:=λ_=>True) ?_ λp1 _=>?_
 ·simp only[aO]
  exact T.cond (λ_=>T.ret trivial) (λ_=>T.cond (λ_=>T.ret trivial) (λ_=>T.ret trivial))
 ·exact T.cond (λ_=>T.ret trivial) (λ_=>T.bind (aSf k ⟨by decide,by decide⟩ hm hu) λ_ _=>T.bind (aSf k ⟨by decide,by decide⟩ hm hu) λ_ _=>T.ret trivial)
theorem aUa(N:Nat)(hN:300 < N)(t:aC)(h:t.gA6.length<=260)(x y:Int):T (aAr N t x y) (λ_=>True):=by
 unfold aAr;refine T.bind (texT N t (by omega) (by omega) (by omega)) λr1 h1=>T.cond (λ_=>T.ret trivial) (λhc=>?_)
 have ok:=h1 (by simpa using hc)
 exact T.bind (aJS N ⟨ok.1,ok.2.1⟩ _ _) λ_ _=>T.ret trivial
theorem aUm(N:Nat)(hN:300 < N)(t:aC)(h:t.gA6.length<=260)(x y:Int):T (xT N t x y) (λr=>vin r.1):=by
 unfold xT;refine T.bind (texT N t (by omega) (by omega) (by omega)) λr1 h1=>T.cond (λ_=>T.ret ⟨z64,z64,z64⟩) (λhc=>?_)
 rw[aO,aO]
 refine T.cond (λ_=>T.ret ⟨z64,z64,z64⟩) (λ_=>?_)
 refine T.letO λx4 _=>T.letO λx5 _=>?_;simp only[aO]
 have s:∀a b:Int,T (fN N a b t x4 x5) (λ_=>True):=by
  intro a b;unfold fN;simp only[aO]
  exact T.bind (aUa N hN t h _ _) λ_ _=>T.ret trivial
 refine T.bind (s _ _) λr13 _=>T.bind (s _ _) λr14 _=>T.bind (s _ _) λr15 _=>T.bind (s _ _) λr16 _=>?_;refine T.bind (P:=λ_=>True) ?_ λp17 _=>?_
 ·refine T.loopG0 (n:=4) (λ_ _=>True) _ (F:=mZ N r13 r14 r15 r16 x4 x5) (λk v i hi _ hk=>?_) (λk v _=>?_) (by omega) trivial
  ·rw[mZ,dt (by omega),cond_true]
   refine T.bind (T.idx (by omega) (by simp;omega)) λe20 _=>T.bind (P:=λ_=>True) ?_ λ_ _=>by rw[cW (by omega)];exact hk _ trivial
   refine T.loopG0 (n:=3) (λ_ _=>True) _ (F:=mK N e20 (i:Int) x4 x5) (λk v j hj _ hk=>?_) (λk v _=>?_) (by omega) trivial
   ·rw[mK,dt (by omega),cond_true]
    refine T.bind (T.inRO (by omega) (by omega)) λ_ _=>T.bind (T.vgI hj) λ_ _=>T.bind (T.inRO (by omega) (by omega)) λ_ _=>T.bind (T.vgI hj) λ_ _=>T.bind (T.inRO (by omega) (by omega)) λ_ _=>T.bind (T.vgI hi) λ_ _=>?_;rw[aO]
    refine T.bind (T.inRO (by omega) (by omega)) λ_ _=>T.bind (T.vgI hj) λ_ _=>?_;rw[cW (by omega)]
    exact hk _ trivial
   ·rw[mK,df (by omega),cond_false];exact T.ret trivial
  ·rw[mZ,df (by omega),cond_false];exact T.ret trivial
 ·refine T.bind (T.inRO (by decide) (by decide)) λ_ _=>T.bind (T.vg (i:=0) (by decide)) λ_ _=>T.bind (T.inRO (by decide) (by decide)) λ_ _=>T.bind (T.vg (i:=1) (by decide)) λ_ _=>T.bind (T.inRO (by decide) (by decide)) λ_ _=>T.bind (T.vg (i:=2) (by decide)) λ_ _=>T.ret ⟨cG _,cG _,cG _⟩
theorem aTP(k:Nat){c:Vector Int 3}(hc:∀x∈c.toList,0<=x/\x<=65535){l:List aC}(hl:aHw l){u:Vector (Vector Int 2) 3}(hu:aTN u){m:aS}(hm:qL m)(i:Int):T (pL (k+400) c l u m i) vin:=by
 unfold pL;refine T.bind (aTG (k+397) c (λx hx=>by have:=hc x hx;exact⟨by omega,by omega⟩) ⟨by decide,by decide⟩ (by decide)) λr1 h1=>T.bind (pickT _ hl i) λr2 h2=>T.cond (λ_=>T.ret h1) (λ_=>?_)
 refine T.bind (baryT (k+395) hm hu) λr3 _=>T.letO λx4 _=>T.letO λx5 _=>T.bind (aUm _ (by omega) _ h2 _ _) λr6 h6=>T.cond (λ_=>T.ret h1) (λ_=>?_)
 exact T.bind (aEc (k+397) _ (by intro x hx;simp at hx;rcases hx with rfl | rfl;exact h1;exact h6) (by simp) (by simp)) λr7 h7=>T.ret h7
theorem aLZ(k:Nat){a b c:Int}(hb:cD b)(hc:cD c)(v:Vector Int 2):T (kZ (k+3) a b c v) cD:=by
 unfold kZ;refine T.bind (T.idx (by decide) (by simp)) λe1 _=>T.bind (aIZ k hb (cG _) ⟨by decide,by decide⟩) λr2 h2=>T.bind (T.idx (by decide) (by simp)) λe3 _=>T.bind (aIZ k hc (cG _) ⟨by decide,by decide⟩) λr4 h4=>?_;rw[aO]
 exact T.ret (cG _)
theorem aWv(k:Nat){l:aQ}(h:xZ l)(v:Vector Int 2):T (aAq (k+3) l v) pin:=by
 unfold aAq;obtain⟨_,a,b,c⟩:=h;have b':=aJv b (by decide)
 have c':=aJv c (by decide)
 refine T.cond (λ_=>T.ret (aJv a (by decide))) (λ_=>?_)
 exact T.bind (aLZ k b'.1 c'.1 v) λ_ x=>T.bind (aLZ k b'.2.1 c'.2.1 v) λ_ y=>T.bind (aLZ k b'.2.2 c'.2.2 v) λ_ z=>T.ret ⟨x,y,z⟩
theorem absT(N:Nat){a:Int}(h:cD a):T (oQ N a) cD:=by unfold oQ;exact T.cond (λ_=>T.ret (cG _)) (λ_=>T.ret h)
theorem aTl(N:Nat){a:Int}(b:Int)(h:cD a):T (vY N a b) cD:=by unfold vY;exact T.cond (λ_=>T.ret (cG _)) (λ_=>T.ret h)
theorem foldT(N:Nat){a b:Int}(ha:cD a)(hb:cD b):T (aCL N a b) (λr=>cD r.1/\cD r.2):=by
 unfold aCL;exact T.bind (absT N hb) λ_ _=>T.bind (aTl N _ (cG _)) λ_ x=>T.bind (absT N ha) λ_ _=>T.bind (aTl N _ (cG _)) λ_ y=>T.ret ⟨x,y⟩
theorem aVb(N:Nat)(a:Int):T (rW N a) cD:=by unfold rW;rw[aO];exact T.ret (cG _)
theorem aUu(N:Nat)(a:Int):T (aAD N a) pin:=by
 unfold aAD;refine T.bind (aVb N _) λr1 h1=>T.bind (aVb N _) λr2 h2=>T.bind (absT N h1) λr3 _=>T.bind (absT N h2) λr4 _=>?_;rw[aO]
 refine T.bind (P:=λp=>cD p.1/\cD p.2) (T.cond (λ_=>T.bind (foldT N h1 h2) λr h=>T.ret h) (λ_=>T.ret ⟨h1,h2⟩)) λp h=>T.ret ⟨h.1,h.2,cG _⟩
theorem aOs(N:Nat)(a:Int):T (wV N a) pin:=by
 unfold wV aAB;simp only[aO,ae]
 exact T.bind (aUu N _) λr h=>T.ret h
theorem aP1(k:Nat){a b:Int}(ha:cD a)(hb:cD b):T (lC (k+3) [a,b]) cD:=⟨_,aCK k ha hb,dD _⟩
theorem negT(N:Nat){a:Int}(ha:cD a):T (xF N a) cD:=⟨_,aPu N ha,dD _⟩
theorem farT(k:Nat){f:wN}(hf:pin f.gE0)(p:aB){n:aA}(hn:vin n):T (uW (k+70) f p n) (λr=>pin r.1/\cD r.2):=by
 unfold uW;refine T.bind (aCD (k+5) _) λr1 h1=>T.bind (aQ9 (k+66) hn h1) λr2 h2=>T.cond (λ_=>?_) (λ_=>?_)
 ·exact T.bind (negT _ h2) λ_ a=>T.bind (negT _ h2) λ_ b=>T.bind (aP1 (k+67) a b) λ_ c=>T.ret ⟨⟨cG _,cG _,cG _⟩,c⟩
 ·exact T.bind (aP1 (k+67) h2 h2) λ_ c=>T.ret ⟨hf,c⟩
theorem aVk(k:Nat)(f:wU)(p:aB){n:aA}(hn:vin n):T (sY (k+70) f p n) (λr=>pin r.1/\cD r.2):=by
 unfold sY;refine T.bind (aNQ _ _ _) λr1 h1=>T.bind (aCD (k+5) _) λr2 h2=>T.bind (aQ9 (k+66) hn h2) λr3 h3=>?_;simp only[aO]
 refine T.cond (λ_=>T.ret ⟨⟨z64,z64,z64⟩,z64⟩) (λ_=>T.bind (aMv _ _ _) λr6 h6=>T.bind (aIZ (k+67) h3 ⟨by decide,by decide⟩ h6) λr7 h7=>T.ret ⟨h1,h7⟩)
theorem lampT(k:Nat){l:aQ}(h:xZ l)(p:aB){n:aA}(hn:vin n)(v:Vector Int 2):T (sF (k+70) l p n v) (λr=>vin r.gC4):=by
 unfold sF;have v0:vin (aA.mk 0 0 0):=⟨z64,z64,z64⟩
 refine T.bind (P:=λ_=>True) (T.bind (aSF _ (by omega) l) λ_ _=>T.cond (λ_=>T.ret trivial) (λ_=>T.bind (aSg _ _ _) λ_ _=>T.ret trivial)) λp1 _=>T.cond (λ_=>T.ret v0) (λ_=>?_)
 refine T.bind (aWv (k+67) h v) λr4 h4=>T.cond (λ_=>?_) (λ_=>?_)
 ·refine T.bind (T.idx (by decide) (by simp)) λe5 _=>T.bind (aOs _ _) λr6 h6=>T.bind (farT k (f:=wN.mk r6) h6 _ hn) λr7 h7=>T.cond (λ_=>T.ret v0) (λ_=>?_)
  exact T.bind (aMI (k+67) h) λr8 h8=>T.eq (rD (k+67) h8 h7.2) (T.ret (pK _ _))
 ·refine T.bind (aVk k _ _ hn) λr10 h10=>T.cond (λ_=>T.ret v0) (λ_=>?_)
  exact T.bind (aMI (k+67) h) λr8 h8=>T.eq (rD (k+67) h8 h10.2) (T.ret (pK _ _))
def aIz(t:iY):Prop:=pin t.gF1/\vin t.gC4
theorem aQA : aIz (iY.mk (aB.mk 0 0 0) (aA.mk 0 0 0) true):=⟨⟨z64,z64,z64⟩,z64,z64,z64⟩
theorem aSp(k:Nat){c n:aA}(hc:vin c)(hn:vin n)(a:Int):T (tG (k+70) c n a) aIz:=by
 unfold tG;refine T.bind (aOs _ _) λr1 h1=>T.bind (aCD (k+5) _) λr2 h2=>T.bind (aQ9 (k+66) hn h2) λr3 h3=>?_;refine T.bind (P:=λp=>pin p.1/\cD p.2) (T.cond (λ_=>T.bind (negT _ h3) λ_ b=>T.ret ⟨⟨cG _,cG _,cG _⟩,b⟩) (λ_=>T.ret ⟨h1,h3⟩)) λp4 h4=>T.cond (λ_=>T.ret aQA) (λ_=>?_)
 exact T.bind (aP1 (k+67) h4.2 h4.2) λr6 h6=>T.eq (rD (k+67) hc h6) (T.ret ⟨h4.1,pK _ _⟩)
theorem aLT(k:Nat){n:aA}(hn:vin n)(d:aB):T (oI (k+70) n d) vin:=by
 unfold oI;exact T.bind (aCD (k+5) _) λr1 h1=>T.bind (aQ9 (k+66) hn h1) λr2 h2=>T.bind (aP1 (k+67) h2 h2) λr3 h3=>T.eq (rD (k+67) hn h3) (T.eq (aIP _ h1 (pK _ _)) (T.ret (aIg _ _)))
theorem aMM(k:Nat){a c:aA}(ha:vin a)(hc:vin c):T (nG (k+3) a c) aIz:=by
 unfold nG;exact T.eq (aTB k ha) (T.cond (λ_=>T.ret aQA) (λ_=>T.ret ⟨aFQ (aKh ha),hc⟩))
theorem aTr(k:Nat){m:aN}(hm:aDk m){c n:aA}(hc:vin c)(hn:vin n)(d:aB)(v:Vector Int 2):T (mX (k+70) m c n d v) aIz:=by
 unfold mX;obtain⟨_,r1,r2⟩:=hm;refine T.cond (λ_=>T.bind (T.idx (by decide) (by simp)) λe1 _=>T.bind (aSp k hc hn _) λr h=>T.ret h) (λ_=>?_)
 refine T.cond (λ_=>?_) (λ_=>?_)
 ·refine T.eq (rQ _ ⟨by omega,by omega⟩) (T.eq (rQ _ ⟨by decide,by decide⟩) (T.eq (yH (k+67) (dD _) (dD _) (by decide)) ?_))
  refine T.bind (aLT k hn d) λr6 h6=>T.bind (T.idx (by decide) (by simp)) λe7 _=>T.bind (aOs _ _) λr8 _=>T.bind (aCD (k+5) _) λr9 h9=>T.eq (rD (k+67) h9 (dD _)) ?_;refine T.eq (aJ5 (k+67) h6 (pK _ _)) (T.bind (aQ9 (k+66) hn (uT _ _)) λr12 _=>T.cond (λ_=>T.ret aQA) (λ_=>T.bind (aMM (k+67) (uT _ _) hc) λr h=>T.ret h))
 refine T.cond (λ_=>?_) (λ_=>?_)
 ·refine T.bind (T.idx (by decide) (by simp)) λe14 _=>T.bind (aSu _ _ _) λr15 _=>?_;rw[aO]
  exact T.cond (λ_=>T.bind (aCD (k+5) _) λr17 h17=>T.bind (aMM (k+67) h17 hc) λr h=>T.ret h) (λ_=>T.bind (aLT k hn d) λr19 h19=>T.bind (aMM (k+67) h19 hc) λr h=>T.ret h)
 ·exact T.cond (λ_=>T.bind (aLT k hn d) λr19 h19=>T.bind (aMM (k+67) h19 hc) λr h=>T.ret h) (λ_=>T.ret aQA)
theorem T.eqo{α:Type}{o:Option α}{a:α}(h:o=some a):(aa o λr=>some r)=some a:=by rw[h];rfl
theorem aRD(k:Nat){f:aA}(hf:vin f)(a:Int):T (lR (k+70) f a) (λr=>vin r.1):=by
 unfold lR aAO sN kA;refine T.eq (aOD _ hf) (T.eq rfl (T.eq rfl (T.cond (λ_=>T.ret ⟨z64,z64,z64⟩) (λ_=>?_))))
 rw[wI,tR]
 generalize hx:min (max (yT f) 268435456) 4294967296=x;have hx1:cD x/\x≠0:=by unfold cD;omega
 refine T.eq (T.eqo (yH (k+67) hf.1 hx1.1 hx1.2)) ?_;refine T.eq (T.eqo (yH (k+67) hf.2.1 hx1.1 hx1.2)) ?_;refine T.eq (T.eqo (yH (k+67) hf.2.2 hx1.1 hx1.2)) ?_;exact T.ret ⟨dD _,dD _,dD _⟩
theorem aSq(k:Nat)(c:bN)(w h x y:Int)(v:Vector Int 4):T (yZ (k+6) c w h x y v) (λr=>pin r.1/\pin r.2.1):=by
 unfold yZ;have p0:pin (aB.mk 0 0 0):=⟨z64,z64,z64⟩
 refine T.bind (T.idx (by decide) (by simp)) λe1 _=>T.bind (T.idx (by decide) (by simp)) λe2 _=>?_;refine T.bind (aNU k c w h x y _) λr hr=>?_;refine T.cond (λhc=>T.ret ⟨p0,p0⟩) (λhc=>?_)
 have h0:r.2=0:=by simpa using hc
 obtain⟨hv,cam⟩:=hr;obtain⟨⟨w1,w2⟩,⟨h1,h2⟩,hl,hf,o1,o2,o3,ee1,ee2⟩:=cam h0;have eye:pin c.gA7:=by
  simp only[tR,wI] at ee1 ee2;exact⟨⟨by omega,by omega⟩,⟨by omega,by omega⟩,by omega,by omega⟩
 refine T.bind (P:=λp=>pin p.1/\vin p.2) ?_ λp hp=>?_
 ·refine T.cond (λ_=>?_) (λ_=>T.ret ⟨eye,hv⟩)
  refine T.bind (aWx k c v (aFQ (aEI o1)) (aFQ (aEI o2))) λr5 h5=>?_;simp only[aO]
  refine T.eq (rQ _ ⟨by omega,by omega⟩) ?_;refine T.eq (rQ _ ⟨by decide,by decide⟩) ?_;refine T.eq (yH (k+3) (dD _) (dD _) (by decide)) ?_;refine T.eq (rD (k+3) hv (dD _)) ?_;refine T.eq (aCR _ h5) ?_;refine T.eq (aIP _ (pK _ _) (aCe _)) ?_;exact T.ret ⟨⟨cG _,cG _,cG _⟩,aIg _ _⟩
 ·refine T.eq (aTB (k+3) hp.2) ?_;exact T.cond (λhc=>T.ret ⟨p0,p0⟩) (λ_=>T.ret ⟨hp.1,aFQ (aKh hp.2)⟩)
theorem nk{N c:Nat}(h:c<=N):∃k,N=k+c:=⟨N - c,by omega⟩
section
variable {N:Nat} (hN:1000 < N)
include hN
theorem aPt(p:aB):T (iQ N p) vin:=by obtain⟨k,rfl⟩:=nk (show 65<=N by omega);exact aCD k p
theorem aQR{n:aA}(hn:vin n)(d:aB):T (oJ N n d) vin:=by obtain⟨k,rfl⟩:=nk (show 70<=N by omega);exact aUZ k hn d
theorem aNK{c:Vector Int 3}(hc:∀x∈c.toList,0<=x/\x<=65535){l:List aC}(hl:aHw l){u:Vector (Vector Int 2) 3}(hu:aTN u){m:aS}(hm:qL m)(i:Int):T (pL N c l u m i) vin:=by obtain⟨k,rfl⟩:=nk (show 400<=N by omega);exact aTP k hc hl hu hm i
theorem aS9{o d:aB}{m:aS}(ho:pin o)(hd:pin d)(hm:qL m):T (xN N o d m) pin:=by obtain⟨k,rfl⟩:=nk (show 3<=N by omega);exact aTy k ho hd hm
theorem aQW{v:aA}(hv:vin v):T (rN N v) cD:=by obtain⟨k,rfl⟩:=nk (show 65<=N by omega);exact aQQ k hv
theorem aVY{l:aQ}(h:xZ l)(p:aB){n:aA}(hn:vin n)(v:Vector Int 2):T (sF N l p n v) (λr=>vin r.gC4):=by obtain⟨k,rfl⟩:=nk (show 70<=N by omega);exact lampT k h p hn v
theorem aNb{m:aN}(hm:aDk m){c n:aA}(hc:vin c)(hn:vin n)(d:aB)(v:Vector Int 2):T (mX N m c n d v) aIz:=by obtain⟨k,rfl⟩:=nk (show 70<=N by omega);exact aTr k hm hc hn d v
theorem aKp{f:aA}(hf:vin f)(a:Int):T (lR N f a) (λr=>vin r.1):=by obtain⟨k,rfl⟩:=nk (show 70<=N by omega);exact aRD k hf a
theorem aMc(l:List aA)(h:∀x∈l,vin x)(hl:l.length<=10):T (jY N l) vin:=by obtain⟨k,rfl⟩:=nk (show 3<=N by omega);exact aEc k l h (by omega) (by omega)
theorem aVI{u v:aA}(hu:vin u)(hv:vin v):lW N [u,v]=some (aJL u v):=by obtain⟨k,rfl⟩:=nk (show 3<=N by omega);exact aJ5 k hu hv
theorem rayN(c:bN)(w h x y:Int)(v:Vector Int 4):T (yZ N c w h x y v) (λr=>pin r.1/\pin r.2.1):=by obtain⟨k,rfl⟩:=nk (show 6<=N by omega);exact aSq k c w h x y v
theorem aTa{f:aA}(hf:vin f):jY N [f,aA.mk 0 0 0]=some (aA.mk 0 0 0):=by
 obtain⟨k,rfl⟩:=nk (show 3<=N by omega)
 have h:=rD k hf z64;unfold fX at h;obtain⟨r,e,_⟩:=aEc k [f,aA.mk 0 0 0] (by intro x hx;simp at hx;rcases hx with rfl | rfl;exact hf;exact⟨z64,z64,z64⟩) (by simp) (by simp)
 rw[e] at h ⊢;have h':r=aMN f 0:=Option.some.inj h;rw[h']
 unfold aMN;simp[S64]
end
def v0 : aA:=aA.mk 0 0 0
theorem aE9 : vin v0:=⟨z64,z64,z64⟩
def aIU(p:bE):Prop:=pin p.gat/\vin p.gn/\vin p.gc/\aDk p.gB4
def aFE(r:aP):Prop:=pin r.go/\pin r.gd
theorem mat0 : aDk (aN.mk 0 (#v[0,0,0]) 0):=⟨by intro x hx;simp at hx;omega,by decide,by decide⟩
section
variable {ι ρ ρ' β:Type}
def TC(A:ι->Option ρ)(P:ρ->Prop):Prop:=∃a,P a/\∀i,A i=some a
theorem TU.c{A:ι->Option ρ}{B:ι->ρ->Option ρ'}{P:ρ->Prop}{Q:β->Prop}{S:ι->β->ρ'->Prop}(h:TC A P)(hf:∀a,P a->TU (λi=>B i a) Q S):TU (λi=>aa (A i) (B i)) Q S:=by
 obtain⟨a,pa,e⟩:=h;exact TU.e e (hf a pa)
theorem TC.of{o:Option ρ}{A:ι->Option ρ}{P:ρ->Prop}(h:T o P)(e:∀i,A i=o):TC A P:=by
 obtain⟨a,rfl,pa⟩:=h;exact⟨a,pa,e⟩
theorem TC.bind{A:ι->Option ρ}{B:ι->ρ->Option ρ'}{P:ρ->Prop}{Q:ρ'->Prop}(h:TC A P)(hf:∀a,P a->TC (λi=>B i a) Q):TC (λi=>aa (A i) (B i)) Q:=by
 obtain⟨a,pa,e⟩:=h;obtain⟨b,qb,e'⟩:=hf a pa;exact⟨b,qb,λi=>by show aa (A i) (B i)=_;rw[e i];exact e' i⟩
theorem TC.t{α:Type}{o:Option α}{B:ι->α->Option ρ}{P:α->Prop}{Q:ρ->Prop}(h:T o P)(hf:∀a,P a->TC (λi=>B i a) Q):TC (λi=>aa o (B i)) Q:=by
 obtain⟨a,rfl,pa⟩:=h;exact hf a pa
theorem TC.cond{c:Bool}{A B:ι->Option ρ}{Q:ρ->Prop}(h1:c=true->TC A Q)(h2:c=false->TC B Q):TC (λi=>_root_.cond c (A i) (B i)) Q:=by
 cases c with
 | true=>exact h1 rfl
 | false=>exact h2 rfl
theorem TC.ret(a:ρ){Q:ρ->Prop}(h:Q a):TC (λ_:ι=>some a) Q:=⟨a,h,λ_=>rfl⟩
end
theorem aVE : vin (aA.mk 4294967296 4294967296 4294967296):=⟨⟨by decide,by decide⟩,⟨by decide,by decide⟩,by decide,by decide⟩
theorem aTg{a b n m:Int}(h:cQ a b n)(e:n=m):cQ a b m:=e▸h
end Go.UK
