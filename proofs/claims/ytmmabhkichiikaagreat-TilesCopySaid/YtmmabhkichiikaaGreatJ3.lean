/- A part of the proof: what the functions of the program compute. -/
import Derived.Test.YtmmabhkichiikaaGreatJ2
open Int renaming ediv_le_self→iq,ediv_nonneg→ci,emod_lt_of_pos→cj,emod_nonneg→cq,eq_ofNat_of_zero_le→bm,le_refl→fc,mul_le_mul_of_nonneg_right→er,tdiv→d6,tdiv_eq_ediv_of_nonneg→dp,toNat_natCast→bn
open List renaming Perm→fk,append_assoc→av,getElem?_append_left→bd,getElem?_append_right→cg,getElem?_eq_getElem→af,getElem?_eq_some_iff→ff,getElem?_set_ne→d7,getElem?_set_self→da,getElem_mem→bj,getElem_of_mem→ck,getElem_set_ne→jf,getElem_set_self→iz,length_append→ar,length_set→ce,length_take→bo,map_append→dh,mem_append→ba,mem_cons_of_mem→fy,mem_cons_self→jk,mem_of_getElem?→az,mem_or_eq_of_mem_set→ic,mem_singleton→bz,nil_append→fa,nodup_append→jt,perm_append_comm→fj,sum_append→kp,take_length→kc,take_of_length_le→fh,take_zero→kt
open Nat renaming beq_refl→gm,le_refl→ay
open Option renaming bind→aa,bind_some→ae
namespace Go.UK
open Go Go.Proofs
set_option maxRecDepth 20000
set_option maxHeartbeats 2000000
set_option linter.all false
theorem T.loopG{σ ρ:Type}{n:Nat}(I:Nat->σ->Prop)(Q:ρ->Prop){F:Nat->σ->Int->Option ρ}
  (hstep:∀k s i,i < n->I i s->(∀s',I (i+1) s'->T (F k s' ((i+1:Nat):Int)) Q)->T (F (k+1) s (i:Int)) Q) (hend:∀k s,I n s->T (F (k+1) s (n:Int)) Q) :
  ∀(k i:Nat) (s:σ),I i s->i<=n->n - i < k->T (F k s (i:Int)) Q
 | 0,i,_,_,_,h=>by omega
 | k+1,i,s,hs,hi,hk=>by
  by_cases h:i < n
  ·exact hstep k s i h hs λs' h'=>T.loopG I Q hstep hend k (i+1) s' h' (by omega) (by omega)
  ·obtain rfl:i=n:=by omega
   exact hend _ _ hs
theorem T.loopG0{σ ρ:Type}{n:Nat}(I:Nat->σ->Prop)(Q:ρ->Prop){F:Nat->σ->Int->Option ρ}
  (hstep:∀k s i,i < n->I i s->(∀s',I (i+1) s'->T (F k s' ((i+1:Nat):Int)) Q)->T (F (k+1) s (i:Int)) Q) (hend:∀k s,I n s->T (F (k+1) s (n:Int)) Q) {N:Nat} (hN:n < N) {s:σ} (hs:I 0 s):T (F N s 0) Q:=
 T.loopG I Q hstep hend N 0 s hs (by omega) (by omega)
theorem T.true{α:Type}{o:Option α}{P:α->Prop}(h:T o P):T o (λ_=>True):=h.mono λ_ _=>trivial
theorem aGe(N:Nat){a b:Int}(ha:cG a)(hb:cG b):T (jI N a b) wok:=by
 obtain⟨w,e,h,_⟩:=aM9 N ha hb;exact⟨w,e,h⟩
theorem aOY{x y c:Int}(hx:0<=x)(hx':x < 18446744073709551616)(hy:0<=y)(hy':y < 18446744073709551616)(hc:0<=c)(hc':c<=1):T (aBC x y c) (λr=>0<=r.1/\r.1 < 18446744073709551616/\0<=r.2/\r.2<=1):=by
 unfold aBC;rw[dt hx,dt hy,dt hc,dt hc']
 exact⟨_,rfl,by dsimp only;omega,by dsimp only;omega,by dsimp only;omega,by dsimp only;omega⟩
theorem aTa(k:Nat){w:aT}{y:Int}(hw:wok w)(hy:cG y):T (rA (k+3) w y) (λr=>wok r.1/\cG r.2.1):=by
 obtain⟨⟨w1,w2⟩,w3,w4⟩:=hw;unfold rA;refine T.cond (λ_=>T.ret ⟨⟨z64,by decide,by decide⟩,z64⟩) (λhc=>?_)
 have hy0:y≠0:=by simpa using hc
 refine T.bind (P:=λp=>0<=p.1/\p.1 < 18446744073709551616/\0<=p.2/\p.2 < 18446744073709551616) ?_ λp hp=>?_
 ·refine T.cond (λ_=>?_) (λ_=>T.ret ⟨aCQ _,aER _,w3,w4⟩)
  obtain⟨h',l',e,a1,a2,a3,a4,_⟩:=aIS (k+3) (h:=U64 w.gHi) (l:=w.gLo) (aCQ _) (aER _) w3 w4;exact T.eq e (T.ret ⟨a1,a2,a3,a4⟩)
 obtain⟨p1,p2,p3,p4⟩:=hp;refine T.eq (wsz (k+3) hy) ?_;have hY:0 < (if y < 0 then -y else y)/\(if y < 0 then -y else y) < 18446744073709551616:=by obtain⟨y1,y2⟩:=hy;split <;> omega
 dsimp only;generalize (if y < 0 then -y else y)=Y at *;obtain⟨Y1,Y2⟩:=hY;refine T.eq (aMA (k+3) Y1 p1 p2) ?_;refine T.eq (aSW k Y1 Y2 (cq _ (by omega)) (cj _ Y1) p3 p4) ?_;dsimp only;have q1:0<=p.1 / Y/\p.1 / Y < 18446744073709551616:=⟨ci p1 (by omega),Int.lt_of_le_of_lt (iq _ p1) p2⟩
 have m1:=cq p.1 (show Y≠0 by omega)
 have m2:=cj p.1 Y1;have q2:0<=(p.1 % Y*18446744073709551616+p.2) / Y:=ci (by omega) (by omega)
 have q3:(p.1 % Y*18446744073709551616+p.2) / Y < 18446744073709551616:=by
  rw[Int.ediv_lt_iff_lt_mul Y1]
  generalize p.1 % Y=m at *;omega
 generalize (p.1 % Y*18446744073709551616+p.2) / Y=Q at *;generalize (p.1 % Y*18446744073709551616+p.2) % Y=R at *;generalize p.1 / Y=P1 at *;refine T.bind (P:=λp=>0<=p.1/\p.1 < 18446744073709551616/\0<=p.2.1/\p.2.1 < 18446744073709551616) ?_ λp6 h6=>?_
 ·simp only[aP]
  refine T.cond (λ_=>?_) (λ_=>T.ret ⟨q1.1,q1.2,q2,q3⟩)
  refine T.bind (aOY q2 q3 (by decide) (by decide) (by decide) (by decide)) λr9 h9=>T.ret ⟨aCQ _,aER _,h9.1,h9.2.1⟩
 simp only[aP]
 refine T.bind (aUM (k+3) _ h6.1 h6.2.1 h6.2.2.1 h6.2.2.2) λr11 h11=>?_;refine T.cond (λ_=>T.ret ⟨⟨z64,by decide,by decide⟩,z64⟩) (λ_=>?_)
 refine T.bind (P:=λ_=>True) (T.cond (λ_=>T.ret trivial) (λ_=>T.ret trivial)) λp12 _=>T.ret ⟨h11,cL _⟩
theorem aIK(k:Nat){a b y:Int}(ha:cG a)(hb:cG b)(hy:cG y):T (kI (k+3) a b y) cG:=by
 unfold kI;refine T.cond (λ_=>T.ret z64) (λ_=>?_)
 refine T.bind (aGe _ ha hb) λr1 h1=>T.bind (aTa k h1 hy) λr2 h2=>T.bind (aIP _ h2.1) λr3 h3=>?_;refine T.cond (λ_=>T.ret h3.1) (λ_=>T.cond (λ_=>T.ret ⟨by decide,by decide⟩) (λ_=>T.ret ⟨by decide,by decide⟩))
theorem wofT(N:Nat){a:Int}(ha:cG a):T (vR N a) wok:=by
 unfold vR;obtain⟨h1,h2⟩:=ha;refine T.ret ⟨?_,aCQ _,aER _⟩
 show -9223372036854775808<=shr .i64 a 63/\shr .i64 a 63<=9223372036854775807;rw[aOx]
 omega
theorem aPY(N:Nat)(a b:aT):T (uW N a b) (λ_=>True):=by
 unfold uW;simp only[aP]
 refine T.cond (λ_=>T.ret trivial) (λ_=>T.bind (P:=λ_=>True) (T.cond (λ_=>T.ret trivial) (λ_=>T.ret trivial)) λ_ _=>T.cond (λ_=>T.ret trivial) (λ_=>T.ret trivial))
theorem aTG(N:Nat)(l:List aT)(h:∀w∈l,wok w)(hl:l.length < N)(hb:l.length < 1000000):T (xO N l) (λr=>wok r.1):=by
 unfold xO;have w0:wok (aT.mk 0 0):=⟨z64,by decide,by decide⟩
 refine T.bind (T.loopG0 (n:=l.length) (λ_ s=>wok s) (λr=>match r with | .inl s=>wok s | .inr p=>wok p.1) (F:=tE N l) (λk s i hi hs hk=>?_) (λk s hs=>?_) hl w0) λo ho=>?_
 ·rw[tE,aP,dt (by omega),cond_true,fX,af hi,ae]
  have he:=h _ (bj hi)
  refine T.bind (aOY hs.2.1 hs.2.2 he.2.1 he.2.2 (by decide) (by decide)) λr6 h6=>T.bind (aOY (aCQ _) (aER _) (aCQ _) (aER _) h6.2.2.1 h6.2.2.2) λr7 h7=>?_;simp only[aP]
  refine T.cond (λ_=>T.ret w0) (λ_=>?_)
  rw[eZ (by omega)]
  exact hk _ ⟨cL _,h6.1,h6.2.1⟩
 ·rw[tE,aP,df (by omega),cond_false]
  exact T.ret hs
 ·cases o with
  | inl s=>exact T.ret ho
  | inr p=>exact T.ret ho
theorem aTl(N:Nat)(l:List Int)(h:∀x∈l,cG x)(hl:l.length < N)(hb:l.length < 1000000):T (lB N l) cG:=by
 unfold lB;refine T.bind (T.loopG0 (n:=l.length) (λ_ s=>cG s) cG (F:=oR N l) (λk s i hi hs hk=>?_) (λk s hs=>?_) hl z64) λo ho=>T.ret ho
 ·rw[oR,aP,dt (by omega),cond_true,fX,af hi,ae]
  refine T.eq (aJR hs (h _ (bj hi))) ?_;rw[eZ (by omega)]
  exact hk _ (dY _)
 ·rw[oR,aP,df (by omega),cond_false]
  exact T.ret hs
theorem aEc(k:Nat)(l:List aA)(h:∀x∈l,vin x)(hl:l.length < k+3)(hb:l.length < 1000000):T (kA (k+3) l) vin:=by
 unfold kA;refine T.bind (T.loopG0 (n:=l.length) (λ_ s=>vin s) vin (F:=lM (k+3) l) (λk' s i hi hs hk=>?_) (λk s hs=>?_) hl ⟨⟨by decide,by decide⟩,⟨by decide,by decide⟩,⟨by decide,by decide⟩⟩) λo ho=>T.ret ho
 ·rw[lM,aP,dt (by omega),cond_true,fX,af hi,ae]
  refine T.eq (aTM k hs (h _ (bj hi))) ?_;rw[eZ (by omega)]
  exact hk _ ⟨dY _,dY _,dY _⟩
 ·rw[lM,aP,df (by omega),cond_false]
  exact T.ret hs
theorem aTz(k:Nat)(l:List aA)(h:∀x∈l,vin x)(hl:l.length < k+3)(hb:l.length < 1000):T (mC (k+3) l) vin:=by
 refine⟨_,aIZ k l h hl hb,?_⟩
 have:∀(l:List aA) (a:aA),vin a->vin (l.foldl aJq a):=by
  intro l
  induction l with
  | nil=>intro a ha;exact ha
  | cons x l ih=>intro a _;exact ih _ (vK _ _)
 exact this l _ ⟨z64,z64,z64⟩
theorem aQY(k:Nat){u v:aA}(hu:vin u)(hv:vin v):T (tK (k+4) u v) cG:=by
 unfold tK;refine T.bind (aEc (k+1) _ (by intro x hx;simp at hx;rcases hx with rfl | rfl;exact hu;exact hv) (by simp) (by simp)) λr hr=>?_;refine T.bind (aTl _ _ (by intro x hx;simp at hx;rcases hx with rfl | rfl | rfl;exact hr.1;exact hr.2.1;exact hr.2.2) (by simp) (by simp)) λr2 h2=>T.ret h2
theorem wok0{x:Int}(h:cG x):wok (aT.mk x 0):=⟨h,fc _,show(0:Int) < 18446744073709551616 by decide⟩
theorem wval0{x:Int}(h:0<=x):0<=wN (aT.mk x 0):=by show 0<=x*18446744073709551616+0;omega
theorem aMR(N:Nat)(a:Int):T (pJ N a) (λr => -1073741824<=r/\r<=1073741824):=by
 unfold pJ;simp only[aP,xV,uD]
 exact T.ret ⟨by omega,by omega⟩
theorem aMU(k:Nat){a b:Int}(ha:cG a)(hb:cG b):T (lY (k+3) a b) cG:=by
 unfold lY;refine T.bind (aTa k (w:=aT.mk a 0) (wok0 ha) hb) λr1 h1=>T.bind (aIP _ h1.1) λr2 h2=>T.ret h2.1
theorem aR9{a:Int}(h:-1073741824<=a/\a<=1073741824):0<=a*a/\a*a<=1152921504606846976:=by
 have h0:a*a=(a.natAbs:Int)*(a.natAbs:Int):=by rw[<- Int.natAbs_mul_self' a]
 have h1:a.natAbs<=1073741824:=by omega
 have h2:a.natAbs*a.natAbs<=1073741824*1073741824:=Nat.mul_le_mul h1 h1;rw[h0]
 constructor
 ·exact_mod_cast Nat.zero_le _
 ·have:((a.natAbs*a.natAbs:Nat):Int)<=((1073741824*1073741824:Nat):Int):=by exact_mod_cast h2
  rw[Int.natCast_mul] at this;exact this
theorem aCA(k:Nat)(p:aB):T (iX (k+65) p) vin:=by
 unfold iX;refine T.bind (aMR _ _) λr1 h1=>T.bind (aMR _ _) λr2 h2=>T.bind (aMR _ _) λr3 h3=>?_;simp only[aP]
 have s1:=aR9 h1;have s2:=aR9 h2;have s3:=aR9 h3;have hx:0<=I64 (I64 (I64 (r1*r1)+I64 (r2*r2))+I64 (r3*r3))/\I64 (I64 (I64 (r1*r1)+I64 (r2*r2))+I64 (r3*r3))<=9223372036854775807:=by
  generalize r1*r1=a at *;generalize r2*r2=b at *;generalize r3*r3=c at *;rw[bE (x:=a) (by omega) (by omega),bE (x:=b) (by omega) (by omega),bE (x:=c) (by omega) (by omega),bE (x:=a+b) (by omega) (by omega),bE (by omega) (by omega)]
  omega
 generalize I64 (I64 (I64 (r1*r1)+I64 (r2*r2))+I64 (r3*r3))=X at *;obtain⟨r,e,_⟩:=aU9 k (w:=aT.mk X 0) (wok0 ⟨by omega,hx.2⟩) (wval0 hx.1)
 refine T.eq e ?_;refine T.cond (λ_=>T.ret ⟨z64,z64,z64⟩) (λ_=>?_)
 have c:∀{r:Int},(-1073741824<=r/\r<=1073741824)->cG r:=λh=>⟨by omega,by omega⟩
 refine T.bind (aMU (k+62) (c h1) (cL _)) λ_ a=>T.bind (aMU (k+62) (c h2) (cL _)) λ_ b=>T.bind (aMU (k+62) (c h3) (cL _)) λ_ d=>T.ret ⟨a,b,d⟩
theorem aL6(N:Nat){a:Int}(ha:cG a):T (pI N a) wok:=by
 unfold pI;exact T.bind (aGe _ ha ha) λr h=>T.ret h
theorem aPy(k:Nat){v:aA}(hv:vin v):T (qP (k+65) v) cG:=by
 unfold qP;obtain⟨a,b,c⟩:=hv;refine T.bind (aL6 _ a) λr1 h1=>T.bind (aL6 _ b) λr2 h2=>T.bind (aL6 _ c) λr3 h3=>T.bind (aTG _ _ (by intro x hx;simp at hx;rcases hx with rfl | rfl | rfl;exact h1;exact h2;exact h3) (by simp) (by simp)) λr4 h4=>?_;refine T.cond (λ_=>T.ret ⟨by decide,by decide⟩) (λ_=>?_)
 simp only[aP]
 refine T.bind (P:=λ_=>True) ?_ λr5 _=>T.ret (cL _)
 by_cases h:r4.1.gHi < 0
 ·unfold vE;rw[dt h,cond_true]
  exact T.ret trivial
 ·obtain⟨r,e,_⟩:=aU9 k (w:=r4.1) h4 (by obtain⟨_,q,_⟩:=h4;show 0<=r4.1.gHi*18446744073709551616+r4.1.gLo;omega)
  exact⟨_,e,trivial⟩
theorem aJ1{α:Type}(l:List α)(G:α->Option Int)(P:α->Prop){F:Nat->Int->Option (Sum Unit Int)}
  (hF:∀k i,F (k+1) i=aQ (decide (i < ((l.length:Int)))) λx=>cond x (aa (idx l i) λe=>aa (G e) λr=>cond (r != 0) (some (Sum.inr r)) (F k (I64 (i+1)))) (some (Sum.inl (()))))
  (hG:∀x∈l,T (G x) (λr=>r=0->P x)) {N:Nat} (hN:l.length < N) (hl:l.length < 1000000) :
  T (aa (F N 0) λo=>jY o (λ_=>some 0) (λr=>some r)) (λr=>r=0->∀x∈l,P x):=by
 refine T.bind (T.loopG0 (n:=l.length) (λi _=>∀j,(h:j < l.length)->j < i->P l[j]) (λo=>match o with | .inl _=>∀x∈l,P x | .inr r=>r≠0) (F:=λk (_:Unit) i=>F k i) (λk s i hi hs hk=>?_) (λk s hs=>?_) hN (s:=()) (λj _ h=>absurd h (by omega))) λo ho=>?_
 ·rw[hF,aP,dt (by omega),cond_true,fX,af hi,ae]
  refine T.bind (hG _ (bj hi)) λr hr=>?_;refine T.cond (λhc=>T.ret (by simpa using hc)) (λhc=>?_)
  rw[eZ (by omega)]
  refine hk () λj h hj=>?_;by_cases e:j=i
  ·subst e;exact hr (by simpa using hc)
  ·exact hs j h (by omega)
 ·rw[hF,aP,df (by omega),cond_false]
  refine T.ret λx hx=>?_;obtain⟨j,h,rfl⟩:=ck hx;exact hs j h h
 ·cases o with
  | inl _=>exact T.ret λ_=>ho
  | inr r=>exact T.ret λe=>absurd e ho
theorem aSb{α:Type}(l:List α)(G:α->Option Bool)(P:α->Prop){F:Nat->Int->Option (Sum Unit Int)}
  (hF:∀k i,F (k+1) i=aQ (decide (i < ((l.length:Int)))) λx=>cond x (aa (idx l i) λe=>aa (G e) λr=>cond r (some (Sum.inr i)) (F k (I64 (i+1)))) (some (Sum.inl (()))))
  (hG:∀x∈l,T (G x) (λr=>r=false->P x)) {N:Nat} (hN:l.length < N) (hl:l.length < 1000000) :
  T (aa (F N 0) λo=>jY o (λ_=>some (-1)) (λr=>some r)) (λr=>decide (r>=0)=false->∀x∈l,P x):=by
 refine T.bind (T.loopG0 (n:=l.length) (λi _=>∀j,(h:j < l.length)->j < i->P l[j]) (λo=>match o with | .inl _=>∀x∈l,P x | .inr r=>0<=r) (F:=λk (_:Unit) i=>F k i) (λk s i hi hs hk=>?_) (λk s hs=>?_) hN (s:=()) (λj _ h=>absurd h (by omega))) λo ho=>?_
 ·rw[hF,aP,dt (by omega),cond_true,fX,af hi,ae]
  refine T.bind (hG _ (bj hi)) λr hr=>?_;refine T.cond (λhc=>T.ret (by dsimp only;omega)) (λhc=>?_)
  rw[eZ (by omega)]
  refine hk () λj h hj=>?_;by_cases e:j=i
  ·subst e;exact hr hc
  ·exact hs j h (by omega)
 ·rw[hF,aP,df (by omega),cond_false]
  refine T.ret λx hx=>?_;obtain⟨j,h,rfl⟩:=ck hx;exact hs j h h
 ·cases o with
  | inl _=>exact T.ret λ_=>ho
  | inr r=>exact T.ret λe=>absurd (of_decide_eq_false e) (by simpa using ho)
def pwi(m:Int)(p:aB):Prop:=(-m<=p.gX/\p.gX<=m)/\(-m<=p.gY/\p.gY<=m) /\ -m<=p.gZ/\p.gZ<=m
theorem aIk{m:Int}{p:aB}(h:pwi m p)(hm:m<=1000000000):pin p:=by
 obtain⟨⟨a,b⟩,⟨c,d⟩,e,f⟩:=h;exact⟨⟨by omega,by omega⟩,⟨by omega,by omega⟩,by omega,by omega⟩
theorem aMd(N:Nat)(p:aB){m:Int}(hm:0<=m)(hm':m<=1000000000):T (sN N p m) (λr=>r=true↔pwi m p):=by
 unfold sN;simp only[aP,uD,xV]
 rw[bE (by omega) (by omega)]
 unfold pwi;refine T.bind (P:=λr=>r=true↔((-m<=p.gX/\p.gX<=m)/\(-m<=p.gY/\p.gY<=m) /\ -m<=p.gZ/\p.gZ<=m)) ?_ λr h=>T.ret h;refine T.cond (λh=>T.ret ?_) (λh=>T.ret ?_)
 ·have:=of_decide_eq_true h;rw[decide_eq_true_eq]
  omega
 ·have:=of_decide_eq_false h;constructor
  ·intro h;cases h
  ·intro h;omega
theorem aSL(N:Nat)(a b:aB):T (vX N a b) (λr=>r=true->pwi 65536 a/\pwi 131072 b/\aB.eq b (aB.mk 0 0 0)=false):=by
 unfold vX;refine T.bind (P:=λr=>r=true->pwi 65536 a/\pwi 131072 b/\aB.eq b (aB.mk 0 0 0)=false) ?_ λr h=>T.ret h;refine T.bind (aMd N a (by decide) (by decide)) λr2 h2=>?_;refine T.cond (λhc=>?_) (λ_=>T.ret λh=>by cases h)
 refine T.bind (aMd N b (by decide) (by decide)) λr3 h3=>?_;refine T.cond (λhc'=>?_) (λ_=>T.ret λh=>by cases h)
 simp only[aP]
 refine T.ret λh=>⟨h2.1 hc,h3.1 hc',by simpa using h⟩
theorem aNR(N:Nat)(a b:aB):T (sD N a b) pin:=⟨_,rfl,cL _,cL _,cL _⟩
theorem aMi(N:Nat)(a b:aB):T (uC N a b) pin:=⟨_,rfl,cL _,cL _,cL _⟩
theorem aMr(N:Nat)(a b:aB):T (yH N a b) cG:=⟨_,rfl,cL _⟩
def rO(m:aR):Prop:=cG m.gC3/\cG m.gB9/\cG m.gU/\cG m.gV
theorem aEh : rO (aR.mk 0 0 0 0):=⟨z64,z64,z64,z64⟩
theorem hit1T(N:Nat)(p:aB):T (yJ N p) (λr=>r=false->pwi 65536 p):=by
 unfold yJ;refine T.bind (aMd N p (by decide) (by decide)) λr h=>T.ret λe=>h.1 (by simpa using e)
theorem hitCT(N:Nat)(l:List aB)(hN:l.length < N)(hl:l.length < 1000000):T (cB N l) (λr=>r=false->∀p∈l,pwi 65536 p):=by
 unfold cB dJ;refine T.bind (aSb l (yJ N) (pwi 65536) (λk i=>by rw[cW]) (λp _=>hit1T N p) hN hl) λr h=>T.ret h
theorem hitT(N:Nat)(hN:3 < N)(o d:aB)(P:Vector aB 3):T (aBM N o d P) (λr=>rO r.1):=by
 unfold aBM;refine T.bind (P:=λ_=>True) ?_ λp1 _=>?_
 ·refine T.bind (aSL N o d) λr2 h2=>?_;refine T.cond (λ_=>T.ret trivial) (λ_=>?_)
  refine T.bind (T.slc (by decide) (by decide) (by simp)) λs3 h3=>T.bind (hitCT N s3 (by omega) (by omega)) λr4 _=>T.ret trivial
 refine T.cond (λ_=>T.ret aEh) (λ_=>?_)
 refine T.bind (T.idx (by decide) (by simp)) λe5 _=>T.bind (T.idx (by decide) (by simp)) λe6 _=>T.bind (aNR N _ _) λr7 _=>?_;refine T.bind (T.idx (by decide) (by simp)) λe8 _=>T.bind (T.idx (by decide) (by simp)) λe9 _=>T.bind (aNR N _ _) λr10 _=>?_;refine T.bind (aMi N _ _) λr11 _=>T.bind (T.idx (by decide) (by simp)) λe12 _=>T.bind (aNR N _ _) λr13 _=>T.bind (aMi N _ _) λr14 _=>?_;refine T.bind (aMr N _ _) λr15 h15=>T.bind (aMr N _ _) λr16 h16=>T.bind (aMr N _ _) λr17 h17=>T.bind (aMr N _ _) λr18 h18=>?_;refine T.bind (P:=rO) (T.cond (λ_=>T.ret ⟨cL _,cL _,cL _,cL _⟩) (λ_=>T.ret ⟨h15,h16,h17,h18⟩)) λp19 h19=>?_;simp only[aP]
 exact T.cond (λ_=>T.ret aEh) (λ_=>T.ret h19)
theorem aRY(N:Nat){m n:aR}(hm:rO m)(hn:rO n):T (xU N m n) (λ_=>True):=by
 unfold xU;simp only[aP]
 refine T.cond (λ_=>T.ret trivial) (λ_=>T.bind (aGe N hm.1 hn.2.1) λr2 _=>T.bind (aGe N hn.1 hm.2.1) λr3 _=>T.bind (aPY N _ _) λr4 _=>T.ret trivial)
theorem aU0(N:Nat)(hN:2 < N){a b:Int}(ha:cG a)(hb:cG b):T (aAB N a b) cG:=by
 unfold aAB;refine T.bind (wofT N ha) λr1 h1=>T.bind (wofT N hb) λr2 h2=>T.bind (aTG N _ (by intro x hx;simp at hx;rcases hx with rfl | rfl;exact h1;exact h2) (by simpa using hN) (by simp)) λr3 h3=>?_;refine T.bind (wofT N ⟨by decide,by decide⟩) λr4 _=>T.bind (wofT N ⟨by decide,by decide⟩) λr5 _=>T.bind (aPY N _ _) λr6 _=>?_;refine T.cond (λ_=>T.ret ⟨by decide,by decide⟩) (λ_=>T.bind (aPY N _ _) λr7 _=>?_)
 refine T.cond (λ_=>T.ret ⟨by decide,by decide⟩) (λ_=>T.bind (aIP N h3) λr8 h8=>T.ret h8.1)
theorem aLI(k:Nat){a b:Int}{m:aR}(ha:cG a)(hb:cG b)(hm:rO m):T (lZ (k+3) a b m) cG:=by
 unfold lZ;refine T.cond (λ_=>T.bind (aU0 _ (by omega) ha z64) λr h=>T.ret h) (λ_=>?_)
 refine T.bind (aIK k hb hm.1 hm.2.1) λr2 h2=>T.bind (aU0 _ (by omega) ha h2) λr h=>T.ret h
theorem aUF(k:Nat){o d:aB}{m:aR}(ho:pin o)(hd:pin d)(hm:rO m):T (uZ (k+3) o d m) pin:=by
 unfold uZ;refine T.bind (aLI k ho.1 hd.1 hm) λ_ a=>T.bind (aLI k ho.2.1 hd.2.1 hm) λ_ b=>T.bind (aLI k ho.2.2 hd.2.2 hm) λ_ c=>T.ret ⟨a,b,c⟩
def few(s:aE):Prop:=s.gQ.length<=20/\s.gB0.length<=10/\s.gO.length<=6/\s.gM.length<=5/\(∀t∈s.gO,t.gA5.length<=260)
theorem aGV{α:Type}(l:List α)(n:Nat):(l.take n).length<=n:=by rw[bo];omega
theorem T.slcMin{α:Type}(l:List α)(n:Nat):T (yN l 0 (eP (l.length:Int) (n:Int))) (λr=>r=l.take n):=⟨_,aTb l n,rfl⟩
theorem fewT2(N:Nat)(hN:10 < N)(s:aE):T (mU N s) (λr=>few r/\r.gB0.length<=8/\r.gO.length<=4/\r.gJ.length<=20):=by
 unfold mU;have main:∀(m i:Nat) (a:List aC),i<=4->a.length=i->(∀t∈a,t.gA5.length<=260)->5 - i<=m->T (oQ N s m a (i:Int)) (λr=>r.length<=4/\∀t∈r,t.gA5.length<=260):=by
  intro m
  induction m with
  | zero=>intro i a h1 _ _ h;omega
  | succ m ih=>
   intro i a h1 h2 h3 h4;rw[oQ]
   simp only[aP]
   refine T.cond (λhc=>?_) (λ_=>T.ret ⟨by omega,h3⟩)
   have hc1:(i:Int) < (s.gO.length:Int)/\(i:Int) < 4:=by
    by_cases h:(i:Int) < (s.gO.length:Int)
    ·rw[dt h,cond_true] at hc;exact⟨h,of_decide_eq_true hc⟩
    ·rw[df h,cond_false] at hc;cases hc
   refine T.bind (T.idx (by omega) hc1.1) λe6 _=>?_;refine T.bind (T.slcMin e6.gA5 260) λs8 h8=>?_;refine T.eq (dQ (by simp;omega)) ?_;rw[eZ (by omega)]
   refine ih (i+1) _ (by omega) (by simp;omega) ?_ (by omega)
   intro t ht;rw[ba,bz] at ht;rcases ht with ht | rfl
   ·exact h3 t ht
   ·rw[h8];exact aGV _ _
 refine T.bind (main N 0 [] (by decide) rfl (λt h=>absurd h (by simp)) (by omega)) λp1 h1=>?_;simp only[aP]
 refine T.bind (T.slcMin s.gQ 20) λs11 h11=>T.bind (T.slcMin s.gB0 8) λs13 h13=>T.bind (T.slcMin s.gM 5) λs15 h15=>T.bind (T.slcMin s.gJ 20) λs17 h17=>T.bind (T.slcMin s.gA3 20) λs19 _=>?_;have m8:s13.length<=8:=by rw[h13];exact aGV _ _
 refine T.ret ⟨⟨?_,Nat.le_trans m8 (by decide),by have:=h1.1;show p1.length<=6;omega,?_,h1.2⟩,m8,h1.1,by show s17.length<=20;rw[h17];exact aGV _ _⟩
 ·show s11.length<=20;rw[h11];exact aGV _ _
 ·show s15.length<=5;rw[h15];exact aGV _ _
def aPW(s:aE)(t:aJ):Prop:=(0<=t.gC5/\t.gC5 < (s.gB0.length:Int))/\t.gB7 < (s.gO.length:Int)/\(∀v∈t.gUv.toList,∀x∈v.toList,0<=x/\x<=65535)/\∀p∈t.gP.toList,pwi 65536 p
theorem v2mem{α:Type}{v:Vector α 2}{P:α->Prop}(h0:∀x,v.toList[0]? = some x->P x)(h1:∀x,v.toList[1]? = some x->P x):∀x∈v.toList,P x:=by
 intro x hx;obtain⟨j,h,rfl⟩:=ck hx;have h':j < 2:=by simpa using h
 match j,h' with
 | 0,_=>exact h0 _ (af h)
 | 1,_=>exact h1 _ (af h)
theorem aUp{α:Type}{v:Vector α 3}{P:α->Prop}(h0:∀x,v.toList[0]? = some x->P x)(h1:∀x,v.toList[1]? = some x->P x)(h2:∀x,v.toList[2]? = some x->P x):∀x∈v.toList,P x:=by
 intro x hx;obtain⟨j,h,rfl⟩:=ck hx;have h':j < 3:=by simpa using h
 match j,h' with
 | 0,_=>exact h0 _ (af h)
 | 1,_=>exact h1 _ (af h)
 | 2,_=>exact h2 _ (af h)
theorem T.vg{α:Type}{m:Nat}{v:Vector α m}{i:Nat}(h:i < m):T (v.toList[i]?) (λx=>v.toList[i]? = some x):=⟨_,Go.UK.aGs v i h,Go.UK.aGs v i h⟩
theorem T.vgI{α:Type}{m:Nat}{v:Vector α m}{i:Nat}(h:i < m):T (v.toList[(i:Int).toNat]?) (λx=>v.toList[i]? = some x):=T.vg h
theorem mL{α:Type}{o:Option α}{a b:α}(h:o=some a)(h':o=some b):a=b:=by rw[h] at h';exact Option.some.inj h'
theorem triT(N:Nat)(hN:10 < N)(s:aE)(t:aJ):T (nB N s t) (λr=>r=0->aPW s t):=by
 unfold nB;simp only[aP]
 refine T.cond (λ_=>T.ret λh=>by cases h) (λhc=>?_)
 have c1:(0<=t.gC5/\t.gC5 < (s.gB0.length:Int))/\t.gB7 < (s.gO.length:Int):=by
  have o:∀{a:Prop} [Decidable a] {b:Bool},cond b true (decide a)=false->b=false/\¬a:=by
   intro a _ b h;cases b with
   | true=>cases h
   | false=>exact⟨rfl,of_decide_eq_false h⟩
  obtain⟨hc,_⟩:=o hc;obtain⟨hc,_⟩:=o hc;obtain⟨hc,h4⟩:=o hc;obtain⟨hc,_⟩:=o hc;obtain⟨hc,h2⟩:=o hc;exact⟨⟨by have:=of_decide_eq_false hc;omega,by omega⟩,by omega⟩
 refine T.bind (T.loopG0 (n:=3) (λi _=>∀j,(h:j < 3)->j < i->∀x∈t.gUv[j].toList,0<=x/\x<=65535) (λo=>match o with | .inl _=>∀v∈t.gUv.toList,∀x∈v.toList,0<=x/\x<=65535 | .inr r=>r≠0) (F:=λk (_:Unit) i=>mB N t k i) (λk _ i hi hs hk=>?_) (λk _ hs=>?_) (by omega) (s:=()) (λj _ h=>absurd h (by omega))) λo ho=>?_
 ·rw[mB,dt (by omega),cond_true]
  refine T.bind (T.idx (by omega) (by simp;omega)) λe10 h10=>?_;have e10e:e10=t.gUv[i]:=mL h10 (by rw[bn];exact aGs _ _ hi)
  refine T.bind (P:=λr=>r=false->∀x∈e10.toList,0<=x/\x<=65535) ?_ λp11 h11=>?_
  ·refine T.bind (T.inRO (by decide) (by decide)) λ_ _=>T.bind (T.vg (i:=0) (by decide)) λa ha=>T.bind (T.inRO (by decide) (by decide)) λ_ _=>T.bind (T.vg (i:=1) (by decide)) λb hb=>?_;simp only[aP,xV,uD]
   refine T.cond (λ_=>T.ret λh=>by cases h) (λh1=>?_)
   refine T.bind (T.inRO (by decide) (by decide)) λ_ _=>T.bind (T.vg (i:=0) (by decide)) λa' ha'=>T.bind (T.inRO (by decide) (by decide)) λ_ _=>T.bind (T.vg (i:=1) (by decide)) λb' hb'=>?_;refine T.ret λh2=>?_;obtain rfl:=mL ha ha';obtain rfl:=mL hb hb';have h1:=of_decide_eq_false h1;have h2:=of_decide_eq_false h2;exact v2mem (λx hx=>by obtain rfl:=mL ha hx;omega) (λx hx=>by obtain rfl:=mL hb hx;omega)
  refine T.cond (λ_=>T.ret (λh=>by cases h)) (λhc=>?_)
  rw[eZ (by omega)]
  refine hk () λj h hj=>?_;by_cases e:j=i
  ·subst e;rw[<- e10e];exact h11 hc
  ·exact hs j h (by omega)
 ·rw[mB,df (by omega),cond_false]
  refine T.ret λv hv=>?_;obtain⟨j,h,rfl⟩:=ck hv;have h':j < 3:=by simpa using h
  have:=hs j h' h';simpa using this
 cases o with
 | inr r=>exact T.ret λe=>absurd e ho
 | inl _=>
 refine T.bind (T.loopG0 (n:=3) (λi _=>∀j,(h:j < 3)->j < i->pwi 65536 t.gP[j]) (λo=>match o with | .inl _=>∀v∈t.gP.toList,pwi 65536 v | .inr r=>r≠0) (F:=λk (_:Unit) i=>mA N t k i) (λk _ i hi hs hk=>?_) (λk _ hs=>?_) (by omega) (s:=()) (λj _ h=>absurd h (by omega))) λo' ho'=>?_
 ·rw[mA,dt (by omega),cond_true]
  refine T.bind (T.idx (by omega) (by simp;omega)) λe10 h10=>?_;have e10e:e10=t.gP[i]:=mL h10 (by rw[bn];exact aGs _ _ hi)
  refine T.bind (aSL N _ _) λr hr=>?_;refine T.cond (λ_=>T.ret (λh=>by cases h)) (λhc=>?_)
  rw[eZ (by omega)]
  refine hk () λj h hj=>?_;by_cases e:j=i
  ·subst e;rw[<- e10e];exact(hr (by simpa using hc)).1
  ·exact hs j h (by omega)
 ·rw[mA,df (by omega),cond_false]
  refine T.ret λv hv=>?_;obtain⟨j,h,rfl⟩:=ck hv;have h':j < 3:=by simpa using h
  have:=hs j h' h';simpa using this
 cases o' with
 | inr r=>exact T.ret λe=>absurd e ho'
 | inl _=>exact T.ret λ_=>⟨c1.1,c1.2,ho,ho'⟩
theorem aSf(N:Nat)(hN:30 < N)(s:aE)(h:few s):T (dI N s.gQ s) (λr=>r=0->∀t∈s.gQ,aPW s t):=by
 unfold dI;have h1:=h.1;refine aJ1 s.gQ (λt=>kV N t s) (aPW s) (λk i=>by rw[fH]) (λt _=>?_) (by omega) (by omega)
 unfold kV;exact T.bind (triT N (by omega) s t) λr h=>T.ret h
theorem aF0(N:Nat)(m:Int)(l:List Int)(hN:l.length < N)(hl:l.length < 1000000):T (mD N m l) (λr=>r=false->∀x∈l,0<=x/\x<=m):=by
 unfold mD eR fO;refine T.bind (P:=λr=>r=false->∀x∈l,0<=x/\x<=m) ?_ λr h=>T.ret h;refine T.bind (aSb l (λe=>nK N e m) (λx=>0<=x/\x<=m) (λk i=>by rw[eQ]) (λx _=>?_) hN hl) λr h=>T.ret h;unfold nK;simp only[aP]
 refine T.ret λh=>?_;by_cases h1:x < 0
 ·rw[dt h1,cond_true] at h;cases h
 ·rw[df h1,cond_false] at h;have:=of_decide_eq_false h;omega
def aDa(m:aO):Prop:=(∀x∈m.gA7.toList,0<=x/\x<=65535)/\0<=m.gD5/\m.gD5<=65535
theorem matT(N:Nat)(hN:10 < N)(m:aO):T (pE N m) (λr=>r=0->aDa m):=by
 unfold pE;refine T.bind (P:=λr=>r=false->aDa m) ?_ λp1 h1=>T.cond (λ_=>T.ret λh=>by cases h) (λhc=>T.ret λ_=>h1 hc)
 refine T.bind (aF0 N 4 _ (by simp;omega) (by simp)) λr2 _=>?_;refine T.cond (λ_=>T.ret λh=>by cases h) (λ_=>?_)
 refine T.bind (T.idx (by decide) (by simp)) λa ha=>T.bind (T.idx (by decide) (by simp)) λb hb=>T.bind (T.idx (by decide) (by simp)) λc hc=>?_;refine T.bind (aF0 N 65535 _ (by simp;omega) (by simp)) λr6 h6=>T.ret λe=>?_;have h:=h6 e;refine⟨aUp (λx hx=>?_) (λx hx=>?_) (λx hx=>?_),h _ (by simp)⟩
 ·obtain rfl:=mL ha hx;exact h _ (by simp)
 ·obtain rfl:=mL hb hx;exact h _ (by simp)
 ·obtain rfl:=mL hc hx;exact h _ (by simp)
theorem aRp(N:Nat)(hN:30 < N)(s:aE)(h:few s):T (dS N s.gB0) (λr=>r=0->∀t∈s.gB0,aDa t):=by
 unfold dS;have h1:=h.2.1;exact aJ1 s.gB0 (pE N) aDa (λk i=>by rw[fA]) (λt _=>matT N (by omega) t) (by omega) (by omega)
def aPh(t:aC):Prop:=(t.gF=1\/t.gF=2\/t.gF=4\/t.gF=8\/t.gF=16)/\(t.gA5.length:Int)=t.gF*t.gF/\∀v∈t.gA5,∀x∈v.toList,0<=x/\x<=255
theorem aQy(N:Nat)(l:List Int)(a:Int)(hN:l.length < N)(hl:l.length < 1000000):T (jS N l a) (λr=>r=true->a∈l):=by
 unfold jS oS;refine T.bind (P:=λr=>0<=r->a∈l) ?_ λr h=>T.ret λe=>h (of_decide_eq_true e)
 refine T.bind (T.loopG0 (n:=l.length) (λ_ _=>True) (λo=>match o with | .inl _=>True | .inr r=>a∈l) (F:=λk (_:Unit) i=>hO N l a k i) (λk _ i hi hs hk=>?_) (λk _ hs=>?_) hN (s:=()) trivial) λo ho=>?_
 ·rw[hO,aP,dt (by omega),cond_true,fX,af hi,ae]
  refine T.cond (λhc=>T.ret ?_) (λ_=>?_)
  ·have e:a=l[i]:=by simpa using hc
   show a∈l;rw[e];exact bj hi
  ·rw[eZ (by omega)];exact hk () trivial
 ·rw[hO,aP,df (by omega),cond_false];exact T.ret trivial
 ·cases o with
  | inl _=>exact T.ret λh=>absurd h (by decide)
  | inr r=>exact T.ret λ_=>ho
theorem texT(N:Nat)(t:aC)(hN:t.gA5.length < N)(hN':10 < N)(hl:t.gA5.length < 1000000):T (kP N t) (λr=>r=0->aPh t):=by
 unfold kP;refine T.bind (aQy N _ _ (by simp;omega) (by simp)) λr1 h1=>?_;simp only[aP]
 refine T.cond (λ_=>T.ret λh=>by cases h) (λhc=>?_)
 have c:t.gF∈[1,2,4,8,16]/\(t.gA5.length:Int)=I64 (t.gF*t.gF):=by
  cases r1 with
  | false=>cases hc
  | true=>exact⟨h1 rfl,by simpa using hc⟩
 have c1:t.gF=1\/t.gF=2\/t.gF=4\/t.gF=8\/t.gF=16:=by simpa using c.1
 have c2:(t.gA5.length:Int)=t.gF*t.gF:=by
  rw[c.2];rcases c1 with h | h | h | h | h <;> rw[h] <;> decide
 refine T.bind (T.loopG0 (n:=t.gA5.length) (λi _=>∀j,(h:j < t.gA5.length)->j < i->∀x∈t.gA5[j].toList,0<=x/\x<=255) (λo=>match o with | .inl _=>∀v∈t.gA5,∀x∈v.toList,0<=x/\x<=255 | .inr r=>r≠0) (F:=λk (_:Unit) i=>mX N (t.gA5.length:Int) t k i) (λk _ i hi hs hk=>?_) (λk _ hs=>?_) hN (s:=()) (λj _ h=>absurd h (by omega))) λo ho=>?_
 ·rw[mX,dt (by omega),cond_true,fX,af hi,ae]
  refine T.bind (P:=λr=>r=false->∀x∈(t.gA5[i]).toList,0<=x/\x<=255) ?_ λp11 h11=>?_
  ·refine T.bind (T.inRO (by decide) (by decide)) λ_ _=>T.bind (T.vg (i:=0) (by decide)) λa ha=>T.bind (T.inRO (by decide) (by decide)) λ_ _=>T.bind (T.vg (i:=1) (by decide)) λb hb=>T.bind (T.inRO (by decide) (by decide)) λ_ _=>T.bind (T.vg (i:=2) (by decide)) λd hd=>?_;simp only[aP,xV,uD]
   refine T.cond (λ_=>T.ret λh=>by cases h) (λh1=>?_)
   refine T.bind (T.inRO (by decide) (by decide)) λ_ _=>T.bind (T.vg (i:=0) (by decide)) λa' ha'=>T.bind (T.inRO (by decide) (by decide)) λ_ _=>T.bind (T.vg (i:=1) (by decide)) λb' hb'=>T.bind (T.inRO (by decide) (by decide)) λ_ _=>T.bind (T.vg (i:=2) (by decide)) λd' hd'=>?_;refine T.ret λh2=>?_;obtain rfl:=mL ha ha';obtain rfl:=mL hb hb';obtain rfl:=mL hd hd';have h1:=of_decide_eq_false h1;have h2:=of_decide_eq_false h2;exact aUp (λx hx=>by obtain rfl:=mL ha hx;omega) (λx hx=>by obtain rfl:=mL hb hx;omega) (λx hx=>by obtain rfl:=mL hd hx;omega)
  refine T.cond (λ_=>T.ret (λh=>by cases h)) (λhc=>?_)
  rw[eZ (by omega)]
  refine hk () λj h hj=>?_;by_cases e:j=i
  ·subst e;exact h11 hc
  ·exact hs j h (by omega)
 ·rw[mX,df (by omega),cond_false]
  refine T.ret λv hv=>?_;obtain⟨j,h,rfl⟩:=ck hv;exact hs j h h
 cases o with
 | inr r=>exact T.ret λe=>absurd e ho
 | inl _=>exact T.ret λ_=>⟨c1,c2,ho⟩
theorem aS4(N:Nat)(hN:300 < N)(s:aE)(h:few s):T (fK N s.gO) (λr=>r=0->∀t∈s.gO,aPh t):=by
 unfold fK;have h1:=h.2.2.1;exact aJ1 s.gO (kP N) aPh (λk i=>by rw[iC]) (λt ht=>texT N t (by have:=h.2.2.2.2 t ht;omega) (by omega) (by have:=h.2.2.2.2 t ht;omega)) (by omega) (by omega)
def zE(l:aS):Prop:=(∀x∈l.gA7.toList,0<=x/\x<=1048576)/\pwi 4096 l.gAt/\pwi 4096 l.gU/\pwi 4096 l.gV
theorem aMG(N:Nat)(p:aB):T (oF N p) (λr=>r=false->pwi 4096 p):=by
 unfold oF pwi;simp only[aP,uD,xV]
 refine T.bind (P:=λr=>r=false->(-4096<=p.gX/\p.gX<=4096)/\(-4096<=p.gY/\p.gY<=4096) /\ -4096<=p.gZ/\p.gZ<=4096) ?_ λr h=>T.ret h;refine T.cond (λ_=>T.ret λh=>by cases h) (λh=>T.ret λh2=>?_)
 have h:=of_decide_eq_false h;have h2:=of_decide_eq_false h2;omega
theorem aTW(N:Nat)(hN:10 < N)(l:aS):T (qU N l) (λr=>r=0->zE l):=by
 unfold qU;refine T.bind (P:=λr=>r=false->∀x∈l.gA7.toList,0<=x/\x<=1048576) ?_ λp1 h1=>?_
 ·refine T.bind (aF0 N 2 _ (by simp;omega) (by simp)) λr2 _=>?_;refine T.cond (λ_=>T.ret λh=>by cases h) (λ_=>?_)
  refine T.bind (T.slc (by decide) (by decide) (by simp)) λs3 h3=>T.bind (aF0 N _ s3 (by omega) (by omega)) λr4 h4=>T.ret λe=>?_;have hs:s3=l.gA7.toList:=by rw[h3.1];exact fh (show l.gA7.toList.length<=3 by simp)
  rw[<- hs];exact h4 e
 refine T.cond (λ_=>T.ret λh=>by cases h) (λhc=>?_)
 refine T.bind (P:=λr=>r=false->pwi 4096 l.gAt/\pwi 4096 l.gU/\pwi 4096 l.gV) ?_ λp5 h5=>?_
 ·refine T.bind (aMG N _) λr6 h6=>T.cond (λ_=>T.ret λh=>by cases h) (λc6=>?_)
  refine T.bind (aMG N _) λr7 h7=>T.cond (λ_=>T.ret λh=>by cases h) (λc7=>?_)
  exact T.bind (aMG N _) λr8 h8=>T.ret λc8=>⟨h6 c6,h7 c7,h8 c8⟩
 refine T.cond (λ_=>T.ret λh=>by cases h) (λhc5=>?_)
 have ok:zE l:=⟨h1 hc,h5 hc5⟩
 simp only[aP]
 refine T.bind (P:=λ_=>True) ?_ λo _=>?_
 ·refine T.cond (λ_=>T.cond (λ_=>T.ret trivial) (λ_=>?_)) (λ_=>T.cond (λ_=>?_) (λ_=>T.ret trivial))
  ·exact T.bind (P:=λ_=>True) (T.cond (λ_=>T.ret trivial) (λ_=>T.ret trivial)) λ_ _=>T.cond (λ_=>T.ret trivial) (λ_=>T.ret trivial)
  ·exact T.bind (P:=λ_=>True) (T.cond (λ_=>T.ret trivial) (λ_=>T.ret trivial)) λ_ _=>T.cond (λ_=>T.ret trivial) (λ_=>T.ret trivial)
 ·cases o with
  | inl _=>exact T.ret λ_=>ok
  | inr r=>exact T.ret λ_=>ok
theorem aOh(N:Nat)(hN:30 < N)(s:aE)(h:few s):T (hJ N s.gM) (λr=>r=0->∀t∈s.gM,zE t):=by
 unfold hJ;have h1:=h.2.2.2.1;exact aJ1 s.gM (qU N) zE (λk i=>by rw[iV]) (λt _=>aTW N (by omega) t) (by omega) (by omega)
structure aUV(s:aE):Prop where
 few:few s
 tri:∀t∈s.gQ,aPW s t
 mat:∀t∈s.gB0,aDa t
 tex:∀t∈s.gO,aPh t
 light:∀t∈s.gM,zE t
theorem aV3(N:Nat)(hN:300 < N)(s:aE)(h:few s):T (kG N s) (λr=>r=0->aUV s):=by
 unfold kG;simp only[aP]
 refine T.cond (λ_=>T.ret λh=>by cases h) (λ_=>?_)
 have nz:∀{r:Int} {P:Prop},(r != 0)=true->(r=0->P):=λh e=>by rw[e] at h;cases h
 refine T.bind (aSf N (by omega) s h) λr3 h3=>T.cond (λc=>T.ret (nz c)) (λc3=>?_)
 refine T.bind (aRp N (by omega) s h) λr4 h4=>T.cond (λc=>T.ret (nz c)) (λc4=>?_)
 refine T.bind (aS4 N (by omega) s h) λr5 h5=>T.cond (λc=>T.ret (nz c)) (λc5=>?_)
 refine T.bind (aOh N (by omega) s h) λr6 h6=>T.ret λe=>?_;exact⟨h,h3 (by simpa using c3),h4 (by simpa using c4),h5 (by simpa using c5),h6 e⟩
def aPA(v:aF):Prop:=aPG v.gD7 v.gW v.gH/\(1<=v.gB5/\v.gB5<=16)/\(0<=v.gG/\v.gG<=8)/\0<=v.gK/\v.gK<=2
theorem mayVT(N:Nat)(v:aF):T (uR N v) (λr=>r=0->aPA v):=by
 unfold uR;refine T.bind (aJ0 N _ _ _) λr1 h1=>?_;refine T.cond (λc=>T.ret λe=>by rw[e] at c;cases c) (λc=>?_)
 simp only[aP]
 refine T.cond (λ_=>T.ret λh=>by cases h) (λhc=>T.ret λ_=>?_)
 have o:∀{a:Prop} [Decidable a] {b:Bool},cond b true (decide a)=false->b=false/\¬a:=by
  intro a _ b h;cases b with
  | true=>cases h
  | false=>exact⟨rfl,of_decide_eq_false h⟩
 obtain⟨hc,c6⟩:=o hc;obtain⟨hc,c5⟩:=o hc;obtain⟨hc,c4⟩:=o hc;obtain⟨hc,c3⟩:=o hc;obtain⟨hc,c2⟩:=o hc;have c1:=of_decide_eq_false hc;exact⟨h1 (by simpa using c),by omega,by omega,by omega,by omega⟩
def eW(c:Int):Int×Int:=cond (c==0) (16,4) (cond (c==1) (64,4) (cond (c==2) (256,8) (0,0)))
theorem aO2(N:Nat)(c:Int):kM N c=some (eW c):=by
 unfold kM eW;cases (c==0) <;> cases (c==1) <;> cases (c==2) <;> rfl
theorem aWY(N:Nat)(c:Int):T (kM N c) (λr=>r=eW c):=⟨_,aO2 N c,rfl⟩
def fits(s:aE)(c:Int):Prop:=(s.gQ.length:Int)<=(eW c).1/\(s.gM.length:Int)<=(eW c).2
theorem aVB(N:Nat)(s:aE)(c:Int):T (pL N s c) (λr=>r=0->fits s c):=by
 unfold pL;refine T.eq (aO2 N c) ?_;simp only[aP]
 refine T.cond (λ_=>T.ret λh=>by cases h) (λhc=>T.ret λ_=>?_)
 by_cases h:(s.gQ.length:Int) > (eW c).1
 ·rw[dt h,cond_true] at hc;cases hc
 ·rw[df h,cond_false] at hc;have:=of_decide_eq_false hc;exact⟨by omega,by omega⟩
theorem aMf(k:Nat){a b:Int}(ha:cG a)(hb:cG b)(h0:S64 (b*4294967296)≠0):T (kU (k+3) a b) cG:=by
 unfold kU;refine T.eq (sQ _ ha) (T.eq (sQ _ hb) (T.eq (zC k (dY _) (dY _) h0) (T.ret (dY _))))
theorem aTK(k:Nat)(c:Vector Int 3){b:Int}(hc:∀x∈c.toList,cG x)(hb:cG b)(h0:S64 (b*4294967296)≠0):T (tQ (k+3) c b) vin:=by
 unfold tQ;refine T.bind (T.idx (by decide) (by simp)) λe1 h1=>T.bind (aMf k (hc _ (az h1)) hb h0) λr2 a=>?_;refine T.bind (T.idx (by decide) (by simp)) λe3 h3=>T.bind (aMf k (hc _ (az h3)) hb h0) λr4 b=>?_;refine T.bind (T.idx (by decide) (by simp)) λe5 h5=>T.bind (aMf k (hc _ (az h5)) hb h0) λr6 d=>T.ret ⟨a,b,d⟩
theorem aLk(k:Nat){l:aS}(h:zE l):T (qY (k+3) l) vin:=by
 unfold qY;exact T.bind (aTK k _ (λx hx=>by have:=h.1 x hx;exact⟨by omega,by omega⟩) ⟨by decide,by decide⟩ (by decide)) λr h=>T.ret h
theorem skyT(k:Nat)(hk:10 < k)(l:List aS)(h:∀x∈l,zE x)(hl:l.length<=5):T (aAM (k+3) l) (λr=>vin r/\(l=[]->r=aA.mk 0 0 0)):=by
 unfold aAM;refine T.bind (T.loopG0 (n:=l.length) (λi s=>s.length<=i/\∀v∈s,vin v) (λr=>r.length<=l.length/\∀v∈r,vin v) (F:=tO (k+3) l) (λk' s i hi hs hk'=>?_) (λk' s hs=>?_) (by omega) (s:=[]) ⟨by simp,λv h=>absurd h (by simp)⟩) λr hr=>?_
 ·rw[tO,aP,dt (by omega),cond_true]
  refine T.bind (P:=λp=>p.1.length<=i+1/\∀v∈p.1,vin v) ?_ λp5 h5=>?_
  ·rw[fX,af hi,ae]
   refine T.cond (λ_=>?_) (λ_=>T.ret ⟨by dsimp only;omega,hs.2⟩)
   refine T.bind (aLk k (h _ (bj hi))) λr7 h7=>T.eq (dQ (by simp;omega)) (T.ret ⟨by simp;omega,?_⟩)
   intro v hv;rw[ba,bz] at hv;rcases hv with hv | rfl
   ·exact hs.2 v hv
   ·exact h7
  ·rw[eZ (by omega)];exact hk' _ h5
 ·rw[tO,aP,df (by omega),cond_false];exact T.ret hs
 ·refine T.eq (aIZ k r hr.2 (by omega) (by omega)) (T.ret ⟨?_,λh=>?_⟩)
  ·obtain⟨x,e,hx⟩:=aTz k r hr.2 (by omega) (by omega)
   rw[aIZ k r hr.2 (by omega) (by omega)] at e;cases e;exact hx
  ·subst h;have:r=[]:=List.eq_nil_of_length_eq_zero (by have:=hr.1;simpa using this)
   subst this;rfl
def aMl(t:aC):Prop:=(t.gF=1\/t.gF=2\/t.gF=4\/t.gF=8\/t.gF=16)/\(t.gA5.length:Int)=t.gF*t.gF
theorem aIq(N:Nat){t:aC}(h:aMl t)(x y:Int):T (oY N t x y) (λ_=>True):=by
 obtain⟨h1,h2⟩:=h;unfold oY;simp only[aP]
 have b:∀(a:Int) (m:Nat),t.gF=(m:Int)+1->m < 100->0<=lE .i64 a (I64 (t.gF - 1))/\lE .i64 a (I64 (t.gF - 1))<=(m:Int):=by
  intro a m h hm;rw[h,show I64 ((m:Int)+1 - 1)=(m:Int) by rw[bE (by omega) (by omega)];omega]
  exact aSP m (by omega)
 have key:∀m:Nat,t.gF=(m:Int)+1->m < 100->T (aa (idx t.gA5 (I64 (I64 (lE .i64 y (I64 (t.gF - 1))*t.gF)+lE .i64 x (I64 (t.gF - 1))))) λe4=>some e4) (λ_=>True):=by
  intro m hm hb;have bx:=b x m hm hb;have by':=b y m hm hb
  generalize lE .i64 x (I64 (t.gF - 1))=X at *;generalize lE .i64 y (I64 (t.gF - 1))=Y at *;rw[hm] at h2 ⊢;have n1:0<=Y*((m:Int)+1):=Int.mul_nonneg by'.1 (by omega)
  have n2:Y*((m:Int)+1)<=(m:Int)*((m:Int)+1):=er by'.2 (by omega)
  have n3:(m:Int)*((m:Int)+1)<=100*101:=by
   have:(m:Int)*((m:Int)+1)<=100*((m:Int)+1):=er (by omega) (by omega)
   omega
  have n4:((m:Int)+1)*((m:Int)+1)=(m:Int)*((m:Int)+1)+((m:Int)+1):=by rw[Int.add_mul,Int.one_mul]
  rw[n4] at h2;generalize Y*((m:Int)+1)=Z at *;generalize (m:Int)*((m:Int)+1)=W at *;rw[bE (x:=Z) (by omega) (by omega),bE (by omega) (by omega)]
  exact T.bind (T.idx (by omega) (by omega)) λ_ _=>T.ret trivial
 rcases h1 with h | h | h | h | h
 ·exact key 0 h (by decide)
 ·exact key 1 h (by decide)
 ·exact key 3 h (by decide)
 ·exact key 7 h (by decide)
 ·exact key 15 h (by decide)
theorem aVc(N:Nat)(hN:10 < N)(a b c d:Vector Int 3):T (lN N a b c d N (#v[0,0,0]) 0) (λ_=>True):=by
 refine T.loopG0 (n:=3) (λ_ _=>True) _ (F:=lN N a b c d) (λk s i hi _ hk=>?_) (λk s _=>?_) (by omega) trivial
 ·rw[lN,dt (by omega),cond_true]
  refine T.bind (T.inRO (by omega) (by omega)) λ_ _=>T.bind (T.vg hi) λ_ _=>T.bind (T.inRO (by omega) (by omega)) λ_ _=>T.bind (T.vg hi) λ_ _=>T.bind (T.inRO (by omega) (by omega)) λ_ _=>T.bind (T.vg hi) λ_ _=>?_;simp only[aP]
  refine T.bind (T.inRO (by omega) (by omega)) λ_ _=>T.bind (T.vg hi) λ_ _=>T.bind (T.inRO (by omega) (by omega)) λ_ _=>T.bind (T.vg hi) λ_ _=>?_;rw[eZ (by omega)]
  exact hk _ trivial
 ·rw[lN,df (by omega),cond_false];exact T.ret trivial
theorem halfT(N:Nat)(hN:100 < N){t:aC}(h:aMl t)(h1:t.gF > 1):T (uF N t) (λr=>aMl r/\r.gF*2=t.gF):=by
 unfold uF;obtain⟨H,e1,e2,e3⟩:∃H:Nat,I64 (d6 t.gF 2)=(H:Int)/\t.gF=(H:Int)*2/\(H=1\/H=2\/H=4\/H=8):=by
  rcases h.1 with e | e | e | e | e
  ·omega
  ·exact⟨1,by rw[e];decide,by rw[e];decide,by simp⟩
  ·exact⟨2,by rw[e];decide,by rw[e];decide,by simp⟩
  ·exact⟨4,by rw[e];decide,by rw[e];decide,by simp⟩
  ·exact⟨8,by rw[e];decide,by rw[e];decide,by simp⟩
 simp only[aP,e1]
 have sq:I64 ((H:Int)*(H:Int))=((H*H:Nat):Int):=by rcases e3 with e | e | e | e <;> subst e <;> decide
 have sb:H*H<=64:=by rcases e3 with e | e | e | e <;> subst e <;> decide
 have nz:(H:Int)≠0:=by omega
 refine T.bind (T.loopG0 (n:=H*H) (λi s=>s.length=i) (λr=>r.length=H*H) (F:=nU N (H:Int) (H:Int) t) (λk s i hi hs hk=>?_) (λk s hs=>?_) (by omega) (s:=[]) rfl) λp4 h4=>T.ret ⟨⟨?_,?_⟩,?_⟩
 ·rw[nU]
  simp only[aP,e1,sq]
  rw[dt (by omega),cond_true]
  refine T.eq (aQN .i64 nz) (T.eq (aEa .i64 nz) ?_)
  refine T.bind (aIq N h _ _) λr12 _=>T.bind (aIq N h _ _) λr14 _=>T.bind (aIq N h _ _) λr16 _=>T.bind (aIq N h _ _) λr19 _=>T.bind (aVc N (by omega) _ _ _ _) λp20 _=>?_;refine T.eq (dQ (by simp;omega)) ?_;rw[eZ (by omega)]
  exact hk _ (by simp;omega)
 ·rw[nU]
  simp only[aP,sq]
  rw[df (by omega),cond_false]
  exact T.ret hs
 ·show(H:Int)=1\/(H:Int)=2\/(H:Int)=4\/(H:Int)=8\/(H:Int)=16;omega
 ·show(p4.length:Int)=(H:Int)*(H:Int)
  rw[h4];push_cast;rfl
 ·show(H:Int)*2=t.gF;exact e2.symm
def aH9(l:List aC):Prop:=l.length<=20/\∀t∈l,t.gA5.length<=260
theorem aKy{t:aC}(h:aMl t):t.gA5.length<=260:=by
 obtain⟨h1,h2⟩:=h;rcases h1 with e | e | e | e | e <;> rw[e] at h2 <;> omega
theorem lvR2(N:Nat)(l:List aC)(a t:aC)(h:l.length<=1000):oP N l a t=some (l++[t]):=by
 unfold oP;rw[dQ (by simp;omega)]
 rfl
theorem aTZ(N:Nat)(hN:100 < N):∀(j k:Nat) (l:List aC) (t:aC),aMl t->t.gF<=2 ^ j->j < k->(l.length+j<=10/\∀t∈l,t.gA5.length<=260)->T (bU N k l t) (λr=>aH9 r.1):=by
 intro j
 induction j with
 | zero=>
  intro k l t ht hs hk hl;obtain⟨k,rfl⟩:∃k',k=k'+1:=⟨k - 1,by omega⟩
  rw[bU]
  refine T.eq (lvR2 N _ _ _ (by omega)) ?_;rw[df (by simpa using hs),cond_false]
  refine T.ret ⟨by simp;omega,?_⟩
  intro u hu;rw[ba,bz] at hu;rcases hu with hu | rfl
  ·exact hl.2 u hu
  ·exact aKy ht
 | succ j ih=>
  intro k l t ht hs hk hl;obtain⟨k,rfl⟩:∃k',k=k'+1:=⟨k - 1,by omega⟩
  rw[bU]
  refine T.eq (lvR2 N _ _ _ (by omega)) ?_;have all:∀u∈l++[t],u.gA5.length<=260:=by
   intro u hu;rw[ba,bz] at hu;rcases hu with hu | rfl
   ·exact hl.2 u hu
   ·exact aKy ht
  refine T.cond (λhc=>?_) (λ_=>T.ret ⟨by simp;omega,all⟩)
  refine T.bind (halfT N hN ht (of_decide_eq_true hc)) λr5 h5=>?_;have hp:(2:Int) ^ (j+1)=2 ^ j*2:=Int.pow_succ _ _;exact ih k _ r5 h5.1 (by have:=h5.2;omega) (by omega) ⟨by simp;omega,all⟩
theorem aUB(N:Nat)(l:List (Vector Int 3))(h:l.length<=1000):T (eE N l) (λr=>r=l):=by
 unfold eE;exact T.eq (dQ (by simp;omega)) (T.ret (by simp))
theorem aUY(N:Nat)(hN:300 < N)(t:aC)(h:t.gA5.length<=260):T (rQ N t) (λr=>aH9 r.1):=by
 unfold rQ;refine T.bind (texT N t (by omega) (by omega) (by omega)) λr1 h1=>?_;refine T.cond (λ_=>T.ret ⟨by simp,λt h=>absurd h (by simp)⟩) (λhc=>?_)
 have ok:=h1 (by simpa using hc)
 refine T.bind (aUB N _ (by omega)) λr2 h2=>?_;subst h2;unfold vS eH;refine T.eq rfl ?_;refine T.bind (P:=λr=>aH9 r.1) ?_ λr4 h4=>T.ret h4;refine T.bind (aTZ N (by omega) 4 N [] _ ⟨ok.1,ok.2.1⟩ (by have:=ok.1;show t.gF<=2 ^ 4;omega) (by omega) ⟨by simp,λt h=>absurd h (by simp)⟩) λp1 h1=>T.ret h1
theorem aRP(N:Nat)(l:List aJ)(m:Int)(hm':0<=m/\m<=4096)(hl':(l.length:Int)<=m):T (uE N l m) (λq=>match q with | .inl e=>False | .inr r=>r.2=0/\(r.1.length:Int)=m/\r.1.length<=4096/\(∀i,l.length<=i->∀t,r.1[i]? = some t->t.gD4=0)/\∀i,i < l.length->r.1[i]? = l[i]?):=by
 unfold uE;simp only[aP]
 rw[df (show ¬m < 0 by omega),df (show ¬m > 4096 by omega)]
 refine T.cond (λhc=>by cases hc) (λhc=>?_)
 have hm:=hm';obtain⟨n,rfl⟩:=bm hm.1;refine T.cond (λhc=>absurd (of_decide_eq_true hc) (by omega)) (λhc2=>?_)
 have hl:=of_decide_eq_false hc2;refine T.eq (a:=()) (by unfold mkO;rw[dt (by omega),dt (by omega),dt (by omega)];rfl) ?_;rw[bn]
 unfold cpD;rw[dt (by simp),cond_true,ae]
 have hlen:∀z:aJ,(cpy (List.replicate n z) l 0 n).length=n:=by intro z;unfold cpy;simp;omega
 refine T.eq (a:=()) (by unfold zQ;rw[hlen,gm];rfl) ?_;refine T.ret ⟨rfl,by rw[hlen],by rw[hlen];omega,?_,λi hi=>?_⟩
 case refine_2=>
  unfold cpy;rw[show min l.length n=l.length by omega,kt,fa,kc,bd hi]
 intro i hi t ht;unfold cpy at ht;rw[show min l.length n=l.length by omega,kt,fa,kc,cg hi,List.getElem?_drop] at ht;have hm:=az ht;rw[List.mem_replicate] at hm;rw[hm.2]
def ple(p q:aB):Prop:=p.gX<=q.gX/\p.gY<=q.gY/\p.gZ<=q.gZ
theorem aQl(N:Nat)(l:List aB){m:Int}(hm:0<=m)(h:∀p∈l,pwi m p)(hN:l.length < N)(hl:l.length < 1000000):T (pC N l) (λr=>pwi m r.1/\pwi m r.2/\∀p∈l,ple r.1 p/\ple p r.2):=by
 unfold pC;have z:pwi m (aB.mk 0 0 0):=by unfold pwi;dsimp only;omega
 refine T.bind (T.loopG0 (n:=l.length) (λi (s:aB×aB)=>pwi m s.1/\pwi m s.2/\∀j,(hj:j < l.length)->j < i->ple s.1 l[j]/\ple l[j] s.2) (λr=>pwi m r.1/\pwi m r.2/\∀p∈l,ple r.1 p/\ple p r.2) (F:=λk (s:aB×aB) i=>vY N l k s.1 s.2 i) (λk s i hi hs hk=>?_) (λk s hs=>?_) hN (s:=(aB.mk 0 0 0,aB.mk 0 0 0)) ⟨z,z,λj _ h=>absurd h (by omega)⟩) λr hr=>T.ret hr
 ·rw[vY,aP,dt (by omega),cond_true,fX,af hi,ae]
  have he:=h _ (bj hi)
  generalize hx:l[i]=x at *;refine T.bind (P:=λp=>pwi m p.1/\pwi m p.2/\∀j,(hj:j < l.length)->j < i->ple p.1 l[j]/\ple l[j] p.2) ?_ λp7 h7=>?_
  ·refine T.cond (λhc=>?_) (λ_=>T.ret hs)
   have:i=0:=by have:=of_decide_eq_true hc;omega
   exact T.ret ⟨he,he,λj _ h=>absurd h (by omega)⟩
  ·rw[eZ (by omega)]
   obtain⟨a,b,c⟩:=h7;refine hk (_,_) ⟨?_,?_,λj hj hji=>?_⟩
   ·unfold pwi at *;simp only[xV];omega
   ·unfold pwi at *;simp only[uD];omega
   ·by_cases e:j=i
    ·subst e;rw[hx]
     unfold ple;simp only[xV,uD];omega
    ·have:=c j hj (by omega)
     unfold ple at *;simp only[xV,uD];omega
 ·rw[vY,aP,df (by omega),cond_false]
  refine T.ret ⟨hs.1,hs.2.1,λp hp=>?_⟩
  obtain⟨j,hj,rfl⟩:=ck hp;exact hs.2.2 j hj hj
def tpw(t:aJ):Prop:=∀p∈t.gP.toList,pwi 65536 p
theorem T.slc3{α:Type}(v:Vector α 3):T (yN v.toList 0 3) (λr=>r=v.toList):=by
 refine⟨_,aGE (by decide) (by decide) (by simp),?_⟩
 exact fh (show v.toList.length<=3 by simp)
theorem aLH(N:Nat)(hN:3 < N){t:aJ}(h:tpw t):T (pC N t.gP.toList) (λr=>pwi 65536 r.1/\pwi 65536 r.2/\∀p∈t.gP.toList,ple r.1 p/\ple p r.2):=
 aQl N _ (by decide) h (by simpa using hN) (by simp)
theorem aIY(N:Nat)(hN:3 < N){t:aJ}(h:tpw t):T (kS N t) (pwi 131072):=by
 unfold kS;refine T.bind (T.slc3 t.gP) λs hs=>?_;subst hs;refine T.bind (aLH N hN h) λr2 h2=>?_;simp only[aP]
 obtain⟨a,b,_⟩:=h2;refine T.ret ?_;unfold pwi at *;dsimp only;rw[bE (by omega) (by omega),bE (by omega) (by omega),bE (by omega) (by omega)]
 omega
def ax(p:aB)(i:Int):Int:=if i=0 then p.gX else if i=1 then p.gY else p.gZ
theorem aE4(N:Nat)(p:aB){i:Int}(h0:0<=i)(h3:i < 3):T (mZ N p i) (λr=>r=ax p i):=by
 have:i=0\/i=1\/i=2:=by omega
 rcases this with rfl | rfl | rfl <;> exact⟨_,rfl,rfl⟩
theorem ax_b{m:Int}{p:aB}(h:pwi m p)(i:Int) : -m<=ax p i/\ax p i<=m:=by
 unfold pwi at h;unfold ax;split
 ·omega
 ·split <;> omega
def ord(n:Nat)(l:List Int):Prop:=∀x∈l,0<=x/\x < (n:Int)
def aB6(l:List aJ):Prop:=(∀t∈l,tpw t)/\l.length<=20
theorem T.tri{l:List aJ}(h:aB6 l){e:Int}(he:0<=e/\e < (l.length:Int)):T (Go.UK.idx l e) tpw:=
 (T.idx he.1 he.2).mono λt ht=>h.1 t (az ht)
theorem aV5(N:Nat)(hN:3 < N){l:List aJ}(h:aB6 l){a b i:Int}(ha:0<=a/\a < (l.length:Int))(hb:0<=b/\b < (l.length:Int))(hi:0<=i/\i < 3):T (qD N a b l i) (λ_=>True):=by
 unfold qD;refine T.bind (T.tri h ha) λ_ h1=>T.bind (aIY N hN h1) λ_ _=>T.bind (aE4 N _ hi.1 hi.2) λ_ _=>?_;refine T.bind (T.tri h hb) λ_ h1=>T.bind (aIY N hN h1) λ_ _=>T.bind (aE4 N _ hi.1 hi.2) λ_ _=>T.ret trivial
def aKC(a b:Int):Prop:=a≠b/\(-131072<=a/\a<=131072)/\(-131072<=b/\b<=131072)
theorem binT0(N:Nat){x a b:Int}(h:aKC a b):T (yF N x a b) (λ_=>True):=by
 unfold yF;simp only[aP]
 obtain⟨h1,h2,h3⟩:=h;rw[bE (x:=b - a) (by omega) (by omega)]
 exact T.eq (aEa .i64 (by omega)) (T.ret trivial)
theorem binT(N:Nat){x a b:Int}(h:aKC a b)(hx:a<=x/\x<=b):T (yF N x a b) (λr=>0<=r/\r < 8):=by
 unfold yF;simp only[aP]
 obtain⟨h1,h2,h3⟩:=h;rw[bE (x:=b - a) (by omega) (by omega),bE (x:=x - a) (by omega) (by omega),bE (x:=(x - a)*8) (by omega) (by omega)]
 refine T.eq (aEa .i64 (by omega)) (T.ret ?_)
 rw[dp (by omega)]
 have q0:0<=(x - a)*8 / (b - a):=ci (by omega) (by omega)
 have q1:(x - a)*8 / (b - a)<=(x - a)*8:=iq _ (by omega)
 rw[show IntKind.i64.wrap ((x - a)*8 / (b - a))=(x - a)*8 / (b - a) from bE (by omega) (by omega),xV]
 omega
theorem aLM(N:Nat)(hN:3 < N){l:List aJ}(h:aB6 l){e a b c i:Int}(he:0<=e/\e < (l.length:Int))(hab:aKC a b)(hi:0<=i/\i < 3):T (iM N e l a b c i) (λ_=>True):=by
 unfold iM;refine T.bind (T.tri h he) λ_ h1=>T.bind (aIY N hN h1) λ_ _=>T.bind (aE4 N _ hi.1 hi.2) λ_ _=>T.bind (binT0 N hab) λ_ _=>T.ret trivial
theorem aWp(N:Nat)(hN:3 < N){l:List aJ}(h:aB6 l){e e' a b c i:Int}(he:0<=e/\e < (l.length:Int))(he':0<=e'/\e' < (l.length:Int))(hab:aKC a b)(hi:0<=i/\i < 3):T (rW N e e' l a b c i) (λ_=>True):=by
 unfold rW;refine T.bind (aLM N hN h he hab hi) λ_ _=>T.bind (aLM N hN h he' hab hi) λ_ _=>T.cond (λ_=>T.ret trivial) (λ_=>?_)
 refine T.bind (aLM N hN h he' hab hi) λ_ _=>T.cond (λ_=>T.ret trivial) (λ_=>T.ret trivial)
theorem T.inRS{L lo n:Nat}{i:Int}(h1:lo+n<=L)(h2:0<=i)(h3:i < (n:Int)):T (aAk L lo n i) (λ_=>True):=⟨(),by unfold Go.UK.aAk;rw[dt h1,dt h2,dt h3];rfl,trivial⟩
theorem T.slcG{L lo0 n:Nat}{lo hi:Int}(h1:lo0+n<=L)(h2:0<=lo)(h3:lo<=hi)(h4:hi<=(n:Int))(h5:lo=0\/lo < (n:Int)):T (aLY L lo0 n lo hi) (λ_=>True):=⟨(),by unfold Go.UK.aLY;rw[dt h1,dt h2,dt h3,dt h4,dt h5];rfl,trivial⟩
theorem T.lenO{α:Type}{l:List α}{n:Nat}(h:l.length=n):T (zQ l n) (λ_=>True):=⟨(),by unfold Go.UK.zQ;rw[h,gm];rfl,trivial⟩
theorem T.setO{α:Type}{l:List α}{j:Nat}{e:α}(h:j < l.length):T (aC7 l j e) (λr=>r=l.set j e):=⟨_,by unfold Go.UK.aC7;rw[show Nat.blt j l.length=Bool.true by rw[Nat.blt_eq];exact h];rfl,rfl⟩
theorem T.appG{α:Type}{b m:Nat}{l r:List α}(h:m<=l.length)(h':(m+r.length)*b<=140737488355328):T (aNE b l m r) (λx=>x=wT l m r):=⟨_,by unfold Go.UK.aNE;rw[dt h,show Nat.ble ((m+r.length)*b) 140737488355328=Bool.true by rw[Nat.ble_eq];exact h'];rfl,rfl⟩
theorem T.get0{α:Type}{l:List α}{j:Nat}(h:j < l.length):T (l[j]?) (λe=>e∈l):=⟨l[j],af h,bj h⟩
theorem aIW{n:Nat}{l:List Int}{j:Nat}{e:Int}(h:ord n l)(he:0<=e/\e < (n:Int)):ord n (l.set j e):=by
 intro x hx;rcases ic hx with hx | rfl
 ·exact h x hx
 ·exact he
structure sH(lo m:Nat)(b r:List Int):Prop where
 len:r.length=b.length
 out:∀j,j < lo\/lo+m<=j->r[j]? = b[j]?
 sub:∀j,lo<=j->j < lo+m->∃j',lo<=j'/\j' < lo+m/\r[j]? = b[j']?
 sup:∀j,lo<=j->j < lo+m->∃j',lo<=j'/\j' < lo+m/\b[j]? = r[j']?
theorem sH.rfl'(lo m:Nat)(b:List Int):sH lo m b b:=⟨rfl,λ_ _=>rfl,λj h h'=>⟨j,h,h',rfl⟩,λj h h'=>⟨j,h,h',rfl⟩⟩
theorem sH.trans{lo m:Nat}{a b c:List Int}(h:sH lo m a b)(g:sH lo m b c):sH lo m a c:=by
 refine⟨g.len.trans h.len,λj hj=>(g.out j hj).trans (h.out j hj),λj h1 h2=>?_,λj h1 h2=>?_⟩
 ·obtain⟨j1,a1,a2,a3⟩:=g.sub j h1 h2;obtain⟨j2,b1,b2,b3⟩:=h.sub j1 a1 a2;exact⟨j2,b1,b2,a3.trans b3⟩
 ·obtain⟨j1,a1,a2,a3⟩:=h.sup j h1 h2;obtain⟨j2,b1,b2,b3⟩:=g.sup j1 a1 a2;exact⟨j2,b1,b2,a3.trans b3⟩
theorem sH.swap{lo m:Nat}{b:List Int}{x y:Nat}{e f:Int}(hx:lo<=x/\x < lo+m)(hy:lo<=y/\y < lo+m)(he:b[y]? = some e)(hf:b[x]? = some f):sH lo m b ((b.set x e).set y f):=by
 have lx:x < b.length:=by obtain⟨h,_⟩:=ff.1 hf;exact h
 have ly:y < b.length:=by obtain⟨h,_⟩:=ff.1 he;exact h
 have g:∀j,((b.set x e).set y f)[j]? = if j=y then some f else if j=x then some e else b[j]? := by
  intro j;by_cases h1:j=y
  ·subst h1;rw[if_pos rfl,da (by rw[ce];exact ly)]
  ·rw[if_neg h1,d7 (by omega)]
   by_cases h2:j=x
   ·subst h2;rw[if_pos rfl,da lx]
   ·rw[if_neg h2,d7 (by omega)]
 refine⟨by rw[ce,ce],λj hj=>?_,λj h1 h2=>?_,λj h1 h2=>?_⟩
 ·rw[g,if_neg (by omega),if_neg (by omega)]
 ·rw[g]
  by_cases c1:j=y
  ·rw[if_pos c1];exact⟨x,hx.1,hx.2,hf.symm⟩
  ·rw[if_neg c1]
   by_cases c2:j=x
   ·rw[if_pos c2];exact⟨y,hy.1,hy.2,he.symm⟩
   ·rw[if_neg c2];exact⟨j,h1,h2,rfl⟩
 ·by_cases c1:j=y
  ·refine⟨if x=y then y else x,by split <;> omega,by split <;> omega,?_⟩
   rw[g]
   by_cases c3:x=y
   ·rw[if_pos c3,if_pos rfl,c1,<- c3,hf]
   ·rw[if_neg c3,if_neg c3,if_pos rfl,c1,he]
  ·by_cases c2:j=x
   ·refine⟨y,hy.1,hy.2,?_⟩
    rw[g,if_pos rfl,c2,hf]
   ·refine⟨j,h1,h2,?_⟩
    rw[g,if_neg c1,if_neg c2]
def okS(n lo m:Nat)(b:List Int)(s:List Int×Nat):Prop:=ord n s.1/\sH lo m b s.1/\s.2=m
theorem ia1{a:Nat}(h:a < 900000):I64 ((a:Int)+1)=((a+1:Nat):Int):=eZ (by omega)
theorem ins2A(N:Nat)(hN:3 < N){R:List aJ}(hT:aB6 R){lo m:Nat}{a:Int}{i:Int}(hi:0<=i/\i < 3)(ha:0<=a){b:List Int}(hL:lo+m<=b.length)(hm:m<=20) :
  ∀(j k:Nat) (s:List Int),j < m->j < k->ord R.length s->sH lo m b s->T (bL N a lo R i k s m (j:Int)) (okS R.length lo m b):=by
 intro j
 induction j with
 | zero=>
  intro k s hj hk ho hs;have hsl:=hs.len;obtain⟨k,rfl⟩:∃k',k=k'+1:=⟨k - 1,by omega⟩
  rw[bL,df (by omega),cond_false]
  exact T.eq rfl (T.ret ⟨ho,hs,rfl⟩)
 | succ j ih=>
  intro k s hj hk ho hs;have hsl:=hs.len;obtain⟨k,rfl⟩:∃k',k=k'+1:=⟨k - 1,by omega⟩
  rw[bL,show I64 (((j+1:Nat):Int) - 1)=(j:Int) by rw[bE (by omega) (by omega)];omega]
  simp only[aA8,bn]
  refine T.bind (P:=λ_=>True) ?_ λp9 _=>T.cond (λ_=>?_) (λ_=>T.ret ⟨ho,hs,rfl⟩)
  ·refine T.cond (λ_=>?_) (λ_=>T.ret trivial)
   refine T.bind (T.inRS (by omega) (by omega) (by omega)) λ_ _=>T.bind (T.get0 (by omega)) λe11 h11=>T.bind (T.inRS (by omega) (by omega) (by omega)) λ_ _=>T.bind (T.get0 (by omega)) λe13 h13=>?_;exact T.bind (aV5 N hN hT (ho _ h11) (ho _ h13) hi) λ_ _=>T.ret trivial
  ·refine T.bind (T.inRS (by omega) (by omega) (by omega)) λ_ _=>T.bind (T.get (by omega)) λe16 h16=>T.bind (T.inRS (by omega) (by omega) (by omega)) λ_ _=>T.bind (T.get (by omega)) λe18 h18=>?_;refine T.bind (T.inRS (by omega) (by omega) (by omega)) λ_ _=>T.bind (T.setO (by omega)) λz20 h20=>T.bind (T.inRS (by omega) (by omega) (by omega)) λ_ _=>T.bind (T.setO (by rw[h20,ce];omega)) λz22 h22=>?_;subst h22;subst h20;exact ih k _ (by omega) (by omega) (aIW (aIW ho (ho _ (az h16))) (ho _ (az h18))) (hs.trans (sH.swap ⟨by omega,by omega⟩ ⟨by omega,by omega⟩ h16 h18))
theorem insA(N:Nat)(hN:50 < N){R:List aJ}(hT:aB6 R){L lo m:Nat}{a b:Nat}{i:Int}(hi:0<=i/\i < 3)(ha:a<=20)(hb:b<=m)(hL:lo+m<=L)(hm:m<=20){s:List Int}(ho:ord R.length s)(hs0:s.length=L):T (bG N s lo m (a:Int) (b:Int) R i) (λr=>ord R.length r/\sH lo m s r):=by
 unfold bG;have main:∀(k j:Nat) (q:List Int),b - j < k->j < 1000->ord R.length q->sH lo m s q->T (bX N (b:Int) (a:Int) lo R i k q m (j:Int)) (λr=>ord R.length r/\sH lo m s r):=by
  intro k
  induction k with
  | zero=>intro j q h;omega
  | succ k ih=>
   intro j q hj hj' ho hs;rw[bX]
   refine T.cond (λhc=>?_) (λ_=>T.ret ⟨ho,hs⟩)
   have hjb:j < b:=by have:=of_decide_eq_true hc;omega
   refine T.bind (ins2A N (by omega) hT hi (by omega) (b:=s) (by rw[hs0];exact hL) hm j N q (by omega) (by omega) ho hs) λp5 h5=>?_;obtain⟨q',m'⟩:=p5;obtain⟨o1,o2,o3⟩:=h5;dsimp only at o1 o2 o3;subst o3;rw[eZ (by omega)]
   exact ih (j+1) q' (by omega) (by omega) o1 o2
 by_cases h:True
 ·rw[ia1 (by omega)]
  exact T.bind (main N (a+1) s (by omega) (by omega) ho (sH.rfl' lo m s)) λr h=>T.ret h
 ·exact absurd trivial h
theorem aTq(N:Nat)(hN:50 < N){R:List aJ}(hT:aB6 R){L lo m:Nat}{i:Int}(hi:0<=i/\i < 3)(hL:lo+m<=L)(hm:m<=20){s:List Int}(ho:ord R.length s)(hs:s.length=L):T (cJ N s lo m R i) (λr=>ord R.length r/\sH lo m s r):=by
 unfold cJ fG;refine T.bind (P:=λr=>ord R.length r/\sH lo m s r) ?_ λr h=>T.ret h;obtain⟨N,rfl⟩:∃n,N=n+2:=⟨N - 2,by omega⟩
 have fin:∀(q:List Int) (a:Nat),a<=m->ord R.length q->sH lo m s q->T (aa (bG (N+2) q lo m (a:Int) (m:Int) R i) λr8=>aa (zQ r8 q.length) λ_=>aa (cS (N+2) (m:Int) (N+2) 20) λp10=>some r8) (λr=>ord R.length r/\sH lo m s r):=by
  intro q a ha ho hq;refine T.bind (insA (N+2) (by omega) hT hi (by omega) (ay _) hL hm ho (hq.len.trans hs)) λr8 h8=>T.bind (T.lenO h8.2.len) λ_ _=>?_;rw[cS,df (by omega),cond_false]
  exact T.eq rfl (T.ret ⟨h8.1,hq.trans h8.2⟩)
 by_cases h:m=20
 ·rw[bY,dt (by omega),cond_true]
  have r1:=insA (N+2) (by omega) hT hi (a:=0) (b:=20) (by omega) (by omega) hL hm ho hs;obtain⟨q,e,oq,lq⟩:=r1;rw[show((0:Nat):Int)=0 from rfl,show((20:Nat):Int)=20 from rfl] at e;refine T.eq (a:=(q,m,20)) ?_ (fin q 20 (by omega) oq lq)
  rw[e,ae,show zQ q s.length=some () by unfold zQ;rw[lq.len,gm];rfl,ae]
  rw[bY,show I64 (20+20)=40 by decide,df (by omega),cond_false]
 ·rw[bY,df (by omega),cond_false]
  exact T.eq rfl (fin s 0 (by omega) ho (sH.rfl' lo m s))
theorem ins2B(N:Nat)(hN:3 < N){R:List aJ}(hT:aB6 R){lo m:Nat}{a:Int}{u v w i:Int}(hab:aKC u v)(hi:0<=i/\i < 3)(ha:0<=a){b:List Int}(hL:lo+m<=b.length)(hm:m<=20) :
  ∀(j k:Nat) (s:List Int),j < m->j < k->ord R.length s->sH lo m b s->T (bM N a lo R u v w i k s m (j:Int)) (okS R.length lo m b):=by
 intro j
 induction j with
 | zero=>
  intro k s hj hk ho hs;have hsl:=hs.len;obtain⟨k,rfl⟩:∃k',k=k'+1:=⟨k - 1,by omega⟩
  rw[bM,df (by omega),cond_false]
  exact T.eq rfl (T.ret ⟨ho,hs,rfl⟩)
 | succ j ih=>
  intro k s hj hk ho hs;have hsl:=hs.len;obtain⟨k,rfl⟩:∃k',k=k'+1:=⟨k - 1,by omega⟩
  rw[bM,show I64 (((j+1:Nat):Int) - 1)=(j:Int) by rw[bE (by omega) (by omega)];omega]
  simp only[aA8,bn]
  refine T.bind (P:=λ_=>True) ?_ λp9 _=>T.cond (λ_=>?_) (λ_=>T.ret ⟨ho,hs,rfl⟩)
  ·refine T.cond (λ_=>?_) (λ_=>T.ret trivial)
   refine T.bind (T.inRS (by omega) (by omega) (by omega)) λ_ _=>T.bind (T.get0 (by omega)) λe11 h11=>T.bind (T.inRS (by omega) (by omega) (by omega)) λ_ _=>T.bind (T.get0 (by omega)) λe13 h13=>?_;exact T.bind (aWp N hN hT (ho _ h11) (ho _ h13) hab hi) λ_ _=>T.ret trivial
  ·refine T.bind (T.inRS (by omega) (by omega) (by omega)) λ_ _=>T.bind (T.get (by omega)) λe16 h16=>T.bind (T.inRS (by omega) (by omega) (by omega)) λ_ _=>T.bind (T.get (by omega)) λe18 h18=>?_;refine T.bind (T.inRS (by omega) (by omega) (by omega)) λ_ _=>T.bind (T.setO (by omega)) λz20 h20=>T.bind (T.inRS (by omega) (by omega) (by omega)) λ_ _=>T.bind (T.setO (by rw[h20,ce];omega)) λz22 h22=>?_;subst h22;subst h20;exact ih k _ (by omega) (by omega) (aIW (aIW ho (ho _ (az h16))) (ho _ (az h18))) (hs.trans (sH.swap ⟨by omega,by omega⟩ ⟨by omega,by omega⟩ h16 h18))
theorem insB(N:Nat)(hN:50 < N){R:List aJ}(hT:aB6 R){L lo m:Nat}{a b:Nat}{u v w i:Int}(hab:aKC u v)(hi:0<=i/\i < 3)(ha:a<=20)(hb:b<=m)(hL:lo+m<=L)(hm:m<=20){s:List Int}(ho:ord R.length s)(hs0:s.length=L):T (bI N s lo m (a:Int) (b:Int) R u v w i) (λr=>ord R.length r/\sH lo m s r):=by
 unfold bI;have main:∀(k j:Nat) (q:List Int),b - j < k->j < 1000->ord R.length q->sH lo m s q->T (cA N (b:Int) (a:Int) lo R u v w i k q m (j:Int)) (λr=>ord R.length r/\sH lo m s r):=by
  intro k
  induction k with
  | zero=>intro j q h;omega
  | succ k ih=>
   intro j q hj hj' ho hs;rw[cA]
   refine T.cond (λhc=>?_) (λ_=>T.ret ⟨ho,hs⟩)
   have hjb:j < b:=by have:=of_decide_eq_true hc;omega
   refine T.bind (ins2B N (by omega) hT hab hi (by omega) (b:=s) (by rw[hs0];exact hL) hm j N q (by omega) (by omega) ho hs) λp5 h5=>?_;obtain⟨q',m'⟩:=p5;obtain⟨o1,o2,o3⟩:=h5;dsimp only at o1 o2 o3;subst o3;rw[eZ (by omega)]
   exact ih (j+1) q' (by omega) (by omega) o1 o2
 by_cases h:True
 ·rw[ia1 (by omega)]
  exact T.bind (main N (a+1) s (by omega) (by omega) ho (sH.rfl' lo m s)) λr h=>T.ret h
 ·exact absurd trivial h
theorem aUG(N:Nat)(hN:50 < N){R:List aJ}(hT:aB6 R){L lo m:Nat}{u v w i:Int}(hab:aKC u v)(hi:0<=i/\i < 3)(hL:lo+m<=L)(hm:m<=20){s:List Int}(ho:ord R.length s)(hs:s.length=L):T (cP N s lo m R u v w i) (λr=>ord R.length r/\sH lo m s r):=by
 unfold cP fJ;refine T.bind (P:=λr=>ord R.length r/\sH lo m s r) ?_ λr h=>T.ret h;obtain⟨N,rfl⟩:∃n,N=n+2:=⟨N - 2,by omega⟩
 have fin:∀(q:List Int) (a:Nat),a<=m->ord R.length q->sH lo m s q->T (aa (bI (N+2) q lo m (a:Int) (m:Int) R u v w i) λr8=>aa (zQ r8 q.length) λ_=>aa (cV (N+2) (m:Int) (N+2) 20) λp10=>some r8) (λr=>ord R.length r/\sH lo m s r):=by
  intro q a ha ho hq;refine T.bind (insB (N+2) (by omega) hT hab hi (by omega) (ay _) hL hm ho (hq.len.trans hs)) λr8 h8=>T.bind (T.lenO h8.2.len) λ_ _=>?_;rw[cV,df (by omega),cond_false]
  exact T.eq rfl (T.ret ⟨h8.1,hq.trans h8.2⟩)
 by_cases h:m=20
 ·rw[cD,dt (by omega),cond_true]
  have r1:=insB (N+2) (by omega) hT (w:=w) hab hi (a:=0) (b:=20) (by omega) (by omega) hL hm ho hs;obtain⟨q,e,oq,lq⟩:=r1;rw[show((0:Nat):Int)=0 from rfl,show((20:Nat):Int)=20 from rfl] at e;refine T.eq (a:=(q,m,20)) ?_ (fin q 20 (by omega) oq lq)
  rw[e,ae,show zQ q s.length=some () by unfold zQ;rw[lq.len,gm];rfl,ae]
  rw[cD,show I64 (20+20)=40 by decide,df (by omega),cond_false]
 ·rw[cD,df (by omega),cond_false]
  exact T.eq rfl (fin s 0 (by omega) ho (sH.rfl' lo m s))
structure aML(R:List aJ)(b:List Int)(lo m:Nat):Prop where
 tris:aB6 R
 ord:ord R.length b
 len:lo+m<=b.length
 few:m<=20
theorem aML.get{R:List aJ}{b:List Int}{lo m:Nat}(h:aML R b lo m){i:Nat}(hi:i < m):T (b[aA5 lo ((i:Int).toNat)]?) (λe=>0<=e/\e < (R.length:Int)):=by
 rw[aA8,bn]
 have:=h.len;exact(T.get0 (by omega)).mono λe he=>h.ord e he
theorem aML.rs{R:List aJ}{b:List Int}{lo m:Nat}(h:aML R b lo m){i:Nat}(hi:i < m):T (aAk b.length lo m (i:Int)) (λ_=>True):=T.inRS h.len (by omega) (by omega)
def tinB(lo hi:aB)(t:aJ):Prop:=∀p∈t.gP.toList,ple lo p/\ple p hi
def aET(R:List aJ)(b:List Int)(lo m:Nat)(x y:aB):Prop:=∀j,lo<=j->j < lo+m->∀e,b[j]? = some e->∀t,R[e.toNat]? = some t->tinB x y t
theorem aQC{a b c:aB}(h:ple a b)(g:ple b c):ple a c:=by unfold ple at *;omega
theorem boxDT(N:Nat)(hN:30 < N){R:List aJ}{b:List Int}{lo m:Nat}(h:aML R b lo m):T (yV N b R lo m) (λr=>(pwi 65536 r.1/\pwi 65536 r.2)/\aET R b lo m r.1 r.2):=by
 unfold yV;have z:pwi 65536 (aB.mk 0 0 0):=by unfold pwi;dsimp only;omega
 have fw:=h.few;refine T.bind (T.loopG0 (n:=m) (λi (s:aB×aB)=>(pwi 65536 s.1/\pwi 65536 s.2)/\aET R b lo i s.1 s.2) (λr=>(pwi 65536 r.1/\pwi 65536 r.2)/\aET R b lo m r.1 r.2) (F:=λk (s:aB×aB) i=>pT N m b lo R k s.1 s.2 i) (λk s i hi hs hk=>?_) (λk s hs=>?_) (by omega) (s:=(aB.mk 0 0 0,aB.mk 0 0 0)) ⟨⟨z,z⟩,λj _ h=>absurd h (by omega)⟩) λr hr=>T.ret hr
 ·rw[pT,aP,dt (by omega),cond_true]
  refine T.bind (P:=λp=>(pwi 65536 p.1/\pwi 65536 p.2.1)/\aET R b lo (i+1) p.1 p.2.1) ?_ λp6 h6=>by rw[eZ (by omega)];exact hk (_,_) h6
  refine T.bind (h.rs hi) λ_ _=>?_;obtain⟨e8,ee,h8⟩:=h.get hi;refine T.eq ee ?_;rw[aA8,bn] at ee;have hidx:e8.toNat < R.length:=by omega
  have et:R[e8.toNat]? = some R[e8.toNat]:=af hidx;have h9:tpw R[e8.toNat]:=h.tris.1 _ (bj hidx)
  refine T.eq (a:=R[e8.toNat]) ?_ (T.bind (T.slc3 _) λs10 h10=>?_)
  ·have:e8=((e8.toNat:Nat):Int):=by omega
   exact(congrArg (idx R) this).trans ((fX R e8.toNat).trans et)
  generalize R[e8.toNat]=t at *;subst h10;refine T.bind (aLH N (by omega) h9) λr11 h11=>?_;have one:∀{x y:aB},(∀p∈t.gP.toList,ple x p/\ple p y)->(∀j,lo<=j->j < lo+i->∀e,b[j]? = some e->∀t,R[e.toNat]? = some t->tinB x y t)->aET R b lo (i+1) x y:=by
   intro x y hx hy j j1 j2 e he t' ht';by_cases c:j=lo+i
   ·subst c;have:e8=e:=mL ee he;subst this;rw[et] at ht';cases ht';exact hx
   ·exact hy j j1 (by omega) e he t' ht'
  refine T.cond (λhc=>T.ret ⟨⟨h11.1,h11.2.1⟩,one h11.2.2 λj j1 j2=>?_⟩) (λ_=>?_)
  ·have:=of_decide_eq_true hc;omega
  refine T.bind (aQl N _ (m:=65536) (by decide) (by intro p hp;simp at hp;rcases hp with rfl | rfl;exact hs.1.1;exact h11.1) (by simp;omega) (by simp)) λr12 h12=>?_;refine T.bind (aQl N _ (m:=65536) (by decide) (by intro p hp;simp at hp;rcases hp with rfl | rfl;exact hs.1.2;exact h11.2.1) (by simp;omega) (by simp)) λr13 h13=>T.ret ⟨⟨h12.1,h13.2.1⟩,one (λp hp=>⟨aQC (h12.2.2 _ (by simp)).1 (h11.2.2 p hp).1,aQC (h11.2.2 p hp).2 (h13.2.2 _ (by simp)).2⟩) λj j1 j2 e he t' ht' p hp=>?_⟩
  have q:=hs.2 j j1 j2 e he t' ht' p hp;exact⟨aQC (h12.2.2 s.1 (by simp)).1 q.1,aQC q.2 (h13.2.2 s.2 (by simp)).2⟩
 ·rw[pT,aP,df (by omega),cond_false];exact T.ret hs
def aFB(s:bB):Prop:=pwi 65536 s.glo/\pwi 65536 s.ghi
theorem aTI : aFB (bB.mk 0 (aB.mk 0 0 0) (aB.mk 0 0 0)):=by unfold aFB pwi;dsimp only;omega
theorem aSa(N:Nat)(hN:10 < N){s:bB}(hs:aFB s)(n:Int){a b:aB}(ha:pwi 65536 a)(hb:pwi 65536 b):T (pH N s n a b) aFB:=by
 unfold pH;refine T.cond (λ_=>T.ret hs) (λ_=>?_)
 refine T.bind (P:=λp=>pwi 65536 p.1/\pwi 65536 p.2) ?_ λp1 h1=>T.ret ⟨h1.1,h1.2⟩
 refine T.cond (λ_=>?_) (λ_=>T.ret ⟨ha,hb⟩)
 refine T.bind (aQl N _ (m:=65536) (by decide) (by intro p hp;simp at hp;rcases hp with rfl | rfl;exact hs.1;exact ha) (by simp;omega) (by simp)) λr12 h12=>?_;refine T.bind (aQl N _ (m:=65536) (by decide) (by intro p hp;simp at hp;rcases hp with rfl | rfl;exact hs.2;exact hb) (by simp;omega) (by simp)) λr13 h13=>T.ret ⟨h12.1,h13.2.1⟩
theorem aUr(N:Nat)(s:bB):T (pY N s) (λ_=>True):=by
 unfold pY;refine T.cond (λ_=>T.ret trivial) (λ_=>T.bind (P:=λ_=>True) (by unfold aDU;simp only[aP];exact T.ret trivial) λ_ _=>T.ret trivial)
def midP(N:Nat)(R:List aJ)(b:List Int)(lo m:Nat)(i u v:Int):Prop:=∀j,j < m->∀e,b[lo+j]? = some e->T (aa (idx R e) λt=>kS N t) (λp=>u<=ax p i/\ax p i<=v)
theorem cutT(N:Nat)(hN:30 < N){R:List aJ}{b:List Int}{lo m:Nat}(h:aML R b lo m){i u v:Int}(hi:0<=i/\i < 3)(hab:aKC u v)(hm:midP N R b lo m i u v):T (sW N b R lo m i u v) (λ_=>True):=by
 unfold sW;have fw:=h.few;refine T.bind (P:=λp1=>∀s∈p1.toList,aFB s) ?_ λp1 h1=>?_
 ·refine T.loopG0 (n:=m) (λ_ (s:Vector bB 8)=>∀x∈s.toList,aFB x) _ (F:=mW N m b lo R i u v) (λk s j hj hs hk=>?_) (λk s hs=>?_) (by omega) (by intro x hx;simp at hx;rw[hx];exact aTI)
  ·rw[mW,aP,dt (by omega),cond_true]
   have hmj:=hm j hj;refine T.bind (h.rs hj) λ_ _=>?_;have hg:=h.get hj;obtain⟨e6,ee6,he6⟩:=hg;refine T.eq ee6 ?_;rw[aA8,bn] at ee6;have hmid:=hmj e6 ee6;obtain⟨t,et,ht⟩:=T.tri h.tris he6;refine T.eq et (T.bind (T.slc3 _) λs8 h8=>?_)
   subst h8;refine T.bind (aLH N (by omega) ht) λr9 h9=>T.eq et ?_;rw[et,ae] at hmid;obtain⟨q,eq1,hq⟩:=hmid;refine T.eq eq1 (T.bind (aE4 N q hi.1 hi.2) λr12 h12=>?_)
   subst h12;refine T.bind (binT N hab hq) λr13 h13=>T.bind (T.inRO h13.1 (by omega)) λ_ _=>?_;have hv:r13.toNat < 8:=by omega
   refine T.eq (aGs s _ hv) (T.bind (aSa N (by omega) (hs _ (vmem s hv)) 1 h9.1 h9.2.1) λr16 h16=>T.bind (T.inRO h13.1 (by omega)) λ_ _=>T.eq (aGs s _ hv) ?_)
   rw[eZ (by omega)]
   refine hk _ λx hx=>?_;rw[Vector.toList_setIfInBounds] at hx;rcases ic hx with hx | rfl
   ·exact hs x hx
   ·exact h16
  ·rw[mW,aP,df (by omega),cond_false];exact T.ret hs
 refine T.bind (P:=λ_=>True) ?_ λp19 _=>T.ret trivial;have main:∀(k j:Nat) (a c:Int),8 - j < k->j<=8->T (pF N p1 k a c (j:Int)) (λ_=>True):=by
  intro k
  induction k with
  | zero=>intro j a c h;omega
  | succ k ih=>
   intro j a c hk hj;rw[pF]
   refine T.cond (λhc=>?_) (λ_=>T.ret trivial)
   have hj8:j < 8:=by have:=of_decide_eq_true hc;omega
   refine T.bind (P:=λ_=>True) ?_ λp23 _=>by rw[eZ (by omega)];exact ih (j+1) _ _ (by omega) (by omega)
   refine T.bind (P:=λ_=>True) ?_ λp24 _=>?_
   ·refine(T.loopG0 (n:=8) (λ_ (s:bB×bB)=>aFB s.1/\aFB s.2) (λ_=>True) (F:=λk (s:bB×bB) x=>mY N p1 (j:Int) k s.1 s.2 x) (λk s x hx hs hk=>?_) (λk s hs=>?_) (by omega) (s:=(bB.mk 0 (aB.mk 0 0 0) (aB.mk 0 0 0),bB.mk 0 (aB.mk 0 0 0) (aB.mk 0 0 0))) ⟨aTI,aTI⟩)
    ·rw[mY,dt (by omega),cond_true]
     refine T.bind (P:=λp=>aFB p.1/\aFB p.2.1) ?_ λp28 h28=>by rw[eZ (by omega)];exact hk (_,_) h28
     refine T.bind (T.idx (by omega) (by simp;omega)) λe29 h29=>?_;have he:=h1 _ (az h29)
     refine T.cond (λ_=>T.bind (aSa N (by omega) hs.1 _ he.1 he.2) λr h=>T.ret ⟨h,hs.2⟩) (λ_=>T.bind (aSa N (by omega) hs.2 _ he.1 he.2) λr h=>T.ret ⟨hs.1,h⟩)
    ·rw[mY,df (by omega),cond_false];exact T.ret trivial
   refine T.bind (aUr N _) λ_ _=>T.letO λ_ _=>T.bind (aUr N _) λ_ _=>?_;simp only[aP]
   exact T.cond (λ_=>T.ret trivial) (λ_=>T.ret trivial)
 exact main N 1 _ _ (by omega) (by decide)
theorem aTw(N:Nat)(hN:30 < N){R:List aJ}{b:List Int}{lo m:Nat}(h:aML R b lo m){i u v w:Int}(hi:0<=i/\i < 3)(hab:aKC u v):T (cQ N b lo m R u v w i) (λr=>r < (m:Int)/\r<=20):=by
 unfold cQ;have fw:=h.few;by_cases hm:m=0
 ·subst hm;obtain⟨N,rfl⟩:∃n,N=n+1:=⟨N - 1,by omega⟩
  rw[bJ,aP,df (by omega),cond_false]
  exact T.eq rfl (T.ret ⟨by decide,by decide⟩)
 refine T.bind (T.loopG0 (n:=m) (λ_ _=>True) (λo=>match o with | .inl _=>True | .inr r=>r < (m:Int)/\r<=20) (F:=λk (_:Unit) x=>bJ N m b lo R u v w i k x) (λk _ x hx _ hk=>?_) (λk _ _=>?_) (by omega) (s:=()) trivial) λo ho=>?_
 ·rw[bJ,aP,dt (by omega),cond_true]
  refine T.bind (h.rs hx) λ_ _=>T.bind (h.get hx) λe he=>T.bind (aLM N (by omega) h.tris he hab hi) λr _=>T.cond (λ_=>T.ret (show(x:Int) < (m:Int)/\(x:Int)<=20 by omega)) (λ_=>by rw[eZ (by omega)];exact hk () trivial)
 ·rw[bJ,aP,df (by omega),cond_false];exact T.ret trivial
 ·cases o with
  | inl _=>exact T.ret ⟨by omega,by decide⟩
  | inr r=>exact T.ret ho
theorem aSe{p q:aB}(h:ple p q)(i:Int):ax p i<=ax q i:=by
 obtain⟨a,b,c⟩:=h;unfold ax;split
 ·exact a
 ·split
  ·exact b
  ·exact c
theorem partT(N:Nat)(hN:50 < N){R:List aJ}{b:List Int}{lo m:Nat}(h:aML R b lo m)(d:Int):T (uS N b R lo m d) (λr=>ord R.length r.1/\sH lo m b r.1/\(r.2 > 0->r.2 < (m:Int))):=by
 unfold uS;have fw:=h.few;rw[aP]
 refine T.cond (λ_=>T.ret ⟨h.ord,sH.rfl' lo m b,λh=>absurd h (show ¬(0:Int) > 0 by decide)⟩) (λhc=>?_)
 have hm4:=of_decide_eq_false hc;refine T.bind (P:=λp2=>p2.length=m/\(∀p∈p2,pwi 131072 p)/\∀j,j < m->∀e,b[lo+j]? = some e->T (aa (idx R e) λt=>kS N t) (λp=>p∈p2)) ?_ λp2 h2=>?_
 ·refine T.loopG0 (n:=m) (λx (s:List aB)=>s.length=x/\(∀p∈s,pwi 131072 p)/\∀j,j < x->∀e,b[lo+j]? = some e->T (aa (idx R e) λt=>kS N t) (λp=>p∈s)) _ (F:=oB N m b lo R) (λk s x hx hs hk=>?_) (λk s hs=>?_) (by omega) ⟨rfl,λp h=>absurd h (by simp),λj h=>absurd h (by omega)⟩
  ·rw[oB,aP,dt (by omega),cond_true]
   refine T.bind (h.rs hx) λ_ _=>?_;obtain⟨e,ee,he⟩:=h.get hx;refine T.eq ee ?_;rw[aA8,bn] at ee;obtain⟨t,et,ht⟩:=T.tri h.tris he;refine T.eq et ?_;obtain⟨q,eq1,hq⟩:=aIY N (by omega) ht;refine T.eq eq1 (T.eq (dQ (by simp;omega)) ?_)
   rw[eZ (by omega)]
   refine hk _ ⟨by simp;omega,?_,?_⟩
   ·intro p hp;rw[ba,bz] at hp;rcases hp with hp | rfl
    ·exact hs.2.1 p hp
    ·exact hq
   ·intro j hj e' he';by_cases ej:j=x
    ·subst ej;obtain rfl:=mL ee he';rw[et,ae]
     exact⟨q,eq1,by simp⟩
    ·exact(hs.2.2 j (by omega) e' he').mono λp hp=>by rw[ba];exact Or.inl hp
  ·rw[oB,aP,df (by omega),cond_false];exact T.ret hs
 refine T.bind (aQl N p2 (m:=131072) (by decide) h2.2.1 (by omega) (by omega)) λr11 h11=>?_;refine T.bind (P:=λi=>0<=i/\i < 3) ?_ λi hi=>?_
 ·have main:∀(k j:Nat) (a:Int),3 - j < k->j<=3->(0<=a/\a < 3)->T (qQ N r11 k a (j:Int)) (λi=>0<=i/\i < 3):=by
   intro k
   induction k with
   | zero=>intro j a h;omega
   | succ k ih=>
    intro j a hk hj ha;rw[qQ]
    refine T.cond (λhc=>?_) (λ_=>T.ret ha)
    have hj3:j < 3:=by have:=of_decide_eq_true hc;omega
    refine T.bind (P:=λi=>0<=i/\i < 3) ?_ λp h=>by rw[eZ (by omega)];exact ih (j+1) _ (by omega) (by omega) h
    refine T.bind (aE4 N _ (by omega) (by omega)) λ_ _=>T.bind (aE4 N _ (by omega) (by omega)) λ_ _=>T.bind (aE4 N _ ha.1 ha.2) λ_ _=>T.bind (aE4 N _ ha.1 ha.2) λ_ _=>?_;rw[aP]
    exact T.cond (λ_=>T.ret ⟨by omega,by omega⟩) (λ_=>T.ret ha)
  exact main N 1 0 (by omega) (by decide) (by decide)
 refine T.bind (aE4 N _ hi.1 hi.2) λu hu=>T.bind (aE4 N _ hi.1 hi.2) λv hv=>?_;refine T.cond (λ_=>T.ret ⟨h.ord,sH.rfl' lo m b,λh=>absurd h (show ¬(0:Int) > 0 by decide)⟩) (λhc2=>?_)
 have hab:aKC u v:=⟨by simpa using hc2,by rw[hu];exact ax_b h11.1 i,by rw[hv];exact ax_b h11.2.1 i⟩
 refine T.cond (λ_=>?_) (λ_=>?_)
 ·refine T.bind (aTq N hN h.tris hi h.len fw h.ord rfl) λr23 h23=>T.bind (T.lenO h23.2.len) λ_ _=>?_;rw[aP]
  refine T.ret ⟨h23.1,h23.2,λ_=>?_⟩
  show I64 (d6 (m:Int) 2) < (m:Int)
  rw[dp (by omega),bE (by omega) (by omega)]
  omega
 ·refine T.bind (cutT N (by omega) h hi hab ?_) λw _=>?_
  ·intro j hj e he;refine(h2.2.2 j hj e he).mono λp hp=>?_;have:=h11.2.2 p hp;rw[hu,hv]
   exact⟨aSe this.1 i,aSe this.2 i⟩
  refine T.bind (aUG N hN h.tris (w:=w) hab hi h.len fw h.ord rfl) λr27 h27=>T.bind (T.lenO h27.2.len) λ_ _=>?_;refine T.bind (aTw N (by omega) (b:=r27) (lo:=lo) (m:=m) ⟨h.tris,h27.1,by rw[h27.2.len];exact h.len,fw⟩ (w:=w) hi hab) λr29 h29=>T.ret ⟨h27.1,h27.2,λ_=>h29.1⟩
def aKq(n len i:Nat)(d:aX):Prop:=(0<=d.gB1->((i:Int) < d.gB1/\d.gB1 < (len:Int))/\(i:Int) < d.gB3/\d.gB3 < (len:Int))/\(d.gB1 < 0->0<=d.gC7/\1<=d.gC2/\d.gC7+d.gC2<=(n:Int))
def aHf(n len:Nat)(t:aW):Prop:=(0<=t.gA1/\t.gA1 < (len:Int))/\0<=t.gC/\1<=t.gS/\t.gC+t.gS<=(n:Int)
def aBT(l:List aW):Int:=(l.map λt=>2*t.gS - 1).sum
def aEO(l:List aW):Int:=(l.map λt=>2*t.gS - 2).sum
theorem aG7(a b:List aW):aBT (a++b)=aBT a+aBT b:=by unfold aBT;rw[dh,kp]
theorem aKw(a b:List aW):aEO (a++b)=aEO a+aEO b:=by unfold aEO;rw[dh,kp]
theorem aJW{n len:Nat}{l:List aW}(h:∀t∈l,aHf n len t):(l.length:Int)<=aBT l:=by
 induction l with
 | nil=>exact fc _
 | cons t l ih=>
  have h1:=ih λt ht=>h t (fy _ ht)
  have h2:=h t (jk ..)
  obtain⟨_,_,h3,_⟩:=h2;show((l.length+1:Nat):Int)<=(2*t.gS - 1)+aBT l;omega
theorem aSw{n len:Nat}{l:List aW}(h:∀t∈l,aHf n len t):0<=aEO l:=by
 induction l with
 | nil=>exact fc _
 | cons t l ih=>
  have h1:=ih λt ht=>h t (fy _ ht)
  have h2:=h t (jk ..)
  obtain⟨_,_,h3,_⟩:=h2;show 0<=(2*t.gS - 2)+aEO l;omega
theorem aOX{n len len' i:Nat}{d:aX}(h:aKq n len i d)(hl:len<=len'):aKq n len' i d:=by
 unfold aKq at *;refine⟨λh0=>?_,h.2⟩
 have:=h.1 h0;omega
theorem aOp{n len len':Nat}{t:aW}(h:aHf n len t)(hl:len<=len'):aHf n len' t:=by unfold aHf at *;omega
theorem aGu{α:Type}(l:List α)(m:Nat)(r:List α)(h:m<=l.length):(wT l m r).take (m+r.length)=l.take m++r:=by
 unfold wT;rw[List.take_append_of_le_length (by rw[ar,bo];omega)]
 exact fh (by rw[ar,bo];omega)
theorem aL0{α:Type}(l:List α)(m:Nat)(r:List α)(h:m<=l.length):m+r.length<=(wT l m r).length:=by rw[aM3 h];omega
theorem aCY{α:Type}{l:List α}{m:Nat}{e:α}(h:l[m]? = some e):l.take (m+1)=l.take m++[e]:=by
 rw[List.take_succ,h];rfl
theorem zU{R:List aJ}{o o':List Int}{lo m f c:Nat}{x y:aB}(h:aET R o f c x y)(s:sH lo m o o')(hr:(f<=lo/\lo+m<=f+c)\/f+c<=lo\/lo+m<=f):aET R o' f c x y:=by
 intro j j1 j2 e he t ht;by_cases hj:lo<=j/\j < lo+m
 ·obtain⟨j',a1,a2,a3⟩:=s.sub j hj.1 hj.2;rw[a3] at he;exact h j' (by omega) (by omega) e he t ht
 ·rw[s.out j (by omega)] at he;exact h j j1 j2 e he t ht
def nodB(nd:aX):Prop:=pwi 65536 nd.gLo/\pwi 65536 nd.gHi
inductive Cv(R:List aJ)(o:List Int)(d:List aX)(D:Int->Prop):Int->Nat->Nat->List aW->Prop
 | pend (t:aW) (f c:Nat):t.gC=(f:Int)->t.gS=(c:Int)->Cv R o d D t.gA1 f c [t]
 | leaf (i:Int) (f c:Nat) (nd:aX):D i->d[i.toNat]? = some nd->nd.gB1 < 0->nd.gC7=(f:Int)->nd.gC2=(c:Int)->aET R o f c nd.gLo nd.gHi->nodB nd->Cv R o d D i f c []
 | node (i:Int) (f c1 c2:Nat) (nd:aX) (L1 L2:List aW):D i->d[i.toNat]? = some nd->0<=nd.gB1->Cv R o d D nd.gB1 f c1 L1->Cv R o d D nd.gB3 (f+c1) c2 L2->aET R o f (c1+c2) nd.gLo nd.gHi->nodB nd->Cv R o d D i f (c1+c2) (L1++L2)
theorem Cv.rng{R:List aJ}{o:List Int}{d:List aX}{D:Int->Prop}{i:Int}{f c:Nat}{L:List aW}(h:Cv R o d D i f c L):∀t∈L,∃f' c':Nat,t.gC=(f':Int)/\t.gS=(c':Int)/\f<=f'/\f'+c'<=f+c:=by
 induction h with
 | pend t f c h1 h2=>
  intro u hu;have:u=t:=by simpa using hu
  subst this;exact⟨f,c,h1,h2,by omega,by omega⟩
 | leaf=>intro u hu;exact absurd hu (by simp)
 | node i f c1 c2 nd L1 L2 _ _ _ _ _ _ _ i1 i2=>
  intro u hu;rw[ba] at hu;rcases hu with hu | hu
  ·obtain⟨f',c',a,b,x,y⟩:=i1 u hu;exact⟨f',c',a,b,by omega,by omega⟩
  ·obtain⟨f',c',a,b,x,y⟩:=i2 u hu;exact⟨f',c',a,b,by omega,by omega⟩
theorem Cv.far{R:List aJ}{o o':List Int}{d d':List aX}{D D':Int->Prop}{lo m:Nat}(s:sH lo m o o')(hD:∀i,D i->D' i/\d'[i.toNat]? = d[i.toNat]?){i:Int}{f c:Nat}{L:List aW}(h:Cv R o d D i f c L):(f+c<=lo\/lo+m<=f)->Cv R o' d' D' i f c L:=by
 induction h with
 | pend t f c h1 h2=>intro _;exact .pend t f c h1 h2
 | leaf i f c nd h1 h2 h3 h4 h5 h6 h7=>intro hr;exact .leaf i f c nd (hD i h1).1 ((hD i h1).2.trans h2) h3 h4 h5 (zU h6 s (Or.inr hr)) h7
 | node i f c1 c2 nd L1 L2 h1 h2 h3 _ _ h6 h7 i1 i2=>intro hr;exact .node i f c1 c2 nd L1 L2 (hD i h1).1 ((hD i h1).2.trans h2) h3 (i1 (by omega)) (i2 (by omega)) (zU h6 s (Or.inr hr)) h7
theorem Cv.mono{R:List aJ}{o:List Int}{d:List aX}{D D':Int->Prop}(hD:∀i,D i->D' i){i:Int}{f c:Nat}{L:List aW}(h:Cv R o d D i f c L):Cv R o d D' i f c L:=by
 induction h with
 | pend t f c h1 h2=>exact .pend t f c h1 h2
 | leaf i f c nd h1 h2 h3 h4 h5 h6 h7=>exact .leaf i f c nd (hD i h1) h2 h3 h4 h5 h6 h7
 | node i f c1 c2 nd L1 L2 h1 h2 h3 _ _ h6 h7 i1 i2=>exact .node i f c1 c2 nd L1 L2 (hD i h1) h2 h3 i1 i2 h6 h7
theorem Cv.near{R:List aJ}{o o':List Int}{d d':List aX}{D D':Int->Prop}{lo m:Nat}(s:sH lo m o o')(hD:∀i,D i->D' i/\d'[i.toNat]? = d[i.toNat]?){t:aW}(ht1:t.gC=(lo:Int))(ht2:t.gS=(m:Int)){Ln:List aW}(hn:Cv R o' d' D' t.gA1 lo m Ln){i:Int}{f c:Nat}{L:List aW}(h:Cv R o d D i f c L):t∈L->∃La Lb,L=La++t :: Lb/\Cv R o' d' D' i f c (La++(Ln++Lb)):=by
 induction h with
 | pend u f c h1 h2=>
  intro hu;have:t=u:=by simpa using hu
  subst this;obtain rfl:f=lo:=by omega
  obtain rfl:c=m:=by omega
  exact⟨[],[],rfl,by simpa using hn⟩
 | leaf=>intro hu;exact absurd hu (by simp)
 | node i f c1 c2 nd L1 L2 h1 h2 h3 g1 g2 h6 h7 i1 i2=>
  intro hu;rw[ba] at hu;rcases hu with hu | hu
  ·obtain⟨f',c',a,b,x,y⟩:=g1.rng t hu;obtain⟨La,Lb,e,q⟩:=i1 hu;refine⟨La,Lb++L2,by rw[e];simp,?_⟩
   have:=Cv.node i f c1 c2 nd _ L2 (hD i h1).1 ((hD i h1).2.trans h2) h3 q (g2.far s hD (by omega)) (zU h6 s (by omega)) h7;simpa[av] using this
  ·obtain⟨f',c',a,b,x,y⟩:=g2.rng t hu;obtain⟨La,Lb,e,q⟩:=i2 hu;refine⟨L1++La,Lb,by rw[e];simp,?_⟩
   have:=Cv.node i f c1 c2 nd L1 _ (hD i h1).1 ((hD i h1).2.trans h2) h3 (g1.far s hD (by omega)) q (zU h6 s (by omega)) h7;simpa[av] using this
def aPF(n:Nat)(o:List Int):Prop:=∀e:Nat,e < n->∃j:Nat,j < n/\o[j]? = some (e:Int)
theorem aIf{n lo m:Nat}{o o':List Int}(h:aPF n o)(s:sH lo m o o')(hn:lo+m<=n):aPF n o':=by
 intro e he;obtain⟨j,h1,h2⟩:=h e he;by_cases hj:lo<=j/\j < lo+m
 ·obtain⟨j',a1,a2,a3⟩:=s.sup j hj.1 hj.2;exact⟨j',by omega,by rw[<- a3];exact h2⟩
 ·exact⟨j,h1,by rw[s.out j (by omega)];exact h2⟩
def aJj(d:List aX)(l:List aW)(i:Int):Prop:=(0<=i/\i < (d.length:Int))/\∀t∈l,t.gA1≠i
structure Bld(R:List aJ)(o:List Int)(d:List aX)(l:List aW):Prop where
 tris:aB6 R
 ord:ord R.length o
 len:o.length=R.length
 todo:∀t∈l,aHf R.length d.length t
 good:∀i,(h:i < d.length)->(∃t∈l,t.gA1=(i:Int))\/aKq R.length d.length i d[i]
 room:(d.length:Int)+aEO l<=39
 full:aPF R.length o
 one:(l.map (·.gA1)).Nodup
 tree:∃L,Cv R o d (aJj d l) 0 0 R.length L/\L.Perm l
def aCe(n:Nat)(b:bD):Prop:=ord n b.gD2/\b.gD2.length=n/\b.gA8.length<=39/\∀i,(h:i < b.gA8.length)->aKq n b.gA8.length i b.gA8[i]
def zD(R:List aJ)(b:bD):Prop:=(R.length=0/\b.gA8=[])\/(0 < R.length/\aPF R.length b.gD2/\Cv R b.gD2 b.gA8 (λ_=>True) 0 0 R.length [])
theorem aJB{l:List aW}{t:aW}(h:((l++[t]).map (·.gA1)).Nodup):(l.map (·.gA1)).Nodup/\∀u∈l,u.gA1≠t.gA1:=by
 rw[dh,jt] at h;refine⟨h.1,λu hu e=>?_⟩
 exact h.2.2 _ (List.mem_map_of_mem hu) _ (by simp) e
theorem aKz{L La Lb l Ln:List aW}{t:aW}(e:L=La++t :: Lb)(h:L.Perm (l++[t])):(La++(Ln++Lb)).Perm (l++Ln):=by
 subst e;have h1:(t :: (La++Lb)).Perm (t :: l):=(List.perm_middle.symm.trans h).trans (fj (l₁:=l) (l₂:=[t]))
 have h2:(La++Lb).Perm l:=fk.cons_inv h1;have h3:(La++(Ln++Lb)).Perm (La++(Lb++Ln)):=fk.append_left La fj;rw[<- av] at h3;rw[<- av]
 refine(by rw[av];exact fk.append_left La fj:(La++Ln++Lb).Perm (La++(Lb++Ln))).trans ?_;rw[<- av]
 exact fk.append_right Ln h2
theorem Bld.leaf{R:List aJ}{o o':List Int}{d:List aX}{l:List aW}{t:aW}{x:aX}(h:Bld R o d (l++[t]))(ho:Go.UK.ord R.length o')(hl:sH t.gC.toNat t.gS.toNat o o')(hx:x.gB1 < 0)(hf:x.gC7=t.gC)(hc:x.gC2=t.gS)(hb:aET R o t.gC.toNat t.gS.toNat x.gLo x.gHi)(hn:nodB x):Bld R o' (d.set t.gA1.toNat x) l:=by
 have ht:=h.todo t (by simp)
 obtain⟨n1,n2⟩:=aJB h.one;refine⟨h.tris,ho,hl.len.trans h.len,λu hu=>by rw[ce];exact h.todo u (by simp[hu]),λi hi=>?_,?_,aIf h.full hl (by obtain⟨_,a,b,c⟩:=ht;omega),n1,?_⟩
 ·rw[ce] at hi ⊢;by_cases e:i=t.gA1.toNat
  ·subst e;right;rw[iz]
   obtain⟨_,a,b,c⟩:=ht;exact⟨λh=>by omega,λ_=>by rw[hf,hc];omega⟩
  ·rw[jf (by omega)]
   rcases h.good i hi with ⟨u,hu,e'⟩ | g
   ·rw[ba,bz] at hu;rcases hu with hu | rfl
    ·exact Or.inl ⟨u,hu,e'⟩
    ·omega
   ·exact Or.inr g
 ·rw[ce]
  have r:=h.room;rw[aKw] at r;have:aEO [t]=2*t.gS - 2+0:=rfl;obtain⟨_,_,b,_⟩:=ht;omega
 ·obtain⟨L,cv,pm⟩:=h.tree;obtain⟨⟨a1,a2⟩,b1,b2,b3⟩:=ht;have hD:∀i,aJj d (l++[t]) i->aJj (d.set t.gA1.toNat x) l i/\(d.set t.gA1.toNat x)[i.toNat]? = d[i.toNat]? := by
   intro i ⟨q1,q2⟩
   have:=q2 t (by simp)
   exact⟨⟨by rw[ce];exact q1,λu hu=>q2 u (by simp[hu])⟩,d7 (by omega)⟩
  have new:Cv R o' (d.set t.gA1.toNat x) (aJj (d.set t.gA1.toNat x) l) t.gA1 t.gC.toNat t.gS.toNat []:=
   .leaf _ _ _ x ⟨by rw[ce];exact⟨a1,a2⟩,n2⟩ (da (by omega)) hx (by omega) (by omega) (zU hb hl (by omega)) hn
  obtain⟨La,Lb,e,q⟩:=Cv.near (t:=t) hl hD (by omega) (by omega) new cv (pm.mem_iff.2 (by simp))
  exact⟨_,q,by have:=aKz (Ln:=[]) e pm;simpa using this⟩
theorem Bld.inner{R:List aJ}{o o':List Int}{d:List aX}{l:List aW}{t u v:aW}{x:aX}{e1 e2:aX}{c:Int}(h:Bld R o d (l++[t]))(ho:Go.UK.ord R.length o')(hl:sH t.gC.toNat t.gS.toNat o o')(hx:x.gB1=(d.length:Int))(hy:x.gB3=(d.length:Int)+1)(hc:0 < c/\c < t.gS)
  (hu:u.gA1=(d.length:Int)+1/\u.gC=t.gC+c/\u.gS=t.gS - c) (hv:v.gA1=(d.length:Int)/\v.gC=t.gC/\v.gS=c) (hb:aET R o t.gC.toNat t.gS.toNat x.gLo x.gHi) (hn:nodB x):Bld R o' ((d++[e1,e2]).set t.gA1.toNat x) (l++[u,v]):=by
 have ht:=h.todo t (by simp)
 obtain⟨n1,n2⟩:=aJB h.one;have dl:((d++[e1,e2]).set t.gA1.toNat x).length=d.length+2:=by rw[ce,ar];rfl
 have old:∀w∈l,w.gA1 < (d.length:Int):=λw hw=>(h.todo w (by simp[hw])).1.2;refine⟨h.tris,ho,hl.len.trans h.len,λw hw=>?_,λi hi=>?_,?_,aIf h.full hl (by obtain⟨_,a,b,c⟩:=ht;omega),?_,?_⟩
 ·rw[dl]
  rw[ba] at hw;rcases hw with hw | hw
  ·exact aOp (h.todo w (by simp[hw])) (by omega)
  ·obtain⟨_,a,b,c'⟩:=ht;simp at hw;rcases hw with rfl | rfl
   ·unfold aHf;omega
   ·unfold aHf;omega
 ·simp only[dl]
  rw[dl] at hi;by_cases e:i=t.gA1.toNat
  ·subst e;right;rw[iz]
   obtain⟨⟨a1,a2⟩,a,b,c⟩:=ht;exact⟨λ_=>by rw[hx,hy];omega,λh=>by omega⟩
  ·rw[jf (by omega)]
   by_cases hd:i < d.length
   ·rcases h.good i hd with ⟨w,hw,e'⟩ | g
    ·rw[ba,bz] at hw;rcases hw with hw | rfl
     ·exact Or.inl ⟨w,by rw[ba];exact Or.inl hw,e'⟩
     ·omega
    ·right;rw[List.getElem_append_left hd]
     exact aOX g (by omega)
   ·left;have:i=d.length\/i=d.length+1:=by omega
    rcases this with rfl | rfl
    ·exact⟨v,by simp,hv.1⟩
    ·exact⟨u,by simp,by rw[hu.1];omega⟩
 ·rw[dl]
  have r:=h.room;rw[aKw] at r ⊢;have e1:aEO [t]=2*t.gS - 2+0:=rfl;have e2:aEO [u,v]=2*u.gS - 2+(2*v.gS - 2+0):=rfl;omega
 ·rw[dh,jt]
  refine⟨n1,by simp;rw[hu.1,hv.1];omega,λa ha b hb e=>?_⟩
  rw[List.mem_map] at ha;obtain⟨w,hw,rfl⟩:=ha;have:=old w hw;simp at hb;rcases hb with rfl | rfl
  ·rw[hu.1] at e;omega
  ·rw[hv.1] at e;omega
 ·obtain⟨L,cv,pm⟩:=h.tree;obtain⟨⟨a1,a2⟩,b1,b2,b3⟩:=ht;have hD:∀i,aJj d (l++[t]) i->aJj ((d++[e1,e2]).set t.gA1.toNat x) (l++[u,v]) i/\((d++[e1,e2]).set t.gA1.toNat x)[i.toNat]? = d[i.toNat]? := by
   intro i ⟨q1,q2⟩
   have:=q2 t (by simp)
   refine⟨⟨by rw[dl];omega,λw hw=>?_⟩,by rw[d7 (by omega),bd (by omega)]⟩
   rw[ba] at hw;rcases hw with hw | hw
   ·exact q2 w (by simp[hw])
   ·simp at hw;rcases hw with rfl | rfl
    ·rw[hu.1];omega
    ·rw[hv.1];omega
  obtain⟨cn,rfl⟩:=bm (show 0<=c by omega)
  have new:Cv R o' ((d++[e1,e2]).set t.gA1.toNat x) (aJj ((d++[e1,e2]).set t.gA1.toNat x) (l++[u,v])) t.gA1 t.gC.toNat t.gS.toNat ([v]++[u]):=by
   have hm:t.gS.toNat=cn+(t.gS.toNat - cn):=by omega
   rw[hm]
   refine .node _ _ cn (t.gS.toNat - cn) x [v] [u] ⟨by rw[dl];omega,λw hw=>?_⟩ (da (by rw[ar];omega)) (by omega) ?_ ?_ (by rw[<- hm];exact zU hb hl (by omega)) hn
   ·rw[ba] at hw;rcases hw with hw | hw
    ·exact n2 w hw
    ·simp at hw;rcases hw with rfl | rfl
     ·rw[hu.1];omega
     ·rw[hv.1];omega
   ·rw[hx,<- hv.1];exact .pend v _ _ (by omega) (by omega)
   ·rw[hy,<- hu.1];exact .pend u _ _ (by omega) (by omega)
  obtain⟨La,Lb,e,q⟩:=Cv.near (t:=t) hl hD (by omega) (by omega) new cv (pm.mem_iff.2 (by simp))
  refine⟨_,q,(aKz (Ln:=[v]++[u]) e pm).trans ?_⟩
  exact fk.append_left l (fk.swap u v [])
theorem aUN(N:Nat)(hN:100 < N){R:List aJ}:∀(k:Nat) (o:List Int) (d:List aX) (s:List aW) (m:Nat),m<=s.length->Bld R o d (s.take m)->aBT (s.take m) < (k:Int)->aBT (s.take m)<=100 ->
  T (rZ N R k o d s m) (λr=>Bld R r.1 r.2.1 []):=by
 intro k
 induction k with
 | zero=>
  intro o d s m hm h hw;have:=aJW h.todo;omega
 | succ k ih=>
  intro o d s m hm h hw hw';rw[rZ,aP]
  have lenT:(s.take m).length=m:=by rw[bo];omega
  have wl:=aJW h.todo;rw[lenT] at wl;refine T.cond (λhc=>?_) (λhc=>?_)
  ·obtain⟨m,rfl⟩:∃m',m=m'+1:=⟨m - 1,by have:=of_decide_eq_true hc;omega⟩
   have im:I64 (((m+1:Nat):Int) - 1)=(m:Int):=by rw[bE (by omega) (by omega)];omega
   simp only[aP,im,bn]
   obtain⟨t,et⟩:∃t,s[m]? = some t:=⟨_,af (by omega)⟩
   have hs:=aCY et;rw[hs] at h hw hw';have ht:=h.todo t (by simp)
   obtain⟨⟨tn1,tn2⟩,t1,t2,t3⟩:=ht;have n20:=h.tris.2;have ol:=h.len;have rm:=h.room;have rg:=aSw h.todo;rw[aG7,show aBT [t]=2*t.gS - 1+0 from rfl] at hw hw';have wl2:=aJW (l:=s.take m) λu hu=>h.todo u (by simp[hu])
   rw[show(s.take m).length=m by rw[bo];omega] at wl2;refine T.bind (T.inRS (by omega) (by omega) (by omega)) λ_ _=>T.eq et (T.bind (T.slcG (by omega) (by omega) (by omega) (by omega) (Or.inl rfl)) λ_ _=>?_)
   have ifc:I64 (t.gC+t.gS)=t.gC+t.gS:=bE (by omega) (by omega)
   rw[ifc]
   refine T.bind (T.slcG (by omega) t1 (by omega) (by omega) (by omega)) λ_ _=>?_;have hp:aML R o t.gC.toNat ((t.gC+t.gS).toNat - t.gC.toNat):=⟨h.tris,h.ord,by omega,by omega⟩
   have cnt:(t.gC+t.gS).toNat - t.gC.toNat=t.gS.toNat:=by omega
   rw[cnt] at hp ⊢;refine T.bind (boxDT N (by omega) hp) λr30 h30=>?_;have step:∀(o':List Int) (d':List aX) (s':List aW) (x:aX) (m':Nat),m'<=s'.length->t.gA1 < (d'.length:Int)->Bld R o' (d'.set t.gA1.toNat x) (s'.take m')->aBT (s'.take m') < (k:Int)->aBT (s'.take m')<=100 ->
     T (aa (eY t.gA1 d'.length) λ_=>aa (aC7 d' t.gA1.toNat x) λz41=>rZ N R k o' z41 s' m') (λr=>Bld R r.1 r.2.1 []):=by
    intro o' d' s' x m' h1 h2 h3 h4 h5;refine T.bind (T.inRO tn1 h2) λ_ _=>T.bind (T.setO (by omega)) λz hz=>?_;subst hz;exact ih _ _ _ _ h1 h3 h4 h5
   refine T.bind (P:=λp=>p.2.2.2.2<=p.2.2.1.length/\t.gA1 < (p.2.1.length:Int)/\Bld R p.1 (p.2.1.set t.gA1.toNat p.2.2.2.1) (p.2.2.1.take p.2.2.2.2)/\aBT (p.2.2.1.take p.2.2.2.2) < (k:Int)/\aBT (p.2.2.1.take p.2.2.2.2)<=100) ?_ λp31 h31=>step _ _ _ _ _ h31.1 h31.2.1 h31.2.2.1 h31.2.2.2.1 h31.2.2.2.2;refine T.bind (partT N (by omega) hp t.gD9) λr32 h32=>T.bind (T.lenO h32.2.1.len) λ_ _=>?_;refine T.cond (λhc=>?_) (λ_=>?_)
   ·have c0:=of_decide_eq_true hc;have c1:=h32.2.2 c0;have i1:I64 ((d.length:Int)+1)=(d.length:Int)+1:=bE (by omega) (by omega)
    have i2:I64 (t.gC+r32.2)=t.gC+r32.2:=bE (by omega) (by omega)
    have i3:I64 (t.gS - r32.2)=t.gS - r32.2:=bE (by omega) (by omega)
    rw[i1,i2,i3]
    refine T.eq (dQ (by simp;omega)) (T.bind (T.appG (by omega) (show(m+2)*32<=140737488355328 by omega)) λz39 h39=>T.ret ?_)
    subst h39;have tk:∀a b:aW,(wT s m [a,b]).take (m+2)=s.take m++[a,b]:=λa b=>aGu s m [a,b] (by omega)
    dsimp only;refine⟨aL0 s m [_,_] (by omega),by rw[ar];simp;omega,?_,?_,?_⟩
    ·rw[tk]
     exact h.inner (c:=r32.2) h32.1 h32.2.1 rfl rfl ⟨c0,by omega⟩ ⟨rfl,rfl,rfl⟩ ⟨rfl,rfl,rfl⟩ h30.2 h30.1
    ·rw[tk,aG7]
     show aBT (s.take m)+(2*(t.gS - r32.2) - 1+(2*r32.2 - 1+0)) < (k:Int)
     omega
    ·rw[tk,aG7]
     show aBT (s.take m)+(2*(t.gS - r32.2) - 1+(2*r32.2 - 1+0))<=100;omega
   ·refine T.ret ⟨by dsimp only;omega,tn2,?_,by dsimp only;omega,by dsimp only;omega⟩
    exact h.leaf h32.1 h32.2.1 (show(-1:Int) < 0 by decide) rfl rfl h30.2 h30.1
  ·have:m=0:=by have:=of_decide_eq_false hc;omega
   subst this;exact T.ret h
theorem aRo(N:Nat)(hN:10 < N){t:aJ}(h:tpw t):T (aAg N t) (λr=>pwi 65536 r.1/\pwi 65536 r.2):=by
 unfold aAg;refine T.bind (P:=λr=>pwi 65536 r.1/\pwi 65536 r.2) ?_ λ_ h=>T.ret h;have z:pwi 65536 (aB.mk 0 0 0):=by unfold pwi;dsimp only;omega
 refine T.loopG0 (n:=3) (λ_ (s:aB×aB)=>pwi 65536 s.1/\pwi 65536 s.2) _ (F:=λk (s:aB×aB) i=>rX N t k s.1 s.2 i) (λk s i hi hs hk=>?_) (λk s hs=>?_) (by omega) (s:=(aB.mk 0 0 0,aB.mk 0 0 0)) ⟨z,z⟩
 ·rw[rX,aP,dt (by omega),cond_true]
  refine T.bind (T.inRO (by omega) (by omega)) λ_ _=>T.eq (aGs t.gP i hi) ?_;have he:=h _ (vmem t.gP hi)
  generalize t.gP[i]=e at *;refine T.bind (P:=λp=>pwi 65536 p.1/\pwi 65536 p.2) (T.cond (λ_=>T.ret ⟨he,he⟩) (λ_=>T.ret hs)) λp hp=>?_;rw[eZ (by omega)]
  refine hk (_,_) ⟨?_,?_⟩
  ·unfold pwi at *;simp only[xV];omega
  ·unfold pwi at *;simp only[uD];omega
 ·rw[rX,aP,df (by omega),cond_false];exact T.ret hs
theorem aVj(N:Nat)(hN:100 < N){R:List aJ}(hR:aB6 R):T (aAX N R) (λr=>r.2=0/\aCe R.length r.1/\zD R r.1):=by
 unfold aAX;have n20:=hR.2;rw[aP]
 refine T.cond (λhc=>absurd (of_decide_eq_true hc) (by omega)) (λ_=>?_)
 refine T.bind (T.loopG0 (n:=R.length) (λ_ _=>True) (λo=>match o with | .inl _=>True | .inr r=>False) (F:=λk (_:Unit) i=>rR N R k i) (λk _ i hi _ hk=>?_) (λk _ _=>?_) (by omega) (s:=()) trivial) λo ho=>?_
 ·rw[rR,aP,dt (by omega),cond_true]
  refine T.bind (T.tri hR ⟨by omega,by omega⟩) λ_ ht=>T.eq (a:=()) (by decide) (T.bind (aRo N (by omega) ht) λr7 h7=>T.bind (P:=λp=>p=false) ?_ λp8 h8=>?_)
  ·obtain⟨g1,g2⟩:=h7;unfold pwi at g1 g2;simp only[aP,xV,uD]
   rw[df (show ¬min (min r7.1.gX r7.1.gY) r7.1.gZ < -1048576 by omega),df (show ¬max (max r7.2.gX r7.2.gY) r7.2.gZ > 1048576 by omega)]
   exact⟨_,rfl,rfl⟩
  ·rw[h8,cond_false,eZ (by omega)];exact hk () trivial
 ·rw[rR,aP,df (by omega),cond_false];exact T.ret trivial
 cases o with
 | inr r=>exact ho.elim
 | inl _=>
 show T (aQ _ _) _;rw[aP]
 refine T.cond (λhc=>T.ret ⟨rfl,?_⟩) (λhc=>?_)
 ·have:R.length=0:=by have h0:(R.length:Int)=0:=(by simpa using hc);omega
  refine⟨?_,Or.inl ⟨this,rfl⟩⟩
  rw[this]
  exact⟨λx h=>absurd h (by simp),rfl,by simp,λi h=>absurd h (by simp)⟩
 ·have n0:R.length≠0:=by intro e;rw[e] at hc;cases hc
  refine T.bind (T.loopG0 (n:=R.length) (λi (s:List Int)=>s.length=i/\ord R.length s/\∀j:Nat,j < i->s[j]? = some (j:Int)) (λr=>r.length=R.length/\ord R.length r/\∀j:Nat,j < R.length->r[j]? = some (j:Int)) (F:=rU N R) (λk s i hi hs hk=>?_) (λk s hs=>?_) (by omega) (s:=[]) ⟨rfl,λx h=>absurd h (by simp),λj h=>absurd h (by omega)⟩) λp12 h12=>?_
  ·rw[rU,aP,dt (by omega),cond_true]
   refine T.eq (dQ (by simp;omega)) ?_;rw[eZ (by omega)]
   refine hk _ ⟨by simp;omega,λx hx=>?_,λj hj=>?_⟩
   ·rw[ba,bz] at hx;rcases hx with hx | rfl
    ·exact hs.2.1 x hx
    ·omega
   ·by_cases c:j=i
    ·subst c;rw[cg (by omega),hs.1];simp
    ·rw[bd (by omega)];exact hs.2.2 j (by omega)
  ·rw[rU,aP,df (by omega),cond_false];exact T.ret hs
  ·refine T.bind (aUN N hN N p12 _ _ 1 (ay _) ⟨hR,h12.2.1,h12.1,?_,?_,?_,λe he=>⟨e,he,h12.2.2 e he⟩,by simp,⟨_,.pend (aW.mk 0 0 (R.length:Int) 1) 0 R.length rfl rfl,fk.refl _⟩⟩ ?_ ?_) λp17 h17=>T.ret ⟨rfl,?_⟩
   ·intro t ht;have:t=aW.mk 0 0 (R.length:Int) 1:=by simpa using ht
    subst this;exact⟨⟨fc _,by simp⟩,fc _,by show 1<=(R.length:Int);omega,by show 0+(R.length:Int)<=(R.length:Int);omega⟩
   ·intro i hi;have:i=0:=by simpa using hi
    subst this;exact Or.inl ⟨aW.mk 0 0 (R.length:Int) 1,by simp,rfl⟩
   ·show(1:Int)+(2*(R.length:Int) - 2+0)<=39;omega
   ·show 2*(R.length:Int) - 1+0 < (N:Int)
    omega
   ·show 2*(R.length:Int) - 1+0<=100;omega
   ·obtain⟨L,cv,pm⟩:=h17.tree;have:=pm.eq_nil;subst this;refine⟨⟨h17.ord,h17.len,?_,λi hi=>?_⟩,Or.inr ⟨by omega,h17.full,Cv.mono (λ_ _=>trivial) cv⟩⟩
    ·have:=h17.room;have e:aEO ([]:List aW)=0:=rfl;show p17.2.1.length<=39;omega
    ·rcases h17.good i hi with ⟨t,ht,_⟩ | g
     ·exact absurd ht (by simp)
     ·exact g
theorem aRg(N:Nat)(hN:100 < N){R:List aJ}(hR:aB6 R):T (xM N R) (λq=>match q with | .inl e=>False | .inr r=>r.2=0/\∃bv,r.1=aM.mk bv true R 0/\aCe R.length bv/\zD R bv):=by
 unfold xM;refine T.bind (aVj N hN hR) λr1 h1=>?_;refine T.cond (λhc=>by rw[h1.1] at hc;cases hc) (λhc=>?_)
 have n20:=hR.2;unfold dX;refine T.eq (a:=R) (by rw[dQ (by simp;omega)];simp) (T.ret ⟨rfl,r1.1,rfl,h1.2⟩)
structure Rdy(b:List (List aC))(s:aE)(v:aF)(sky:aA):Prop where
 tri:∀t∈s.gQ,(0<=t.gC5/\t.gC5 < (s.gB0.length:Int))/\t.gB7 < (b.length:Int)/\(∀v∈t.gUv.toList,∀x∈v.toList,0<=x/\x<=65535)/\∀p∈t.gP.toList,pwi 65536 p
 few:s.gQ.length<=20
 mat:∀m∈s.gB0,aDa m
 light:∀l∈s.gM,zE l
 lights:s.gM.length<=5
 lev:∀l∈b,aH9 l
 dark:s.gM=[]->sky=aA.mk 0 0 0
 sky:vin sky
 view:aPA v
def aMa(n:Nat)(gl:List aJ):Prop:=gl.length<=4096/\∀i,n<=i->∀t,gl[i]? = some t->t.gD4=0
def newS(s:aE)(v:aF)(r:(List aJ)×(List aO)×(List aS)×(List (List aC))×aA×(List aJ)×Int):Prop:=
 r.1=s.gQ/\r.2.1=s.gB0/\r.2.2.1=s.gM/\Rdy r.2.2.2.1 s v r.2.2.2.2.1/\aMa s.gQ.length r.2.2.2.2.2.1/\r.2.2.2.2.2.2=0/\v.gA4=true/\(r.2.2.2.2.2.1.length:Int)=(eW v.gK).1/\fits s v.gK/\∀i,i < s.gQ.length->r.2.2.2.2.2.1[i]? = s.gQ[i]?
def newW(s:aE)(v:aF)(r:(List aJ)×(List aO)×(List aS)×(List (List aC))×aA×aM×Int):Prop:=
 r.1=s.gQ/\r.2.1=s.gB0/\r.2.2.1=s.gM/\Rdy r.2.2.2.1 s v r.2.2.2.2.1/\(∃bv,aCe s.gQ.length bv/\r.2.2.2.2.2.1=aM.mk bv true s.gQ 0/\zD s.gQ bv)/\r.2.2.2.2.2.2=0/\v.gA4=false
def aRt(N:Nat)(s:aE)(v:aF)(r:Int):Prop:=(kG N s=some r/\r≠0)\/(kG N s=some 0/\uR N v=some r/\r≠0)\/(kG N s=some 0/\uR N v=some 0/\pL N s v.gK=some r)
def newL(N:Nat)(s:aE)(b:List (List aC))(sky:aA):Prop:=nR N (s.gO.length:Int) s N [] 0=some b/\aAM N s.gM=some sky
theorem newT(N:Nat)(hN:300 < N)(s:aE)(v:aF)(hs:few s):T (mH N s v) (λq=>match q with
  | .inl e=>e≠0/\aRt N s v e
  | .inr (.inl r)=>False
  | .inr (.inr (.inl r))=>newS s v r/\aRt N s v 0/\newL N s r.2.2.2.1 r.2.2.2.2.1
  | .inr (.inr (.inr (.inl r)))=>False
  | .inr (.inr (.inr (.inr r)))=>newW s v r/\aRt N s v 0/\newL N s r.2.2.2.1 r.2.2.2.2.1):=by
 unfold mH;have nz:∀{r:Int},(r != 0)=true->r≠0:=λh=>by simpa using h
 have ez:∀{r:Int},(r != 0)=false->r=0:=λh=>by simpa using h
 obtain⟨r1,e1,h1⟩:=aV3 N hN s hs;refine T.eq e1 (T.cond (λhc=>T.ret ⟨nz hc,Or.inl ⟨e1,nz hc⟩⟩) (λhc1=>?_))
 rw[ez hc1] at e1;have ok:=h1 (ez hc1)
 obtain⟨r2,e2,h2⟩:=mayVT N v;refine T.eq e2 (T.cond (λhc=>T.ret ⟨nz hc,Or.inr (Or.inl ⟨e1,e2,nz hc⟩)⟩) (λhc2=>?_))
 rw[ez hc2] at e2;have vok:=h2 (ez hc2)
 obtain⟨r3,e3,h3⟩:=aVB N s v.gK;refine T.eq e3 (T.cond (λhc=>T.ret ⟨nz hc,Or.inr (Or.inr ⟨e1,e2,e3⟩)⟩) (λhc3=>?_))
 rw[ez hc3] at e3;have nv:aRt N s v 0:=Or.inr (Or.inr ⟨e1,e2,e3⟩)
 have cb:0<=(eW v.gK).1/\(eW v.gK).1<=4096:=by unfold eW;cases (v.gK==0) <;> cases (v.gK==1) <;> cases (v.gK==2) <;> decide
 have fit:=h3 (ez hc3)
 obtain⟨⟨f1,f2,f3,f4,f5⟩,okt,okm,okx,okl⟩:=ok;obtain⟨N,rfl⟩:∃n,N=n+3:=⟨N - 3,by omega⟩
 obtain⟨r4,e4,h4⟩:=skyT N (by omega) _ okl f4;refine T.eq e4 ?_;refine T.eq (dQ (by simp;omega)) (T.eq (dQ (by simp;omega)) (T.eq (dQ (by simp;omega)) ?_))
 simp only[aP,fa]
 have lvT:T (nR (N+3) (s.gO.length:Int) s (N+3) [] 0) (λr=>r.length=s.gO.length/\∀x∈r,aH9 x):=by
  refine T.loopG0 (n:=s.gO.length) (λi (l:List (List aC))=>l.length=i/\∀x∈l,aH9 x) (λr=>r.length=s.gO.length/\∀x∈r,aH9 x) (F:=nR (N+3) (s.gO.length:Int) s) (λk l i hi hl hk=>?_) (λk l hl=>?_) (by omega) (s:=[]) ⟨rfl,λx h=>absurd h (by simp)⟩
  ·rw[nR,dt (by omega),cond_true,fX,af hi,ae]
   refine T.bind (aUY (N+3) hN _ (f5 _ (bj hi))) λr13 h13=>T.eq (dQ (by simp;omega)) ?_;rw[eZ (by omega)]
   refine hk _ ⟨by simp;omega,λx hx=>?_⟩
   rw[ba,bz] at hx;rcases hx with hx | rfl
   ·exact hl.2 x hx
   ·exact h13
  ·rw[nR,df (by omega),cond_false];exact T.ret hl
 obtain⟨p9,e9,h9⟩:=lvT;refine T.eq e9 ?_;have rdy:Rdy p9 s v r4:=⟨λt ht=>by have:=okt t ht;exact⟨this.1,by rw[h9.1];exact this.2.1,this.2.2.1,this.2.2.2⟩,f1,okm,okl,f4,h9.2,h4.2,h4.1,vok⟩
 refine T.cond (λhc=>?_) (λhc=>?_)
 ·refine T.bind (aWY _ _) λr15 h15=>T.bind (aRP (N+3) s.gQ r15.1 (by rw[h15];exact cb) (by rw[h15];exact fit.1)) λq hq=>?_;cases q with
  | inl e=>exact hq.elim
  | inr r=>exact T.ret ⟨⟨rfl,rfl,rfl,rdy,⟨hq.2.2.1,hq.2.2.2.1⟩,hq.1,hc,by rw[<- h15];exact hq.2.1,fit,hq.2.2.2.2⟩,nv,e9,e4⟩
 ·refine T.bind (aRg (N+3) (by omega) (R:=s.gQ) ⟨λt ht=>(okt t ht).2.2.2,f1⟩) λq hq=>?_;cases q with
  | inl e=>exact hq.elim
  | inr r=>obtain⟨h0,bv,h1,h2,h3⟩:=hq;exact T.ret ⟨⟨rfl,rfl,rfl,rdy,⟨bv,h2,h1,h3⟩,h0,hc⟩,nv,e9,e4⟩
def TU{ι ρ α:Type}(f:ι->Option ρ)(P:α->Prop)(S:ι->α->ρ->Prop):Prop:=∃a,P a/\∀i,∃r,f i=some r/\S i a r
section
variable {ι ρ ρ' α β:Type}
theorem TU.bind{A:ι->Option ρ}{B:ι->ρ->Option ρ'}{P:α->Prop}{S:ι->α->ρ->Prop}{Q:β->Prop}{S':ι->β->ρ'->Prop}(h:TU A P S)
  (hf:∀a,P a->∀r:ι->ρ,(∀i,S i a (r i))->TU (λi=>B i (r i)) Q S'):TU (λi=>aa (A i) (B i)) Q S':=by
 obtain⟨a,pa,h⟩:=h;have h':∃r:ι->ρ,∀i,A i=some (r i)/\S i a (r i):=⟨λi=>(h i).choose,λi=>(h i).choose_spec⟩
 obtain⟨r,hr⟩:=h';obtain⟨b,qb,hb⟩:=hf a pa r λi=>(hr i).2;refine⟨b,qb,λi=>?_⟩
 obtain⟨x,e,s⟩:=hb i;exact⟨x,by show aa (A i) (B i)=some x;rw[(hr i).1];exact e,s⟩
theorem TU.t{o:Option α}{B:ι->α->Option ρ}{P:α->Prop}{Q:β->Prop}{S:ι->β->ρ->Prop}(h:T o P)(hf:∀a,P a->TU (λi=>B i a) Q S):TU (λi=>aa o (B i)) Q S:=by
 obtain⟨a,rfl,pa⟩:=h;exact hf a pa
theorem TU.e{A:ι->Option ρ}{B:ι->ρ->Option ρ'}{a:ρ}{Q:β->Prop}{S':ι->β->ρ'->Prop}(e:∀i,A i=some a)(h:TU (λi=>B i a) Q S'):TU (λi=>aa (A i) (B i)) Q S':=by
 rw[show(λi=>aa (A i) (B i))=λi=>B i a from funext λi=>by rw[e i];rfl];exact h
theorem TU.cond{c:Bool}{A B:ι->Option ρ}{Q:β->Prop}{S:ι->β->ρ->Prop}(h1:c=true->TU A Q S)(h2:c=false->TU B Q S):TU (λi=>_root_.cond c (A i) (B i)) Q S:=by
 cases c with
 | true=>exact h1 rfl
 | false=>exact h2 rfl
theorem TU.ret{g:ι->ρ}(b:β){Q:β->Prop}{S:ι->β->ρ->Prop}(hq:Q b)(h:∀i,S i b (g i)):TU (λi=>some (g i)) Q S:=⟨b,hq,λi=>⟨g i,rfl,h i⟩⟩
theorem TU.mono{f:ι->Option ρ}{P P':α->Prop}{S S':ι->α->ρ->Prop}(h:TU f P S)(hp:∀a,P a->P' a)(hs:∀i a r,P a->S i a r->S' i a r):TU f P' S':=by
 obtain⟨a,pa,h⟩:=h;refine⟨a,hp a pa,λi=>?_⟩
 obtain⟨r,e,s⟩:=h i;exact⟨r,e,hs i a r pa s⟩
theorem TU.loop{σ τ:Type}{n:Nat}{P:α->Prop}{S:ι->α->ρ->Prop}(I:Nat->σ->(ι->τ)->Prop){F:ι->Nat->τ->σ->Int->Option ρ}
  (hstep:∀k (h:ι->τ) s j,j < n->I j s h->(∀s' h',I (j+1) s' h'->TU (λi=>F i k (h' i) s' ((j+1:Nat):Int)) P S)->TU (λi=>F i (k+1) (h i) s (j:Int)) P S)
  (hend:∀k (h:ι->τ) s,I n s h->TU (λi=>F i (k+1) (h i) s (n:Int)) P S):∀(k j:Nat) (s:σ) (h:ι->τ),I j s h->j<=n->n - j < k->TU (λi=>F i k (h i) s (j:Int)) P S
 | 0,j,_,_,_,_,hk=>by omega
 | k+1,j,s,h,hi,hj,hk=>by
  by_cases hn:j < n
  ·exact hstep k h s j hn hi λs' h' hi'=>TU.loop I hstep hend k (j+1) s' h' hi' (by omega) (by omega)
  ·obtain rfl:j=n:=by omega
   exact hend k h s hi
theorem TU.loop0{σ τ:Type}{n:Nat}{P:α->Prop}{S:ι->α->ρ->Prop}(I:Nat->σ->(ι->τ)->Prop){F:ι->Nat->τ->σ->Int->Option ρ}
  (hstep:∀k (h:ι->τ) s j,j < n->I j s h->(∀s' h',I (j+1) s' h'->TU (λi=>F i k (h' i) s' ((j+1:Nat):Int)) P S)->TU (λi=>F i (k+1) (h i) s (j:Int)) P S)
  (hend:∀k (h:ι->τ) s,I n s h->TU (λi=>F i (k+1) (h i) s (n:Int)) P S) {N:Nat} (hN:n < N) {s:σ} {h:ι->τ} (hi:I 0 s h):TU (λi=>F i N (h i) s 0) P S:=
 TU.loop I hstep hend N 0 s h hi (by omega) (by omega)
end
def swp(gl:List aJ)(t:Int):aL:=aL.mk (jJ.mk t) true gl
def cZ(a b n:Int):Prop:=I64 b=I64 (a+n)/\(cG a->cG b)
theorem aED{a b:Int}{n:Nat}(h:cZ a b (n:Int)):cZ a (I64 (b+1)) ((n+1:Nat):Int):=by
 obtain⟨h,_⟩:=h;refine⟨?_,λ_=>cL _⟩
 rw[xC] at *;rw[xC] at *;rw[xC] at *;omega
theorem lQ(a:Int):cZ a a 0:=⟨by rw[Int.add_zero],λh=>h⟩
theorem pG{a b c n m:Int}(h:cZ a b n)(h':cZ b c m):cZ a c (n+m):=by
 obtain⟨h,g⟩:=h;obtain⟨h',g'⟩:=h';refine⟨?_,λx=>g' (g x)⟩
 rw[xC] at *;rw[xC] at *;omega
theorem aOd{a b n:Int}(h:cZ a b n)(ha:cG a):b=I64 (a+n):=by
 obtain⟨h1,h2⟩:=h.2 ha;rw[<- h.1,bE (by omega) (by omega)]
theorem aTC(N:Nat)(hN:3 < N){n:Nat}{gl:List aJ}(h:aMa n gl)(o d:aB)(m s:Int){j:Nat}(hj:j < gl.length):∃a:aR×Bool,rO a.1/\(a.2=true->j < n)/\∀t,eF N o d m s (j:Int) (swp gl t)=some a:=by
 have key:T (eF N o d m s (j:Int) (swp gl 0)) (λa=>rO a.1/\(a.2=true->j < n)):=by
  unfold eF qO swp;refine T.eq rfl ?_;refine T.bind (T.idx (by omega) (by dsimp only;omega)) λe2 h2=>T.bind (hitT N hN _ _ _) λr3 h3=>?_;refine T.bind (P:=λr=>r=true->j < n) ?_ λp4 h4=>T.ret ⟨h3,h4⟩
  refine T.cond (λ_=>?_) (λ_=>T.ret λh=>by cases h)
  refine T.bind (T.idx (by omega) (by dsimp only;omega)) λe5 h5=>?_;rw[aP]
  refine T.cond (λhc=>T.ret λ_=>?_) (λ_=>T.ret λh=>by cases h)
  by_cases hn:j < n
  ·exact hn
  ·have:=h.2 j (by omega) e5 (by rw[bn] at h5;exact h5)
   rw[this] at hc;exfalso;have z:lE .u8 0 m=0:=by
    unfold lE;have:BitVec.ofInt IntKind.u8.bits 0 &&& BitVec.ofInt IntKind.u8.bits m=0:=by
     rw[show BitVec.ofInt IntKind.u8.bits 0=0 from rfl]
     exact BitVec.zero_and
    rw[this];rfl
   rw[z] at hc;cases hc
 obtain⟨a,e,h1,h2⟩:=key;exact⟨a,h1,h2,λt=>e⟩
theorem aS6{ι:Type}(N:Nat)(hN:4100 < N){n:Nat}{gl:List aJ}(h:aMa n gl)(o d:aB)(m s:Int)(t:ι->Int) :
  TU (λi=>iW N o d m s (swp gl (t i))) (λa:Int×aR=>a.1 < (n:Int)/\rO a.2) (λi a r=>∃t',r=(swp gl t',a)/\cZ (t i) t' (gl.length:Int)):=by
 unfold iW jH;refine TU.e (a:=false) (λi=>rfl) ?_;simp only[cond_false]
 have h4:=h.1;refine TU.bind (P:=λa:aR×Int=>a.2 < (n:Int)/\rO a.1) (S:=λi a r=>∃t',r=(swp gl t',a)/\cZ (t i) t' (gl.length:Int)) ?_ λa ha r hr=>?_
 ·refine TU.loop0 (n:=gl.length) (λj (s:aR×Int) t'=>(s.2 < (n:Int)/\rO s.1)/\∀i,cZ (t i) (t' i) (j:Int)) (F:=λi k t' (x:aR×Int) j=>dZ N (swp gl (t i)) o d m s k (swp gl t') x.1 x.2 j) (λk t' x j hj hx hk=>?_) (λk t' x hx=>?_) (by omega) (s:=(aR.mk 0 0 0 0,-1)) (h:=t) ⟨⟨by dsimp only;omega,aEh⟩,λi=>lQ _⟩
  ·obtain⟨a,a1,a2,a3⟩:=aTC N (by omega) h o d m s hj;simp only[dZ,aP]
   simp only[show ∀t,(swp gl t).gl=gl from λ_=>rfl,dt (show(j:Int) < (gl.length:Int) by omega),cond_true,a3,ae]
   refine TU.t (P:=λp:aR×aR×Int=>p.2.2 < (n:Int)/\rO p.1) ?_ λp hp=>?_
   ·refine T.bind (P:=λ_=>True) (T.cond (λ_=>T.ret trivial) (λ_=>T.bind (aRY N a1 hx.1.2) λ_ _=>T.ret trivial)) λp10 _=>?_;refine T.cond (λhc=>T.ret ⟨?_,a1⟩) (λ_=>T.ret ⟨hx.1.1,hx.1.2⟩)
    have:a.2=true:=by
     cases h2:a.2 with
     | true=>rfl
     | false=>rw[h2] at hc;cases hc
    have:=a2 this;show(j:Int) < (n:Int)
    omega
   ·rw[eZ (by omega)]
    exact hk (p.1,p.2.2) (λi=>I64 (t' i+1)) ⟨hp,λi=>aED (hx.2 i)⟩
  ·simp only[dZ,aP]
   simp only[show ∀t,(swp gl t).gl=gl from λ_=>rfl,df (show ¬(gl.length:Int) < (gl.length:Int) by omega),cond_false]
   exact TU.ret x hx.1 λi=>⟨t' i,rfl,hx.2 i⟩
 ·refine TU.ret (a.2,a.1) ha λi=>?_;obtain⟨t',e,p⟩:=hr i;rw[e]
  exact⟨t',rfl,p⟩
theorem anyU{ι:Type}(N:Nat)(hN:4100 < N){n:Nat}{gl:List aJ}(h:aMa n gl)(o d:aB)(m s:Int)(w:Bool)(t:ι->Int) :
  TU (λi=>iH N o d m s w (swp gl (t i))) (λ_:Bool=>True) (λi a r=>∃t',r=(swp gl t',a)/\cZ (t i) t' (gl.length:Int)):=by
 unfold iH jH;refine TU.e (a:=false) (λi=>rfl) ?_;simp only[cond_false]
 have h4:=h.1;refine TU.bind (P:=λa:Bool=>True) (S:=λi a r=>∃t',r=(swp gl t',a)/\cZ (t i) t' (gl.length:Int)) ?_ λa ha r hr=>?_
 ·refine TU.loop0 (n:=gl.length) (λj (s:Bool) t'=>∀i,cZ (t i) (t' i) (j:Int)) (F:=λi k t' (x:Bool) j=>dP N (swp gl (t i)) o d m s w k (swp gl t') x j) (λk t' x j hj hx hk=>?_) (λk t' x hx=>?_) (by omega) (s:=false) (h:=t) (λi=>lQ _)
  ·obtain⟨a,a1,a2,a3⟩:=aTC N (by omega) h o d m s hj;simp only[dP,aP]
   simp only[show ∀t,(swp gl t).gl=gl from λ_=>rfl,dt (show(j:Int) < (gl.length:Int) by omega),cond_true,a3,ae]
   rw[eZ (by omega)]
   refine TU.cond (λ_=>?_) (λ_=>?_)
   ·exact hk _ (λi=>I64 (t' i+1)) (λi=>aED (hx i))
   ·exact hk _ (λi=>I64 (t' i+1)) (λi=>aED (hx i))
  ·simp only[dP,aP]
   simp only[show ∀t,(swp gl t).gl=gl from λ_=>rfl,df (show ¬(gl.length:Int) < (gl.length:Int) by omega),cond_false]
   exact TU.ret x trivial λi=>⟨t' i,rfl,hx i⟩
 ·refine TU.ret a trivial λi=>?_;obtain⟨t',e,p⟩:=hr i;rw[e]
  exact⟨t',rfl,p⟩
def wlk(b:bD)(gl:List aJ)(t:Int):aM:=aM.mk b true gl t
def aAt(r:aY):Prop:=cG r.gn/\cG r.gd
theorem aGi(N:Nat){a b:aY}(ha:aAt a)(hb:aAt b):T (fU N a b) (λ_=>True):=by
 unfold fU;exact T.bind (aGe N ha.1 hb.2) λ_ _=>T.bind (aGe N hb.1 ha.2) λ_ _=>T.bind (aPY N _ _) λ_ _=>T.ret trivial
theorem aUx(N:Nat)(hN:10 < N)(lo hi o:aB){d:aB}(hd:pin d):T (yD N lo hi o d) (λr=>aAt r.1):=by
 unfold yD;have z1:aAt (aY.mk 0 1):=⟨z64,by decide,by decide⟩
 have z0:aAt (aY.mk 0 0):=⟨z64,z64⟩
 refine T.bind (T.loopG0 (n:=3) (λ_ (s:aY×aY×Bool)=>aAt s.1/\aAt s.2.1) (λo=>match o with | .inl p=>aAt p.1/\aAt p.2.1 | .inr p=>aAt p.1) (F:=λk (s:aY×aY×Bool) i=>rM N lo hi o d k s.1 s.2.1 s.2.2 i) (λk s i hi' hs hk=>?_) (λk s hs=>?_) (by omega) (s:=(aY.mk 0 1,aY.mk 0 0,false)) ⟨z1,z0⟩) λq hq=>?_
 ·rw[rM,dt (by omega),cond_true]
  refine T.bind (P:=λo=>match o with | .inl p=>aAt p.1/\aAt p.2.1 | .inr p=>aAt p.1) ?_ λq hq=>?_
  ·refine T.bind (P:=λe:Vector Int 4=>∃x,e.toList[3]? = some x/\cG x) ?_ λe7 h7=>?_
   ·have:i=0\/i=1\/i=2:=by omega
    rcases this with rfl | rfl | rfl
    ·exact⟨_,rfl,_,rfl,hd.1⟩
    ·exact⟨_,rfl,_,rfl,hd.2.1⟩
    ·exact⟨_,rfl,_,rfl,hd.2.2⟩
   obtain⟨x,ex,hx⟩:=h7;refine T.bind (T.inRO (by decide) (by decide)) λ_ _=>T.bind (T.vg (i:=0) (by decide)) λe9 _=>T.bind (T.inRO (by decide) (by decide)) λ_ _=>T.bind (T.vg (i:=2) (by decide)) λe11 _=>?_;refine T.bind (T.inRO (by decide) (by decide)) λ_ _=>T.bind (T.vg (i:=1) (by decide)) λe13 _=>T.bind (T.inRO (by decide) (by decide)) λ_ _=>T.bind (T.vg (i:=2) (by decide)) λe15 _=>?_;refine T.bind (T.inRO (by decide) (by decide)) λ_ _=>T.eq (a:=x) ex ?_;simp only[aP]
   refine T.cond (λ_=>T.ret hs.1) (λ_=>?_)
   refine T.bind (P:=λ_=>True) (T.cond (λ_=>T.ret trivial) (λ_=>T.ret trivial)) λp19 _=>?_;refine T.cond (λ_=>T.ret hs.1) (λ_=>T.cond (λ_=>T.ret hs) (λ_=>?_))
   have r1:∀a b:Int,cG b->aAt (aY.mk (I64 a) b):=λa b h=>⟨cL _,h⟩
   refine T.cond (λ_=>?_) (λ_=>?_)
   ·refine T.bind (P:=aAt) (T.bind (aGi N hs.1 (r1 _ _ (cL _))) λ_ _=>T.cond (λ_=>T.ret (r1 _ _ (cL _))) (λ_=>T.ret hs.1)) λp24 h24=>?_;refine T.bind (P:=λ_=>True) (T.cond (λ_=>T.ret trivial) (λ_=>T.bind (aGi N (r1 _ _ (cL _)) hs.2) λ_ _=>T.ret trivial)) λp26 _=>?_;exact T.cond (λ_=>T.ret ⟨h24,r1 _ _ (cL _)⟩) (λ_=>T.ret ⟨h24,hs.2⟩)
   ·refine T.bind (P:=aAt) (T.bind (aGi N hs.1 (r1 _ _ hx)) λ_ _=>T.cond (λ_=>T.ret (r1 _ _ hx)) (λ_=>T.ret hs.1)) λp24 h24=>?_;refine T.bind (P:=λ_=>True) (T.cond (λ_=>T.ret trivial) (λ_=>T.bind (aGi N (r1 _ _ hx) hs.2) λ_ _=>T.ret trivial)) λp26 _=>?_;exact T.cond (λ_=>T.ret ⟨h24,r1 _ _ hx⟩) (λ_=>T.ret ⟨h24,hs.2⟩)
  ·cases q with
   | inl p=>rw[eZ (by omega)];exact hk (_,_,_) hq
   | inr p=>exact T.ret hq
 ·rw[rM,df (by omega),cond_false];exact T.ret hs
 ·cases q with
  | inl p=>exact T.bind (P:=λ_=>True) (T.cond (λ_=>T.ret trivial) (λ_=>T.bind (aGi N hq.2 hq.1) λ_ _=>T.ret trivial)) λ_ _=>T.ret hq.1
  | inr p=>exact T.ret hq
theorem aQA(N:Nat)(hN:3 < N)(b:bD){gl:List aJ}(o d:aB)(m s:Int){j:Int}(hj:0<=j/\j < (gl.length:Int)):∃a:aR×Bool,rO a.1/\∀t,dE N o d m s j (wlk b gl t)=some a:=by
 have key:T (dE N o d m s j (wlk b gl 0)) (λa=>rO a.1):=by
  unfold dE wlk;refine T.bind (T.idx hj.1 hj.2) λe1 _=>?_;simp only[aP]
  refine T.cond (λ_=>T.ret aEh) (λ_=>?_)
  exact T.bind (T.idx hj.1 hj.2) λe1 _=>T.bind (hitT N hN _ _ _) λr h=>T.ret h
 obtain⟨a,e,h1⟩:=key;exact⟨a,h1,λt=>e⟩
def aR2(b:bD)(l:List Int):Prop:=∀x∈l,0<=x/\x < (b.gA8.length:Int)
theorem T.slcN{α:Type}{l:List α}{lo hi:Int}(h0:0<=lo)(h1:lo<=hi)(h2:hi<=(l.length:Int)):T (yN l lo hi) (λr=>r=(l.take hi.toNat).drop lo.toNat/\(∀x∈r,x∈l)/\r.length<=l.length):=by
 refine⟨_,aGE h0 h1 h2,rfl,λx hx=>List.mem_of_mem_take (List.mem_of_mem_drop hx),?_⟩
 rw[List.length_drop,bo];omega
theorem aKe{α:Type}{l:List α}{e:Int}(h0:0<=e)(h:e.toNat < l.length):idx l e=some l[e.toNat]:=by
 have:e=((e.toNat:Nat):Int):=by omega
 exact(congrArg (idx l) this).trans ((fX l e.toNat).trans (af h))
theorem aTg(k:Nat){n:aA}(hn:vin n)(d:aB):T (nC (k+70) n d) vin:=by
 unfold nC;refine T.bind (aCA (k+5) d) λr1 h1=>T.bind (aQY (k+66) hn h1) λr2 _=>T.cond (λ_=>T.ret hn) (λ_=>?_)
 exact T.eq (sG (k+67) hn ⟨by decide,by decide⟩) (T.ret (pZ _ _))
theorem pickT(N:Nat){l:List aC}(h:aH9 l)(i:Int):T (zJ N l i) (λr=>r.1.gA5.length<=260):=by
 unfold zJ;rw[aP]
 refine T.cond (λ_=>T.ret (by simp)) (λhc=>?_)
 have h0:(l.length:Int)≠0:=by simpa using hc
 have h20:=h.1;rw[aP,bE (x:=(l.length:Int) - 1) (by omega) (by omega),xV,uD]
 exact T.bind (T.idx (by omega) (by omega)) λe3 h3=>T.ret (h.2 _ (az h3))
def aST(u:Vector (Vector Int 2) 3):Prop:=∀v∈u.toList,∀x∈v.toList,0<=x/\x<=65535
theorem uvT{u:Vector (Vector Int 2) 3}(h:aST u){i j:Int}(hi:0<=i/\i < 3)(hj:0<=j/\j < 2){β:Type}{f:Int->Option β}{Q:β->Prop}(hf:∀e,cG e->T (f e) Q):T (aa (idx u.toList i) λe=>aa (idx e.toList j) f) Q:=by
 refine T.bind (T.idx hi.1 (by simp;omega)) λe he=>T.bind (T.idx hj.1 (by simp;omega)) λx hx=>hf x ?_;have:=h _ (az he) _ (az hx)
 exact⟨by omega,by omega⟩
theorem aRy(k:Nat){j:Int}(hj:0<=j/\j < 2){m:aR}(hm:rO m){u:Vector (Vector Int 2) 3}(hu:aST u):T (nE (k+5) j m u) (λ_=>True):=by
 unfold nE;rw[aP]
 refine uvT hu ⟨by decide,by decide⟩ hj λe3 h3=>T.bind (aGe _ (cL _) h3) λr4 h4=>?_;refine uvT hu ⟨by decide,by decide⟩ hj λe6 h6=>T.bind (aGe _ hm.2.2.1 h6) λr7 h7=>?_;refine uvT hu ⟨by decide,by decide⟩ hj λe9 h9=>T.bind (aGe _ hm.2.2.2 h9) λr10 h10=>?_;refine T.bind (aTG _ _ (by intro x hx;simp at hx;rcases hx with rfl | rfl | rfl;exact h4;exact h7;exact h10) (by simp) (by simp)) λr11 h11=>?_;refine T.cond (λ_=>T.ret trivial) (λ_=>T.bind (aTa (k+2) h11 hm.2.1) λr12 h12=>T.bind (aIP _ h12.1) λr13 h13=>?_)
 simp only[aP]
 exact T.cond (λ_=>T.ret trivial) (λ_=>T.cond (λ_=>T.ret trivial) (λ_=>T.ret trivial))
theorem baryT(k:Nat){m:aR}(hm:rO m){u:Vector (Vector Int 2) 3}(hu:aST u):T (zI (k+5) m u) (λ_=>True):=by
 unfold zI;refine T.bind (P:=λ_=>True) ?_ λp1 _=>?_
 ·simp only[aP]
  exact T.cond (λ_=>T.ret trivial) (λ_=>T.cond (λ_=>T.ret trivial) (λ_=>T.ret trivial))
 ·exact T.cond (λ_=>T.ret trivial) (λ_=>T.bind (aRy k ⟨by decide,by decide⟩ hm hu) λ_ _=>T.bind (aRy k ⟨by decide,by decide⟩ hm hu) λ_ _=>T.ret trivial)
theorem aTo(N:Nat)(hN:300 < N)(t:aC)(h:t.gA5.length<=260)(x y:Int):T (yR N t x y) (λ_=>True):=by
 unfold yR;refine T.bind (texT N t (by omega) (by omega) (by omega)) λr1 h1=>T.cond (λ_=>T.ret trivial) (λhc=>?_)
 have ok:=h1 (by simpa using hc)
 exact T.bind (aIq N ⟨ok.1,ok.2.1⟩ _ _) λ_ _=>T.ret trivial
theorem aTs(N:Nat)(hN:300 < N)(t:aC)(h:t.gA5.length<=260)(x y:Int):T (uM N t x y) (λr=>vin r.1):=by
 unfold uM;refine T.bind (texT N t (by omega) (by omega) (by omega)) λr1 h1=>T.cond (λ_=>T.ret ⟨z64,z64,z64⟩) (λhc=>?_)
 rw[aP,aP]
 refine T.cond (λ_=>T.ret ⟨z64,z64,z64⟩) (λ_=>?_)
 refine T.letO λx4 _=>T.letO λx5 _=>?_;simp only[aP]
 have s:∀a b:Int,T (fF N a b t x4 x5) (λ_=>True):=by
  intro a b;unfold fF;simp only[aP]
  exact T.bind (aTo N hN t h _ _) λ_ _=>T.ret trivial
 refine T.bind (s _ _) λr13 _=>T.bind (s _ _) λr14 _=>T.bind (s _ _) λr15 _=>T.bind (s _ _) λr16 _=>?_;refine T.bind (P:=λ_=>True) ?_ λp17 _=>?_
 ·refine T.loopG0 (n:=4) (λ_ _=>True) _ (F:=oA N r13 r14 r15 r16 x4 x5) (λk v i hi _ hk=>?_) (λk v _=>?_) (by omega) trivial
  ·rw[oA,dt (by omega),cond_true]
   refine T.bind (T.idx (by omega) (by simp;omega)) λe20 _=>T.bind (P:=λ_=>True) ?_ λ_ _=>by rw[eZ (by omega)];exact hk _ trivial
   refine T.loopG0 (n:=3) (λ_ _=>True) _ (F:=nY N e20 (i:Int) x4 x5) (λk v j hj _ hk=>?_) (λk v _=>?_) (by omega) trivial
   ·rw[nY,dt (by omega),cond_true]
    refine T.bind (T.inRO (by omega) (by omega)) λ_ _=>T.bind (T.vgI hj) λ_ _=>T.bind (T.inRO (by omega) (by omega)) λ_ _=>T.bind (T.vgI hj) λ_ _=>T.bind (T.inRO (by omega) (by omega)) λ_ _=>T.bind (T.vgI hi) λ_ _=>?_;rw[aP]
    refine T.bind (T.inRO (by omega) (by omega)) λ_ _=>T.bind (T.vgI hj) λ_ _=>?_;rw[eZ (by omega)]
    exact hk _ trivial
   ·rw[nY,df (by omega),cond_false];exact T.ret trivial
  ·rw[oA,df (by omega),cond_false];exact T.ret trivial
 ·refine T.bind (T.inRO (by decide) (by decide)) λ_ _=>T.bind (T.vg (i:=0) (by decide)) λ_ _=>T.bind (T.inRO (by decide) (by decide)) λ_ _=>T.bind (T.vg (i:=1) (by decide)) λ_ _=>T.bind (T.inRO (by decide) (by decide)) λ_ _=>T.bind (T.vg (i:=2) (by decide)) λ_ _=>T.ret ⟨cL _,cL _,cL _⟩
theorem aTY(k:Nat){c:Vector Int 3}(hc:∀x∈c.toList,0<=x/\x<=65535){l:List aC}(hl:aH9 l){u:Vector (Vector Int 2) 3}(hu:aST u){m:aR}(hm:rO m)(i:Int):T (oJ (k+400) c l u m i) vin:=by
 unfold oJ;refine T.bind (aTK (k+397) c (λx hx=>by have:=hc x hx;exact⟨by omega,by omega⟩) ⟨by decide,by decide⟩ (by decide)) λr1 h1=>T.bind (pickT _ hl i) λr2 h2=>T.cond (λ_=>T.ret h1) (λ_=>?_)
 refine T.bind (baryT (k+395) hm hu) λr3 _=>T.letO λx4 _=>T.letO λx5 _=>T.bind (aTs _ (by omega) _ h2 _ _) λr6 h6=>T.cond (λ_=>T.ret h1) (λ_=>?_)
 exact T.bind (aEc (k+397) _ (by intro x hx;simp at hx;rcases hx with rfl | rfl;exact h1;exact h6) (by simp) (by simp)) λr7 h7=>T.ret h7
theorem aMS(k:Nat){a b c:Int}(hb:cG b)(hc:cG c)(v:Vector Int 2):T (jV (k+3) a b c v) cG:=by
 unfold jV;refine T.bind (T.idx (by decide) (by simp)) λe1 _=>T.bind (aIK k hb (cL _) ⟨by decide,by decide⟩) λr2 h2=>T.bind (T.idx (by decide) (by simp)) λe3 _=>T.bind (aIK k hc (cL _) ⟨by decide,by decide⟩) λr4 h4=>?_;rw[aP]
 exact T.ret (cL _)
theorem aV1(k:Nat){l:aS}(h:zE l)(v:Vector Int 2):T (yP (k+3) l v) pin:=by
 unfold yP;obtain⟨_,a,b,c⟩:=h;have b':=aIk b (by decide)
 have c':=aIk c (by decide)
 refine T.cond (λ_=>T.ret (aIk a (by decide))) (λ_=>?_)
 exact T.bind (aMS k b'.1 c'.1 v) λ_ x=>T.bind (aMS k b'.2.1 c'.2.1 v) λ_ y=>T.bind (aMS k b'.2.2 c'.2.2 v) λ_ z=>T.ret ⟨x,y,z⟩
theorem absT(N:Nat){a:Int}(h:cG a):T (nM N a) cG:=by unfold nM;exact T.cond (λ_=>T.ret (cL _)) (λ_=>T.ret h)
theorem aSc(N:Nat){a:Int}(b:Int)(h:cG a):T (tD N a b) cG:=by unfold tD;exact T.cond (λ_=>T.ret (cL _)) (λ_=>T.ret h)
theorem foldT(N:Nat){a b:Int}(ha:cG a)(hb:cG b):T (aAb N a b) (λr=>cG r.1/\cG r.2):=by
 unfold aAb;exact T.bind (absT N hb) λ_ _=>T.bind (aSc N _ (cL _)) λ_ x=>T.bind (absT N ha) λ_ _=>T.bind (aSc N _ (cL _)) λ_ y=>T.ret ⟨x,y⟩
theorem aU7(N:Nat)(a:Int):T (qA N a) cG:=by unfold qA;rw[aP];exact T.ret (cL _)
theorem aTu(N:Nat)(a:Int):T (wP N a) pin:=by
 unfold wP;refine T.bind (aU7 N _) λr1 h1=>T.bind (aU7 N _) λr2 h2=>T.bind (absT N h1) λr3 _=>T.bind (absT N h2) λr4 _=>?_;rw[aP]
 refine T.bind (P:=λp=>cG p.1/\cG p.2) (T.cond (λ_=>T.bind (foldT N h1 h2) λr h=>T.ret h) (λ_=>T.ret ⟨h1,h2⟩)) λp h=>T.ret ⟨h.1,h.2,cL _⟩
theorem aOe(N:Nat)(a:Int):T (vA N a) pin:=by
 unfold vA xE;simp only[aP,ae]
 exact T.bind (aTu N _) λr h=>T.ret h
theorem aPR(k:Nat){a b:Int}(ha:cG a)(hb:cG b):T (lB (k+3) [a,b]) cG:=⟨_,aCM k ha hb,dY _⟩
theorem negT(N:Nat){a:Int}(ha:cG a):T (vT N a) cG:=⟨_,aPu N ha,dY _⟩
theorem farT(k:Nat){f:xL}(hf:pin f.gE0)(p:aB){n:aA}(hn:vin n):T (rP (k+70) f p n) (λr=>pin r.1/\cG r.2):=by
 unfold rP;refine T.bind (aCA (k+5) _) λr1 h1=>T.bind (aQY (k+66) hn h1) λr2 h2=>T.cond (λ_=>?_) (λ_=>?_)
 ·exact T.bind (negT _ h2) λ_ a=>T.bind (negT _ h2) λ_ b=>T.bind (aPR (k+67) a b) λ_ c=>T.ret ⟨⟨cL _,cL _,cL _⟩,c⟩
 ·exact T.bind (aPR (k+67) h2 h2) λ_ c=>T.ret ⟨hf,c⟩
theorem aV8(k:Nat)(f:yE)(p:aB){n:aA}(hn:vin n):T (qB (k+70) f p n) (λr=>pin r.1/\cG r.2):=by
 unfold qB;refine T.bind (aNR _ _ _) λr1 h1=>T.bind (aCA (k+5) _) λr2 h2=>T.bind (aQY (k+66) hn h2) λr3 h3=>?_;simp only[aP]
 refine T.cond (λ_=>T.ret ⟨⟨z64,z64,z64⟩,z64⟩) (λ_=>T.bind (aMr _ _ _) λr6 h6=>T.bind (aIK (k+67) h3 ⟨by decide,by decide⟩ h6) λr7 h7=>T.ret ⟨h1,h7⟩)
theorem lampT(k:Nat){l:aS}(h:zE l)(p:aB){n:aA}(hn:vin n)(v:Vector Int 2):T (qW (k+70) l p n v) (λr=>vin r.gC4):=by
 unfold qW;have v0:vin (aA.mk 0 0 0):=⟨z64,z64,z64⟩
 refine T.bind (P:=λ_=>True) (T.bind (aTW _ (by omega) l) λ_ _=>T.cond (λ_=>T.ret trivial) (λ_=>T.bind (aSL _ _ _) λ_ _=>T.ret trivial)) λp1 _=>T.cond (λ_=>T.ret v0) (λ_=>?_)
 refine T.bind (aV1 (k+67) h v) λr4 h4=>T.cond (λ_=>?_) (λ_=>?_)
 ·refine T.bind (T.idx (by decide) (by simp)) λe5 _=>T.bind (aOe _ _) λr6 h6=>T.bind (farT k (f:=xL.mk r6) h6 _ hn) λr7 h7=>T.cond (λ_=>T.ret v0) (λ_=>?_)
  exact T.bind (aLk (k+67) h) λr8 h8=>T.eq (sG (k+67) h8 h7.2) (T.ret (pZ _ _))
 ·refine T.bind (aV8 k _ _ hn) λr10 h10=>T.cond (λ_=>T.ret v0) (λ_=>?_)
  exact T.bind (aLk (k+67) h) λr8 h8=>T.eq (sG (k+67) h8 h10.2) (T.ret (pZ _ _))
def aI9(t:jT):Prop:=pin t.gF1/\vin t.gC4
theorem aPU : aI9 (jT.mk (aB.mk 0 0 0) (aA.mk 0 0 0) true):=⟨⟨z64,z64,z64⟩,z64,z64,z64⟩
theorem aSJ(k:Nat){c n:aA}(hc:vin c)(hn:vin n)(a:Int):T (qC (k+70) c n a) aI9:=by
 unfold qC;refine T.bind (aOe _ _) λr1 h1=>T.bind (aCA (k+5) _) λr2 h2=>T.bind (aQY (k+66) hn h2) λr3 h3=>?_;refine T.bind (P:=λp=>pin p.1/\cG p.2) (T.cond (λ_=>T.bind (negT _ h3) λ_ b=>T.ret ⟨⟨cL _,cL _,cL _⟩,b⟩) (λ_=>T.ret ⟨h1,h3⟩)) λp4 h4=>T.cond (λ_=>T.ret aPU) (λ_=>?_)
 exact T.bind (aPR (k+67) h4.2 h4.2) λr6 h6=>T.eq (sG (k+67) hc h6) (T.ret ⟨h4.1,pZ _ _⟩)
theorem aMH(k:Nat){n:aA}(hn:vin n)(d:aB):T (mT (k+70) n d) vin:=by
 unfold mT;exact T.bind (aCA (k+5) _) λr1 h1=>T.bind (aQY (k+66) hn h1) λr2 h2=>T.bind (aPR (k+67) h2 h2) λr3 h3=>T.eq (sG (k+67) hn h3) (T.eq (aIX _ h1 (pZ _ _)) (T.ret (aIT _ _)))
theorem aLi(k:Nat){a c:aA}(ha:vin a)(hc:vin c):T (mG (k+3) a c) aI9:=by
 unfold mG;exact T.eq (aR0 k ha) (T.cond (λ_=>T.ret aPU) (λ_=>T.ret ⟨aFF (aKh ha),hc⟩))
theorem aSI(k:Nat){m:aO}(hm:aDa m){c n:aA}(hc:vin c)(hn:vin n)(d:aB)(v:Vector Int 2):T (lP (k+70) m c n d v) aI9:=by
 unfold lP;obtain⟨_,r1,r2⟩:=hm;refine T.cond (λ_=>T.bind (T.idx (by decide) (by simp)) λe1 _=>T.bind (aSJ k hc hn _) λr h=>T.ret h) (λ_=>?_)
 refine T.cond (λ_=>?_) (λ_=>?_)
 ·refine T.eq (sQ _ ⟨by omega,by omega⟩) (T.eq (sQ _ ⟨by decide,by decide⟩) (T.eq (zC (k+67) (dY _) (dY _) (by decide)) ?_))
  refine T.bind (aMH k hn d) λr6 h6=>T.bind (T.idx (by decide) (by simp)) λe7 _=>T.bind (aOe _ _) λr8 _=>T.bind (aCA (k+5) _) λr9 h9=>T.eq (sG (k+67) h9 (dY _)) ?_;refine T.eq (aIj (k+67) h6 (pZ _ _)) (T.bind (aQY (k+66) hn (vK _ _)) λr12 _=>T.cond (λ_=>T.ret aPU) (λ_=>T.bind (aLi (k+67) (vK _ _) hc) λr h=>T.ret h))
 refine T.cond (λ_=>?_) (λ_=>?_)
 ·refine T.bind (T.idx (by decide) (by simp)) λe14 _=>T.bind (aTE _ _ _) λr15 _=>?_;rw[aP]
  exact T.cond (λ_=>T.bind (aCA (k+5) _) λr17 h17=>T.bind (aLi (k+67) h17 hc) λr h=>T.ret h) (λ_=>T.bind (aMH k hn d) λr19 h19=>T.bind (aLi (k+67) h19 hc) λr h=>T.ret h)
 ·exact T.cond (λ_=>T.bind (aMH k hn d) λr19 h19=>T.bind (aLi (k+67) h19 hc) λr h=>T.ret h) (λ_=>T.ret aPU)
theorem T.eqo{α:Type}{o:Option α}{a:α}(h:o=some a):(aa o λr=>some r)=some a:=by rw[h];rfl
theorem aRI(k:Nat){f:aA}(hf:vin f)(a:Int):T (kX (k+70) f a) (λr=>vin r.1):=by
 unfold kX xZ rE jA;refine T.eq (aNg _ hf) (T.eq rfl (T.eq rfl (T.cond (λ_=>T.ret ⟨z64,z64,z64⟩) (λ_=>?_))))
 rw[xV,uD]
 generalize hx:min (max (zR f) 268435456) 4294967296=x;have hx1:cG x/\x≠0:=by unfold cG;omega
 refine T.eq (T.eqo (zC (k+67) hf.1 hx1.1 hx1.2)) ?_;refine T.eq (T.eqo (zC (k+67) hf.2.1 hx1.1 hx1.2)) ?_;refine T.eq (T.eqo (zC (k+67) hf.2.2 hx1.1 hx1.2)) ?_;exact T.ret ⟨dY _,dY _,dY _⟩
theorem aSM(k:Nat)(c:bQ)(w h x y:Int)(v:Vector Int 4):T (xS (k+6) c w h x y v) (λr=>pin r.1/\pin r.2.1):=by
 unfold xS;have p0:pin (aB.mk 0 0 0):=⟨z64,z64,z64⟩
 refine T.bind (T.idx (by decide) (by simp)) λe1 _=>T.bind (T.idx (by decide) (by simp)) λe2 _=>?_;refine T.bind (aNw k c w h x y _) λr hr=>?_;refine T.cond (λhc=>T.ret ⟨p0,p0⟩) (λhc=>?_)
 have h0:r.2=0:=by simpa using hc
 obtain⟨hv,cam⟩:=hr;obtain⟨⟨w1,w2⟩,⟨h1,h2⟩,hl,hf,o1,o2,o3,ee1,ee2⟩:=cam h0;have eye:pin c.gA6:=by
  simp only[uD,xV] at ee1 ee2;exact⟨⟨by omega,by omega⟩,⟨by omega,by omega⟩,by omega,by omega⟩
 refine T.bind (P:=λp=>pin p.1/\vin p.2) ?_ λp hp=>?_
 ·refine T.cond (λ_=>?_) (λ_=>T.ret ⟨eye,hv⟩)
  refine T.bind (aWR k c v (aFF (aEQ o1)) (aFF (aEQ o2))) λr5 h5=>?_;simp only[aP]
  refine T.eq (sQ _ ⟨by omega,by omega⟩) ?_;refine T.eq (sQ _ ⟨by decide,by decide⟩) ?_;refine T.eq (zC (k+3) (dY _) (dY _) (by decide)) ?_;refine T.eq (sG (k+3) hv (dY _)) ?_;refine T.eq (aCS _ h5) ?_;refine T.eq (aIX _ (pZ _ _) (aCP _)) ?_;exact T.ret ⟨⟨cL _,cL _,cL _⟩,aIT _ _⟩
 ·refine T.eq (aR0 (k+3) hp.2) ?_;exact T.cond (λhc=>T.ret ⟨p0,p0⟩) (λ_=>T.ret ⟨hp.1,aFF (aKh hp.2)⟩)
theorem nk{N c:Nat}(h:c<=N):∃k,N=k+c:=⟨N - c,by omega⟩
section
variable {N:Nat} (hN:1000 < N)
include hN
theorem aPK(p:aB):T (iX N p) vin:=by obtain⟨k,rfl⟩:=nk (show 65<=N by omega);exact aCA k p
theorem aP3{n:aA}(hn:vin n)(d:aB):T (nC N n d) vin:=by obtain⟨k,rfl⟩:=nk (show 70<=N by omega);exact aTg k hn d
theorem aMt{c:Vector Int 3}(hc:∀x∈c.toList,0<=x/\x<=65535){l:List aC}(hl:aH9 l){u:Vector (Vector Int 2) 3}(hu:aST u){m:aR}(hm:rO m)(i:Int):T (oJ N c l u m i) vin:=by obtain⟨k,rfl⟩:=nk (show 400<=N by omega);exact aTY k hc hl hu hm i
theorem aSR{o d:aB}{m:aR}(ho:pin o)(hd:pin d)(hm:rO m):T (uZ N o d m) pin:=by obtain⟨k,rfl⟩:=nk (show 3<=N by omega);exact aUF k ho hd hm
theorem aPN{v:aA}(hv:vin v):T (qP N v) cG:=by obtain⟨k,rfl⟩:=nk (show 65<=N by omega);exact aPy k hv
theorem aVE{l:aS}(h:zE l)(p:aB){n:aA}(hn:vin n)(v:Vector Int 2):T (qW N l p n v) (λr=>vin r.gC4):=by obtain⟨k,rfl⟩:=nk (show 70<=N by omega);exact lampT k h p hn v
theorem aNP{m:aO}(hm:aDa m){c n:aA}(hc:vin c)(hn:vin n)(d:aB)(v:Vector Int 2):T (lP N m c n d v) aI9:=by obtain⟨k,rfl⟩:=nk (show 70<=N by omega);exact aSI k hm hc hn d v
theorem aKb{f:aA}(hf:vin f)(a:Int):T (kX N f a) (λr=>vin r.1):=by obtain⟨k,rfl⟩:=nk (show 70<=N by omega);exact aRI k hf a
theorem aLV(l:List aA)(h:∀x∈l,vin x)(hl:l.length<=10):T (kA N l) vin:=by obtain⟨k,rfl⟩:=nk (show 3<=N by omega);exact aEc k l h (by omega) (by omega)
theorem aU5{u v:aA}(hu:vin u)(hv:vin v):mC N [u,v]=some (aJq u v):=by obtain⟨k,rfl⟩:=nk (show 3<=N by omega);exact aIj k hu hv
theorem rayN(c:bQ)(w h x y:Int)(v:Vector Int 4):T (xS N c w h x y v) (λr=>pin r.1/\pin r.2.1):=by obtain⟨k,rfl⟩:=nk (show 6<=N by omega);exact aSM k c w h x y v
theorem aTP{f:aA}(hf:vin f):kA N [f,aA.mk 0 0 0]=some (aA.mk 0 0 0):=by
 obtain⟨k,rfl⟩:=nk (show 3<=N by omega)
 have h:=sG k hf z64;unfold hK at h;obtain⟨r,e,_⟩:=aEc k [f,aA.mk 0 0 0] (by intro x hx;simp at hx;rcases hx with rfl | rfl;exact hf;exact⟨z64,z64,z64⟩) (by simp) (by simp)
 rw[e] at h ⊢;have h':r=aLR f 0:=Option.some.inj h;rw[h']
 unfold aLR;simp[S64]
end
def v0 : aA:=aA.mk 0 0 0
theorem aEz : vin v0:=⟨z64,z64,z64⟩
def aIN(p:bC):Prop:=pin p.gat/\vin p.gn/\vin p.gc/\aDa p.gB2
def aE6(r:aN):Prop:=pin r.go/\pin r.gd
theorem mat0 : aDa (aO.mk 0 (#v[0,0,0]) 0):=⟨by intro x hx;simp at hx;omega,by decide,by decide⟩
section
variable {ι ρ ρ' β:Type}
def TC(A:ι->Option ρ)(P:ρ->Prop):Prop:=∃a,P a/\∀i,A i=some a
theorem TU.c{A:ι->Option ρ}{B:ι->ρ->Option ρ'}{P:ρ->Prop}{Q:β->Prop}{S:ι->β->ρ'->Prop}(h:TC A P)(hf:∀a,P a->TU (λi=>B i a) Q S):TU (λi=>aa (A i) (B i)) Q S:=by
 obtain⟨a,pa,e⟩:=h;exact TU.e e (hf a pa)
theorem TC.of{o:Option ρ}{A:ι->Option ρ}{P:ρ->Prop}(h:T o P)(e:∀i,A i=o):TC A P:=by
 obtain⟨a,rfl,pa⟩:=h;exact⟨a,pa,e⟩
theorem TC.bind{A:ι->Option ρ}{B:ι->ρ->Option ρ'}{P:ρ->Prop}{Q:ρ'->Prop}(h:TC A P)(hf:∀a,P a->TC (λi=>B i a) Q):TC (λi=>aa (A i) (B i)) Q:=by
 obtain⟨a,pa,e⟩:=h;obtain⟨b,qb,e'⟩:=hf a pa;exact⟨b,qb,λi=>by show aa (A i) (B i)=_;rw[e i];exact e' i⟩
theorem TC.t{α:Type}{o:Option α}{B:ι->α->Option ρ}{P:α->Prop}{Q:ρ->Prop}(h:T o P)(hf:∀a,P a->TC (λi=>B i a) Q):TC (λi=>aa o (B i)) Q:=by
 obtain⟨a,rfl,pa⟩:=h;exact hf a pa
theorem TC.cond{c:Bool}{A B:ι->Option ρ}{Q:ρ->Prop}(h1:c=true->TC A Q)(h2:c=false->TC B Q):TC (λi=>_root_.cond c (A i) (B i)) Q:=by
 cases c with
 | true=>exact h1 rfl
 | false=>exact h2 rfl
theorem TC.ret(a:ρ){Q:ρ->Prop}(h:Q a):TC (λ_:ι=>some a) Q:=⟨a,h,λ_=>rfl⟩
end
theorem aVJ : vin (aA.mk 4294967296 4294967296 4294967296):=⟨⟨by decide,by decide⟩,⟨by decide,by decide⟩,by decide,by decide⟩
theorem aTA{a b n m:Int}(h:cZ a b n)(e:n=m):cZ a b m:=e▸h
end Go.UK
