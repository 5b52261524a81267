/- A part of the proof: what the functions of the program compute. -/
import Derived.Test.YtghnafefpogjjaaGreatJ2
open BitVec renaming ofInt→ba
open Int renaming ediv_le_self→je,ediv_nonneg→cu,emod_lt_of_pos→cw,emod_nonneg→cz,eq_ofNat_of_zero_le→bh,le_refl→dw,mul_le_mul_of_nonneg_right→co,tdiv→bo,tdiv_eq_ediv_of_nonneg→em,toNat_natCast→bj
open List renaming Perm→gg,append_assoc→av,getElem?_append_left→c9,getElem?_append_right→ct,getElem?_eq_getElem→af,getElem?_eq_some_iff→eo,getElem?_set_ne→eh,getElem?_set_self→f7,getElem_mem→bp,getElem_of_mem→cx,getElem_set_ne→k7,getElem_set_self→jj,length_append→am,length_set→cp,length_take→bn,map_append→dc,mem_append→au,mem_cons_of_mem→fm,mem_cons_self→gu,mem_of_getElem?→b9,mem_or_eq_of_mem_set→iz,mem_singleton→ca,nil_append→ik,nodup_append→kn,perm_append_comm→gf,sum_append→il,take_length→j6,take_of_length_le→ga,take_zero→lj
open Nat renaming beq_refl→i9,le_refl→bg,one_le_two_pow→ko,pow_le_pow_right→gq,zero_le→lu
open Option renaming bind→aa,bind_some→ae
namespace Go.UK
open Go Go.Proofs
set_option maxRecDepth 20000
set_option maxHeartbeats 2000000
set_option linter.all false
theorem aQH{a:Int}(m:Nat)(hm:m < 9223372036854775808):0<=fI .i64 a (m:Int)/\fI .i64 a (m:Int)<=(m:Int):=by
 have h1:(ba 64 (m:Int)).toNat=m:=aE9 m (by omega)
 have h2:(ba 64 a &&& ba 64 (m:Int)).toNat<=m:=by
  rw[BitVec.toNat_and,h1];exact Nat.and_le_right
 have h3:fI .i64 a (m:Int)=I64 ((ba 64 a &&& ba 64 (m:Int)).toNat:Int):=rfl;rw[h3]
 generalize (ba 64 a &&& ba 64 (m:Int)).toNat=x at *;rw[bC (by omega) (by omega)]
 omega
theorem keyT(N:Nat)(hN:20 < N)(a:Int):T (wR N a) (λ_=>True):=by
 unfold wR;refine T.eq (a:=()) (by decide) ?_;refine T.bind (P:=λ_=>True) ?_ λv _=>?_
 ·unfold cpV;rw[dif_pos (by decide)]
  exact T.ret trivial
 refine T.bind (T.loop0 (n:=8) (by decide) (λ_ _=>True) (F:=oV N a) (λk s i hi _ Q hk=>?_) (λk s=>by rw[oV,df (by omega),cond_false]) (by omega) trivial) λv _=>T.ret trivial;rw[oV,dt (by omega),cond_true,show(8:Int)=((8:Nat):Int) from rfl,i4 (by omega),show(24:Int)=((24:Nat):Int) from rfl,ia (by omega)]
 refine T.eq (aBq .u64 (by omega)) ?_;refine T.bind (T.inRO (by omega) (by omega)) λ_ _=>T.bind (T.vget (by omega)) λe _=>?_;rw[dI (by omega)]
 exact hk _ trivial
theorem aPs(N:Nat)(hN:20 < N)(p:bL)(a:Int):T (iU N p a) (λ_=>True):=by
 unfold iU;refine T.bind (T.loop0 (n:=4) (by decide) (λ_ _=>True) (F:=iP N p) (λk s i hi _ Q hk=>?_) (λk s=>by rw[iP,df (by omega),cond_false]) (by omega) trivial) λv _=>?_
 ·rw[iP,dt (by omega),cond_true,show(8:Int)=((8:Nat):Int) from rfl,i4 (by omega),show(4:Int)=((4:Nat):Int) from rfl,ia (by omega)]
  refine T.eq (aBq .u32 (by omega)) ?_;refine T.eq (aBq .u32 (by omega)) ?_;refine T.bind (T.inRO (by omega) (by omega)) λ_ _=>T.bind (T.vget (by omega)) λe _=>?_;refine T.bind (T.inRO (by omega) (by omega)) λ_ _=>T.bind (T.vget (by omega)) λe _=>?_;rw[dI (by omega)]
  exact hk _ trivial
 refine T.bind (keyT N hN a) λ_ _=>T.bind (aTE N hN _ _ _) λ_ _=>T.ret trivial
theorem aM8(N:Nat)(b:Vector Int 64)(a:Int):T (oQ N b a) (λ_=>True):=by
 unfold oQ;have h:=aQH (a:=a) 15 (by decide)
 simp only[aR]
 generalize hx:fI .i64 a 15=x at *;rw[show((15:Nat):Int)=15 from rfl] at h;rw[show I64 (4*x)=4*x from bC (by omega) (by omega),show I64 (4*x+1)=4*x+1 from bC (by omega) (by omega),show I64 (4*x+2)=4*x+2 from bC (by omega) (by omega),show I64 (4*x+3)=4*x+3 from bC (by omega) (by omega)]
 refine T.bind (T.idx (by omega) (by simp;omega)) λ_ _=>T.bind (T.idx (by omega) (by simp;omega)) λ_ _=>T.bind (T.idx (by omega) (by simp;omega)) λ_ _=>T.bind (T.idx (by omega) (by simp;omega)) λ_ _=>T.ret trivial
theorem nextT(N:Nat)(hN:20 < N)(a b:Int)(s:aB):T (eF N a b s) (λ_=>True):=by
 unfold eF;refine T.cond (λ_=>T.ret trivial) (λ_=>?_)
 refine T.bind (P:=λ_=>True) ?_ λp1 _=>T.bind (aM8 N _ _) λ_ _=>T.ret trivial;refine T.bind (P:=λ_=>True) (by unfold oH;simp only[aR];exact T.ret trivial) λr2 _=>?_;refine T.bind (P:=λ_=>True) (T.cond (λ_=>T.ret trivial) (λ_=>T.ret trivial)) λp3 _=>?_;refine T.cond (λ_=>T.bind (aPs N hN _ _) λ_ _=>T.ret trivial) (λ_=>T.ret trivial)
theorem T.loopG{σ ρ:Type}{n:Nat}(I:Nat->σ->Prop)(Q:ρ->Prop){F:Nat->σ->Int->Option ρ}
  (hstep:∀k s i,i < n->I i s->(∀s',I (i+1) s'->T (F k s' ((i+1:Nat):Int)) Q)->T (F (k+1) s (i:Int)) Q) (hend:∀k s,I n s->T (F (k+1) s (n:Int)) Q) :
  ∀(k i:Nat) (s:σ),I i s->i<=n->n - i < k->T (F k s (i:Int)) Q
 | 0,i,_,_,_,h=>by omega
 | k+1,i,s,hs,hi,hk=>by
  by_cases h:i < n
  ·exact hstep k s i h hs λs' h'=>T.loopG I Q hstep hend k (i+1) s' h' (by omega) (by omega)
  ·obtain rfl:i=n:=by omega
   exact hend _ _ hs
theorem T.loopG0{σ ρ:Type}{n:Nat}(I:Nat->σ->Prop)(Q:ρ->Prop){F:Nat->σ->Int->Option ρ}
  (hstep:∀k s i,i < n->I i s->(∀s',I (i+1) s'->T (F k s' ((i+1:Nat):Int)) Q)->T (F (k+1) s (i:Int)) Q) (hend:∀k s,I n s->T (F (k+1) s (n:Int)) Q) {N:Nat} (hN:n < N) {s:σ} (hs:I 0 s):T (F N s 0) Q:=
 T.loopG I Q hstep hend N 0 s hs (by omega) (by omega)
theorem T.true{α:Type}{o:Option α}{P:α->Prop}(h:T o P):T o (λ_=>True):=h.mono λ_ _=>trivial
theorem aEA(N:Nat){a b:Int}(ha:cJ a)(hb:cJ b):T (fS N a b) wok:=by
 obtain⟨w,e,h,_⟩:=aHk N ha hb;exact⟨w,e,h⟩
theorem aMO{x y c:Int}(hx:0<=x)(hx':x < 18446744073709551616)(hy:0<=y)(hy':y < 18446744073709551616)(hc:0<=c)(hc':c<=1):T (zY x y c) (λr=>0<=r.1/\r.1 < 18446744073709551616/\0<=r.2/\r.2<=1):=by
 unfold zY;rw[dt hx,dt hy,dt hc,dt hc']
 exact⟨_,rfl,by dsimp only;omega,by dsimp only;omega,by dsimp only;omega,by dsimp only;omega⟩
theorem aPr(k:Nat){w:aS}{y:Int}(hw:wok w)(hy:cJ y):T (pW (k+3) w y) (λr=>wok r.1/\cJ r.2.1):=by
 obtain⟨⟨w1,w2⟩,w3,w4⟩:=hw;unfold pW;refine T.cond (λ_=>T.ret ⟨⟨z64,by decide,by decide⟩,z64⟩) (λhc=>?_)
 have hy0:y≠0:=by simpa using hc
 refine T.bind (P:=λp=>0<=p.1/\p.1 < 18446744073709551616/\0<=p.2/\p.2 < 18446744073709551616) ?_ λp hp=>?_
 ·refine T.cond (λ_=>?_) (λ_=>T.ret ⟨aBD _,aCj _,w3,w4⟩)
  obtain⟨h',l',e,a1,a2,a3,a4,_⟩:=aGc (k+3) (h:=U64 w.gHi) (l:=w.gLo) (aBD _) (aCj _) w3 w4;exact T.eq e (T.ret ⟨a1,a2,a3,a4⟩)
 obtain⟨p1,p2,p3,p4⟩:=hp;refine T.eq (wsz (k+3) hy) ?_;have hY:0 < (if y < 0 then -y else y)/\(if y < 0 then -y else y) < 18446744073709551616:=by obtain⟨y1,y2⟩:=hy;split <;> omega
 dsimp only;generalize (if y < 0 then -y else y)=Y at *;obtain⟨Y1,Y2⟩:=hY;refine T.eq (aJS (k+3) Y1 p1 p2) ?_;refine T.eq (aQX k Y1 Y2 (cz _ (by omega)) (cw _ Y1) p3 p4) ?_;dsimp only;have q1:0<=p.1 / Y/\p.1 / Y < 18446744073709551616:=⟨cu p1 (by omega),Int.lt_of_le_of_lt (je _ p1) p2⟩
 have m1:=cz p.1 (show Y≠0 by omega)
 have m2:=cw p.1 Y1;have q2:0<=(p.1 % Y*18446744073709551616+p.2) / Y:=cu (by omega) (by omega)
 have q3:(p.1 % Y*18446744073709551616+p.2) / Y < 18446744073709551616:=by
  rw[Int.ediv_lt_iff_lt_mul Y1]
  generalize p.1 % Y=m at *;omega
 generalize (p.1 % Y*18446744073709551616+p.2) / Y=Q at *;generalize (p.1 % Y*18446744073709551616+p.2) % Y=R at *;generalize p.1 / Y=P1 at *;refine T.bind (P:=λp=>0<=p.1/\p.1 < 18446744073709551616/\0<=p.2.1/\p.2.1 < 18446744073709551616) ?_ λp6 h6=>?_
 ·simp only[aR]
  refine T.cond (λ_=>?_) (λ_=>T.ret ⟨q1.1,q1.2,q2,q3⟩)
  refine T.bind (aMO q2 q3 (by decide) (by decide) (by decide) (by decide)) λr9 h9=>T.ret ⟨aBD _,aCj _,h9.1,h9.2.1⟩
 simp only[aR]
 refine T.bind (aSJ (k+3) _ h6.1 h6.2.1 h6.2.2.1 h6.2.2.2) λr11 h11=>?_;refine T.cond (λ_=>T.ret ⟨⟨z64,by decide,by decide⟩,z64⟩) (λ_=>?_)
 refine T.bind (P:=λ_=>True) (T.cond (λ_=>T.ret trivial) (λ_=>T.ret trivial)) λp12 _=>T.ret ⟨h11,dM _⟩
theorem aGb(k:Nat){a b y:Int}(ha:cJ a)(hb:cJ b)(hy:cJ y):T (jO (k+3) a b y) cJ:=by
 unfold jO;refine T.cond (λ_=>T.ret z64) (λ_=>?_)
 refine T.bind (aEA _ ha hb) λr1 h1=>T.bind (aPr k h1 hy) λr2 h2=>T.bind (aGh _ h2.1) λr3 h3=>?_;refine T.cond (λ_=>T.ret h3.1) (λ_=>T.cond (λ_=>T.ret ⟨by decide,by decide⟩) (λ_=>T.ret ⟨by decide,by decide⟩))
theorem wofT(N:Nat){a:Int}(ha:cJ a):T (uH N a) wok:=by
 unfold uH;obtain⟨h1,h2⟩:=ha;refine T.ret ⟨?_,aBD _,aCj _⟩
 show -9223372036854775808<=shr .i64 a 63/\shr .i64 a 63<=9223372036854775807;rw[aMG]
 omega
theorem aNi(N:Nat)(a b:aS):T (oD N a b) (λ_=>True):=by
 unfold oD;simp only[aR]
 refine T.cond (λ_=>T.ret trivial) (λ_=>T.bind (P:=λ_=>True) (T.cond (λ_=>T.ret trivial) (λ_=>T.ret trivial)) λ_ _=>T.cond (λ_=>T.ret trivial) (λ_=>T.ret trivial))
theorem aPE(N:Nat)(l:List aS)(h:∀w∈l,wok w)(hl:l.length < N)(hb:l.length < 1000000):T (vP N l) (λr=>wok r.1):=by
 unfold vP;have w0:wok (aS.mk 0 0):=⟨z64,by decide,by decide⟩
 refine T.bind (T.loopG0 (n:=l.length) (λ_ s=>wok s) (λr=>match r with | .inl s=>wok s | .inr p=>wok p.1) (F:=sD N l) (λk s i hi hs hk=>?_) (λk s hs=>?_) hl w0) λo ho=>?_
 ·rw[sD,aR,dt (by omega),cond_true,eK,af hi,ae]
  have he:=h _ (bp hi)
  refine T.bind (aMO hs.2.1 hs.2.2 he.2.1 he.2.2 (by decide) (by decide)) λr6 h6=>T.bind (aMO (aBD _) (aCj _) (aBD _) (aCj _) h6.2.2.1 h6.2.2.2) λr7 h7=>?_;simp only[aR]
  refine T.cond (λ_=>T.ret w0) (λ_=>?_)
  rw[dI (by omega)]
  exact hk _ ⟨dM _,h6.1,h6.2.1⟩
 ·rw[sD,aR,df (by omega),cond_false]
  exact T.ret hs
 ·cases o with
  | inl s=>exact T.ret ho
  | inr p=>exact T.ret ho
theorem aSL(N:Nat)(l:List Int)(h:∀x∈l,cJ x)(hl:l.length < N)(hb:l.length < 1000000):T (kF N l) cJ:=by
 unfold kF;refine T.bind (T.loopG0 (n:=l.length) (λ_ s=>cJ s) cJ (F:=nQ N l) (λk s i hi hs hk=>?_) (λk s hs=>?_) hl z64) λo ho=>T.ret ho
 ·rw[nQ,aR,dt (by omega),cond_true,eK,af hi,ae]
  refine T.eq (aHs hs (h _ (bp hi))) ?_;rw[dI (by omega)]
  exact hk _ (eH _)
 ·rw[nQ,aR,df (by omega),cond_false]
  exact T.ret hs
theorem aC7(k:Nat)(l:List aA)(h:∀x∈l,vin x)(hl:l.length < k+3)(hb:l.length < 1000000):T (iA (k+3) l) vin:=by
 unfold iA;refine T.bind (T.loopG0 (n:=l.length) (λ_ s=>vin s) vin (F:=kO (k+3) l) (λk' s i hi hs hk=>?_) (λk s hs=>?_) hl ⟨⟨by decide,by decide⟩,⟨by decide,by decide⟩,⟨by decide,by decide⟩⟩) λo ho=>T.ret ho
 ·rw[kO,aR,dt (by omega),cond_true,eK,af hi,ae]
  refine T.eq (aPK k hs (h _ (bp hi))) ?_;rw[dI (by omega)]
  exact hk _ ⟨eH _,eH _,eH _⟩
 ·rw[kO,aR,df (by omega),cond_false]
  exact T.ret hs
theorem aRe(k:Nat)(l:List aA)(h:∀x∈l,vin x)(hl:l.length < k+3)(hb:l.length < 1000):T (kC (k+3) l) vin:=by
 refine⟨_,aGn k l h hl hb,?_⟩
 have:∀(l:List aA) (a:aA),vin a->vin (l.foldl aGR a):=by
  intro l
  induction l with
  | nil=>intro a ha;exact ha
  | cons x l ih=>intro a _;exact ih _ (sL _ _)
 exact this l _ ⟨z64,z64,z64⟩
theorem aOK(k:Nat){u v:aA}(hu:vin u)(hv:vin v):T (sA (k+4) u v) cJ:=by
 unfold sA;refine T.bind (aC7 (k+1) _ (by intro x hx;simp at hx;rcases hx with rfl | rfl;exact hu;exact hv) (by simp) (by simp)) λr hr=>?_;refine T.bind (aSL _ _ (by intro x hx;simp at hx;rcases hx with rfl | rfl | rfl;exact hr.1;exact hr.2.1;exact hr.2.2) (by simp) (by simp)) λr2 h2=>T.ret h2
theorem wok0{x:Int}(h:cJ x):wok (aS.mk x 0):=⟨h,dw _,show(0:Int) < 18446744073709551616 by decide⟩
theorem wval0{x:Int}(h:0<=x):0<=oM (aS.mk x 0):=by show 0<=x*18446744073709551616+0;omega
theorem aJp(N:Nat)(a:Int):T (oF N a) (λr => -1073741824<=r/\r<=1073741824):=by
 unfold oF;simp only[aR,vQ,tB]
 exact T.ret ⟨by omega,by omega⟩
theorem aKa(k:Nat){a b:Int}(ha:cJ a)(hb:cJ b):T (kJ (k+3) a b) cJ:=by
 unfold kJ;refine T.bind (aPr k (w:=aS.mk a 0) (wok0 ha) hb) λr1 h1=>T.bind (aGh _ h1.1) λr2 h2=>T.ret h2.1
theorem aP6{a:Int}(h:-1073741824<=a/\a<=1073741824):0<=a*a/\a*a<=1152921504606846976:=by
 have h0:a*a=(a.natAbs:Int)*(a.natAbs:Int):=by rw[<- Int.natAbs_mul_self' a]
 have h1:a.natAbs<=1073741824:=by omega
 have h2:a.natAbs*a.natAbs<=1073741824*1073741824:=Nat.mul_le_mul h1 h1;rw[h0]
 constructor
 ·exact_mod_cast lu _
 ·have:((a.natAbs*a.natAbs:Nat):Int)<=((1073741824*1073741824:Nat):Int):=by exact_mod_cast h2
  rw[Int.natCast_mul] at this;exact this
theorem aAu(k:Nat)(p:aC):T (fT (k+65) p) vin:=by
 unfold fT;refine T.bind (aJp _ _) λr1 h1=>T.bind (aJp _ _) λr2 h2=>T.bind (aJp _ _) λr3 h3=>?_;simp only[aR]
 have s1:=aP6 h1;have s2:=aP6 h2;have s3:=aP6 h3;have hx:0<=I64 (I64 (I64 (r1*r1)+I64 (r2*r2))+I64 (r3*r3))/\I64 (I64 (I64 (r1*r1)+I64 (r2*r2))+I64 (r3*r3))<=9223372036854775807:=by
  generalize r1*r1=a at *;generalize r2*r2=b at *;generalize r3*r3=c at *;rw[bC (x:=a) (by omega) (by omega),bC (x:=b) (by omega) (by omega),bC (x:=c) (by omega) (by omega),bC (x:=a+b) (by omega) (by omega),bC (by omega) (by omega)]
  omega
 generalize I64 (I64 (I64 (r1*r1)+I64 (r2*r2))+I64 (r3*r3))=X at *;obtain⟨r,e,_⟩:=aSo k (w:=aS.mk X 0) (wok0 ⟨by omega,hx.2⟩) (wval0 hx.1)
 refine T.eq e ?_;refine T.cond (λ_=>T.ret ⟨z64,z64,z64⟩) (λ_=>?_)
 have c:∀{r:Int},(-1073741824<=r/\r<=1073741824)->cJ r:=λh=>⟨by omega,by omega⟩
 refine T.bind (aKa (k+62) (c h1) (dM _)) λ_ a=>T.bind (aKa (k+62) (c h2) (dM _)) λ_ b=>T.bind (aKa (k+62) (c h3) (dM _)) λ_ d=>T.ret ⟨a,b,d⟩
theorem aJ6(N:Nat){a:Int}(ha:cJ a):T (oB N a) wok:=by
 unfold oB;exact T.bind (aEA _ ha ha) λr h=>T.ret h
theorem aNp(k:Nat){v:aA}(hv:vin v):T (nN (k+65) v) cJ:=by
 unfold nN;obtain⟨a,b,c⟩:=hv;refine T.bind (aJ6 _ a) λr1 h1=>T.bind (aJ6 _ b) λr2 h2=>T.bind (aJ6 _ c) λr3 h3=>T.bind (aPE _ _ (by intro x hx;simp at hx;rcases hx with rfl | rfl | rfl;exact h1;exact h2;exact h3) (by simp) (by simp)) λr4 h4=>?_;refine T.cond (λ_=>T.ret ⟨by decide,by decide⟩) (λ_=>?_)
 simp only[aR]
 refine T.bind (P:=λ_=>True) ?_ λr5 _=>T.ret (dM _)
 by_cases h:r4.1.gHi < 0
 ·unfold sS;rw[dt h,cond_true]
  exact T.ret trivial
 ·obtain⟨r,e,_⟩:=aSo k (w:=r4.1) h4 (by obtain⟨_,q,_⟩:=h4;show 0<=r4.1.gHi*18446744073709551616+r4.1.gLo;omega)
  exact⟨_,e,trivial⟩
theorem aGy{α:Type}(l:List α)(G:α->Option Int)(P:α->Prop){F:Nat->Int->Option (Sum Unit Int)}
  (hF:∀k i,F (k+1) i=aU (decide (i < ((l.length:Int)))) λx=>cond x (aa (idx l i) λe=>aa (G e) λr=>cond (r != 0) (some (Sum.inr r)) (F k (I64 (i+1)))) (some (Sum.inl (()))))
  (hG:∀x∈l,T (G x) (λr=>r=0->P x)) {N:Nat} (hN:l.length < N) (hl:l.length < 1000000) :
  T (aa (F N 0) λo=>pD o (λ_=>some 0) (λr=>some r)) (λr=>r=0->∀x∈l,P x):=by
 refine T.bind (T.loopG0 (n:=l.length) (λi _=>∀j,(h:j < l.length)->j < i->P l[j]) (λo=>match o with | .inl _=>∀x∈l,P x | .inr r=>r≠0) (F:=λk (_:Unit) i=>F k i) (λk s i hi hs hk=>?_) (λk s hs=>?_) hN (s:=()) (λj _ h=>absurd h (by omega))) λo ho=>?_
 ·rw[hF,aR,dt (by omega),cond_true,eK,af hi,ae]
  refine T.bind (hG _ (bp hi)) λr hr=>?_;refine T.cond (λhc=>T.ret (by simpa using hc)) (λhc=>?_)
  rw[dI (by omega)]
  refine hk () λj h hj=>?_;by_cases e:j=i
  ·subst e;exact hr (by simpa using hc)
  ·exact hs j h (by omega)
 ·rw[hF,aR,df (by omega),cond_false]
  refine T.ret λx hx=>?_;obtain⟨j,h,rfl⟩:=cx hx;exact hs j h h
 ·cases o with
  | inl _=>exact T.ret λ_=>ho
  | inr r=>exact T.ret λe=>absurd e ho
theorem aQQ{α:Type}(l:List α)(G:α->Option Bool)(P:α->Prop){F:Nat->Int->Option (Sum Unit Int)}
  (hF:∀k i,F (k+1) i=aU (decide (i < ((l.length:Int)))) λx=>cond x (aa (idx l i) λe=>aa (G e) λr=>cond r (some (Sum.inr i)) (F k (I64 (i+1)))) (some (Sum.inl (()))))
  (hG:∀x∈l,T (G x) (λr=>r=false->P x)) {N:Nat} (hN:l.length < N) (hl:l.length < 1000000) :
  T (aa (F N 0) λo=>pD o (λ_=>some (-1)) (λr=>some r)) (λr=>decide (r>=0)=false->∀x∈l,P x):=by
 refine T.bind (T.loopG0 (n:=l.length) (λi _=>∀j,(h:j < l.length)->j < i->P l[j]) (λo=>match o with | .inl _=>∀x∈l,P x | .inr r=>0<=r) (F:=λk (_:Unit) i=>F k i) (λk s i hi hs hk=>?_) (λk s hs=>?_) hN (s:=()) (λj _ h=>absurd h (by omega))) λo ho=>?_
 ·rw[hF,aR,dt (by omega),cond_true,eK,af hi,ae]
  refine T.bind (hG _ (bp hi)) λr hr=>?_;refine T.cond (λhc=>T.ret (by dsimp only;omega)) (λhc=>?_)
  rw[dI (by omega)]
  refine hk () λj h hj=>?_;by_cases e:j=i
  ·subst e;exact hr hc
  ·exact hs j h (by omega)
 ·rw[hF,aR,df (by omega),cond_false]
  refine T.ret λx hx=>?_;obtain⟨j,h,rfl⟩:=cx hx;exact hs j h h
 ·cases o with
  | inl _=>exact T.ret λ_=>ho
  | inr r=>exact T.ret λe=>absurd (of_decide_eq_false e) (by simpa using ho)
def pwi(m:Int)(p:aC):Prop:=(-m<=p.gX/\p.gX<=m)/\(-m<=p.gY/\p.gY<=m) /\ -m<=p.gZ/\p.gZ<=m
theorem aD2{m:Int}{p:aC}(h:pwi m p)(hm:m<=1000000000):pin p:=by
 obtain⟨⟨a,b⟩,⟨c,d⟩,e,f⟩:=h;exact⟨⟨by omega,by omega⟩,⟨by omega,by omega⟩,by omega,by omega⟩
theorem aJV(N:Nat)(p:aC){m:Int}(hm:0<=m)(hm':m<=1000000000):T (rS N p m) (λr=>r=true↔pwi m p):=by
 unfold rS;simp only[aR,tB,vQ]
 rw[bC (by omega) (by omega)]
 unfold pwi;refine T.bind (P:=λr=>r=true↔((-m<=p.gX/\p.gX<=m)/\(-m<=p.gY/\p.gY<=m) /\ -m<=p.gZ/\p.gZ<=m)) ?_ λr h=>T.ret h;refine T.cond (λh=>T.ret ?_) (λh=>T.ret ?_)
 ·have:=of_decide_eq_true h;rw[decide_eq_true_eq]
  omega
 ·have:=of_decide_eq_false h;constructor
  ·intro h;cases h
  ·intro h;omega
theorem aLR(N:Nat)(a b:aC):T (qU N a b) (λr=>r=true->pwi 65536 a/\pwi 131072 b/\aC.eq b (aC.mk 0 0 0)=false):=by
 unfold qU;refine T.bind (P:=λr=>r=true->pwi 65536 a/\pwi 131072 b/\aC.eq b (aC.mk 0 0 0)=false) ?_ λr h=>T.ret h;refine T.bind (aJV N a (by decide) (by decide)) λr2 h2=>?_;refine T.cond (λhc=>?_) (λ_=>T.ret λh=>by cases h)
 refine T.bind (aJV N b (by decide) (by decide)) λr3 h3=>?_;refine T.cond (λhc'=>?_) (λ_=>T.ret λh=>by cases h)
 simp only[aR]
 refine T.ret λh=>⟨h2.1 hc,h3.1 hc',by simpa using h⟩
theorem aIk(N:Nat)(a b:aC):T (lO N a b) pin:=⟨_,rfl,dM _,dM _,dM _⟩
theorem aH4(N:Nat)(a b:aC):T (nR N a b) pin:=⟨_,rfl,dM _,dM _,dM _⟩
theorem aKq(N:Nat)(a b:aC):T (rW N a b) cJ:=⟨_,rfl,dM _⟩
def lZ(m:aN):Prop:=cJ m.gA3/\cJ m.gO/\cJ m.gU/\cJ m.gV
theorem yE : lZ (aN.mk 0 0 0 0):=⟨z64,z64,z64,z64⟩
theorem hit1T(N:Nat)(p:aC):T (vW N p) (λr=>r=false->pwi 65536 p):=by
 unfold vW;refine T.bind (aJV N p (by decide) (by decide)) λr h=>T.ret λe=>h.1 (by simpa using e)
theorem aS0(N:Nat)(l:List aC)(hN:l.length < N)(hl:l.length < 1000000):T (cE N l) (λr=>r=false->∀p∈l,pwi 65536 p):=by
 unfold cE dX;refine T.bind (aQQ l (vW N) (pwi 65536) (λk i=>by rw[dP]) (λp _=>hit1T N p) hN hl) λr h=>T.ret h
theorem hitT(N:Nat)(hN:3 < N)(o d:aC)(P:Vector aC 3):T (qI N o d P) (λr=>lZ r.1):=by
 unfold qI;refine T.bind (P:=λ_=>True) ?_ λp1 _=>?_
 ·refine T.bind (aLR N o d) λr2 h2=>?_;refine T.cond (λ_=>T.ret trivial) (λ_=>?_)
  refine T.bind (T.slc (by decide) (by decide) (by simp)) λs3 h3=>T.bind (aS0 N s3 (by omega) (by omega)) λr4 _=>T.ret trivial
 refine T.cond (λ_=>T.ret yE) (λ_=>?_)
 refine T.bind (T.idx (by decide) (by simp)) λe5 _=>T.bind (T.idx (by decide) (by simp)) λe6 _=>T.bind (aIk N _ _) λr7 _=>?_;refine T.bind (T.idx (by decide) (by simp)) λe8 _=>T.bind (T.idx (by decide) (by simp)) λe9 _=>T.bind (aIk N _ _) λr10 _=>?_;refine T.bind (aH4 N _ _) λr11 _=>T.bind (T.idx (by decide) (by simp)) λe12 _=>T.bind (aIk N _ _) λr13 _=>T.bind (aH4 N _ _) λr14 _=>?_;refine T.bind (aKq N _ _) λr15 h15=>T.bind (aKq N _ _) λr16 h16=>T.bind (aKq N _ _) λr17 h17=>T.bind (aKq N _ _) λr18 h18=>?_;refine T.bind (P:=lZ) (T.cond (λ_=>T.ret ⟨dM _,dM _,dM _,dM _⟩) (λ_=>T.ret ⟨h15,h16,h17,h18⟩)) λp19 h19=>?_;simp only[aR]
 exact T.cond (λ_=>T.ret yE) (λ_=>T.ret h19)
theorem aNw(N:Nat){m n:aN}(hm:lZ m)(hn:lZ n):T (rL N m n) (λ_=>True):=by
 unfold rL;simp only[aR]
 refine T.cond (λ_=>T.ret trivial) (λ_=>T.bind (aEA N hm.1 hn.2.1) λr2 _=>T.bind (aEA N hn.1 hm.2.1) λr3 _=>T.bind (aNi N _ _) λr4 _=>T.ret trivial)
theorem aSi(N:Nat)(hN:2 < N){a b:Int}(ha:cJ a)(hb:cJ b):T (yC N a b) cJ:=by
 unfold yC;refine T.bind (wofT N ha) λr1 h1=>T.bind (wofT N hb) λr2 h2=>T.bind (aPE N _ (by intro x hx;simp at hx;rcases hx with rfl | rfl;exact h1;exact h2) (by simpa using hN) (by simp)) λr3 h3=>?_;refine T.bind (wofT N ⟨by decide,by decide⟩) λr4 _=>T.bind (wofT N ⟨by decide,by decide⟩) λr5 _=>T.bind (aNi N _ _) λr6 _=>?_;refine T.cond (λ_=>T.ret ⟨by decide,by decide⟩) (λ_=>T.bind (aNi N _ _) λr7 _=>?_)
 refine T.cond (λ_=>T.ret ⟨by decide,by decide⟩) (λ_=>T.bind (aGh N h3) λr8 h8=>T.ret h8.1)
theorem aJm(k:Nat){a b:Int}{m:aN}(ha:cJ a)(hb:cJ b)(hm:lZ m):T (kP (k+3) a b m) cJ:=by
 unfold kP;refine T.cond (λ_=>T.bind (aSi _ (by omega) ha z64) λr h=>T.ret h) (λ_=>?_)
 refine T.bind (aGb k hb hm.1 hm.2.1) λr2 h2=>T.bind (aSi _ (by omega) ha h2) λr h=>T.ret h
theorem aRM(k:Nat){o d:aC}{m:aN}(ho:pin o)(hd:pin d)(hm:lZ m):T (rG (k+3) o d m) pin:=by
 unfold rG;refine T.bind (aJm k ho.1 hd.1 hm) λ_ a=>T.bind (aJm k ho.2.1 hd.2.1 hm) λ_ b=>T.bind (aJm k ho.2.2 hd.2.2 hm) λ_ c=>T.ret ⟨a,b,c⟩
def few(s:aG):Prop:=s.gE.length<=20/\s.gA6.length<=10/\s.gA2.length<=6/\s.gF.length<=5/\(∀t∈s.gA2,t.gA8.length<=260)
theorem aEu{α:Type}(l:List α)(n:Nat):(l.take n).length<=n:=by rw[bn];omega
theorem T.slcMin{α:Type}(l:List α)(n:Nat):T (xW l 0 (fN (l.length:Int) (n:Int))) (λr=>r=l.take n):=⟨_,aPS l n,rfl⟩
theorem fewT2(N:Nat)(hN:10 < N)(s:aG):T (qZ N s) (λr=>few r/\r.gA6.length<=8/\r.gA2.length<=4/\r.gR.length<=20):=by
 unfold qZ;have main:∀(m i:Nat) (a:List aD),i<=4->a.length=i->(∀t∈a,t.gA8.length<=260)->5 - i<=m->T (nF N s m a (i:Int)) (λr=>r.length<=4/\∀t∈r,t.gA8.length<=260):=by
  intro m
  induction m with
  | zero=>intro i a h1 _ _ h;omega
  | succ m ih=>
   intro i a h1 h2 h3 h4;rw[nF]
   simp only[aR]
   refine T.cond (λhc=>?_) (λ_=>T.ret ⟨by omega,h3⟩)
   have hc1:(i:Int) < (s.gA2.length:Int)/\(i:Int) < 4:=by
    by_cases h:(i:Int) < (s.gA2.length:Int)
    ·rw[dt h,cond_true] at hc;exact⟨h,of_decide_eq_true hc⟩
    ·rw[df h,cond_false] at hc;cases hc
   refine T.bind (T.idx (by omega) hc1.1) λe6 _=>?_;refine T.bind (T.slcMin e6.gA8 260) λs8 h8=>?_;refine T.eq (hJ (by simp;omega)) ?_;rw[dI (by omega)]
   refine ih (i+1) _ (by omega) (by simp;omega) ?_ (by omega)
   intro t ht;rw[au,ca] at ht;rcases ht with ht | rfl
   ·exact h3 t ht
   ·rw[h8];exact aEu _ _
 refine T.bind (main N 0 [] (by decide) rfl (λt h=>absurd h (by simp)) (by omega)) λp1 h1=>?_;simp only[aR]
 refine T.bind (T.slcMin s.gE 20) λs11 h11=>T.bind (T.slcMin s.gA6 8) λs13 h13=>T.bind (T.slcMin s.gF 5) λs15 h15=>T.bind (T.slcMin s.gR 20) λs17 h17=>T.bind (T.slcMin s.gB0 20) λs19 _=>?_;have m8:s13.length<=8:=by rw[h13];exact aEu _ _
 refine T.ret ⟨⟨?_,Nat.le_trans m8 (by decide),by have:=h1.1;show p1.length<=6;omega,?_,h1.2⟩,m8,h1.1,by show s17.length<=20;rw[h17];exact aEu _ _⟩
 ·show s11.length<=20;rw[h11];exact aEu _ _
 ·show s15.length<=5;rw[h15];exact aEu _ _
def aN1(s:aG)(t:aH):Prop:=(0<=t.gD0/\t.gD0 < (s.gA6.length:Int))/\t.gB3 < (s.gA2.length:Int)/\(∀v∈t.gUv.toList,∀x∈v.toList,0<=x/\x<=65535)/\∀p∈t.gP.toList,pwi 65536 p
theorem v2mem{α:Type}{v:Vector α 2}{P:α->Prop}(h0:∀x,v.toList[0]? = some x->P x)(h1:∀x,v.toList[1]? = some x->P x):∀x∈v.toList,P x:=by
 intro x hx;obtain⟨j,h,rfl⟩:=cx hx;have h':j < 2:=by simpa using h
 match j,h' with
 | 0,_=>exact h0 _ (af h)
 | 1,_=>exact h1 _ (af h)
theorem aSv{α:Type}{v:Vector α 3}{P:α->Prop}(h0:∀x,v.toList[0]? = some x->P x)(h1:∀x,v.toList[1]? = some x->P x)(h2:∀x,v.toList[2]? = some x->P x):∀x∈v.toList,P x:=by
 intro x hx;obtain⟨j,h,rfl⟩:=cx hx;have h':j < 3:=by simpa using h
 match j,h' with
 | 0,_=>exact h0 _ (af h)
 | 1,_=>exact h1 _ (af h)
 | 2,_=>exact h2 _ (af h)
theorem T.vg{α:Type}{m:Nat}{v:Vector α m}{i:Nat}(h:i < m):T (v.toList[i]?) (λx=>v.toList[i]? = some x):=⟨_,Go.UK.aBN v i h,Go.UK.aBN v i h⟩
theorem T.vgI{α:Type}{m:Nat}{v:Vector α m}{i:Nat}(h:i < m):T (v.toList[(i:Int).toNat]?) (λx=>v.toList[i]? = some x):=T.vg h
theorem cW{α:Type}{o:Option α}{a b:α}(h:o=some a)(h':o=some b):a=b:=by rw[h] at h';exact Option.some.inj h'
theorem triT(N:Nat)(hN:10 < N)(s:aG)(t:aH):T (lW N s t) (λr=>r=0->aN1 s t):=by
 unfold lW;simp only[aR]
 refine T.cond (λ_=>T.ret λh=>by cases h) (λhc=>?_)
 have c1:(0<=t.gD0/\t.gD0 < (s.gA6.length:Int))/\t.gB3 < (s.gA2.length:Int):=by
  have o:∀{a:Prop} [Decidable a] {b:Bool},cond b true (decide a)=false->b=false/\¬a:=by
   intro a _ b h;cases b with
   | true=>cases h
   | false=>exact⟨rfl,of_decide_eq_false h⟩
  obtain⟨hc,_⟩:=o hc;obtain⟨hc,_⟩:=o hc;obtain⟨hc,h4⟩:=o hc;obtain⟨hc,_⟩:=o hc;obtain⟨hc,h2⟩:=o hc;exact⟨⟨by have:=of_decide_eq_false hc;omega,by omega⟩,by omega⟩
 refine T.bind (T.loopG0 (n:=3) (λi _=>∀j,(h:j < 3)->j < i->∀x∈t.gUv[j].toList,0<=x/\x<=65535) (λo=>match o with | .inl _=>∀v∈t.gUv.toList,∀x∈v.toList,0<=x/\x<=65535 | .inr r=>r≠0) (F:=λk (_:Unit) i=>kX N t k i) (λk _ i hi hs hk=>?_) (λk _ hs=>?_) (by omega) (s:=()) (λj _ h=>absurd h (by omega))) λo ho=>?_
 ·rw[kX,dt (by omega),cond_true]
  refine T.bind (T.idx (by omega) (by simp;omega)) λe10 h10=>?_;have e10e:e10=t.gUv[i]:=cW h10 (by rw[bj];exact aBN _ _ hi)
  refine T.bind (P:=λr=>r=false->∀x∈e10.toList,0<=x/\x<=65535) ?_ λp11 h11=>?_
  ·refine T.bind (T.inRO (by decide) (by decide)) λ_ _=>T.bind (T.vg (i:=0) (by decide)) λa ha=>T.bind (T.inRO (by decide) (by decide)) λ_ _=>T.bind (T.vg (i:=1) (by decide)) λb hb=>?_;simp only[aR,vQ,tB]
   refine T.cond (λ_=>T.ret λh=>by cases h) (λh1=>?_)
   refine T.bind (T.inRO (by decide) (by decide)) λ_ _=>T.bind (T.vg (i:=0) (by decide)) λa' ha'=>T.bind (T.inRO (by decide) (by decide)) λ_ _=>T.bind (T.vg (i:=1) (by decide)) λb' hb'=>?_;refine T.ret λh2=>?_;obtain rfl:=cW ha ha';obtain rfl:=cW hb hb';have h1:=of_decide_eq_false h1;have h2:=of_decide_eq_false h2;exact v2mem (λx hx=>by obtain rfl:=cW ha hx;omega) (λx hx=>by obtain rfl:=cW hb hx;omega)
  refine T.cond (λ_=>T.ret (λh=>by cases h)) (λhc=>?_)
  rw[dI (by omega)]
  refine hk () λj h hj=>?_;by_cases e:j=i
  ·subst e;rw[<- e10e];exact h11 hc
  ·exact hs j h (by omega)
 ·rw[kX,df (by omega),cond_false]
  refine T.ret λv hv=>?_;obtain⟨j,h,rfl⟩:=cx hv;have h':j < 3:=by simpa using h
  have:=hs j h' h';simpa using this
 cases o with
 | inr r=>exact T.ret λe=>absurd e ho
 | inl _=>
 refine T.bind (T.loopG0 (n:=3) (λi _=>∀j,(h:j < 3)->j < i->pwi 65536 t.gP[j]) (λo=>match o with | .inl _=>∀v∈t.gP.toList,pwi 65536 v | .inr r=>r≠0) (F:=λk (_:Unit) i=>kY N t k i) (λk _ i hi hs hk=>?_) (λk _ hs=>?_) (by omega) (s:=()) (λj _ h=>absurd h (by omega))) λo' ho'=>?_
 ·rw[kY,dt (by omega),cond_true]
  refine T.bind (T.idx (by omega) (by simp;omega)) λe10 h10=>?_;have e10e:e10=t.gP[i]:=cW h10 (by rw[bj];exact aBN _ _ hi)
  refine T.bind (aLR N _ _) λr hr=>?_;refine T.cond (λ_=>T.ret (λh=>by cases h)) (λhc=>?_)
  rw[dI (by omega)]
  refine hk () λj h hj=>?_;by_cases e:j=i
  ·subst e;rw[<- e10e];exact(hr (by simpa using hc)).1
  ·exact hs j h (by omega)
 ·rw[kY,df (by omega),cond_false]
  refine T.ret λv hv=>?_;obtain⟨j,h,rfl⟩:=cx hv;have h':j < 3:=by simpa using h
  have:=hs j h' h';simpa using this
 cases o' with
 | inr r=>exact T.ret λe=>absurd e ho'
 | inl _=>exact T.ret λ_=>⟨c1.1,c1.2,ho,ho'⟩
theorem aPu(N:Nat)(hN:30 < N)(s:aG)(h:few s):T (dU N s.gE s) (λr=>r=0->∀t∈s.gE,aN1 s t):=by
 unfold dU;have h1:=h.1;refine aGy s.gE (λt=>jW N t s) (aN1 s) (λk i=>by rw[eT]) (λt _=>?_) (by omega) (by omega)
 unfold jW;exact T.bind (triT N (by omega) s t) λr h=>T.ret h
theorem aEW(N:Nat)(m:Int)(l:List Int)(hN:l.length < N)(hl:l.length < 1000000):T (kZ N m l) (λr=>r=false->∀x∈l,0<=x/\x<=m):=by
 unfold kZ eR fK;refine T.bind (P:=λr=>r=false->∀x∈l,0<=x/\x<=m) ?_ λr h=>T.ret h;refine T.bind (aQQ l (λe=>mK N e m) (λx=>0<=x/\x<=m) (λk i=>by rw[eS]) (λx _=>?_) hN hl) λr h=>T.ret h;unfold mK;simp only[aR]
 refine T.ret λh=>?_;by_cases h1:x < 0
 ·rw[dt h1,cond_true] at h;cases h
 ·rw[df h1,cond_false] at h;have:=of_decide_eq_false h;omega
def aBS(m:aP):Prop:=(∀x∈m.gB5.toList,0<=x/\x<=65535)/\0<=m.gD8/\m.gD8<=65535
theorem matT(N:Nat)(hN:10 < N)(m:aP):T (nX N m) (λr=>r=0->aBS m):=by
 unfold nX;refine T.bind (P:=λr=>r=false->aBS m) ?_ λp1 h1=>T.cond (λ_=>T.ret λh=>by cases h) (λhc=>T.ret λ_=>h1 hc)
 refine T.bind (aEW N 4 _ (by simp;omega) (by simp)) λr2 _=>?_;refine T.cond (λ_=>T.ret λh=>by cases h) (λ_=>?_)
 refine T.bind (T.idx (by decide) (by simp)) λa ha=>T.bind (T.idx (by decide) (by simp)) λb hb=>T.bind (T.idx (by decide) (by simp)) λc hc=>?_;refine T.bind (aEW N 65535 _ (by simp;omega) (by simp)) λr6 h6=>T.ret λe=>?_;have h:=h6 e;refine⟨aSv (λx hx=>?_) (λx hx=>?_) (λx hx=>?_),h _ (by simp)⟩
 ·obtain rfl:=cW ha hx;exact h _ (by simp)
 ·obtain rfl:=cW hb hx;exact h _ (by simp)
 ·obtain rfl:=cW hc hx;exact h _ (by simp)
theorem aQ9(N:Nat)(hN:30 < N)(s:aG)(h:few s):T (eD N s.gA6) (λr=>r=0->∀t∈s.gA6,aBS t):=by
 unfold eD;have h1:=h.2.1;exact aGy s.gA6 (nX N) aBS (λk i=>by rw[eX]) (λt _=>matT N (by omega) t) (by omega) (by omega)
def aNd(t:aD):Prop:=(t.gI=1\/t.gI=2\/t.gI=4\/t.gI=8\/t.gI=16)/\(t.gA8.length:Int)=t.gI*t.gI/\∀v∈t.gA8,∀x∈v.toList,0<=x/\x<=255
theorem aOU(N:Nat)(l:List Int)(a:Int)(hN:l.length < N)(hl:l.length < 1000000):T (jD N l a) (λr=>r=true->a∈l):=by
 unfold jD nK;refine T.bind (P:=λr=>0<=r->a∈l) ?_ λr h=>T.ret λe=>h (of_decide_eq_true e)
 refine T.bind (T.loopG0 (n:=l.length) (λ_ _=>True) (λo=>match o with | .inl _=>True | .inr r=>a∈l) (F:=λk (_:Unit) i=>fQ N l a k i) (λk _ i hi hs hk=>?_) (λk _ hs=>?_) hN (s:=()) trivial) λo ho=>?_
 ·rw[fQ,aR,dt (by omega),cond_true,eK,af hi,ae]
  refine T.cond (λhc=>T.ret ?_) (λ_=>?_)
  ·have e:a=l[i]:=by simpa using hc
   show a∈l;rw[e];exact bp hi
  ·rw[dI (by omega)];exact hk () trivial
 ·rw[fQ,aR,df (by omega),cond_false];exact T.ret trivial
 ·cases o with
  | inl _=>exact T.ret λh=>absurd h (by decide)
  | inr r=>exact T.ret λ_=>ho
theorem texT(N:Nat)(t:aD)(hN:t.gA8.length < N)(hN':10 < N)(hl:t.gA8.length < 1000000):T (jT N t) (λr=>r=0->aNd t):=by
 unfold jT;refine T.bind (aOU N _ _ (by simp;omega) (by simp)) λr1 h1=>?_;simp only[aR]
 refine T.cond (λ_=>T.ret λh=>by cases h) (λhc=>?_)
 have c:t.gI∈[1,2,4,8,16]/\(t.gA8.length:Int)=I64 (t.gI*t.gI):=by
  cases r1 with
  | false=>cases hc
  | true=>exact⟨h1 rfl,by simpa using hc⟩
 have c1:t.gI=1\/t.gI=2\/t.gI=4\/t.gI=8\/t.gI=16:=by simpa using c.1
 have c2:(t.gA8.length:Int)=t.gI*t.gI:=by
  rw[c.2];rcases c1 with h | h | h | h | h <;> rw[h] <;> decide
 refine T.bind (T.loopG0 (n:=t.gA8.length) (λi _=>∀j,(h:j < t.gA8.length)->j < i->∀x∈t.gA8[j].toList,0<=x/\x<=255) (λo=>match o with | .inl _=>∀v∈t.gA8,∀x∈v.toList,0<=x/\x<=255 | .inr r=>r≠0) (F:=λk (_:Unit) i=>lS N (t.gA8.length:Int) t k i) (λk _ i hi hs hk=>?_) (λk _ hs=>?_) hN (s:=()) (λj _ h=>absurd h (by omega))) λo ho=>?_
 ·rw[lS,dt (by omega),cond_true,eK,af hi,ae]
  refine T.bind (P:=λr=>r=false->∀x∈(t.gA8[i]).toList,0<=x/\x<=255) ?_ λp11 h11=>?_
  ·refine T.bind (T.inRO (by decide) (by decide)) λ_ _=>T.bind (T.vg (i:=0) (by decide)) λa ha=>T.bind (T.inRO (by decide) (by decide)) λ_ _=>T.bind (T.vg (i:=1) (by decide)) λb hb=>T.bind (T.inRO (by decide) (by decide)) λ_ _=>T.bind (T.vg (i:=2) (by decide)) λd hd=>?_;simp only[aR,vQ,tB]
   refine T.cond (λ_=>T.ret λh=>by cases h) (λh1=>?_)
   refine T.bind (T.inRO (by decide) (by decide)) λ_ _=>T.bind (T.vg (i:=0) (by decide)) λa' ha'=>T.bind (T.inRO (by decide) (by decide)) λ_ _=>T.bind (T.vg (i:=1) (by decide)) λb' hb'=>T.bind (T.inRO (by decide) (by decide)) λ_ _=>T.bind (T.vg (i:=2) (by decide)) λd' hd'=>?_;refine T.ret λh2=>?_;obtain rfl:=cW ha ha';obtain rfl:=cW hb hb';obtain rfl:=cW hd hd';have h1:=of_decide_eq_false h1;have h2:=of_decide_eq_false h2;exact aSv (λx hx=>by obtain rfl:=cW ha hx;omega) (λx hx=>by obtain rfl:=cW hb hx;omega) (λx hx=>by obtain rfl:=cW hd hx;omega)
  refine T.cond (λ_=>T.ret (λh=>by cases h)) (λhc=>?_)
  rw[dI (by omega)]
  refine hk () λj h hj=>?_;by_cases e:j=i
  ·subst e;exact h11 hc
  ·exact hs j h (by omega)
 ·rw[lS,df (by omega),cond_false]
  refine T.ret λv hv=>?_;obtain⟨j,h,rfl⟩:=cx hv;exact hs j h h
 cases o with
 | inr r=>exact T.ret λe=>absurd e ho
 | inl _=>exact T.ret λ_=>⟨c1,c2,ho⟩
theorem aRB(N:Nat)(hN:300 < N)(s:aG)(h:few s):T (fH N s.gA2) (λr=>r=0->∀t∈s.gA2,aNd t):=by
 unfold fH;have h1:=h.2.2.1;exact aGy s.gA2 (jT N) aNd (λk i=>by rw[fW]) (λt ht=>texT N t (by have:=h.2.2.2.2 t ht;omega) (by omega) (by have:=h.2.2.2.2 t ht;omega)) (by omega) (by omega)
def wH(l:aQ):Prop:=(∀x∈l.gB5.toList,0<=x/\x<=1048576)/\pwi 4096 l.gAt/\pwi 4096 l.gU/\pwi 4096 l.gV
theorem aKg(N:Nat)(p:aC):T (nD N p) (λr=>r=false->pwi 4096 p):=by
 unfold nD pwi;simp only[aR,tB,vQ]
 refine T.bind (P:=λr=>r=false->(-4096<=p.gX/\p.gX<=4096)/\(-4096<=p.gY/\p.gY<=4096) /\ -4096<=p.gZ/\p.gZ<=4096) ?_ λr h=>T.ret h;refine T.cond (λ_=>T.ret λh=>by cases h) (λh=>T.ret λh2=>?_)
 have h:=of_decide_eq_false h;have h2:=of_decide_eq_false h2;omega
theorem aQt(N:Nat)(hN:10 < N)(l:aQ):T (pU N l) (λr=>r=0->wH l):=by
 unfold pU;refine T.bind (P:=λr=>r=false->∀x∈l.gB5.toList,0<=x/\x<=1048576) ?_ λp1 h1=>?_
 ·refine T.bind (aEW N 2 _ (by simp;omega) (by simp)) λr2 _=>?_;refine T.cond (λ_=>T.ret λh=>by cases h) (λ_=>?_)
  refine T.bind (T.slc (by decide) (by decide) (by simp)) λs3 h3=>T.bind (aEW N _ s3 (by omega) (by omega)) λr4 h4=>T.ret λe=>?_;have hs:s3=l.gB5.toList:=by rw[h3.1];exact ga (show l.gB5.toList.length<=3 by simp)
  rw[<- hs];exact h4 e
 refine T.cond (λ_=>T.ret λh=>by cases h) (λhc=>?_)
 refine T.bind (P:=λr=>r=false->pwi 4096 l.gAt/\pwi 4096 l.gU/\pwi 4096 l.gV) ?_ λp5 h5=>?_
 ·refine T.bind (aKg N _) λr6 h6=>T.cond (λ_=>T.ret λh=>by cases h) (λc6=>?_)
  refine T.bind (aKg N _) λr7 h7=>T.cond (λ_=>T.ret λh=>by cases h) (λc7=>?_)
  exact T.bind (aKg N _) λr8 h8=>T.ret λc8=>⟨h6 c6,h7 c7,h8 c8⟩
 refine T.cond (λ_=>T.ret λh=>by cases h) (λhc5=>?_)
 have ok:wH l:=⟨h1 hc,h5 hc5⟩
 simp only[aR]
 refine T.bind (P:=λ_=>True) ?_ λo _=>?_
 ·refine T.cond (λ_=>T.cond (λ_=>T.ret trivial) (λ_=>?_)) (λ_=>T.cond (λ_=>?_) (λ_=>T.ret trivial))
  ·exact T.bind (P:=λ_=>True) (T.cond (λ_=>T.ret trivial) (λ_=>T.ret trivial)) λ_ _=>T.cond (λ_=>T.ret trivial) (λ_=>T.ret trivial)
  ·exact T.bind (P:=λ_=>True) (T.cond (λ_=>T.ret trivial) (λ_=>T.ret trivial)) λ_ _=>T.cond (λ_=>T.ret trivial) (λ_=>T.ret trivial)
 ·cases o with
  | inl _=>exact T.ret λ_=>ok
  | inr r=>exact T.ret λ_=>ok
theorem aMd(N:Nat)(hN:30 < N)(s:aG)(h:few s):T (fO N s.gF) (λr=>r=0->∀t∈s.gF,wH t):=by
 unfold fO;have h1:=h.2.2.2.1;exact aGy s.gF (pU N) wH (λk i=>by rw[iL]) (λt _=>aQt N (by omega) t) (by omega) (by omega)
structure aR2(s:aG):Prop where
 few:few s
 tri:∀t∈s.gE,aN1 s t
 mat:∀t∈s.gA6,aBS t
 tex:∀t∈s.gA2,aNd t
 light:∀t∈s.gF,wH t
theorem aTg(N:Nat)(hN:300 < N)(s:aG)(h:few s):T (jQ N s) (λr=>r=0->aR2 s):=by
 unfold jQ;simp only[aR]
 refine T.cond (λ_=>T.ret λh=>by cases h) (λ_=>?_)
 have nz:∀{r:Int} {P:Prop},(r != 0)=true->(r=0->P):=λh e=>by rw[e] at h;cases h
 refine T.bind (aPu N (by omega) s h) λr3 h3=>T.cond (λc=>T.ret (nz c)) (λc3=>?_)
 refine T.bind (aQ9 N (by omega) s h) λr4 h4=>T.cond (λc=>T.ret (nz c)) (λc4=>?_)
 refine T.bind (aRB N (by omega) s h) λr5 h5=>T.cond (λc=>T.ret (nz c)) (λc5=>?_)
 refine T.bind (aMd N (by omega) s h) λr6 h6=>T.ret λe=>?_;exact⟨h,h3 (by simpa using c3),h4 (by simpa using c4),h5 (by simpa using c5),h6 e⟩
def aHX(v:aI):Prop:=aNL v.gC9 v.gW v.gH/\(1<=v.gB1/\v.gB1<=16)/\(0<=v.gK/\v.gK<=8)/\0<=v.gL/\v.gL<=2
theorem mayVT(N:Nat)(v:aI):T (nV N v) (λr=>r=0->aHX v):=by
 unfold nV;refine T.bind (aG8 N _ _ _) λr1 h1=>?_;refine T.cond (λc=>T.ret λe=>by rw[e] at c;cases c) (λc=>?_)
 simp only[aR]
 refine T.cond (λ_=>T.ret λh=>by cases h) (λhc=>T.ret λ_=>?_)
 have o:∀{a:Prop} [Decidable a] {b:Bool},cond b true (decide a)=false->b=false/\¬a:=by
  intro a _ b h;cases b with
  | true=>cases h
  | false=>exact⟨rfl,of_decide_eq_false h⟩
 obtain⟨hc,c6⟩:=o hc;obtain⟨hc,c5⟩:=o hc;obtain⟨hc,c4⟩:=o hc;obtain⟨hc,c3⟩:=o hc;obtain⟨hc,c2⟩:=o hc;have c1:=of_decide_eq_false hc;exact⟨h1 (by simpa using c),by omega,by omega,by omega,by omega⟩
def cV(c:Int):Int×Int:=cond (c==0) (16,4) (cond (c==1) (64,4) (cond (c==2) (256,8) (0,0)))
theorem aGz(N:Nat)(c:Int):iV N c=some (cV c):=by
 unfold iV cV;cases (c==0) <;> cases (c==1) <;> cases (c==2) <;> rfl
theorem aUb(N:Nat)(c:Int):T (iV N c) (λr=>r=cV c):=⟨_,aGz N c,rfl⟩
def fits(s:aG)(c:Int):Prop:=(s.gE.length:Int)<=(cV c).1/\(s.gF.length:Int)<=(cV c).2
theorem aSa(N:Nat)(s:aG)(c:Int):T (oE N s c) (λr=>r=0->fits s c):=by
 unfold oE;refine T.eq (aGz N c) ?_;simp only[aR]
 refine T.cond (λ_=>T.ret λh=>by cases h) (λhc=>T.ret λ_=>?_)
 by_cases h:(s.gE.length:Int) > (cV c).1
 ·rw[dt h,cond_true] at hc;cases hc
 ·rw[df h,cond_false] at hc;have:=of_decide_eq_false hc;exact⟨by omega,by omega⟩
theorem aJ7(k:Nat){a b:Int}(ha:cJ a)(hb:cJ b)(h0:S64 (b*4294967296)≠0):T (jX (k+3) a b) cJ:=by
 unfold jX;refine T.eq (rP _ ha) (T.eq (rP _ hb) (T.eq (wQ k (eH _) (eH _) h0) (T.ret (eH _))))
theorem aQs(k:Nat)(c:Vector Int 3){b:Int}(hc:∀x∈c.toList,cJ x)(hb:cJ b)(h0:S64 (b*4294967296)≠0):T (sE (k+3) c b) vin:=by
 unfold sE;refine T.bind (T.idx (by decide) (by simp)) λe1 h1=>T.bind (aJ7 k (hc _ (b9 h1)) hb h0) λr2 a=>?_;refine T.bind (T.idx (by decide) (by simp)) λe3 h3=>T.bind (aJ7 k (hc _ (b9 h3)) hb h0) λr4 b=>?_;refine T.bind (T.idx (by decide) (by simp)) λe5 h5=>T.bind (aJ7 k (hc _ (b9 h5)) hb h0) λr6 d=>T.ret ⟨a,b,d⟩
theorem aJ5(k:Nat){l:aQ}(h:wH l):T (pS (k+3) l) vin:=by
 unfold pS;exact T.bind (aQs k _ (λx hx=>by have:=h.1 x hx;exact⟨by omega,by omega⟩) ⟨by decide,by decide⟩ (by decide)) λr h=>T.ret h
theorem skyT(k:Nat)(hk:10 < k)(l:List aQ)(h:∀x∈l,wH x)(hl:l.length<=5):T (yD (k+3) l) (λr=>vin r/\(l=[]->r=aA.mk 0 0 0)):=by
 unfold yD;refine T.bind (T.loopG0 (n:=l.length) (λi s=>s.length<=i/\∀v∈s,vin v) (λr=>r.length<=l.length/\∀v∈r,vin v) (F:=sH (k+3) l) (λk' s i hi hs hk'=>?_) (λk' s hs=>?_) (by omega) (s:=[]) ⟨by simp,λv h=>absurd h (by simp)⟩) λr hr=>?_
 ·rw[sH,aR,dt (by omega),cond_true]
  refine T.bind (P:=λp=>p.1.length<=i+1/\∀v∈p.1,vin v) ?_ λp5 h5=>?_
  ·rw[eK,af hi,ae]
   refine T.cond (λ_=>?_) (λ_=>T.ret ⟨by dsimp only;omega,hs.2⟩)
   refine T.bind (aJ5 k (h _ (bp hi))) λr7 h7=>T.eq (hJ (by simp;omega)) (T.ret ⟨by simp;omega,?_⟩)
   intro v hv;rw[au,ca] at hv;rcases hv with hv | rfl
   ·exact hs.2 v hv
   ·exact h7
  ·rw[dI (by omega)];exact hk' _ h5
 ·rw[sH,aR,df (by omega),cond_false];exact T.ret hs
 ·refine T.eq (aGn k r hr.2 (by omega) (by omega)) (T.ret ⟨?_,λh=>?_⟩)
  ·obtain⟨x,e,hx⟩:=aRe k r hr.2 (by omega) (by omega)
   rw[aGn k r hr.2 (by omega) (by omega)] at e;cases e;exact hx
  ·subst h;have:r=[]:=List.eq_nil_of_length_eq_zero (by have:=hr.1;simpa using this)
   subst this;rfl
def aLT(t:aD):Prop:=(t.gI=1\/t.gI=2\/t.gI=4\/t.gI=8\/t.gI=16)/\(t.gA8.length:Int)=t.gI*t.gI
theorem aHf(N:Nat){t:aD}(h:aLT t)(x y:Int):T (nP N t x y) (λ_=>True):=by
 obtain⟨h1,h2⟩:=h;unfold nP;simp only[aR]
 have b:∀(a:Int) (m:Nat),t.gI=(m:Int)+1->m < 100->0<=fI .i64 a (I64 (t.gI - 1))/\fI .i64 a (I64 (t.gI - 1))<=(m:Int):=by
  intro a m h hm;rw[h,show I64 ((m:Int)+1 - 1)=(m:Int) by rw[bC (by omega) (by omega)];omega]
  exact aQH m (by omega)
 have key:∀m:Nat,t.gI=(m:Int)+1->m < 100->T (aa (idx t.gA8 (I64 (I64 (fI .i64 y (I64 (t.gI - 1))*t.gI)+fI .i64 x (I64 (t.gI - 1))))) λe4=>some e4) (λ_=>True):=by
  intro m hm hb;have bx:=b x m hm hb;have by':=b y m hm hb
  generalize fI .i64 x (I64 (t.gI - 1))=X at *;generalize fI .i64 y (I64 (t.gI - 1))=Y at *;rw[hm] at h2 ⊢;have n1:0<=Y*((m:Int)+1):=Int.mul_nonneg by'.1 (by omega)
  have n2:Y*((m:Int)+1)<=(m:Int)*((m:Int)+1):=co by'.2 (by omega)
  have n3:(m:Int)*((m:Int)+1)<=100*101:=by
   have:(m:Int)*((m:Int)+1)<=100*((m:Int)+1):=co (by omega) (by omega)
   omega
  have n4:((m:Int)+1)*((m:Int)+1)=(m:Int)*((m:Int)+1)+((m:Int)+1):=by rw[Int.add_mul,Int.one_mul]
  rw[n4] at h2;generalize Y*((m:Int)+1)=Z at *;generalize (m:Int)*((m:Int)+1)=W at *;rw[bC (x:=Z) (by omega) (by omega),bC (by omega) (by omega)]
  exact T.bind (T.idx (by omega) (by omega)) λ_ _=>T.ret trivial
 rcases h1 with h | h | h | h | h
 ·exact key 0 h (by decide)
 ·exact key 1 h (by decide)
 ·exact key 3 h (by decide)
 ·exact key 7 h (by decide)
 ·exact key 15 h (by decide)
theorem aTM(N:Nat)(hN:10 < N)(a b c d:Vector Int 3):T (kU N a b c d N (#v[0,0,0]) 0) (λ_=>True):=by
 refine T.loopG0 (n:=3) (λ_ _=>True) _ (F:=kU N a b c d) (λk s i hi _ hk=>?_) (λk s _=>?_) (by omega) trivial
 ·rw[kU,dt (by omega),cond_true]
  refine T.bind (T.inRO (by omega) (by omega)) λ_ _=>T.bind (T.vg hi) λ_ _=>T.bind (T.inRO (by omega) (by omega)) λ_ _=>T.bind (T.vg hi) λ_ _=>T.bind (T.inRO (by omega) (by omega)) λ_ _=>T.bind (T.vg hi) λ_ _=>?_;simp only[aR]
  refine T.bind (T.inRO (by omega) (by omega)) λ_ _=>T.bind (T.vg hi) λ_ _=>T.bind (T.inRO (by omega) (by omega)) λ_ _=>T.bind (T.vg hi) λ_ _=>?_;rw[dI (by omega)]
  exact hk _ trivial
 ·rw[kU,df (by omega),cond_false];exact T.ret trivial
theorem halfT(N:Nat)(hN:100 < N){t:aD}(h:aLT t)(h1:t.gI > 1):T (sY N t) (λr=>aLT r/\r.gI*2=t.gI):=by
 unfold sY;obtain⟨H,e1,e2,e3⟩:∃H:Nat,I64 (bo t.gI 2)=(H:Int)/\t.gI=(H:Int)*2/\(H=1\/H=2\/H=4\/H=8):=by
  rcases h.1 with e | e | e | e | e
  ·omega
  ·exact⟨1,by rw[e];decide,by rw[e];decide,by simp⟩
  ·exact⟨2,by rw[e];decide,by rw[e];decide,by simp⟩
  ·exact⟨4,by rw[e];decide,by rw[e];decide,by simp⟩
  ·exact⟨8,by rw[e];decide,by rw[e];decide,by simp⟩
 simp only[aR,e1]
 have sq:I64 ((H:Int)*(H:Int))=((H*H:Nat):Int):=by rcases e3 with e | e | e | e <;> subst e <;> decide
 have sb:H*H<=64:=by rcases e3 with e | e | e | e <;> subst e <;> decide
 have nz:(H:Int)≠0:=by omega
 refine T.bind (T.loopG0 (n:=H*H) (λi s=>s.length=i) (λr=>r.length=H*H) (F:=mO N (H:Int) (H:Int) t) (λk s i hi hs hk=>?_) (λk s hs=>?_) (by omega) (s:=[]) rfl) λp4 h4=>T.ret ⟨⟨?_,?_⟩,?_⟩
 ·rw[mO]
  simp only[aR,e1,sq]
  rw[dt (by omega),cond_true]
  refine T.eq (aNI .i64 nz) (T.eq (aDF .i64 nz) ?_)
  refine T.bind (aHf N h _ _) λr12 _=>T.bind (aHf N h _ _) λr14 _=>T.bind (aHf N h _ _) λr16 _=>T.bind (aHf N h _ _) λr19 _=>T.bind (aTM N (by omega) _ _ _ _) λp20 _=>?_;refine T.eq (hJ (by simp;omega)) ?_;rw[dI (by omega)]
  exact hk _ (by simp;omega)
 ·rw[mO]
  simp only[aR,sq]
  rw[df (by omega),cond_false]
  exact T.ret hs
 ·show(H:Int)=1\/(H:Int)=2\/(H:Int)=4\/(H:Int)=8\/(H:Int)=16;omega
 ·show(p4.length:Int)=(H:Int)*(H:Int)
  rw[h4];push_cast;rfl
 ·show(H:Int)*2=t.gI;exact e2.symm
def aFZ(l:List aD):Prop:=l.length<=20/\∀t∈l,t.gA8.length<=260
theorem aJG{t:aD}(h:aLT t):t.gA8.length<=260:=by
 obtain⟨h1,h2⟩:=h;rcases h1 with e | e | e | e | e <;> rw[e] at h2 <;> omega
theorem lvR2(N:Nat)(l:List aD)(a t:aD)(h:l.length<=1000):nE N l a t=some (l++[t]):=by
 unfold nE;rw[hJ (by simp;omega)]
 rfl
theorem aQx(N:Nat)(hN:100 < N):∀(j k:Nat) (l:List aD) (t:aD),aLT t->t.gI<=2 ^ j->j < k->(l.length+j<=10/\∀t∈l,t.gA8.length<=260)->T (bV N k l t) (λr=>aFZ r.1):=by
 intro j
 induction j with
 | zero=>
  intro k l t ht hs hk hl;obtain⟨k,rfl⟩:∃k',k=k'+1:=⟨k - 1,by omega⟩
  rw[bV]
  refine T.eq (lvR2 N _ _ _ (by omega)) ?_;rw[df (by simpa using hs),cond_false]
  refine T.ret ⟨by simp;omega,?_⟩
  intro u hu;rw[au,ca] at hu;rcases hu with hu | rfl
  ·exact hl.2 u hu
  ·exact aJG ht
 | succ j ih=>
  intro k l t ht hs hk hl;obtain⟨k,rfl⟩:∃k',k=k'+1:=⟨k - 1,by omega⟩
  rw[bV]
  refine T.eq (lvR2 N _ _ _ (by omega)) ?_;have all:∀u∈l++[t],u.gA8.length<=260:=by
   intro u hu;rw[au,ca] at hu;rcases hu with hu | rfl
   ·exact hl.2 u hu
   ·exact aJG ht
  refine T.cond (λhc=>?_) (λ_=>T.ret ⟨by simp;omega,all⟩)
  refine T.bind (halfT N hN ht (of_decide_eq_true hc)) λr5 h5=>?_;have hp:(2:Int) ^ (j+1)=2 ^ j*2:=Int.pow_succ _ _;exact ih k _ r5 h5.1 (by have:=h5.2;omega) (by omega) ⟨by simp;omega,all⟩
theorem aRu(N:Nat)(l:List (Vector Int 3))(h:l.length<=1000):T (iS N l) (λr=>r=l):=by
 unfold iS;exact T.eq (hJ (by simp;omega)) (T.ret (by simp))
theorem aSM(N:Nat)(hN:300 < N)(t:aD)(h:t.gA8.length<=260):T (qM N t) (λr=>aFZ r.1):=by
 unfold qM;refine T.bind (texT N t (by omega) (by omega) (by omega)) λr1 h1=>?_;refine T.cond (λ_=>T.ret ⟨by simp,λt h=>absurd h (by simp)⟩) (λhc=>?_)
 have ok:=h1 (by simpa using hc)
 refine T.bind (aRu N _ (by omega)) λr2 h2=>?_;subst h2;unfold tY eN;refine T.eq rfl ?_;refine T.bind (P:=λr=>aFZ r.1) ?_ λr4 h4=>T.ret h4;refine T.bind (aQx N (by omega) 4 N [] _ ⟨ok.1,ok.2.1⟩ (by have:=ok.1;show t.gI<=2 ^ 4;omega) (by omega) ⟨by simp,λt h=>absurd h (by simp)⟩) λp1 h1=>T.ret h1
theorem aOy(N:Nat)(l:List aH)(m:Int)(hm':0<=m/\m<=4096)(hl':(l.length:Int)<=m):T (tC N l m) (λq=>match q with | .inl e=>False | .inr r=>r.2=0/\(r.1.length:Int)=m/\r.1.length<=4096/\(∀i,l.length<=i->∀t,r.1[i]? = some t->t.gC0=0)/\∀i,i < l.length->r.1[i]? = l[i]?):=by
 unfold tC;simp only[aR]
 rw[df (show ¬m < 0 by omega),df (show ¬m > 4096 by omega)]
 refine T.cond (λhc=>by cases hc) (λhc=>?_)
 have hm:=hm';obtain⟨n,rfl⟩:=bh hm.1;refine T.cond (λhc=>absurd (of_decide_eq_true hc) (by omega)) (λhc2=>?_)
 have hl:=of_decide_eq_false hc2;refine T.eq (a:=()) (by unfold mkO;rw[dt (by omega),dt (by omega),dt (by omega)];rfl) ?_;rw[bj]
 unfold cpD;rw[dt (by simp),cond_true,ae]
 have hlen:∀z:aH,(cpy (List.replicate n z) l 0 n).length=n:=by intro z;unfold cpy;simp;omega
 refine T.eq (a:=()) (by unfold aAl;rw[hlen,i9];rfl) ?_;refine T.ret ⟨rfl,by rw[hlen],by rw[hlen];omega,?_,λi hi=>?_⟩
 case refine_2=>
  unfold cpy;rw[show min l.length n=l.length by omega,lj,ik,j6,c9 hi]
 intro i hi t ht;unfold cpy at ht;rw[show min l.length n=l.length by omega,lj,ik,j6,ct hi,List.getElem?_drop] at ht;have hm:=b9 ht;rw[List.mem_replicate] at hm;rw[hm.2]
def ple(p q:aC):Prop:=p.gX<=q.gX/\p.gY<=q.gY/\p.gZ<=q.gZ
theorem aOX(N:Nat)(l:List aC){m:Int}(hm:0<=m)(h:∀p∈l,pwi m p)(hN:l.length < N)(hl:l.length < 1000000):T (nZ N l) (λr=>pwi m r.1/\pwi m r.2/\∀p∈l,ple r.1 p/\ple p r.2):=by
 unfold nZ;have z:pwi m (aC.mk 0 0 0):=by unfold pwi;dsimp only;omega
 refine T.bind (T.loopG0 (n:=l.length) (λi (s:aC×aC)=>pwi m s.1/\pwi m s.2/\∀j,(hj:j < l.length)->j < i->ple s.1 l[j]/\ple l[j] s.2) (λr=>pwi m r.1/\pwi m r.2/\∀p∈l,ple r.1 p/\ple p r.2) (F:=λk (s:aC×aC) i=>uE N l k s.1 s.2 i) (λk s i hi hs hk=>?_) (λk s hs=>?_) hN (s:=(aC.mk 0 0 0,aC.mk 0 0 0)) ⟨z,z,λj _ h=>absurd h (by omega)⟩) λr hr=>T.ret hr
 ·rw[uE,aR,dt (by omega),cond_true,eK,af hi,ae]
  have he:=h _ (bp hi)
  generalize hx:l[i]=x at *;refine T.bind (P:=λp=>pwi m p.1/\pwi m p.2/\∀j,(hj:j < l.length)->j < i->ple p.1 l[j]/\ple l[j] p.2) ?_ λp7 h7=>?_
  ·refine T.cond (λhc=>?_) (λ_=>T.ret hs)
   have:i=0:=by have:=of_decide_eq_true hc;omega
   exact T.ret ⟨he,he,λj _ h=>absurd h (by omega)⟩
  ·rw[dI (by omega)]
   obtain⟨a,b,c⟩:=h7;refine hk (_,_) ⟨?_,?_,λj hj hji=>?_⟩
   ·unfold pwi at *;simp only[vQ];omega
   ·unfold pwi at *;simp only[tB];omega
   ·by_cases e:j=i
    ·subst e;rw[hx]
     unfold ple;simp only[vQ,tB];omega
    ·have:=c j hj (by omega)
     unfold ple at *;simp only[vQ,tB];omega
 ·rw[uE,aR,df (by omega),cond_false]
  refine T.ret ⟨hs.1,hs.2.1,λp hp=>?_⟩
  obtain⟨j,hj,rfl⟩:=cx hp;exact hs.2.2 j hj hj
def tpw(t:aH):Prop:=∀p∈t.gP.toList,pwi 65536 p
theorem T.slc3{α:Type}(v:Vector α 3):T (xW v.toList 0 3) (λr=>r=v.toList):=by
 refine⟨_,aGj (by decide) (by decide) (by simp),?_⟩
 exact ga (show v.toList.length<=3 by simp)
theorem aJ0(N:Nat)(hN:3 < N){t:aH}(h:tpw t):T (nZ N t.gP.toList) (λr=>pwi 65536 r.1/\pwi 65536 r.2/\∀p∈t.gP.toList,ple r.1 p/\ple p r.2):=
 aOX N _ (by decide) h (by simpa using hN) (by simp)
theorem aGk(N:Nat)(hN:3 < N){t:aH}(h:tpw t):T (jU N t) (pwi 131072):=by
 unfold jU;refine T.bind (T.slc3 t.gP) λs hs=>?_;subst hs;refine T.bind (aJ0 N hN h) λr2 h2=>?_;simp only[aR]
 obtain⟨a,b,_⟩:=h2;refine T.ret ?_;unfold pwi at *;dsimp only;rw[bC (by omega) (by omega),bC (by omega) (by omega),bC (by omega) (by omega)]
 omega
def ax(p:aC)(i:Int):Int:=if i=0 then p.gX else if i=1 then p.gY else p.gZ
theorem aDY(N:Nat)(p:aC){i:Int}(h0:0<=i)(h3:i < 3):T (lJ N p i) (λr=>r=ax p i):=by
 have:i=0\/i=1\/i=2:=by omega
 rcases this with rfl | rfl | rfl <;> exact⟨_,rfl,rfl⟩
theorem ax_b{m:Int}{p:aC}(h:pwi m p)(i:Int) : -m<=ax p i/\ax p i<=m:=by
 unfold pwi at h;unfold ax;split
 ·omega
 ·split <;> omega
def ord(n:Nat)(l:List Int):Prop:=∀x∈l,0<=x/\x < (n:Int)
def aAz(l:List aH):Prop:=(∀t∈l,tpw t)/\l.length<=20
theorem T.tri{l:List aH}(h:aAz l){e:Int}(he:0<=e/\e < (l.length:Int)):T (Go.UK.idx l e) tpw:=
 (T.idx he.1 he.2).mono λt ht=>h.1 t (b9 ht)
theorem aTU(N:Nat)(hN:3 < N){l:List aH}(h:aAz l){a b i:Int}(ha:0<=a/\a < (l.length:Int))(hb:0<=b/\b < (l.length:Int))(hi:0<=i/\i < 3):T (pE N a b l i) (λ_=>True):=by
 unfold pE;refine T.bind (T.tri h ha) λ_ h1=>T.bind (aGk N hN h1) λ_ _=>T.bind (aDY N _ hi.1 hi.2) λ_ _=>?_;refine T.bind (T.tri h hb) λ_ h1=>T.bind (aGk N hN h1) λ_ _=>T.bind (aDY N _ hi.1 hi.2) λ_ _=>T.ret trivial
def aIn(a b:Int):Prop:=a≠b/\(-131072<=a/\a<=131072)/\(-131072<=b/\b<=131072)
theorem binT0(N:Nat){x a b:Int}(h:aIn a b):T (vU N x a b) (λ_=>True):=by
 unfold vU;simp only[aR]
 obtain⟨h1,h2,h3⟩:=h;rw[bC (x:=b - a) (by omega) (by omega)]
 exact T.eq (aDF .i64 (by omega)) (T.ret trivial)
theorem binT(N:Nat){x a b:Int}(h:aIn a b)(hx:a<=x/\x<=b):T (vU N x a b) (λr=>0<=r/\r < 8):=by
 unfold vU;simp only[aR]
 obtain⟨h1,h2,h3⟩:=h;rw[bC (x:=b - a) (by omega) (by omega),bC (x:=x - a) (by omega) (by omega),bC (x:=(x - a)*8) (by omega) (by omega)]
 refine T.eq (aDF .i64 (by omega)) (T.ret ?_)
 rw[em (by omega)]
 have q0:0<=(x - a)*8 / (b - a):=cu (by omega) (by omega)
 have q1:(x - a)*8 / (b - a)<=(x - a)*8:=je _ (by omega)
 rw[show IntKind.i64.wrap ((x - a)*8 / (b - a))=(x - a)*8 / (b - a) from bC (by omega) (by omega),vQ]
 omega
theorem aJq(N:Nat)(hN:3 < N){l:List aH}(h:aAz l){e a b c i:Int}(he:0<=e/\e < (l.length:Int))(hab:aIn a b)(hi:0<=i/\i < 3):T (iF N e l a b c i) (λ_=>True):=by
 unfold iF;refine T.bind (T.tri h he) λ_ h1=>T.bind (aGk N hN h1) λ_ _=>T.bind (aDY N _ hi.1 hi.2) λ_ _=>T.bind (binT0 N hab) λ_ _=>T.ret trivial
theorem aTd(N:Nat)(hN:3 < N){l:List aH}(h:aAz l){e e' a b c i:Int}(he:0<=e/\e < (l.length:Int))(he':0<=e'/\e' < (l.length:Int))(hab:aIn a b)(hi:0<=i/\i < 3):T (qJ N e e' l a b c i) (λ_=>True):=by
 unfold qJ;refine T.bind (aJq N hN h he hab hi) λ_ _=>T.bind (aJq N hN h he' hab hi) λ_ _=>T.cond (λ_=>T.ret trivial) (λ_=>?_)
 refine T.bind (aJq N hN h he' hab hi) λ_ _=>T.cond (λ_=>T.ret trivial) (λ_=>T.ret trivial)
theorem T.inRS{L lo n:Nat}{i:Int}(h1:lo+n<=L)(h2:0<=i)(h3:i < (n:Int)):T (zB L lo n i) (λ_=>True):=⟨(),by unfold Go.UK.zB;rw[dt h1,dt h2,dt h3];rfl,trivial⟩
theorem T.slcG{L lo0 n:Nat}{lo hi:Int}(h1:lo0+n<=L)(h2:0<=lo)(h3:lo<=hi)(h4:hi<=(n:Int))(h5:lo=0\/lo < (n:Int)):T (aJs L lo0 n lo hi) (λ_=>True):=⟨(),by unfold Go.UK.aJs;rw[dt h1,dt h2,dt h3,dt h4,dt h5];rfl,trivial⟩
theorem T.lenO{α:Type}{l:List α}{n:Nat}(h:l.length=n):T (aAl l n) (λ_=>True):=⟨(),by unfold Go.UK.aAl;rw[h,i9];rfl,trivial⟩
theorem T.setO{α:Type}{l:List α}{j:Nat}{e:α}(h:j < l.length):T (aHT l j e) (λr=>r=l.set j e):=⟨_,by unfold Go.UK.aHT;rw[show Nat.blt j l.length=Bool.true by rw[Nat.blt_eq];exact h];rfl,rfl⟩
theorem T.appG{α:Type}{b m:Nat}{l r:List α}(h:m<=l.length)(h':(m+r.length)*b<=140737488355328):T (aLI b l m r) (λx=>x=uA l m r):=⟨_,by unfold Go.UK.aLI;rw[dt h,show Nat.ble ((m+r.length)*b) 140737488355328=Bool.true by rw[Nat.ble_eq];exact h'];rfl,rfl⟩
theorem T.get0{α:Type}{l:List α}{j:Nat}(h:j < l.length):T (l[j]?) (λe=>e∈l):=⟨l[j],af h,bp h⟩
theorem aGd{n:Nat}{l:List Int}{j:Nat}{e:Int}(h:ord n l)(he:0<=e/\e < (n:Int)):ord n (l.set j e):=by
 intro x hx;rcases iz hx with hx | rfl
 ·exact h x hx
 ·exact he
structure rF(lo m:Nat)(b r:List Int):Prop where
 len:r.length=b.length
 out:∀j,j < lo\/lo+m<=j->r[j]? = b[j]?
 sub:∀j,lo<=j->j < lo+m->∃j',lo<=j'/\j' < lo+m/\r[j]? = b[j']?
 sup:∀j,lo<=j->j < lo+m->∃j',lo<=j'/\j' < lo+m/\b[j]? = r[j']?
theorem rF.rfl'(lo m:Nat)(b:List Int):rF lo m b b:=⟨rfl,λ_ _=>rfl,λj h h'=>⟨j,h,h',rfl⟩,λj h h'=>⟨j,h,h',rfl⟩⟩
theorem rF.trans{lo m:Nat}{a b c:List Int}(h:rF lo m a b)(g:rF lo m b c):rF lo m a c:=by
 refine⟨g.len.trans h.len,λj hj=>(g.out j hj).trans (h.out j hj),λj h1 h2=>?_,λj h1 h2=>?_⟩
 ·obtain⟨j1,a1,a2,a3⟩:=g.sub j h1 h2;obtain⟨j2,b1,b2,b3⟩:=h.sub j1 a1 a2;exact⟨j2,b1,b2,a3.trans b3⟩
 ·obtain⟨j1,a1,a2,a3⟩:=h.sup j h1 h2;obtain⟨j2,b1,b2,b3⟩:=g.sup j1 a1 a2;exact⟨j2,b1,b2,a3.trans b3⟩
theorem rF.swap{lo m:Nat}{b:List Int}{x y:Nat}{e f:Int}(hx:lo<=x/\x < lo+m)(hy:lo<=y/\y < lo+m)(he:b[y]? = some e)(hf:b[x]? = some f):rF lo m b ((b.set x e).set y f):=by
 have lx:x < b.length:=by obtain⟨h,_⟩:=eo.1 hf;exact h
 have ly:y < b.length:=by obtain⟨h,_⟩:=eo.1 he;exact h
 have g:∀j,((b.set x e).set y f)[j]? = if j=y then some f else if j=x then some e else b[j]? := by
  intro j;by_cases h1:j=y
  ·subst h1;rw[if_pos rfl,f7 (by rw[cp];exact ly)]
  ·rw[if_neg h1,eh (by omega)]
   by_cases h2:j=x
   ·subst h2;rw[if_pos rfl,f7 lx]
   ·rw[if_neg h2,eh (by omega)]
 refine⟨by rw[cp,cp],λj hj=>?_,λj h1 h2=>?_,λj h1 h2=>?_⟩
 ·rw[g,if_neg (by omega),if_neg (by omega)]
 ·rw[g]
  by_cases c1:j=y
  ·rw[if_pos c1];exact⟨x,hx.1,hx.2,hf.symm⟩
  ·rw[if_neg c1]
   by_cases c2:j=x
   ·rw[if_pos c2];exact⟨y,hy.1,hy.2,he.symm⟩
   ·rw[if_neg c2];exact⟨j,h1,h2,rfl⟩
 ·by_cases c1:j=y
  ·refine⟨if x=y then y else x,by split <;> omega,by split <;> omega,?_⟩
   rw[g]
   by_cases c3:x=y
   ·rw[if_pos c3,if_pos rfl,c1,<- c3,hf]
   ·rw[if_neg c3,if_neg c3,if_pos rfl,c1,he]
  ·by_cases c2:j=x
   ·refine⟨y,hy.1,hy.2,?_⟩
    rw[g,if_pos rfl,c2,hf]
   ·refine⟨j,h1,h2,?_⟩
    rw[g,if_neg c1,if_neg c2]
def okS(n lo m:Nat)(b:List Int)(s:List Int×Nat):Prop:=ord n s.1/\rF lo m b s.1/\s.2=m
theorem ia1{a:Nat}(h:a < 900000):I64 ((a:Int)+1)=((a+1:Nat):Int):=dI (by omega)
theorem ins2A(N:Nat)(hN:3 < N){R:List aH}(hT:aAz R){lo m:Nat}{a:Int}{i:Int}(hi:0<=i/\i < 3)(ha:0<=a){b:List Int}(hL:lo+m<=b.length)(hm:m<=20) :
  ∀(j k:Nat) (s:List Int),j < m->j < k->ord R.length s->rF lo m b s->T (bM N a lo R i k s m (j:Int)) (okS R.length lo m b):=by
 intro j
 induction j with
 | zero=>
  intro k s hj hk ho hs;have hsl:=hs.len;obtain⟨k,rfl⟩:∃k',k=k'+1:=⟨k - 1,by omega⟩
  rw[bM,df (by omega),cond_false]
  exact T.eq rfl (T.ret ⟨ho,hs,rfl⟩)
 | succ j ih=>
  intro k s hj hk ho hs;have hsl:=hs.len;obtain⟨k,rfl⟩:∃k',k=k'+1:=⟨k - 1,by omega⟩
  rw[bM,show I64 (((j+1:Nat):Int) - 1)=(j:Int) by rw[bC (by omega) (by omega)];omega]
  simp only[zS,bj]
  refine T.bind (P:=λ_=>True) ?_ λp9 _=>T.cond (λ_=>?_) (λ_=>T.ret ⟨ho,hs,rfl⟩)
  ·refine T.cond (λ_=>?_) (λ_=>T.ret trivial)
   refine T.bind (T.inRS (by omega) (by omega) (by omega)) λ_ _=>T.bind (T.get0 (by omega)) λe11 h11=>T.bind (T.inRS (by omega) (by omega) (by omega)) λ_ _=>T.bind (T.get0 (by omega)) λe13 h13=>?_;exact T.bind (aTU N hN hT (ho _ h11) (ho _ h13) hi) λ_ _=>T.ret trivial
  ·refine T.bind (T.inRS (by omega) (by omega) (by omega)) λ_ _=>T.bind (T.get (by omega)) λe16 h16=>T.bind (T.inRS (by omega) (by omega) (by omega)) λ_ _=>T.bind (T.get (by omega)) λe18 h18=>?_;refine T.bind (T.inRS (by omega) (by omega) (by omega)) λ_ _=>T.bind (T.setO (by omega)) λz20 h20=>T.bind (T.inRS (by omega) (by omega) (by omega)) λ_ _=>T.bind (T.setO (by rw[h20,cp];omega)) λz22 h22=>?_;subst h22;subst h20;exact ih k _ (by omega) (by omega) (aGd (aGd ho (ho _ (b9 h16))) (ho _ (b9 h18))) (hs.trans (rF.swap ⟨by omega,by omega⟩ ⟨by omega,by omega⟩ h16 h18))
theorem insA(N:Nat)(hN:50 < N){R:List aH}(hT:aAz R){L lo m:Nat}{a b:Nat}{i:Int}(hi:0<=i/\i < 3)(ha:a<=20)(hb:b<=m)(hL:lo+m<=L)(hm:m<=20){s:List Int}(ho:ord R.length s)(hs0:s.length=L):T (bI N s lo m (a:Int) (b:Int) R i) (λr=>ord R.length r/\rF lo m s r):=by
 unfold bI;have main:∀(k j:Nat) (q:List Int),b - j < k->j < 1000->ord R.length q->rF lo m s q->T (bX N (b:Int) (a:Int) lo R i k q m (j:Int)) (λr=>ord R.length r/\rF lo m s r):=by
  intro k
  induction k with
  | zero=>intro j q h;omega
  | succ k ih=>
   intro j q hj hj' ho hs;rw[bX]
   refine T.cond (λhc=>?_) (λ_=>T.ret ⟨ho,hs⟩)
   have hjb:j < b:=by have:=of_decide_eq_true hc;omega
   refine T.bind (ins2A N (by omega) hT hi (by omega) (b:=s) (by rw[hs0];exact hL) hm j N q (by omega) (by omega) ho hs) λp5 h5=>?_;obtain⟨q',m'⟩:=p5;obtain⟨o1,o2,o3⟩:=h5;dsimp only at o1 o2 o3;subst o3;rw[dI (by omega)]
   exact ih (j+1) q' (by omega) (by omega) o1 o2
 by_cases h:True
 ·rw[ia1 (by omega)]
  exact T.bind (main N (a+1) s (by omega) (by omega) ho (rF.rfl' lo m s)) λr h=>T.ret h
 ·exact absurd trivial h
theorem aRL(N:Nat)(hN:50 < N){R:List aH}(hT:aAz R){L lo m:Nat}{i:Int}(hi:0<=i/\i < 3)(hL:lo+m<=L)(hm:m<=20){s:List Int}(ho:ord R.length s)(hs:s.length=L):T (cS N s lo m R i) (λr=>ord R.length r/\rF lo m s r):=by
 unfold cS eY;refine T.bind (P:=λr=>ord R.length r/\rF lo m s r) ?_ λr h=>T.ret h;obtain⟨N,rfl⟩:∃n,N=n+2:=⟨N - 2,by omega⟩
 have fin:∀(q:List Int) (a:Nat),a<=m->ord R.length q->rF lo m s q->T (aa (bI (N+2) q lo m (a:Int) (m:Int) R i) λr8=>aa (aAl r8 q.length) λ_=>aa (dE (N+2) (m:Int) (N+2) 20) λp10=>some r8) (λr=>ord R.length r/\rF lo m s r):=by
  intro q a ha ho hq;refine T.bind (insA (N+2) (by omega) hT hi (by omega) (bg _) hL hm ho (hq.len.trans hs)) λr8 h8=>T.bind (T.lenO h8.2.len) λ_ _=>?_;rw[dE,df (by omega),cond_false]
  exact T.eq rfl (T.ret ⟨h8.1,hq.trans h8.2⟩)
 by_cases h:m=20
 ·rw[cB,dt (by omega),cond_true]
  have r1:=insA (N+2) (by omega) hT hi (a:=0) (b:=20) (by omega) (by omega) hL hm ho hs;obtain⟨q,e,oq,lq⟩:=r1;rw[show((0:Nat):Int)=0 from rfl,show((20:Nat):Int)=20 from rfl] at e;refine T.eq (a:=(q,m,20)) ?_ (fin q 20 (by omega) oq lq)
  rw[e,ae,show aAl q s.length=some () by unfold aAl;rw[lq.len,i9];rfl,ae]
  rw[cB,show I64 (20+20)=40 by decide,df (by omega),cond_false]
 ·rw[cB,df (by omega),cond_false]
  exact T.eq rfl (fin s 0 (by omega) ho (rF.rfl' lo m s))
theorem ins2B(N:Nat)(hN:3 < N){R:List aH}(hT:aAz R){lo m:Nat}{a:Int}{u v w i:Int}(hab:aIn u v)(hi:0<=i/\i < 3)(ha:0<=a){b:List Int}(hL:lo+m<=b.length)(hm:m<=20) :
  ∀(j k:Nat) (s:List Int),j < m->j < k->ord R.length s->rF lo m b s->T (bN N a lo R u v w i k s m (j:Int)) (okS R.length lo m b):=by
 intro j
 induction j with
 | zero=>
  intro k s hj hk ho hs;have hsl:=hs.len;obtain⟨k,rfl⟩:∃k',k=k'+1:=⟨k - 1,by omega⟩
  rw[bN,df (by omega),cond_false]
  exact T.eq rfl (T.ret ⟨ho,hs,rfl⟩)
 | succ j ih=>
  intro k s hj hk ho hs;have hsl:=hs.len;obtain⟨k,rfl⟩:∃k',k=k'+1:=⟨k - 1,by omega⟩
  rw[bN,show I64 (((j+1:Nat):Int) - 1)=(j:Int) by rw[bC (by omega) (by omega)];omega]
  simp only[zS,bj]
  refine T.bind (P:=λ_=>True) ?_ λp9 _=>T.cond (λ_=>?_) (λ_=>T.ret ⟨ho,hs,rfl⟩)
  ·refine T.cond (λ_=>?_) (λ_=>T.ret trivial)
   refine T.bind (T.inRS (by omega) (by omega) (by omega)) λ_ _=>T.bind (T.get0 (by omega)) λe11 h11=>T.bind (T.inRS (by omega) (by omega) (by omega)) λ_ _=>T.bind (T.get0 (by omega)) λe13 h13=>?_;exact T.bind (aTd N hN hT (ho _ h11) (ho _ h13) hab hi) λ_ _=>T.ret trivial
  ·refine T.bind (T.inRS (by omega) (by omega) (by omega)) λ_ _=>T.bind (T.get (by omega)) λe16 h16=>T.bind (T.inRS (by omega) (by omega) (by omega)) λ_ _=>T.bind (T.get (by omega)) λe18 h18=>?_;refine T.bind (T.inRS (by omega) (by omega) (by omega)) λ_ _=>T.bind (T.setO (by omega)) λz20 h20=>T.bind (T.inRS (by omega) (by omega) (by omega)) λ_ _=>T.bind (T.setO (by rw[h20,cp];omega)) λz22 h22=>?_;subst h22;subst h20;exact ih k _ (by omega) (by omega) (aGd (aGd ho (ho _ (b9 h16))) (ho _ (b9 h18))) (hs.trans (rF.swap ⟨by omega,by omega⟩ ⟨by omega,by omega⟩ h16 h18))
theorem insB(N:Nat)(hN:50 < N){R:List aH}(hT:aAz R){L lo m:Nat}{a b:Nat}{u v w i:Int}(hab:aIn u v)(hi:0<=i/\i < 3)(ha:a<=20)(hb:b<=m)(hL:lo+m<=L)(hm:m<=20){s:List Int}(ho:ord R.length s)(hs0:s.length=L):T (bK N s lo m (a:Int) (b:Int) R u v w i) (λr=>ord R.length r/\rF lo m s r):=by
 unfold bK;have main:∀(k j:Nat) (q:List Int),b - j < k->j < 1000->ord R.length q->rF lo m s q->T (cC N (b:Int) (a:Int) lo R u v w i k q m (j:Int)) (λr=>ord R.length r/\rF lo m s r):=by
  intro k
  induction k with
  | zero=>intro j q h;omega
  | succ k ih=>
   intro j q hj hj' ho hs;rw[cC]
   refine T.cond (λhc=>?_) (λ_=>T.ret ⟨ho,hs⟩)
   have hjb:j < b:=by have:=of_decide_eq_true hc;omega
   refine T.bind (ins2B N (by omega) hT hab hi (by omega) (b:=s) (by rw[hs0];exact hL) hm j N q (by omega) (by omega) ho hs) λp5 h5=>?_;obtain⟨q',m'⟩:=p5;obtain⟨o1,o2,o3⟩:=h5;dsimp only at o1 o2 o3;subst o3;rw[dI (by omega)]
   exact ih (j+1) q' (by omega) (by omega) o1 o2
 by_cases h:True
 ·rw[ia1 (by omega)]
  exact T.bind (main N (a+1) s (by omega) (by omega) ho (rF.rfl' lo m s)) λr h=>T.ret h
 ·exact absurd trivial h
theorem aRm(N:Nat)(hN:50 < N){R:List aH}(hT:aAz R){L lo m:Nat}{u v w i:Int}(hab:aIn u v)(hi:0<=i/\i < 3)(hL:lo+m<=L)(hm:m<=20){s:List Int}(ho:ord R.length s)(hs:s.length=L):T (dA N s lo m R u v w i) (λr=>ord R.length r/\rF lo m s r):=by
 unfold dA fE;refine T.bind (P:=λr=>ord R.length r/\rF lo m s r) ?_ λr h=>T.ret h;obtain⟨N,rfl⟩:∃n,N=n+2:=⟨N - 2,by omega⟩
 have fin:∀(q:List Int) (a:Nat),a<=m->ord R.length q->rF lo m s q->T (aa (bK (N+2) q lo m (a:Int) (m:Int) R u v w i) λr8=>aa (aAl r8 q.length) λ_=>aa (dN (N+2) (m:Int) (N+2) 20) λp10=>some r8) (λr=>ord R.length r/\rF lo m s r):=by
  intro q a ha ho hq;refine T.bind (insB (N+2) (by omega) hT hab hi (by omega) (bg _) hL hm ho (hq.len.trans hs)) λr8 h8=>T.bind (T.lenO h8.2.len) λ_ _=>?_;rw[dN,df (by omega),cond_false]
  exact T.eq rfl (T.ret ⟨h8.1,hq.trans h8.2⟩)
 by_cases h:m=20
 ·rw[cG,dt (by omega),cond_true]
  have r1:=insB (N+2) (by omega) hT (w:=w) hab hi (a:=0) (b:=20) (by omega) (by omega) hL hm ho hs;obtain⟨q,e,oq,lq⟩:=r1;rw[show((0:Nat):Int)=0 from rfl,show((20:Nat):Int)=20 from rfl] at e;refine T.eq (a:=(q,m,20)) ?_ (fin q 20 (by omega) oq lq)
  rw[e,ae,show aAl q s.length=some () by unfold aAl;rw[lq.len,i9];rfl,ae]
  rw[cG,show I64 (20+20)=40 by decide,df (by omega),cond_false]
 ·rw[cG,df (by omega),cond_false]
  exact T.eq rfl (fin s 0 (by omega) ho (rF.rfl' lo m s))
structure aKV(R:List aH)(b:List Int)(lo m:Nat):Prop where
 tris:aAz R
 ord:ord R.length b
 len:lo+m<=b.length
 few:m<=20
theorem aKV.get{R:List aH}{b:List Int}{lo m:Nat}(h:aKV R b lo m){i:Nat}(hi:i < m):T (b[aAF lo ((i:Int).toNat)]?) (λe=>0<=e/\e < (R.length:Int)):=by
 rw[zS,bj]
 have:=h.len;exact(T.get0 (by omega)).mono λe he=>h.ord e he
theorem aKV.rs{R:List aH}{b:List Int}{lo m:Nat}(h:aKV R b lo m){i:Nat}(hi:i < m):T (zB b.length lo m (i:Int)) (λ_=>True):=T.inRS h.len (by omega) (by omega)
def tinB(lo hi:aC)(t:aH):Prop:=∀p∈t.gP.toList,ple lo p/\ple p hi
def aCL(R:List aH)(b:List Int)(lo m:Nat)(x y:aC):Prop:=∀j,lo<=j->j < lo+m->∀e,b[j]? = some e->∀t,R[e.toNat]? = some t->tinB x y t
theorem aNO{a b c:aC}(h:ple a b)(g:ple b c):ple a c:=by unfold ple at *;omega
theorem boxDT(N:Nat)(hN:30 < N){R:List aH}{b:List Int}{lo m:Nat}(h:aKV R b lo m):T (wG N b R lo m) (λr=>(pwi 65536 r.1/\pwi 65536 r.2)/\aCL R b lo m r.1 r.2):=by
 unfold wG;have z:pwi 65536 (aC.mk 0 0 0):=by unfold pwi;dsimp only;omega
 have fw:=h.few;refine T.bind (T.loopG0 (n:=m) (λi (s:aC×aC)=>(pwi 65536 s.1/\pwi 65536 s.2)/\aCL R b lo i s.1 s.2) (λr=>(pwi 65536 r.1/\pwi 65536 r.2)/\aCL R b lo m r.1 r.2) (F:=λk (s:aC×aC) i=>oR N m b lo R k s.1 s.2 i) (λk s i hi hs hk=>?_) (λk s hs=>?_) (by omega) (s:=(aC.mk 0 0 0,aC.mk 0 0 0)) ⟨⟨z,z⟩,λj _ h=>absurd h (by omega)⟩) λr hr=>T.ret hr
 ·rw[oR,aR,dt (by omega),cond_true]
  refine T.bind (P:=λp=>(pwi 65536 p.1/\pwi 65536 p.2.1)/\aCL R b lo (i+1) p.1 p.2.1) ?_ λp6 h6=>by rw[dI (by omega)];exact hk (_,_) h6
  refine T.bind (h.rs hi) λ_ _=>?_;obtain⟨e8,ee,h8⟩:=h.get hi;refine T.eq ee ?_;rw[zS,bj] at ee;have hidx:e8.toNat < R.length:=by omega
  have et:R[e8.toNat]? = some R[e8.toNat]:=af hidx;have h9:tpw R[e8.toNat]:=h.tris.1 _ (bp hidx)
  refine T.eq (a:=R[e8.toNat]) ?_ (T.bind (T.slc3 _) λs10 h10=>?_)
  ·have:e8=((e8.toNat:Nat):Int):=by omega
   exact(congrArg (idx R) this).trans ((eK R e8.toNat).trans et)
  generalize R[e8.toNat]=t at *;subst h10;refine T.bind (aJ0 N (by omega) h9) λr11 h11=>?_;have one:∀{x y:aC},(∀p∈t.gP.toList,ple x p/\ple p y)->(∀j,lo<=j->j < lo+i->∀e,b[j]? = some e->∀t,R[e.toNat]? = some t->tinB x y t)->aCL R b lo (i+1) x y:=by
   intro x y hx hy j j1 j2 e he t' ht';by_cases c:j=lo+i
   ·subst c;have:e8=e:=cW ee he;subst this;rw[et] at ht';cases ht';exact hx
   ·exact hy j j1 (by omega) e he t' ht'
  refine T.cond (λhc=>T.ret ⟨⟨h11.1,h11.2.1⟩,one h11.2.2 λj j1 j2=>?_⟩) (λ_=>?_)
  ·have:=of_decide_eq_true hc;omega
  refine T.bind (aOX N _ (m:=65536) (by decide) (by intro p hp;simp at hp;rcases hp with rfl | rfl;exact hs.1.1;exact h11.1) (by simp;omega) (by simp)) λr12 h12=>?_;refine T.bind (aOX N _ (m:=65536) (by decide) (by intro p hp;simp at hp;rcases hp with rfl | rfl;exact hs.1.2;exact h11.2.1) (by simp;omega) (by simp)) λr13 h13=>T.ret ⟨⟨h12.1,h13.2.1⟩,one (λp hp=>⟨aNO (h12.2.2 _ (by simp)).1 (h11.2.2 p hp).1,aNO (h11.2.2 p hp).2 (h13.2.2 _ (by simp)).2⟩) λj j1 j2 e he t' ht' p hp=>?_⟩
  have q:=hs.2 j j1 j2 e he t' ht' p hp;exact⟨aNO (h12.2.2 s.1 (by simp)).1 q.1,aNO q.2 (h13.2.2 s.2 (by simp)).2⟩
 ·rw[oR,aR,df (by omega),cond_false];exact T.ret hs
def aDT(s:bF):Prop:=pwi 65536 s.glo/\pwi 65536 s.ghi
theorem aP7 : aDT (bF.mk 0 (aC.mk 0 0 0) (aC.mk 0 0 0)):=by unfold aDT pwi;dsimp only;omega
theorem aPj(N:Nat)(hN:10 < N){s:bF}(hs:aDT s)(n:Int){a b:aC}(ha:pwi 65536 a)(hb:pwi 65536 b):T (oG N s n a b) aDT:=by
 unfold oG;refine T.cond (λ_=>T.ret hs) (λ_=>?_)
 refine T.bind (P:=λp=>pwi 65536 p.1/\pwi 65536 p.2) ?_ λp1 h1=>T.ret ⟨h1.1,h1.2⟩
 refine T.cond (λ_=>?_) (λ_=>T.ret ⟨ha,hb⟩)
 refine T.bind (aOX N _ (m:=65536) (by decide) (by intro p hp;simp at hp;rcases hp with rfl | rfl;exact hs.1;exact ha) (by simp;omega) (by simp)) λr12 h12=>?_;refine T.bind (aOX N _ (m:=65536) (by decide) (by intro p hp;simp at hp;rcases hp with rfl | rfl;exact hs.2;exact hb) (by simp;omega) (by simp)) λr13 h13=>T.ret ⟨h12.1,h13.2.1⟩
theorem aSw(N:Nat)(s:bF):T (oP N s) (λ_=>True):=by
 unfold oP;refine T.cond (λ_=>T.ret trivial) (λ_=>T.bind (P:=λ_=>True) (by unfold aB4;simp only[aR];exact T.ret trivial) λ_ _=>T.ret trivial)
def midP(N:Nat)(R:List aH)(b:List Int)(lo m:Nat)(i u v:Int):Prop:=∀j,j < m->∀e,b[lo+j]? = some e->T (aa (idx R e) λt=>jU N t) (λp=>u<=ax p i/\ax p i<=v)
theorem cutT(N:Nat)(hN:30 < N){R:List aH}{b:List Int}{lo m:Nat}(h:aKV R b lo m){i u v:Int}(hi:0<=i/\i < 3)(hab:aIn u v)(hm:midP N R b lo m i u v):T (rU N b R lo m i u v) (λ_=>True):=by
 unfold rU;have fw:=h.few;refine T.bind (P:=λp1=>∀s∈p1.toList,aDT s) ?_ λp1 h1=>?_
 ·refine T.loopG0 (n:=m) (λ_ (s:Vector bF 8)=>∀x∈s.toList,aDT x) _ (F:=lT N m b lo R i u v) (λk s j hj hs hk=>?_) (λk s hs=>?_) (by omega) (by intro x hx;simp at hx;rw[hx];exact aP7)
  ·rw[lT,aR,dt (by omega),cond_true]
   have hmj:=hm j hj;refine T.bind (h.rs hj) λ_ _=>?_;have hg:=h.get hj;obtain⟨e6,ee6,he6⟩:=hg;refine T.eq ee6 ?_;rw[zS,bj] at ee6;have hmid:=hmj e6 ee6;obtain⟨t,et,ht⟩:=T.tri h.tris he6;refine T.eq et (T.bind (T.slc3 _) λs8 h8=>?_)
   subst h8;refine T.bind (aJ0 N (by omega) ht) λr9 h9=>T.eq et ?_;rw[et,ae] at hmid;obtain⟨q,eq1,hq⟩:=hmid;refine T.eq eq1 (T.bind (aDY N q hi.1 hi.2) λr12 h12=>?_)
   subst h12;refine T.bind (binT N hab hq) λr13 h13=>T.bind (T.inRO h13.1 (by omega)) λ_ _=>?_;have hv:r13.toNat < 8:=by omega
   refine T.eq (aBN s _ hv) (T.bind (aPj N (by omega) (hs _ (aKL s hv)) 1 h9.1 h9.2.1) λr16 h16=>T.bind (T.inRO h13.1 (by omega)) λ_ _=>T.eq (aBN s _ hv) ?_)
   rw[dI (by omega)]
   refine hk _ λx hx=>?_;rw[Vector.toList_setIfInBounds] at hx;rcases iz hx with hx | rfl
   ·exact hs x hx
   ·exact h16
  ·rw[lT,aR,df (by omega),cond_false];exact T.ret hs
 refine T.bind (P:=λ_=>True) ?_ λp19 _=>T.ret trivial;have main:∀(k j:Nat) (a c:Int),8 - j < k->j<=8->T (oA N p1 k a c (j:Int)) (λ_=>True):=by
  intro k
  induction k with
  | zero=>intro j a c h;omega
  | succ k ih=>
   intro j a c hk hj;rw[oA]
   refine T.cond (λhc=>?_) (λ_=>T.ret trivial)
   have hj8:j < 8:=by have:=of_decide_eq_true hc;omega
   refine T.bind (P:=λ_=>True) ?_ λp23 _=>by rw[dI (by omega)];exact ih (j+1) _ _ (by omega) (by omega)
   refine T.bind (P:=λ_=>True) ?_ λp24 _=>?_
   ·refine(T.loopG0 (n:=8) (λ_ (s:bF×bF)=>aDT s.1/\aDT s.2) (λ_=>True) (F:=λk (s:bF×bF) x=>lM N p1 (j:Int) k s.1 s.2 x) (λk s x hx hs hk=>?_) (λk s hs=>?_) (by omega) (s:=(bF.mk 0 (aC.mk 0 0 0) (aC.mk 0 0 0),bF.mk 0 (aC.mk 0 0 0) (aC.mk 0 0 0))) ⟨aP7,aP7⟩)
    ·rw[lM,dt (by omega),cond_true]
     refine T.bind (P:=λp=>aDT p.1/\aDT p.2.1) ?_ λp28 h28=>by rw[dI (by omega)];exact hk (_,_) h28
     refine T.bind (T.idx (by omega) (by simp;omega)) λe29 h29=>?_;have he:=h1 _ (b9 h29)
     refine T.cond (λ_=>T.bind (aPj N (by omega) hs.1 _ he.1 he.2) λr h=>T.ret ⟨h,hs.2⟩) (λ_=>T.bind (aPj N (by omega) hs.2 _ he.1 he.2) λr h=>T.ret ⟨hs.1,h⟩)
    ·rw[lM,df (by omega),cond_false];exact T.ret trivial
   refine T.bind (aSw N _) λ_ _=>T.letO λ_ _=>T.bind (aSw N _) λ_ _=>?_;simp only[aR]
   exact T.cond (λ_=>T.ret trivial) (λ_=>T.ret trivial)
 exact main N 1 _ _ (by omega) (by decide)
theorem aSG(N:Nat)(hN:30 < N){R:List aH}{b:List Int}{lo m:Nat}(h:aKV R b lo m){i u v w:Int}(hi:0<=i/\i < 3)(hab:aIn u v):T (dH N b lo m R u v w i) (λr=>r < (m:Int)/\r<=20):=by
 unfold dH;have fw:=h.few;by_cases hm:m=0
 ·subst hm;obtain⟨N,rfl⟩:∃n,N=n+1:=⟨N - 1,by omega⟩
  rw[bJ,aR,df (by omega),cond_false]
  exact T.eq rfl (T.ret ⟨by decide,by decide⟩)
 refine T.bind (T.loopG0 (n:=m) (λ_ _=>True) (λo=>match o with | .inl _=>True | .inr r=>r < (m:Int)/\r<=20) (F:=λk (_:Unit) x=>bJ N m b lo R u v w i k x) (λk _ x hx _ hk=>?_) (λk _ _=>?_) (by omega) (s:=()) trivial) λo ho=>?_
 ·rw[bJ,aR,dt (by omega),cond_true]
  refine T.bind (h.rs hx) λ_ _=>T.bind (h.get hx) λe he=>T.bind (aJq N (by omega) h.tris he hab hi) λr _=>T.cond (λ_=>T.ret (show(x:Int) < (m:Int)/\(x:Int)<=20 by omega)) (λ_=>by rw[dI (by omega)];exact hk () trivial)
 ·rw[bJ,aR,df (by omega),cond_false];exact T.ret trivial
 ·cases o with
  | inl _=>exact T.ret ⟨by omega,by decide⟩
  | inr r=>exact T.ret ho
theorem aPX{p q:aC}(h:ple p q)(i:Int):ax p i<=ax q i:=by
 obtain⟨a,b,c⟩:=h;unfold ax;split
 ·exact a
 ·split
  ·exact b
  ·exact c
theorem partT(N:Nat)(hN:50 < N){R:List aH}{b:List Int}{lo m:Nat}(h:aKV R b lo m)(d:Int):T (sW N b R lo m d) (λr=>ord R.length r.1/\rF lo m b r.1/\(r.2 > 0->r.2 < (m:Int))):=by
 unfold sW;have fw:=h.few;rw[aR]
 refine T.cond (λ_=>T.ret ⟨h.ord,rF.rfl' lo m b,λh=>absurd h (show ¬(0:Int) > 0 by decide)⟩) (λhc=>?_)
 have hm4:=of_decide_eq_false hc;refine T.bind (P:=λp2=>p2.length=m/\(∀p∈p2,pwi 131072 p)/\∀j,j < m->∀e,b[lo+j]? = some e->T (aa (idx R e) λt=>jU N t) (λp=>p∈p2)) ?_ λp2 h2=>?_
 ·refine T.loopG0 (n:=m) (λx (s:List aC)=>s.length=x/\(∀p∈s,pwi 131072 p)/\∀j,j < x->∀e,b[lo+j]? = some e->T (aa (idx R e) λt=>jU N t) (λp=>p∈s)) _ (F:=mS N m b lo R) (λk s x hx hs hk=>?_) (λk s hs=>?_) (by omega) ⟨rfl,λp h=>absurd h (by simp),λj h=>absurd h (by omega)⟩
  ·rw[mS,aR,dt (by omega),cond_true]
   refine T.bind (h.rs hx) λ_ _=>?_;obtain⟨e,ee,he⟩:=h.get hx;refine T.eq ee ?_;rw[zS,bj] at ee;obtain⟨t,et,ht⟩:=T.tri h.tris he;refine T.eq et ?_;obtain⟨q,eq1,hq⟩:=aGk N (by omega) ht;refine T.eq eq1 (T.eq (hJ (by simp;omega)) ?_)
   rw[dI (by omega)]
   refine hk _ ⟨by simp;omega,?_,?_⟩
   ·intro p hp;rw[au,ca] at hp;rcases hp with hp | rfl
    ·exact hs.2.1 p hp
    ·exact hq
   ·intro j hj e' he';by_cases ej:j=x
    ·subst ej;obtain rfl:=cW ee he';rw[et,ae]
     exact⟨q,eq1,by simp⟩
    ·exact(hs.2.2 j (by omega) e' he').mono λp hp=>by rw[au];exact Or.inl hp
  ·rw[mS,aR,df (by omega),cond_false];exact T.ret hs
 refine T.bind (aOX N p2 (m:=131072) (by decide) h2.2.1 (by omega) (by omega)) λr11 h11=>?_;refine T.bind (P:=λi=>0<=i/\i < 3) ?_ λi hi=>?_
 ·have main:∀(k j:Nat) (a:Int),3 - j < k->j<=3->(0<=a/\a < 3)->T (pH N r11 k a (j:Int)) (λi=>0<=i/\i < 3):=by
   intro k
   induction k with
   | zero=>intro j a h;omega
   | succ k ih=>
    intro j a hk hj ha;rw[pH]
    refine T.cond (λhc=>?_) (λ_=>T.ret ha)
    have hj3:j < 3:=by have:=of_decide_eq_true hc;omega
    refine T.bind (P:=λi=>0<=i/\i < 3) ?_ λp h=>by rw[dI (by omega)];exact ih (j+1) _ (by omega) (by omega) h
    refine T.bind (aDY N _ (by omega) (by omega)) λ_ _=>T.bind (aDY N _ (by omega) (by omega)) λ_ _=>T.bind (aDY N _ ha.1 ha.2) λ_ _=>T.bind (aDY N _ ha.1 ha.2) λ_ _=>?_;rw[aR]
    exact T.cond (λ_=>T.ret ⟨by omega,by omega⟩) (λ_=>T.ret ha)
  exact main N 1 0 (by omega) (by decide) (by decide)
 refine T.bind (aDY N _ hi.1 hi.2) λu hu=>T.bind (aDY N _ hi.1 hi.2) λv hv=>?_;refine T.cond (λ_=>T.ret ⟨h.ord,rF.rfl' lo m b,λh=>absurd h (show ¬(0:Int) > 0 by decide)⟩) (λhc2=>?_)
 have hab:aIn u v:=⟨by simpa using hc2,by rw[hu];exact ax_b h11.1 i,by rw[hv];exact ax_b h11.2.1 i⟩
 refine T.cond (λ_=>?_) (λ_=>?_)
 ·refine T.bind (aRL N hN h.tris hi h.len fw h.ord rfl) λr23 h23=>T.bind (T.lenO h23.2.len) λ_ _=>?_;rw[aR]
  refine T.ret ⟨h23.1,h23.2,λ_=>?_⟩
  show I64 (bo (m:Int) 2) < (m:Int)
  rw[em (by omega),bC (by omega) (by omega)]
  omega
 ·refine T.bind (cutT N (by omega) h hi hab ?_) λw _=>?_
  ·intro j hj e he;refine(h2.2.2 j hj e he).mono λp hp=>?_;have:=h11.2.2 p hp;rw[hu,hv]
   exact⟨aPX this.1 i,aPX this.2 i⟩
  refine T.bind (aRm N hN h.tris (w:=w) hab hi h.len fw h.ord rfl) λr27 h27=>T.bind (T.lenO h27.2.len) λ_ _=>?_;refine T.bind (aSG N (by omega) (b:=r27) (lo:=lo) (m:=m) ⟨h.tris,h27.1,by rw[h27.2.len];exact h.len,fw⟩ (w:=w) hi hab) λr29 h29=>T.ret ⟨h27.1,h27.2,λ_=>h29.1⟩
def aLB(n len i:Nat)(d:bD):Prop:=(0<=d.gB2->((i:Int) < d.gB2/\d.gB2 < (len:Int))/\(i:Int) < d.gB4/\d.gB4 < (len:Int))/\(d.gB2 < 0->0<=d.gC5/\1<=d.gD1/\d.gC5+d.gD1<=(n:Int))
def aFr(n len:Nat)(t:bA):Prop:=(0<=t.gA7/\t.gA7 < (len:Int))/\0<=t.gB/\1<=t.gA5/\t.gB+t.gA5<=(n:Int)
def aAU(l:List bA):Int:=(l.map λt=>2*t.gA5 - 1).sum
def aCW(l:List bA):Int:=(l.map λt=>2*t.gA5 - 2).sum
theorem aE4(a b:List bA):aAU (a++b)=aAU a+aAU b:=by unfold aAU;rw[dc,il]
theorem aI6(a b:List bA):aCW (a++b)=aCW a+aCW b:=by unfold aCW;rw[dc,il]
theorem aHK{n len:Nat}{l:List bA}(h:∀t∈l,aFr n len t):(l.length:Int)<=aAU l:=by
 induction l with
 | nil=>exact dw _
 | cons t l ih=>
  have h1:=ih λt ht=>h t (fm _ ht)
  have h2:=h t (gu ..)
  obtain⟨_,_,h3,_⟩:=h2;show((l.length+1:Nat):Int)<=(2*t.gA5 - 1)+aAU l;omega
theorem aP1{n len:Nat}{l:List bA}(h:∀t∈l,aFr n len t):0<=aCW l:=by
 induction l with
 | nil=>exact dw _
 | cons t l ih=>
  have h1:=ih λt ht=>h t (fm _ ht)
  have h2:=h t (gu ..)
  obtain⟨_,_,h3,_⟩:=h2;show 0<=(2*t.gA5 - 2)+aCW l;omega
theorem aL6{n len len' i:Nat}{d:bD}(h:aLB n len i d)(hl:len<=len'):aLB n len' i d:=by
 unfold aLB at *;refine⟨λh0=>?_,h.2⟩
 have:=h.1 h0;omega
theorem aMv{n len len':Nat}{t:bA}(h:aFr n len t)(hl:len<=len'):aFr n len' t:=by unfold aFr at *;omega
theorem aBh{α:Type}(l:List α)(m:Nat)(r:List α)(h:m<=l.length):(uA l m r).take (m+r.length)=l.take m++r:=by
 unfold uA;rw[List.take_append_of_le_length (by rw[am,bn];omega)]
 exact ga (by rw[am,bn];omega)
theorem aEH{α:Type}(l:List α)(m:Nat)(r:List α)(h:m<=l.length):m+r.length<=(uA l m r).length:=by rw[aLS h];omega
theorem pV{α:Type}{l:List α}{m:Nat}{e:α}(h:l[m]? = some e):l.take (m+1)=l.take m++[e]:=by
 rw[List.take_succ,h];rfl
theorem yA{R:List aH}{o o':List Int}{lo m f c:Nat}{x y:aC}(h:aCL R o f c x y)(s:rF lo m o o')(hr:(f<=lo/\lo+m<=f+c)\/f+c<=lo\/lo+m<=f):aCL R o' f c x y:=by
 intro j j1 j2 e he t ht;by_cases hj:lo<=j/\j < lo+m
 ·obtain⟨j',a1,a2,a3⟩:=s.sub j hj.1 hj.2;rw[a3] at he;exact h j' (by omega) (by omega) e he t ht
 ·rw[s.out j (by omega)] at he;exact h j j1 j2 e he t ht
def aPG(nd:bD):Prop:=pwi 65536 nd.gLo/\pwi 65536 nd.gHi
inductive Cv(R:List aH)(o:List Int)(d:List bD)(D:Int->Prop):Int->Nat->Nat->List bA->Prop
 | pend (t:bA) (f c:Nat):t.gB=(f:Int)->t.gA5=(c:Int)->Cv R o d D t.gA7 f c [t]
 | leaf (i:Int) (f c:Nat) (nd:bD):D i->d[i.toNat]? = some nd->nd.gB2 < 0->nd.gC5=(f:Int)->nd.gD1=(c:Int)->aCL R o f c nd.gLo nd.gHi->aPG nd->Cv R o d D i f c []
 | node (i:Int) (f c1 c2:Nat) (nd:bD) (L1 L2:List bA):D i->d[i.toNat]? = some nd->0<=nd.gB2->Cv R o d D nd.gB2 f c1 L1->Cv R o d D nd.gB4 (f+c1) c2 L2->aCL R o f (c1+c2) nd.gLo nd.gHi->aPG nd->Cv R o d D i f (c1+c2) (L1++L2)
theorem Cv.rng{R:List aH}{o:List Int}{d:List bD}{D:Int->Prop}{i:Int}{f c:Nat}{L:List bA}(h:Cv R o d D i f c L):∀t∈L,∃f' c':Nat,t.gB=(f':Int)/\t.gA5=(c':Int)/\f<=f'/\f'+c'<=f+c:=by
 induction h with
 | pend t f c h1 h2=>
  intro u hu;have:u=t:=by simpa using hu
  subst this;exact⟨f,c,h1,h2,by omega,by omega⟩
 | leaf=>intro u hu;exact absurd hu (by simp)
 | node i f c1 c2 nd L1 L2 _ _ _ _ _ _ _ i1 i2=>
  intro u hu;rw[au] at hu;rcases hu with hu | hu
  ·obtain⟨f',c',a,b,x,y⟩:=i1 u hu;exact⟨f',c',a,b,by omega,by omega⟩
  ·obtain⟨f',c',a,b,x,y⟩:=i2 u hu;exact⟨f',c',a,b,by omega,by omega⟩
theorem Cv.far{R:List aH}{o o':List Int}{d d':List bD}{D D':Int->Prop}{lo m:Nat}(s:rF lo m o o')(hD:∀i,D i->D' i/\d'[i.toNat]? = d[i.toNat]?){i:Int}{f c:Nat}{L:List bA}(h:Cv R o d D i f c L):(f+c<=lo\/lo+m<=f)->Cv R o' d' D' i f c L:=by
 induction h with
 | pend t f c h1 h2=>intro _;exact .pend t f c h1 h2
 | leaf i f c nd h1 h2 h3 h4 h5 h6 h7=>intro hr;exact .leaf i f c nd (hD i h1).1 ((hD i h1).2.trans h2) h3 h4 h5 (yA h6 s (Or.inr hr)) h7
 | node i f c1 c2 nd L1 L2 h1 h2 h3 _ _ h6 h7 i1 i2=>intro hr;exact .node i f c1 c2 nd L1 L2 (hD i h1).1 ((hD i h1).2.trans h2) h3 (i1 (by omega)) (i2 (by omega)) (yA h6 s (Or.inr hr)) h7
theorem Cv.mono{R:List aH}{o:List Int}{d:List bD}{D D':Int->Prop}(hD:∀i,D i->D' i){i:Int}{f c:Nat}{L:List bA}(h:Cv R o d D i f c L):Cv R o d D' i f c L:=by
 induction h with
 | pend t f c h1 h2=>exact .pend t f c h1 h2
 | leaf i f c nd h1 h2 h3 h4 h5 h6 h7=>exact .leaf i f c nd (hD i h1) h2 h3 h4 h5 h6 h7
 | node i f c1 c2 nd L1 L2 h1 h2 h3 _ _ h6 h7 i1 i2=>exact .node i f c1 c2 nd L1 L2 (hD i h1) h2 h3 i1 i2 h6 h7
theorem Cv.near{R:List aH}{o o':List Int}{d d':List bD}{D D':Int->Prop}{lo m:Nat}(s:rF lo m o o')(hD:∀i,D i->D' i/\d'[i.toNat]? = d[i.toNat]?){t:bA}(ht1:t.gB=(lo:Int))(ht2:t.gA5=(m:Int)){Ln:List bA}(hn:Cv R o' d' D' t.gA7 lo m Ln){i:Int}{f c:Nat}{L:List bA}(h:Cv R o d D i f c L):t∈L->∃La Lb,L=La++t :: Lb/\Cv R o' d' D' i f c (La++(Ln++Lb)):=by
 induction h with
 | pend u f c h1 h2=>
  intro hu;have:t=u:=by simpa using hu
  subst this;obtain rfl:f=lo:=by omega
  obtain rfl:c=m:=by omega
  exact⟨[],[],rfl,by simpa using hn⟩
 | leaf=>intro hu;exact absurd hu (by simp)
 | node i f c1 c2 nd L1 L2 h1 h2 h3 g1 g2 h6 h7 i1 i2=>
  intro hu;rw[au] at hu;rcases hu with hu | hu
  ·obtain⟨f',c',a,b,x,y⟩:=g1.rng t hu;obtain⟨La,Lb,e,q⟩:=i1 hu;refine⟨La,Lb++L2,by rw[e];simp,?_⟩
   have:=Cv.node i f c1 c2 nd _ L2 (hD i h1).1 ((hD i h1).2.trans h2) h3 q (g2.far s hD (by omega)) (yA h6 s (by omega)) h7;simpa[av] using this
  ·obtain⟨f',c',a,b,x,y⟩:=g2.rng t hu;obtain⟨La,Lb,e,q⟩:=i2 hu;refine⟨L1++La,Lb,by rw[e];simp,?_⟩
   have:=Cv.node i f c1 c2 nd L1 _ (hD i h1).1 ((hD i h1).2.trans h2) h3 (g1.far s hD (by omega)) q (yA h6 s (by omega)) h7;simpa[av] using this
def aNl(n:Nat)(o:List Int):Prop:=∀e:Nat,e < n->∃j:Nat,j < n/\o[j]? = some (e:Int)
theorem aH2{n lo m:Nat}{o o':List Int}(h:aNl n o)(s:rF lo m o o')(hn:lo+m<=n):aNl n o':=by
 intro e he;obtain⟨j,h1,h2⟩:=h e he;by_cases hj:lo<=j/\j < lo+m
 ·obtain⟨j',a1,a2,a3⟩:=s.sup j hj.1 hj.2;exact⟨j',by omega,by rw[<- a3];exact h2⟩
 ·exact⟨j,h1,by rw[s.out j (by omega)];exact h2⟩
def aHB(d:List bD)(l:List bA)(i:Int):Prop:=(0<=i/\i < (d.length:Int))/\∀t∈l,t.gA7≠i
structure Bld(R:List aH)(o:List Int)(d:List bD)(l:List bA):Prop where
 tris:aAz R
 ord:ord R.length o
 len:o.length=R.length
 todo:∀t∈l,aFr R.length d.length t
 good:∀i,(h:i < d.length)->(∃t∈l,t.gA7=(i:Int))\/aLB R.length d.length i d[i]
 room:(d.length:Int)+aCW l<=39
 full:aNl R.length o
 one:(l.map (·.gA7)).Nodup
 tree:∃L,Cv R o d (aHB d l) 0 0 R.length L/\L.Perm l
def yT(n:Nat)(b:aX):Prop:=ord n b.gC2/\b.gC2.length=n/\b.gA0.length<=39/\∀i,(h:i < b.gA0.length)->aLB n b.gA0.length i b.gA0[i]
def vJ(R:List aH)(b:aX):Prop:=(R.length=0/\b.gA0=[])\/(0 < R.length/\aNl R.length b.gC2/\Cv R b.gC2 b.gA0 (λ_=>True) 0 0 R.length [])
theorem aHg{l:List bA}{t:bA}(h:((l++[t]).map (·.gA7)).Nodup):(l.map (·.gA7)).Nodup/\∀u∈l,u.gA7≠t.gA7:=by
 rw[dc,kn] at h;refine⟨h.1,λu hu e=>?_⟩
 exact h.2.2 _ (List.mem_map_of_mem hu) _ (by simp) e
theorem aI5{L La Lb l Ln:List bA}{t:bA}(e:L=La++t :: Lb)(h:L.Perm (l++[t])):(La++(Ln++Lb)).Perm (l++Ln):=by
 subst e;have h1:(t :: (La++Lb)).Perm (t :: l):=(List.perm_middle.symm.trans h).trans (gf (l₁:=l) (l₂:=[t]))
 have h2:(La++Lb).Perm l:=gg.cons_inv h1;have h3:(La++(Ln++Lb)).Perm (La++(Lb++Ln)):=gg.append_left La gf;rw[<- av] at h3;rw[<- av]
 refine(by rw[av];exact gg.append_left La gf:(La++Ln++Lb).Perm (La++(Lb++Ln))).trans ?_;rw[<- av]
 exact gg.append_right Ln h2
theorem Bld.leaf{R:List aH}{o o':List Int}{d:List bD}{l:List bA}{t:bA}{x:bD}(h:Bld R o d (l++[t]))(ho:Go.UK.ord R.length o')(hl:rF t.gB.toNat t.gA5.toNat o o')(hx:x.gB2 < 0)(hf:x.gC5=t.gB)(hc:x.gD1=t.gA5)(hb:aCL R o t.gB.toNat t.gA5.toNat x.gLo x.gHi)(hn:aPG x):Bld R o' (d.set t.gA7.toNat x) l:=by
 have ht:=h.todo t (by simp)
 obtain⟨n1,n2⟩:=aHg h.one;refine⟨h.tris,ho,hl.len.trans h.len,λu hu=>by rw[cp];exact h.todo u (by simp[hu]),λi hi=>?_,?_,aH2 h.full hl (by obtain⟨_,a,b,c⟩:=ht;omega),n1,?_⟩
 ·rw[cp] at hi ⊢;by_cases e:i=t.gA7.toNat
  ·subst e;right;rw[jj]
   obtain⟨_,a,b,c⟩:=ht;exact⟨λh=>by omega,λ_=>by rw[hf,hc];omega⟩
  ·rw[k7 (by omega)]
   rcases h.good i hi with ⟨u,hu,e'⟩ | g
   ·rw[au,ca] at hu;rcases hu with hu | rfl
    ·exact Or.inl ⟨u,hu,e'⟩
    ·omega
   ·exact Or.inr g
 ·rw[cp]
  have r:=h.room;rw[aI6] at r;have:aCW [t]=2*t.gA5 - 2+0:=rfl;obtain⟨_,_,b,_⟩:=ht;omega
 ·obtain⟨L,cv,pm⟩:=h.tree;obtain⟨⟨a1,a2⟩,b1,b2,b3⟩:=ht;have hD:∀i,aHB d (l++[t]) i->aHB (d.set t.gA7.toNat x) l i/\(d.set t.gA7.toNat x)[i.toNat]? = d[i.toNat]? := by
   intro i ⟨q1,q2⟩
   have:=q2 t (by simp)
   exact⟨⟨by rw[cp];exact q1,λu hu=>q2 u (by simp[hu])⟩,eh (by omega)⟩
  have new:Cv R o' (d.set t.gA7.toNat x) (aHB (d.set t.gA7.toNat x) l) t.gA7 t.gB.toNat t.gA5.toNat []:=
   .leaf _ _ _ x ⟨by rw[cp];exact⟨a1,a2⟩,n2⟩ (f7 (by omega)) hx (by omega) (by omega) (yA hb hl (by omega)) hn
  obtain⟨La,Lb,e,q⟩:=Cv.near (t:=t) hl hD (by omega) (by omega) new cv (pm.mem_iff.2 (by simp))
  exact⟨_,q,by have:=aI5 (Ln:=[]) e pm;simpa using this⟩
theorem Bld.inner{R:List aH}{o o':List Int}{d:List bD}{l:List bA}{t u v:bA}{x:bD}{e1 e2:bD}{c:Int}(h:Bld R o d (l++[t]))(ho:Go.UK.ord R.length o')(hl:rF t.gB.toNat t.gA5.toNat o o')(hx:x.gB2=(d.length:Int))(hy:x.gB4=(d.length:Int)+1)(hc:0 < c/\c < t.gA5)
  (hu:u.gA7=(d.length:Int)+1/\u.gB=t.gB+c/\u.gA5=t.gA5 - c) (hv:v.gA7=(d.length:Int)/\v.gB=t.gB/\v.gA5=c) (hb:aCL R o t.gB.toNat t.gA5.toNat x.gLo x.gHi) (hn:aPG x):Bld R o' ((d++[e1,e2]).set t.gA7.toNat x) (l++[u,v]):=by
 have ht:=h.todo t (by simp)
 obtain⟨n1,n2⟩:=aHg h.one;have dl:((d++[e1,e2]).set t.gA7.toNat x).length=d.length+2:=by rw[cp,am];rfl
 have old:∀w∈l,w.gA7 < (d.length:Int):=λw hw=>(h.todo w (by simp[hw])).1.2;refine⟨h.tris,ho,hl.len.trans h.len,λw hw=>?_,λi hi=>?_,?_,aH2 h.full hl (by obtain⟨_,a,b,c⟩:=ht;omega),?_,?_⟩
 ·rw[dl]
  rw[au] at hw;rcases hw with hw | hw
  ·exact aMv (h.todo w (by simp[hw])) (by omega)
  ·obtain⟨_,a,b,c'⟩:=ht;simp at hw;rcases hw with rfl | rfl
   ·unfold aFr;omega
   ·unfold aFr;omega
 ·simp only[dl]
  rw[dl] at hi;by_cases e:i=t.gA7.toNat
  ·subst e;right;rw[jj]
   obtain⟨⟨a1,a2⟩,a,b,c⟩:=ht;exact⟨λ_=>by rw[hx,hy];omega,λh=>by omega⟩
  ·rw[k7 (by omega)]
   by_cases hd:i < d.length
   ·rcases h.good i hd with ⟨w,hw,e'⟩ | g
    ·rw[au,ca] at hw;rcases hw with hw | rfl
     ·exact Or.inl ⟨w,by rw[au];exact Or.inl hw,e'⟩
     ·omega
    ·right;rw[List.getElem_append_left hd]
     exact aL6 g (by omega)
   ·left;have:i=d.length\/i=d.length+1:=by omega
    rcases this with rfl | rfl
    ·exact⟨v,by simp,hv.1⟩
    ·exact⟨u,by simp,by rw[hu.1];omega⟩
 ·rw[dl]
  have r:=h.room;rw[aI6] at r ⊢;have e1:aCW [t]=2*t.gA5 - 2+0:=rfl;have e2:aCW [u,v]=2*u.gA5 - 2+(2*v.gA5 - 2+0):=rfl;omega
 ·rw[dc,kn]
  refine⟨n1,by simp;rw[hu.1,hv.1];omega,λa ha b hb e=>?_⟩
  rw[List.mem_map] at ha;obtain⟨w,hw,rfl⟩:=ha;have:=old w hw;simp at hb;rcases hb with rfl | rfl
  ·rw[hu.1] at e;omega
  ·rw[hv.1] at e;omega
 ·obtain⟨L,cv,pm⟩:=h.tree;obtain⟨⟨a1,a2⟩,b1,b2,b3⟩:=ht;have hD:∀i,aHB d (l++[t]) i->aHB ((d++[e1,e2]).set t.gA7.toNat x) (l++[u,v]) i/\((d++[e1,e2]).set t.gA7.toNat x)[i.toNat]? = d[i.toNat]? := by
   intro i ⟨q1,q2⟩
   have:=q2 t (by simp)
   refine⟨⟨by rw[dl];omega,λw hw=>?_⟩,by rw[eh (by omega),c9 (by omega)]⟩
   rw[au] at hw;rcases hw with hw | hw
   ·exact q2 w (by simp[hw])
   ·simp at hw;rcases hw with rfl | rfl
    ·rw[hu.1];omega
    ·rw[hv.1];omega
  obtain⟨cn,rfl⟩:=bh (show 0<=c by omega)
  have new:Cv R o' ((d++[e1,e2]).set t.gA7.toNat x) (aHB ((d++[e1,e2]).set t.gA7.toNat x) (l++[u,v])) t.gA7 t.gB.toNat t.gA5.toNat ([v]++[u]):=by
   have hm:t.gA5.toNat=cn+(t.gA5.toNat - cn):=by omega
   rw[hm]
   refine .node _ _ cn (t.gA5.toNat - cn) x [v] [u] ⟨by rw[dl];omega,λw hw=>?_⟩ (f7 (by rw[am];omega)) (by omega) ?_ ?_ (by rw[<- hm];exact yA hb hl (by omega)) hn
   ·rw[au] at hw;rcases hw with hw | hw
    ·exact n2 w hw
    ·simp at hw;rcases hw with rfl | rfl
     ·rw[hu.1];omega
     ·rw[hv.1];omega
   ·rw[hx,<- hv.1];exact .pend v _ _ (by omega) (by omega)
   ·rw[hy,<- hu.1];exact .pend u _ _ (by omega) (by omega)
  obtain⟨La,Lb,e,q⟩:=Cv.near (t:=t) hl hD (by omega) (by omega) new cv (pm.mem_iff.2 (by simp))
  refine⟨_,q,(aI5 (Ln:=[v]++[u]) e pm).trans ?_⟩
  exact gg.append_left l (gg.swap u v [])
theorem aSP(N:Nat)(hN:100 < N){R:List aH}:∀(k:Nat) (o:List Int) (d:List bD) (s:List bA) (m:Nat),m<=s.length->Bld R o d (s.take m)->aAU (s.take m) < (k:Int)->aAU (s.take m)<=100 ->
  T (qO N R k o d s m) (λr=>Bld R r.1 r.2.1 []):=by
 intro k
 induction k with
 | zero=>
  intro o d s m hm h hw;have:=aHK h.todo;omega
 | succ k ih=>
  intro o d s m hm h hw hw';rw[qO,aR]
  have lenT:(s.take m).length=m:=by rw[bn];omega
  have wl:=aHK h.todo;rw[lenT] at wl;refine T.cond (λhc=>?_) (λhc=>?_)
  ·obtain⟨m,rfl⟩:∃m',m=m'+1:=⟨m - 1,by have:=of_decide_eq_true hc;omega⟩
   have im:I64 (((m+1:Nat):Int) - 1)=(m:Int):=by rw[bC (by omega) (by omega)];omega
   simp only[aR,im,bj]
   obtain⟨t,et⟩:∃t,s[m]? = some t:=⟨_,af (by omega)⟩
   have hs:=pV et;rw[hs] at h hw hw';have ht:=h.todo t (by simp)
   obtain⟨⟨tn1,tn2⟩,t1,t2,t3⟩:=ht;have n20:=h.tris.2;have ol:=h.len;have rm:=h.room;have rg:=aP1 h.todo;rw[aE4,show aAU [t]=2*t.gA5 - 1+0 from rfl] at hw hw';have wl2:=aHK (l:=s.take m) λu hu=>h.todo u (by simp[hu])
   rw[show(s.take m).length=m by rw[bn];omega] at wl2;refine T.bind (T.inRS (by omega) (by omega) (by omega)) λ_ _=>T.eq et (T.bind (T.slcG (by omega) (by omega) (by omega) (by omega) (Or.inl rfl)) λ_ _=>?_)
   have ifc:I64 (t.gB+t.gA5)=t.gB+t.gA5:=bC (by omega) (by omega)
   rw[ifc]
   refine T.bind (T.slcG (by omega) t1 (by omega) (by omega) (by omega)) λ_ _=>?_;have hp:aKV R o t.gB.toNat ((t.gB+t.gA5).toNat - t.gB.toNat):=⟨h.tris,h.ord,by omega,by omega⟩
   have cnt:(t.gB+t.gA5).toNat - t.gB.toNat=t.gA5.toNat:=by omega
   rw[cnt] at hp ⊢;refine T.bind (boxDT N (by omega) hp) λr30 h30=>?_;have step:∀(o':List Int) (d':List bD) (s':List bA) (x:bD) (m':Nat),m'<=s'.length->t.gA7 < (d'.length:Int)->Bld R o' (d'.set t.gA7.toNat x) (s'.take m')->aAU (s'.take m') < (k:Int)->aAU (s'.take m')<=100 ->
     T (aa (fM t.gA7 d'.length) λ_=>aa (aHT d' t.gA7.toNat x) λz41=>qO N R k o' z41 s' m') (λr=>Bld R r.1 r.2.1 []):=by
    intro o' d' s' x m' h1 h2 h3 h4 h5;refine T.bind (T.inRO tn1 h2) λ_ _=>T.bind (T.setO (by omega)) λz hz=>?_;subst hz;exact ih _ _ _ _ h1 h3 h4 h5
   refine T.bind (P:=λp=>p.2.2.2.2<=p.2.2.1.length/\t.gA7 < (p.2.1.length:Int)/\Bld R p.1 (p.2.1.set t.gA7.toNat p.2.2.2.1) (p.2.2.1.take p.2.2.2.2)/\aAU (p.2.2.1.take p.2.2.2.2) < (k:Int)/\aAU (p.2.2.1.take p.2.2.2.2)<=100) ?_ λp31 h31=>step _ _ _ _ _ h31.1 h31.2.1 h31.2.2.1 h31.2.2.2.1 h31.2.2.2.2;refine T.bind (partT N (by omega) hp t.gE0) λr32 h32=>T.bind (T.lenO h32.2.1.len) λ_ _=>?_;refine T.cond (λhc=>?_) (λ_=>?_)
   ·have c0:=of_decide_eq_true hc;have c1:=h32.2.2 c0;have i1:I64 ((d.length:Int)+1)=(d.length:Int)+1:=bC (by omega) (by omega)
    have i2:I64 (t.gB+r32.2)=t.gB+r32.2:=bC (by omega) (by omega)
    have i3:I64 (t.gA5 - r32.2)=t.gA5 - r32.2:=bC (by omega) (by omega)
    rw[i1,i2,i3]
    refine T.eq (hJ (by simp;omega)) (T.bind (T.appG (by omega) (show(m+2)*32<=140737488355328 by omega)) λz39 h39=>T.ret ?_)
    subst h39;have tk:∀a b:bA,(uA s m [a,b]).take (m+2)=s.take m++[a,b]:=λa b=>aBh s m [a,b] (by omega)
    dsimp only;refine⟨aEH s m [_,_] (by omega),by rw[am];simp;omega,?_,?_,?_⟩
    ·rw[tk]
     exact h.inner (c:=r32.2) h32.1 h32.2.1 rfl rfl ⟨c0,by omega⟩ ⟨rfl,rfl,rfl⟩ ⟨rfl,rfl,rfl⟩ h30.2 h30.1
    ·rw[tk,aE4]
     show aAU (s.take m)+(2*(t.gA5 - r32.2) - 1+(2*r32.2 - 1+0)) < (k:Int)
     omega
    ·rw[tk,aE4]
     show aAU (s.take m)+(2*(t.gA5 - r32.2) - 1+(2*r32.2 - 1+0))<=100;omega
   ·refine T.ret ⟨by dsimp only;omega,tn2,?_,by dsimp only;omega,by dsimp only;omega⟩
    exact h.leaf h32.1 h32.2.1 (show(-1:Int) < 0 by decide) rfl rfl h30.2 h30.1
  ·have:m=0:=by have:=of_decide_eq_false hc;omega
   subst this;exact T.ret h
theorem aPP(N:Nat)(hN:10 < N){t:aH}(h:tpw t):T (yR N t) (λr=>pwi 65536 r.1/\pwi 65536 r.2):=by
 unfold yR;refine T.bind (P:=λr=>pwi 65536 r.1/\pwi 65536 r.2) ?_ λ_ h=>T.ret h;have z:pwi 65536 (aC.mk 0 0 0):=by unfold pwi;dsimp only;omega
 refine T.loopG0 (n:=3) (λ_ (s:aC×aC)=>pwi 65536 s.1/\pwi 65536 s.2) _ (F:=λk (s:aC×aC) i=>qY N t k s.1 s.2 i) (λk s i hi hs hk=>?_) (λk s hs=>?_) (by omega) (s:=(aC.mk 0 0 0,aC.mk 0 0 0)) ⟨z,z⟩
 ·rw[qY,aR,dt (by omega),cond_true]
  refine T.bind (T.inRO (by omega) (by omega)) λ_ _=>T.eq (aBN t.gP i hi) ?_;have he:=h _ (aKL t.gP hi)
  generalize t.gP[i]=e at *;refine T.bind (P:=λp=>pwi 65536 p.1/\pwi 65536 p.2) (T.cond (λ_=>T.ret ⟨he,he⟩) (λ_=>T.ret hs)) λp hp=>?_;rw[dI (by omega)]
  refine hk (_,_) ⟨?_,?_⟩
  ·unfold pwi at *;simp only[vQ];omega
  ·unfold pwi at *;simp only[tB];omega
 ·rw[qY,aR,df (by omega),cond_false];exact T.ret hs
theorem aTR(N:Nat)(hN:100 < N){R:List aH}(hR:aAz R):T (yN N R) (λr=>r.2=0/\yT R.length r.1/\vJ R r.1):=by
 unfold yN;have n20:=hR.2;rw[aR]
 refine T.cond (λhc=>absurd (of_decide_eq_true hc) (by omega)) (λ_=>?_)
 refine T.bind (T.loopG0 (n:=R.length) (λ_ _=>True) (λo=>match o with | .inl _=>True | .inr r=>False) (F:=λk (_:Unit) i=>qN N R k i) (λk _ i hi _ hk=>?_) (λk _ _=>?_) (by omega) (s:=()) trivial) λo ho=>?_
 ·rw[qN,aR,dt (by omega),cond_true]
  refine T.bind (T.tri hR ⟨by omega,by omega⟩) λ_ ht=>T.eq (a:=()) (by decide) (T.bind (aPP N (by omega) ht) λr7 h7=>T.bind (P:=λp=>p=false) ?_ λp8 h8=>?_)
  ·obtain⟨g1,g2⟩:=h7;unfold pwi at g1 g2;simp only[aR,vQ,tB]
   rw[df (show ¬min (min r7.1.gX r7.1.gY) r7.1.gZ < -1048576 by omega),df (show ¬max (max r7.2.gX r7.2.gY) r7.2.gZ > 1048576 by omega)]
   exact⟨_,rfl,rfl⟩
  ·rw[h8,cond_false,dI (by omega)];exact hk () trivial
 ·rw[qN,aR,df (by omega),cond_false];exact T.ret trivial
 cases o with
 | inr r=>exact ho.elim
 | inl _=>
 show T (aU _ _) _;rw[aR]
 refine T.cond (λhc=>T.ret ⟨rfl,?_⟩) (λhc=>?_)
 ·have:R.length=0:=by have h0:(R.length:Int)=0:=(by simpa using hc);omega
  refine⟨?_,Or.inl ⟨this,rfl⟩⟩
  rw[this]
  exact⟨λx h=>absurd h (by simp),rfl,by simp,λi h=>absurd h (by simp)⟩
 ·have n0:R.length≠0:=by intro e;rw[e] at hc;cases hc
  refine T.bind (T.loopG0 (n:=R.length) (λi (s:List Int)=>s.length=i/\ord R.length s/\∀j:Nat,j < i->s[j]? = some (j:Int)) (λr=>r.length=R.length/\ord R.length r/\∀j:Nat,j < R.length->r[j]? = some (j:Int)) (F:=qG N R) (λk s i hi hs hk=>?_) (λk s hs=>?_) (by omega) (s:=[]) ⟨rfl,λx h=>absurd h (by simp),λj h=>absurd h (by omega)⟩) λp12 h12=>?_
  ·rw[qG,aR,dt (by omega),cond_true]
   refine T.eq (hJ (by simp;omega)) ?_;rw[dI (by omega)]
   refine hk _ ⟨by simp;omega,λx hx=>?_,λj hj=>?_⟩
   ·rw[au,ca] at hx;rcases hx with hx | rfl
    ·exact hs.2.1 x hx
    ·omega
   ·by_cases c:j=i
    ·subst c;rw[ct (by omega),hs.1];simp
    ·rw[c9 (by omega)];exact hs.2.2 j (by omega)
  ·rw[qG,aR,df (by omega),cond_false];exact T.ret hs
  ·refine T.bind (aSP N hN N p12 _ _ 1 (bg _) ⟨hR,h12.2.1,h12.1,?_,?_,?_,λe he=>⟨e,he,h12.2.2 e he⟩,by simp,⟨_,.pend (bA.mk 0 0 (R.length:Int) 1) 0 R.length rfl rfl,gg.refl _⟩⟩ ?_ ?_) λp17 h17=>T.ret ⟨rfl,?_⟩
   ·intro t ht;have:t=bA.mk 0 0 (R.length:Int) 1:=by simpa using ht
    subst this;exact⟨⟨dw _,by simp⟩,dw _,by show 1<=(R.length:Int);omega,by show 0+(R.length:Int)<=(R.length:Int);omega⟩
   ·intro i hi;have:i=0:=by simpa using hi
    subst this;exact Or.inl ⟨bA.mk 0 0 (R.length:Int) 1,by simp,rfl⟩
   ·show(1:Int)+(2*(R.length:Int) - 2+0)<=39;omega
   ·show 2*(R.length:Int) - 1+0 < (N:Int)
    omega
   ·show 2*(R.length:Int) - 1+0<=100;omega
   ·obtain⟨L,cv,pm⟩:=h17.tree;have:=pm.eq_nil;subst this;refine⟨⟨h17.ord,h17.len,?_,λi hi=>?_⟩,Or.inr ⟨by omega,h17.full,Cv.mono (λ_ _=>trivial) cv⟩⟩
    ·have:=h17.room;have e:aCW ([]:List bA)=0:=rfl;show p17.2.1.length<=39;omega
    ·rcases h17.good i hi with ⟨t,ht,_⟩ | g
     ·exact absurd ht (by simp)
     ·exact g
theorem aQG(N:Nat)(hN:100 < N){R:List aH}(hR:aAz R):T (vM N R) (λq=>match q with | .inl e=>False | .inr r=>r.2.2=0/\r.2.1=aL.mk r.1 true R 0/\yT R.length r.1/\vJ R r.1):=by
 unfold vM;refine T.bind (aTR N hN hR) λr1 h1=>?_;refine T.cond (λhc=>by rw[h1.1] at hc;cases hc) (λhc=>?_)
 have n20:=hR.2;unfold iY;refine T.eq (a:=R) (by rw[hJ (by simp;omega)];simp) (T.ret ⟨rfl,rfl,h1.2⟩)
structure Rdy(b:List (List aD))(s:aG)(v:aI)(sky:aA):Prop where
 tri:∀t∈s.gE,(0<=t.gD0/\t.gD0 < (s.gA6.length:Int))/\t.gB3 < (b.length:Int)/\(∀v∈t.gUv.toList,∀x∈v.toList,0<=x/\x<=65535)/\∀p∈t.gP.toList,pwi 65536 p
 few:s.gE.length<=20
 mat:∀m∈s.gA6,aBS m
 light:∀l∈s.gF,wH l
 lights:s.gF.length<=5
 lev:∀l∈b,aFZ l
 dark:s.gF=[]->sky=aA.mk 0 0 0
 sky:vin sky
 view:aHX v
def aBx(n:Nat)(gl:List aH):Prop:=gl.length<=4096/\∀i,n<=i->∀t,gl[i]? = some t->t.gC0=0
def newS(s:aG)(v:aI)(r:(List aH)×(List aP)×(List aQ)×(List (List aD))×aA×(List aH)×Int):Prop:=
 r.1=s.gE/\r.2.1=s.gA6/\r.2.2.1=s.gF/\Rdy r.2.2.2.1 s v r.2.2.2.2.1/\aBx s.gE.length r.2.2.2.2.2.1/\r.2.2.2.2.2.2=0/\v.gT=true/\(r.2.2.2.2.2.1.length:Int)=(cV v.gL).1/\fits s v.gL/\∀i,i < s.gE.length->r.2.2.2.2.2.1[i]? = s.gE[i]?
def newW(s:aG)(v:aI)(r:(List aH)×(List aP)×(List aQ)×(List (List aD))×aA×aX×aL×Int):Prop:=
 r.1=s.gE/\r.2.1=s.gA6/\r.2.2.1=s.gF/\Rdy r.2.2.2.1 s v r.2.2.2.2.1/\(yT s.gE.length r.2.2.2.2.2.1/\r.2.2.2.2.2.2.1=aL.mk r.2.2.2.2.2.1 true s.gE 0)/\r.2.2.2.2.2.2.2=0/\v.gT=false/\vJ s.gE r.2.2.2.2.2.1
def aH7(N:Nat)(s:aG)(v:aI)(r:Int):Prop:=(jQ N s=some r/\r≠0)\/(jQ N s=some 0/\nV N v=some r/\r≠0)\/(jQ N s=some 0/\nV N v=some 0/\oE N s v.gL=some r)
def newL(N:Nat)(s:aG)(b:List (List aD))(sky:aA):Prop:=mE N (s.gA2.length:Int) s N [] 0=some b/\yD N s.gF=some sky
theorem newT(N:Nat)(hN:300 < N)(s:aG)(v:aI)(hs:few s):T (kE N s v) (λq=>match q with
  | .inl e=>e≠0/\aH7 N s v e
  | .inr (.inl r)=>False
  | .inr (.inr (.inl r))=>newS s v r/\aH7 N s v 0/\newL N s r.2.2.2.1 r.2.2.2.2.1
  | .inr (.inr (.inr (.inl r)))=>False
  | .inr (.inr (.inr (.inr r)))=>newW s v r/\aH7 N s v 0/\newL N s r.2.2.2.1 r.2.2.2.2.1):=by
 unfold kE;have nz:∀{r:Int},(r != 0)=true->r≠0:=λh=>by simpa using h
 have ez:∀{r:Int},(r != 0)=false->r=0:=λh=>by simpa using h
 obtain⟨r1,e1,h1⟩:=aTg N hN s hs;refine T.eq e1 (T.cond (λhc=>T.ret ⟨nz hc,Or.inl ⟨e1,nz hc⟩⟩) (λhc1=>?_))
 rw[ez hc1] at e1;have ok:=h1 (ez hc1)
 obtain⟨r2,e2,h2⟩:=mayVT N v;refine T.eq e2 (T.cond (λhc=>T.ret ⟨nz hc,Or.inr (Or.inl ⟨e1,e2,nz hc⟩)⟩) (λhc2=>?_))
 rw[ez hc2] at e2;have vok:=h2 (ez hc2)
 obtain⟨r3,e3,h3⟩:=aSa N s v.gL;refine T.eq e3 (T.cond (λhc=>T.ret ⟨nz hc,Or.inr (Or.inr ⟨e1,e2,e3⟩)⟩) (λhc3=>?_))
 rw[ez hc3] at e3;have nv:aH7 N s v 0:=Or.inr (Or.inr ⟨e1,e2,e3⟩)
 have cb:0<=(cV v.gL).1/\(cV v.gL).1<=4096:=by unfold cV;cases (v.gL==0) <;> cases (v.gL==1) <;> cases (v.gL==2) <;> decide
 have fit:=h3 (ez hc3)
 obtain⟨⟨f1,f2,f3,f4,f5⟩,okt,okm,okx,okl⟩:=ok;obtain⟨N,rfl⟩:∃n,N=n+3:=⟨N - 3,by omega⟩
 obtain⟨r4,e4,h4⟩:=skyT N (by omega) _ okl f4;refine T.eq e4 ?_;refine T.eq (hJ (by simp;omega)) (T.eq (hJ (by simp;omega)) (T.eq (hJ (by simp;omega)) ?_))
 simp only[aR,ik]
 have lvT:T (mE (N+3) (s.gA2.length:Int) s (N+3) [] 0) (λr=>r.length=s.gA2.length/\∀x∈r,aFZ x):=by
  refine T.loopG0 (n:=s.gA2.length) (λi (l:List (List aD))=>l.length=i/\∀x∈l,aFZ x) (λr=>r.length=s.gA2.length/\∀x∈r,aFZ x) (F:=mE (N+3) (s.gA2.length:Int) s) (λk l i hi hl hk=>?_) (λk l hl=>?_) (by omega) (s:=[]) ⟨rfl,λx h=>absurd h (by simp)⟩
  ·rw[mE,dt (by omega),cond_true,eK,af hi,ae]
   refine T.bind (aSM (N+3) hN _ (f5 _ (bp hi))) λr13 h13=>T.eq (hJ (by simp;omega)) ?_;rw[dI (by omega)]
   refine hk _ ⟨by simp;omega,λx hx=>?_⟩
   rw[au,ca] at hx;rcases hx with hx | rfl
   ·exact hl.2 x hx
   ·exact h13
  ·rw[mE,df (by omega),cond_false];exact T.ret hl
 obtain⟨p9,e9,h9⟩:=lvT;refine T.eq e9 ?_;have rdy:Rdy p9 s v r4:=⟨λt ht=>by have:=okt t ht;exact⟨this.1,by rw[h9.1];exact this.2.1,this.2.2.1,this.2.2.2⟩,f1,okm,okl,f4,h9.2,h4.2,h4.1,vok⟩
 refine T.cond (λhc=>?_) (λhc=>?_)
 ·refine T.bind (aUb _ _) λr15 h15=>T.bind (aOy (N+3) s.gE r15.1 (by rw[h15];exact cb) (by rw[h15];exact fit.1)) λq hq=>?_;cases q with
  | inl e=>exact hq.elim
  | inr r=>exact T.ret ⟨⟨rfl,rfl,rfl,rdy,⟨hq.2.2.1,hq.2.2.2.1⟩,hq.1,hc,by rw[<- h15];exact hq.2.1,fit,hq.2.2.2.2⟩,nv,e9,e4⟩
 ·refine T.bind (aQG (N+3) (by omega) (R:=s.gE) ⟨λt ht=>(okt t ht).2.2.2,f1⟩) λq hq=>?_;cases q with
  | inl e=>exact hq.elim
  | inr r=>exact T.ret ⟨⟨rfl,rfl,rfl,rdy,⟨hq.2.2.1,hq.2.1⟩,hq.1,hc,hq.2.2.2⟩,nv,e9,e4⟩
def TU{ι ρ α:Type}(f:ι->Option ρ)(P:α->Prop)(S:ι->α->ρ->Prop):Prop:=∃a,P a/\∀i,∃r,f i=some r/\S i a r
section
variable {ι ρ ρ' α β:Type}
theorem TU.bind{A:ι->Option ρ}{B:ι->ρ->Option ρ'}{P:α->Prop}{S:ι->α->ρ->Prop}{Q:β->Prop}{S':ι->β->ρ'->Prop}(h:TU A P S)
  (hf:∀a,P a->∀r:ι->ρ,(∀i,S i a (r i))->TU (λi=>B i (r i)) Q S'):TU (λi=>aa (A i) (B i)) Q S':=by
 obtain⟨a,pa,h⟩:=h;have h':∃r:ι->ρ,∀i,A i=some (r i)/\S i a (r i):=⟨λi=>(h i).choose,λi=>(h i).choose_spec⟩
 obtain⟨r,hr⟩:=h';obtain⟨b,qb,hb⟩:=hf a pa r λi=>(hr i).2;refine⟨b,qb,λi=>?_⟩
 obtain⟨x,e,s⟩:=hb i;exact⟨x,by show aa (A i) (B i)=some x;rw[(hr i).1];exact e,s⟩
theorem TU.t{o:Option α}{B:ι->α->Option ρ}{P:α->Prop}{Q:β->Prop}{S:ι->β->ρ->Prop}(h:T o P)(hf:∀a,P a->TU (λi=>B i a) Q S):TU (λi=>aa o (B i)) Q S:=by
 obtain⟨a,rfl,pa⟩:=h;exact hf a pa
theorem TU.e{A:ι->Option ρ}{B:ι->ρ->Option ρ'}{a:ρ}{Q:β->Prop}{S':ι->β->ρ'->Prop}(e:∀i,A i=some a)(h:TU (λi=>B i a) Q S'):TU (λi=>aa (A i) (B i)) Q S':=by
 rw[show(λi=>aa (A i) (B i))=λi=>B i a from funext λi=>by rw[e i];rfl];exact h
theorem TU.cond{c:Bool}{A B:ι->Option ρ}{Q:β->Prop}{S:ι->β->ρ->Prop}(h1:c=true->TU A Q S)(h2:c=false->TU B Q S):TU (λi=>_root_.cond c (A i) (B i)) Q S:=by
 cases c with
 | true=>exact h1 rfl
 | false=>exact h2 rfl
theorem TU.ret{g:ι->ρ}(b:β){Q:β->Prop}{S:ι->β->ρ->Prop}(hq:Q b)(h:∀i,S i b (g i)):TU (λi=>some (g i)) Q S:=⟨b,hq,λi=>⟨g i,rfl,h i⟩⟩
theorem TU.mono{f:ι->Option ρ}{P P':α->Prop}{S S':ι->α->ρ->Prop}(h:TU f P S)(hp:∀a,P a->P' a)(hs:∀i a r,P a->S i a r->S' i a r):TU f P' S':=by
 obtain⟨a,pa,h⟩:=h;refine⟨a,hp a pa,λi=>?_⟩
 obtain⟨r,e,s⟩:=h i;exact⟨r,e,hs i a r pa s⟩
theorem TU.loop{σ τ:Type}{n:Nat}{P:α->Prop}{S:ι->α->ρ->Prop}(I:Nat->σ->(ι->τ)->Prop){F:ι->Nat->τ->σ->Int->Option ρ}
  (hstep:∀k (h:ι->τ) s j,j < n->I j s h->(∀s' h',I (j+1) s' h'->TU (λi=>F i k (h' i) s' ((j+1:Nat):Int)) P S)->TU (λi=>F i (k+1) (h i) s (j:Int)) P S)
  (hend:∀k (h:ι->τ) s,I n s h->TU (λi=>F i (k+1) (h i) s (n:Int)) P S):∀(k j:Nat) (s:σ) (h:ι->τ),I j s h->j<=n->n - j < k->TU (λi=>F i k (h i) s (j:Int)) P S
 | 0,j,_,_,_,_,hk=>by omega
 | k+1,j,s,h,hi,hj,hk=>by
  by_cases hn:j < n
  ·exact hstep k h s j hn hi λs' h' hi'=>TU.loop I hstep hend k (j+1) s' h' hi' (by omega) (by omega)
  ·obtain rfl:j=n:=by omega
   exact hend k h s hi
theorem TU.loop0{σ τ:Type}{n:Nat}{P:α->Prop}{S:ι->α->ρ->Prop}(I:Nat->σ->(ι->τ)->Prop){F:ι->Nat->τ->σ->Int->Option ρ}
  (hstep:∀k (h:ι->τ) s j,j < n->I j s h->(∀s' h',I (j+1) s' h'->TU (λi=>F i k (h' i) s' ((j+1:Nat):Int)) P S)->TU (λi=>F i (k+1) (h i) s (j:Int)) P S)
  (hend:∀k (h:ι->τ) s,I n s h->TU (λi=>F i (k+1) (h i) s (n:Int)) P S) {N:Nat} (hN:n < N) {s:σ} {h:ι->τ} (hi:I 0 s h):TU (λi=>F i N (h i) s 0) P S:=
 TU.loop I hstep hend N 0 s h hi (by omega) (by omega)
end
def swp(gl:List aH)(t:Int):aK:=aK.mk (kG.mk t) true gl
def fC(a b n:Int):Prop:=I64 b=I64 (a+n)/\(cJ a->cJ b)
theorem aKh{a b:Int}{n:Nat}(h:fC a b (n:Int)):fC a (I64 (b+1)) ((n+1:Nat):Int):=by
 obtain⟨h,_⟩:=h;refine⟨?_,λ_=>dM _⟩
 rw[xE] at *;rw[xE] at *;rw[xE] at *;omega
theorem vK(a:Int):fC a a 0:=⟨by rw[Int.add_zero],λh=>h⟩
theorem zG{a b c n m:Int}(h:fC a b n)(h':fC b c m):fC a c (n+m):=by
 obtain⟨h,g⟩:=h;obtain⟨h',g'⟩:=h';refine⟨?_,λx=>g' (g x)⟩
 rw[xE] at *;rw[xE] at *;omega
theorem aMF{a b n:Int}(h:fC a b n)(ha:cJ a):b=I64 (a+n):=by
 obtain⟨h1,h2⟩:=h.2 ha;rw[<- h.1,bC (by omega) (by omega)]
theorem aPH(N:Nat)(hN:3 < N){n:Nat}{gl:List aH}(h:aBx n gl)(o d:aC)(m s:Int){j:Nat}(hj:j < gl.length):∃a:aN×Bool,lZ a.1/\(a.2=true->j < n)/\∀t,dD N o d m s (j:Int) (swp gl t)=some a:=by
 have key:T (dD N o d m s (j:Int) (swp gl 0)) (λa=>lZ a.1/\(a.2=true->j < n)):=by
  unfold dD mL swp;refine T.eq rfl ?_;refine T.bind (T.idx (by omega) (by dsimp only;omega)) λe2 h2=>T.bind (hitT N hN _ _ _) λr3 h3=>?_;refine T.bind (P:=λr=>r=true->j < n) ?_ λp4 h4=>T.ret ⟨h3,h4⟩
  refine T.cond (λ_=>?_) (λ_=>T.ret λh=>by cases h)
  refine T.bind (T.idx (by omega) (by dsimp only;omega)) λe5 h5=>?_;rw[aR]
  refine T.cond (λhc=>T.ret λ_=>?_) (λ_=>T.ret λh=>by cases h)
  by_cases hn:j < n
  ·exact hn
  ·have:=h.2 j (by omega) e5 (by rw[bj] at h5;exact h5)
   rw[this] at hc;exfalso;have z:fI .u8 0 m=0:=by
    unfold fI;have:ba IntKind.u8.bits 0 &&& ba IntKind.u8.bits m=0:=by
     rw[show ba IntKind.u8.bits 0=0 from rfl]
     exact BitVec.zero_and
    rw[this];rfl
   rw[z] at hc;cases hc
 obtain⟨a,e,h1,h2⟩:=key;exact⟨a,h1,h2,λt=>e⟩
theorem aLs{ι:Type}(N:Nat)(hN:4100 < N){n:Nat}{gl:List aH}(h:aBx n gl)(o d:aC)(m s:Int)(t:ι->Int) :
  TU (λi=>cA N o d m s (swp gl (t i))) (λa:Int×aN=>a.1 < (n:Int)/\lZ a.2) (λi a r=>∃t',r=(swp gl t',a)/\fC (t i) t' (gl.length:Int)):=by
 unfold cA eZ;refine TU.e (a:=false) (λi=>rfl) ?_;simp only[cond_false]
 have h4:=h.1;refine TU.bind (P:=λa:aN×Int=>a.2 < (n:Int)/\lZ a.1) (S:=λi a r=>∃t',r=(swp gl t',a)/\fC (t i) t' (gl.length:Int)) ?_ λa ha r hr=>?_
 ·refine TU.loop0 (n:=gl.length) (λj (s:aN×Int) t'=>(s.2 < (n:Int)/\lZ s.1)/\∀i,fC (t i) (t' i) (j:Int)) (F:=λi k t' (x:aN×Int) j=>bW N (swp gl (t i)) o d m s k (swp gl t') x.1 x.2 j) (λk t' x j hj hx hk=>?_) (λk t' x hx=>?_) (by omega) (s:=(aN.mk 0 0 0 0,-1)) (h:=t) ⟨⟨by dsimp only;omega,yE⟩,λi=>vK _⟩
  ·obtain⟨a,a1,a2,a3⟩:=aPH N (by omega) h o d m s hj;simp only[bW,aR]
   simp only[show ∀t,(swp gl t).gl=gl from λ_=>rfl,dt (show(j:Int) < (gl.length:Int) by omega),cond_true,a3,ae]
   refine TU.t (P:=λp:aN×aN×Int=>p.2.2 < (n:Int)/\lZ p.1) ?_ λp hp=>?_
   ·refine T.bind (P:=λ_=>True) (T.cond (λ_=>T.ret trivial) (λ_=>T.bind (aNw N a1 hx.1.2) λ_ _=>T.ret trivial)) λp10 _=>?_;refine T.cond (λhc=>T.ret ⟨?_,a1⟩) (λ_=>T.ret ⟨hx.1.1,hx.1.2⟩)
    have:a.2=true:=by
     cases h2:a.2 with
     | true=>rfl
     | false=>rw[h2] at hc;cases hc
    have:=a2 this;show(j:Int) < (n:Int)
    omega
   ·rw[dI (by omega)]
    exact hk (p.1,p.2.2) (λi=>I64 (t' i+1)) ⟨hp,λi=>aKh (hx.2 i)⟩
  ·simp only[bW,aR]
   simp only[show ∀t,(swp gl t).gl=gl from λ_=>rfl,df (show ¬(gl.length:Int) < (gl.length:Int) by omega),cond_false]
   exact TU.ret x hx.1 λi=>⟨t' i,rfl,hx.2 i⟩
 ·refine TU.ret (a.2,a.1) ha λi=>?_;obtain⟨t',e,p⟩:=hr i;rw[e]
  exact⟨t',rfl,p⟩
theorem anyU{ι:Type}(N:Nat)(hN:4100 < N){n:Nat}{gl:List aH}(h:aBx n gl)(o d:aC)(m s:Int)(w:Bool)(t:ι->Int) :
  TU (λi=>cH N o d m s w (swp gl (t i))) (λ_:Bool=>True) (λi a r=>∃t',r=(swp gl t',a)/\fC (t i) t' (gl.length:Int)):=by
 unfold cH eZ;refine TU.e (a:=false) (λi=>rfl) ?_;simp only[cond_false]
 have h4:=h.1;refine TU.bind (P:=λa:Bool=>True) (S:=λi a r=>∃t',r=(swp gl t',a)/\fC (t i) t' (gl.length:Int)) ?_ λa ha r hr=>?_
 ·refine TU.loop0 (n:=gl.length) (λj (s:Bool) t'=>∀i,fC (t i) (t' i) (j:Int)) (F:=λi k t' (x:Bool) j=>bZ N (swp gl (t i)) o d m s w k (swp gl t') x j) (λk t' x j hj hx hk=>?_) (λk t' x hx=>?_) (by omega) (s:=false) (h:=t) (λi=>vK _)
  ·obtain⟨a,a1,a2,a3⟩:=aPH N (by omega) h o d m s hj;simp only[bZ,aR]
   simp only[show ∀t,(swp gl t).gl=gl from λ_=>rfl,dt (show(j:Int) < (gl.length:Int) by omega),cond_true,a3,ae]
   rw[dI (by omega)]
   refine TU.cond (λ_=>?_) (λ_=>?_)
   ·exact hk _ (λi=>I64 (t' i+1)) (λi=>aKh (hx i))
   ·exact hk _ (λi=>I64 (t' i+1)) (λi=>aKh (hx i))
  ·simp only[bZ,aR]
   simp only[show ∀t,(swp gl t).gl=gl from λ_=>rfl,df (show ¬(gl.length:Int) < (gl.length:Int) by omega),cond_false]
   exact TU.ret x trivial λi=>⟨t' i,rfl,hx i⟩
 ·refine TU.ret a trivial λi=>?_;obtain⟨t',e,p⟩:=hr i;rw[e]
  exact⟨t',rfl,p⟩
def wlk(b:aX)(gl:List aH)(t:Int):aL:=aL.mk b true gl t
def rI(r:aY):Prop:=cJ r.gn/\cJ r.gd
theorem aBK(N:Nat){a b:aY}(ha:rI a)(hb:rI b):T (eJ N a b) (λ_=>True):=by
 unfold eJ;exact T.bind (aEA N ha.1 hb.2) λ_ _=>T.bind (aEA N hb.1 ha.2) λ_ _=>T.bind (aNi N _ _) λ_ _=>T.ret trivial
theorem aNA(N:Nat)(hN:10 < N)(lo hi o:aC){d:aC}(hd:pin d):T (pB N lo hi o d) (λr=>rI r.1):=by
 unfold pB;have z1:rI (aY.mk 0 1):=⟨z64,by decide,by decide⟩
 have z0:rI (aY.mk 0 0):=⟨z64,z64⟩
 refine T.bind (T.loopG0 (n:=3) (λ_ (s:aY×aY×Bool)=>rI s.1/\rI s.2.1) (λo=>match o with | .inl p=>rI p.1/\rI p.2.1 | .inr p=>rI p.1) (F:=λk (s:aY×aY×Bool) i=>kK N lo hi o d k s.1 s.2.1 s.2.2 i) (λk s i hi' hs hk=>?_) (λk s hs=>?_) (by omega) (s:=(aY.mk 0 1,aY.mk 0 0,false)) ⟨z1,z0⟩) λq hq=>?_
 ·rw[kK,dt (by omega),cond_true]
  refine T.bind (P:=λo=>match o with | .inl p=>rI p.1/\rI p.2.1 | .inr p=>rI p.1) ?_ λq hq=>?_
  ·refine T.bind (P:=λe:Vector Int 4=>∃x,e.toList[3]? = some x/\cJ x) ?_ λe7 h7=>?_
   ·have:i=0\/i=1\/i=2:=by omega
    rcases this with rfl | rfl | rfl
    ·exact⟨_,rfl,_,rfl,hd.1⟩
    ·exact⟨_,rfl,_,rfl,hd.2.1⟩
    ·exact⟨_,rfl,_,rfl,hd.2.2⟩
   obtain⟨x,ex,hx⟩:=h7;refine T.bind (T.inRO (by decide) (by decide)) λ_ _=>T.bind (T.vg (i:=0) (by decide)) λe9 _=>T.bind (T.inRO (by decide) (by decide)) λ_ _=>T.bind (T.vg (i:=2) (by decide)) λe11 _=>?_;refine T.bind (T.inRO (by decide) (by decide)) λ_ _=>T.bind (T.vg (i:=1) (by decide)) λe13 _=>T.bind (T.inRO (by decide) (by decide)) λ_ _=>T.bind (T.vg (i:=2) (by decide)) λe15 _=>?_;refine T.bind (T.inRO (by decide) (by decide)) λ_ _=>T.eq (a:=x) ex ?_;simp only[aR]
   refine T.cond (λ_=>T.ret hs.1) (λ_=>?_)
   refine T.bind (P:=λ_=>True) (T.cond (λ_=>T.ret trivial) (λ_=>T.ret trivial)) λp19 _=>?_;refine T.cond (λ_=>T.ret hs.1) (λ_=>T.cond (λ_=>T.ret hs) (λ_=>?_))
   have r1:∀a b:Int,cJ b->rI (aY.mk (I64 a) b):=λa b h=>⟨dM _,h⟩
   refine T.cond (λ_=>?_) (λ_=>?_)
   ·refine T.bind (P:=rI) (T.bind (aBK N hs.1 (r1 _ _ (dM _))) λ_ _=>T.cond (λ_=>T.ret (r1 _ _ (dM _))) (λ_=>T.ret hs.1)) λp24 h24=>?_;refine T.bind (P:=λ_=>True) (T.cond (λ_=>T.ret trivial) (λ_=>T.bind (aBK N (r1 _ _ (dM _)) hs.2) λ_ _=>T.ret trivial)) λp26 _=>?_;exact T.cond (λ_=>T.ret ⟨h24,r1 _ _ (dM _)⟩) (λ_=>T.ret ⟨h24,hs.2⟩)
   ·refine T.bind (P:=rI) (T.bind (aBK N hs.1 (r1 _ _ hx)) λ_ _=>T.cond (λ_=>T.ret (r1 _ _ hx)) (λ_=>T.ret hs.1)) λp24 h24=>?_;refine T.bind (P:=λ_=>True) (T.cond (λ_=>T.ret trivial) (λ_=>T.bind (aBK N (r1 _ _ hx) hs.2) λ_ _=>T.ret trivial)) λp26 _=>?_;exact T.cond (λ_=>T.ret ⟨h24,r1 _ _ hx⟩) (λ_=>T.ret ⟨h24,hs.2⟩)
  ·cases q with
   | inl p=>rw[dI (by omega)];exact hk (_,_,_) hq
   | inr p=>exact T.ret hq
 ·rw[kK,df (by omega),cond_false];exact T.ret hs
 ·cases q with
  | inl p=>exact T.bind (P:=λ_=>True) (T.cond (λ_=>T.ret trivial) (λ_=>T.bind (aBK N hq.2 hq.1) λ_ _=>T.ret trivial)) λ_ _=>T.ret hq.1
  | inr p=>exact T.ret hq
theorem aNg(N:Nat)(hN:3 < N)(b:aX){gl:List aH}(o d:aC)(m s:Int){j:Int}(hj:0<=j/\j < (gl.length:Int)):∃a:aN×Bool,lZ a.1/\∀t,cI N o d m s j (wlk b gl t)=some a:=by
 have key:T (cI N o d m s j (wlk b gl 0)) (λa=>lZ a.1):=by
  unfold cI wlk;refine T.bind (T.idx hj.1 hj.2) λe1 _=>?_;simp only[aR]
  refine T.cond (λ_=>T.ret yE) (λ_=>?_)
  exact T.bind (T.idx hj.1 hj.2) λe1 _=>T.bind (hitT N hN _ _ _) λr h=>T.ret h
 obtain⟨a,e,h1⟩:=key;exact⟨a,h1,λt=>e⟩
def wW(l:List Int):Nat:=(l.map λx=>2 ^ (39 - x.toNat) - 1).sum
theorem xN(a b:List Int):wW (a++b)=wW a+wW b:=by unfold wW;rw[dc,il]
theorem aHp{x:Int}(h:0<=x/\x < 39):1<=wW [x]:=by
 show 1<=2 ^ (39 - x.toNat) - 1+0;have:2 ^ 1<=2 ^ (39 - x.toNat):=gq (by decide) (by omega)
 omega
theorem aKK{x a b:Int}(h:0<=x)(ha:x < a/\a < 39)(hb:x < b/\b < 39):wW [a,b]+1<=wW [x]:=by
 show(2 ^ (39 - a.toNat) - 1+(2 ^ (39 - b.toNat) - 1+0))+1<=2 ^ (39 - x.toNat) - 1+0;have h1:2 ^ (39 - a.toNat)<=2 ^ (39 - x.toNat - 1):=gq (by decide) (by omega)
 have h2:2 ^ (39 - b.toNat)<=2 ^ (39 - x.toNat - 1):=gq (by decide) (by omega)
 have h3:2 ^ (39 - x.toNat)=2 ^ (39 - x.toNat - 1)*2:=by rw[<- Nat.pow_succ];congr 1;omega
 have h4:1<=2 ^ (39 - a.toNat):=ko;have h5:1<=2 ^ (39 - b.toNat):=ko;omega
def aJU(b:aX)(l:List Int):Prop:=∀x∈l,0<=x/\x < (b.gA0.length:Int)
theorem aCy{b:aX}(hb:b.gA0.length<=39){l:List Int}(h:aJU b l):l.length<=wW l:=by
 induction l with
 | nil=>exact lu _
 | cons x l ih=>
  have h1:=ih λy hy=>h y (fm _ hy)
  have h2:=h x (gu ..)
  have h3:=aHp (x:=x) ⟨h2.1,by omega⟩
  have:wW (x :: l)=wW [x]+wW l:=xN [x] l;rw[this,List.length_cons]
  omega
theorem aTz{ι:Type}(N:Nat)(hN:100 < N){b:aX}{gl:List aH}(h20:gl.length<=20)(o d:aC)(m s:Int)(t0:ι->Int){l:List Int}(hl:ord gl.length l)(hl':l.length<=20)(t:ι->Int){mt:aN}{x:Int}(hm:x < (gl.length:Int)/\lZ mt) :
  TU (λi=>bP N l o d m s (wlk b gl (t0 i)) N (t i) mt x 0) (λa:aN×Int=>a.2 < (gl.length:Int)/\lZ a.1) (λi a r=>∃t',r=(t',a)):=by
 refine TU.loop0 (n:=l.length) (λj (s:aN×Int) _=>s.2 < (gl.length:Int)/\lZ s.1) (F:=λi k t' (x:aN×Int) j=>bP N l o d m s (wlk b gl (t0 i)) k t' x.1 x.2 j) (λk t' x j hj hx hk=>?_) (λk t' x hx=>?_) (by omega) (s:=(mt,x)) (h:=t) hm
 ·simp only[bP,aR,dt (show(j:Int) < (l.length:Int) by omega),cond_true,eK,af hj,ae]
  have he:=hl _ (bp hj)
  generalize l[j]=e at *;obtain⟨a,a1,a3⟩:=aNg N (by omega) b o d m s he;have a3':∀i,cI N o d m s e (aL.mk (wlk b gl (t0 i)).gA1 (wlk b gl (t0 i)).gA (wlk b gl (t0 i)).gl (I64 (t' i+1)))=some a:=λi=>a3 _;simp only[a3',ae]
  refine TU.t (P:=λp:aN×aN×Int=>p.2.2 < (gl.length:Int)/\lZ p.1) ?_ λp hp=>?_
  ·refine T.bind (P:=λ_=>True) ?_ λp33 _=>T.cond (λ_=>T.ret ⟨he.2,a1⟩) (λ_=>T.ret hx)
   refine T.cond (λ_=>T.cond (λ_=>T.ret trivial) (λ_=>T.bind (aNw N a1 hx.2) λr34 _=>T.cond (λ_=>T.ret trivial) (λ_=>T.cond (λ_=>T.bind (aNw N hx.2 a1) λ_ _=>T.ret trivial) (λ_=>T.ret trivial)))) (λ_=>T.ret trivial)
  ·rw[dI (by omega)]
   exact hk (p.1,p.2.2) (λi=>I64 (t' i+1)) hp
 ·simp only[bP,aR,df (show ¬(l.length:Int) < (l.length:Int) by omega),cond_false]
  exact TU.ret x hx λi=>⟨t' i,rfl⟩
theorem T.slcN{α:Type}{l:List α}{lo hi:Int}(h0:0<=lo)(h1:lo<=hi)(h2:hi<=(l.length:Int)):T (xW l lo hi) (λr=>r=(l.take hi.toNat).drop lo.toNat/\(∀x∈r,x∈l)/\r.length<=l.length):=by
 refine⟨_,aGj h0 h1 h2,rfl,λx hx=>List.mem_of_mem_take (List.mem_of_mem_drop hx),?_⟩
 rw[List.length_drop,bn];omega
theorem aBc{α:Type}{l:List α}{e:Int}(h0:0<=e)(h:e.toNat < l.length):idx l e=some l[e.toNat]:=by
 have:e=((e.toNat:Nat):Int):=by omega
 exact(congrArg (idx l) this).trans ((eK l e.toNat).trans (af h))
theorem aT0{ι:Type}(N:Nat)(hN:100 < N){b:aX}{gl:List aH}(hb:yT gl.length b)(h20:gl.length<=20)(o:aC){d:aC}(hd:pin d)(m s:Int)(t0:ι->Int):∀(k:Nat) (st:List Int) (t:ι->Int) (mt:aN) (x:Int) (l:Nat),l<=st.length->aJU b (st.take l)->wW (st.take l) < k->wW (st.take l) < 1000000000000->(x < (gl.length:Int)/\lZ mt) ->
  TU (λi=>cL N (wlk b gl (t0 i)) o d m s k st (t i) mt x l) (λa:aN×Int=>a.2 < (gl.length:Int)/\lZ a.1) (λi a r=>∃t' st',r=(st',t',a)):=by
 obtain⟨b1,b2,b3,b4⟩:=hb;intro k
 induction k with
 | zero=>intro st t mt x l _ _ h;omega
 | succ k ih=>
  intro st t mt x l hl hn hw hw' hm;simp only[cL,aR]
  have lenT:(st.take l).length=l:=by rw[bn];omega
  have wl:=aCy b3 hn;rw[lenT] at wl;refine TU.cond (λhc=>?_) (λhc=>?_)
  ·obtain⟨l,rfl⟩:∃l',l=l'+1:=⟨l - 1,by have:=of_decide_eq_true hc;omega⟩
   have im:I64 (((l+1:Nat):Int) - 1)=(l:Int):=by rw[bC (by omega) (by omega)];omega
   simp only[im,bj]
   obtain⟨e,et⟩:∃e,st[l]? = some e:=⟨_,af (by omega)⟩
   have hs:=pV et;rw[hs] at hn hw hw';rw[xN] at hw hw';have he:=hn e (by simp)
   have hn':aJU b (st.take l):=λy hy=>hn y (by simp[hy])
   have w1:=aHp (x:=e) ⟨he.1,by omega⟩
   have wl':=aCy b3 hn';rw[show(st.take l).length=l by rw[bn];omega] at wl';refine TU.t (T.inRS (by omega) (by omega) (by omega)) λ_ _=>TU.e (λi=>et) ?_;have hidx:e.toNat < b.gA0.length:=by omega
   refine TU.e (a:=b.gA0[e.toNat]) (λi=>aBc he.1 hidx) ?_;have gd:=b4 e.toNat hidx;generalize b.gA0[e.toNat]=nd at *;refine TU.t (T.slcG (by omega) (by omega) (by omega) (by omega) (Or.inl rfl)) λ_ _=>TU.t (aNA N (by omega) nd.gLo nd.gHi o hd) λr18 h18=>?_;refine TU.t (P:=λ_=>True) ?_ λp19 _=>?_
   ·refine T.cond (λ_=>T.ret trivial) (λ_=>T.cond (λ_=>T.bind (aBK N ⟨hm.2.1,hm.2.2.1⟩ h18) λ_ _=>T.ret trivial) (λ_=>T.ret trivial))
   refine TU.cond (λ_=>?_) (λ_=>TU.cond (λhc=>?_) (λhc=>?_))
   ·exact ih st (λi=>I64 (t i+1)) mt x l (by omega) hn' (by omega) (by omega) hm
   ·have g:=gd.1 (of_decide_eq_true hc)
    have w2:=aKK (x:=e) (a:=nd.gB4) (b:=nd.gB2) he.1 ⟨by omega,by omega⟩ ⟨by omega,by omega⟩
    refine TU.t (T.appG (by omega) (show(l+2)*8<=140737488355328 by omega)) λz hz=>?_;subst hz;have tk:(uA st l [nd.gB4,nd.gB2]).take (l+2)=st.take l++[nd.gB4,nd.gB2]:=aBh st l [_,_] (by omega)
    refine ih _ (λi=>I64 (t i+1)) mt x (l+2) (aEH st l [_,_] (by omega)) ?_ ?_ ?_ hm
    ·rw[tk]
     intro y hy;rw[au] at hy;rcases hy with hy | hy
     ·exact hn' y hy
     ·simp at hy;rcases hy with rfl | rfl <;> omega
    ·rw[tk,xN];omega
    ·rw[tk,xN];omega
   ·have g:=gd.2 (by have:=of_decide_eq_false hc;omega)
    rw[bC (x:=nd.gC5+nd.gD1) (by omega) (by omega)]
    refine TU.t (T.slcN (l:=b.gC2) g.1 (by omega) (by omega)) λs23 h23=>?_;refine TU.bind (aTz N hN h20 o d m s t0 (λy hy=>b1 y (h23.2.1 y hy)) (by omega) (λi=>I64 (t i+1)) hm) λa ha r hr=>?_;have h':∃t':ι->Int,∀i,r i=(t' i,a):=⟨λi=>(hr i).choose,λi=>(hr i).choose_spec⟩
    obtain⟨t',e'⟩:=h';simp only[e']
    exact ih st t' a.1 a.2 l (by omega) hn' (by omega) (by omega) ha
  ·exact TU.ret (mt,x) hm λi=>⟨_,_,rfl⟩
theorem aPZ{ι:Type}(N:Nat)(hN:1000000000000 < N){b:aX}{gl:List aH}(hb:yT gl.length b)(h20:gl.length<=20)(o d:aC)(m s:Int)(t:ι->Int) :
  TU (λi=>dJ N o d m s (wlk b gl (t i))) (λa:Int×aN=>a.1 < (gl.length:Int)/\lZ a.2) (λi a r=>∃t',r=(t',a)):=by
 unfold dJ fV;simp only[show ∀t,(wlk b gl t).gA1=b from λ_=>rfl,show ∀t,(wlk b gl t).gA=true from λ_=>rfl,show ∀t,(wlk b gl t).gD6=t from λ_=>rfl,ae,aR]
 refine TU.t (P:=λp=>p=false->pin d/\0 < b.gA0.length) ?_ λp1 h1=>TU.cond (λ_=>TU.ret (-1,aN.mk 0 0 0 0) ⟨by dsimp only;omega,yE⟩ λi=>⟨_,rfl⟩) (λhc=>?_)
 ·refine T.cond (λ_=>T.ret λh=>by cases h) (λhc=>T.bind (aLR N o d) λr4 h4=>T.ret λe=>⟨aD2 (h4 (by simpa using e)).2.1 (by decide),?_⟩)
  have:((b.gA0.length:Int)==0)=false:=hc;have:(b.gA0.length:Int)≠0:=by simpa using this
  omega
 ·obtain⟨hd,h0⟩:=h1 hc;refine TU.bind (aT0 N (by omega) hb h20 o hd m s t N [0] t (aN.mk 0 0 0 0) (-1) 1 (by simp) ?_ ?_ ?_ ⟨by omega,yE⟩) λa ha r hr=>?_
  ·intro x hx;have:x=0:=by simpa using hx
   subst this;omega
  ·show(2 ^ 39 - 1+0) < N;omega
  ·show(2 ^ 39 - 1+0) < 1000000000000;decide
  ·refine TU.ret (a.2,a.1) ha λi=>?_;obtain⟨t',st',e⟩:=hr i;rw[e]
   exact⟨t',rfl⟩
theorem anyW2{ι:Type}(N:Nat)(hN:100 < N){b:aX}{gl:List aH}(o d:aC)(m s:Int)(w:Bool)(t0:ι->Int){l:List Int}(hl:ord gl.length l)(hl':l.length<=20)(t:ι->Int) :
  TU (λi=>bY N l o d m s (wlk b gl (t0 i)) w N (t i) 0) (λ_:Bool=>True) (λi a r=>∃t',r=cond a (Sum.inr (t',true)) (Sum.inl t')):=by
 refine TU.loop0 (n:=l.length) (λj (_:Unit) _=>True) (F:=λi k t' (x:Unit) j=>bY N l o d m s (wlk b gl (t0 i)) w k t' j) (λk t' x j hj hx hk=>?_) (λk t' x hx=>?_) (by omega) (s:=()) (h:=t) trivial
 ·simp only[bY,aR,dt (show(j:Int) < (l.length:Int) by omega),cond_true,eK,af hj,ae]
  have he:=hl _ (bp hj)
  generalize l[j]=e at *;obtain⟨a,a1,a3⟩:=aNg N (by omega) b o d m s he;have a3':∀i,cI N o d m s e (aL.mk (wlk b gl (t0 i)).gA1 (wlk b gl (t0 i)).gA (wlk b gl (t0 i)).gl (I64 (t' i+1)))=some a:=λi=>a3 _;simp only[a3',ae]
  refine TU.t (P:=λ_=>True) (T.cond (λ_=>T.ret trivial) (λ_=>T.ret trivial)) λp24 _=>?_;refine TU.cond (λ_=>TU.ret true trivial λi=>⟨_,rfl⟩) (λ_=>?_)
  rw[dI (by omega)]
  exact hk () (λi=>I64 (t' i+1)) trivial
 ·simp only[bY,aR,df (show ¬(l.length:Int) < (l.length:Int) by omega),cond_false]
  exact TU.ret false trivial λi=>⟨t' i,rfl⟩
theorem anyW1{ι:Type}(N:Nat)(hN:100 < N){b:aX}{gl:List aH}(hb:yT gl.length b)(h20:gl.length<=20)(o:aC){d:aC}(hd:pin d)(m s:Int)(w:Bool)(t0:ι->Int):∀(k:Nat) (st:List Int) (t:ι->Int) (l:Nat),l<=st.length->aJU b (st.take l)->wW (st.take l) < k->wW (st.take l) < 1000000000000 ->
  TU (λi=>dK N (wlk b gl (t0 i)) o d m s w k st (t i) l) (λ_:Bool=>True) (λi a r=>∃t' st',r=cond a (Sum.inr (t',true)) (Sum.inl (st',t'))):=by
 obtain⟨b1,b2,b3,b4⟩:=hb;intro k
 induction k with
 | zero=>intro st t l _ _ h;omega
 | succ k ih=>
  intro st t l hl hn hw hw';simp only[dK,aR]
  have lenT:(st.take l).length=l:=by rw[bn];omega
  have wl:=aCy b3 hn;rw[lenT] at wl;refine TU.cond (λhc=>?_) (λhc=>?_)
  ·obtain⟨l,rfl⟩:∃l',l=l'+1:=⟨l - 1,by have:=of_decide_eq_true hc;omega⟩
   have im:I64 (((l+1:Nat):Int) - 1)=(l:Int):=by rw[bC (by omega) (by omega)];omega
   simp only[im,bj]
   obtain⟨e,et⟩:∃e,st[l]? = some e:=⟨_,af (by omega)⟩
   have hs:=pV et;rw[hs] at hn hw hw';rw[xN] at hw hw';have he:=hn e (by simp)
   have hn':aJU b (st.take l):=λy hy=>hn y (by simp[hy])
   have w1:=aHp (x:=e) ⟨he.1,by omega⟩
   have wl':=aCy b3 hn';rw[show(st.take l).length=l by rw[bn];omega] at wl';refine TU.t (T.inRS (by omega) (by omega) (by omega)) λ_ _=>TU.e (λi=>et) ?_;have hidx:e.toNat < b.gA0.length:=by omega
   refine TU.e (a:=b.gA0[e.toNat]) (λi=>aBc he.1 hidx) ?_;have gd:=b4 e.toNat hidx;generalize b.gA0[e.toNat]=nd at *;refine TU.t (T.slcG (by omega) (by omega) (by omega) (by omega) (Or.inl rfl)) λ_ _=>TU.t (aNA N (by omega) nd.gLo nd.gHi o hd) λr18 h18=>?_;refine TU.cond (λ_=>?_) (λ_=>TU.cond (λhc=>?_) (λhc=>?_))
   ·exact ih st (λi=>I64 (t i+1)) l (by omega) hn' (by omega) (by omega)
   ·have g:=gd.1 (of_decide_eq_true hc)
    have w2:=aKK (x:=e) (a:=nd.gB4) (b:=nd.gB2) he.1 ⟨by omega,by omega⟩ ⟨by omega,by omega⟩
    refine TU.t (T.appG (by omega) (show(l+2)*8<=140737488355328 by omega)) λz hz=>?_;subst hz;have tk:(uA st l [nd.gB4,nd.gB2]).take (l+2)=st.take l++[nd.gB4,nd.gB2]:=aBh st l [_,_] (by omega)
    refine ih _ (λi=>I64 (t i+1)) (l+2) (aEH st l [_,_] (by omega)) ?_ ?_ ?_
    ·rw[tk]
     intro y hy;rw[au] at hy;rcases hy with hy | hy
     ·exact hn' y hy
     ·simp at hy;rcases hy with rfl | rfl <;> omega
    ·rw[tk,xN];omega
    ·rw[tk,xN];omega
   ·have g:=gd.2 (by have:=of_decide_eq_false hc;omega)
    rw[bC (x:=nd.gC5+nd.gD1) (by omega) (by omega)]
    refine TU.t (T.slcN (l:=b.gC2) g.1 (by omega) (by omega)) λs23 h23=>?_;refine TU.bind (anyW2 N hN o d m s w t0 (λy hy=>b1 y (h23.2.1 y hy)) (by omega) (λi=>I64 (t i+1))) λa ha r hr=>?_;have h':∃t':ι->Int,∀i,r i=cond a (Sum.inr (t' i,true)) (Sum.inl (t' i)):=⟨λi=>(hr i).choose,λi=>(hr i).choose_spec⟩
    obtain⟨t',e'⟩:=h';simp only[e']
    cases a with
    | true=>exact TU.ret true trivial λi=>⟨t' i,[],rfl⟩
    | false=>exact ih st t' l (by omega) hn' (by omega) (by omega)
  ·exact TU.ret false trivial λi=>⟨_,_,rfl⟩
theorem anyW{ι:Type}(N:Nat)(hN:1000000000000 < N){b:aX}{gl:List aH}(hb:yT gl.length b)(h20:gl.length<=20)(o d:aC)(m s:Int)(w:Bool)(t:ι->Int) :
  TU (λi=>dQ N o d m s w (wlk b gl (t i))) (λ_:Bool=>True) (λi a r=>∃t',r=(t',a)):=by
 unfold dQ fV;simp only[show ∀t,(wlk b gl t).gA1=b from λ_=>rfl,show ∀t,(wlk b gl t).gA=true from λ_=>rfl,show ∀t,(wlk b gl t).gD6=t from λ_=>rfl,ae,aR]
 refine TU.t (P:=λp=>p=false->pin d/\0 < b.gA0.length) ?_ λp1 h1=>TU.cond (λ_=>TU.ret false trivial λi=>⟨_,rfl⟩) (λhc=>?_)
 ·refine T.cond (λ_=>T.ret λh=>by cases h) (λhc=>T.bind (aLR N o d) λr4 h4=>T.ret λe=>⟨aD2 (h4 (by simpa using e)).2.1 (by decide),?_⟩)
  have:((b.gA0.length:Int)==0)=false:=hc;have:(b.gA0.length:Int)≠0:=by simpa using this
  omega
 ·obtain⟨hd,h0⟩:=h1 hc;refine TU.bind (anyW1 N (by omega) hb h20 o hd m s w t N [0] t 1 (by simp) ?_ ?_ ?_) λa ha r hr=>?_
  ·intro x hx;have:x=0:=by simpa using hx
   subst this;omega
  ·show(2 ^ 39 - 1+0) < N;omega
  ·show(2 ^ 39 - 1+0) < 1000000000000;decide
  ·refine TU.mono (P:=λ_:Bool=>True) (S:=λi a' r'=>∃t',r'=(t',a')) ?_ (λ_ h=>h) (λ_ _ _ _ h=>h)
   have h':∃t':ι->Int×List Int,∀i,r i=cond a (Sum.inr ((t' i).1,true)) (Sum.inl ((t' i).2,(t' i).1)):=⟨λi=>((hr i).choose,(hr i).choose_spec.choose),λi=>(hr i).choose_spec.choose_spec⟩
   obtain⟨t',e'⟩:=h';simp only[e']
   cases a with
   | true=>exact TU.ret true trivial λi=>⟨_,rfl⟩
   | false=>exact TU.ret false trivial λi=>⟨_,rfl⟩
theorem aR6(k:Nat){n:aA}(hn:vin n)(d:aC):T (kA (k+70) n d) vin:=by
 unfold kA;refine T.bind (aAu (k+5) d) λr1 h1=>T.bind (aOK (k+66) hn h1) λr2 _=>T.cond (λ_=>T.ret hn) (λ_=>?_)
 exact T.eq (qK (k+67) hn ⟨by decide,by decide⟩) (T.ret (oS _ _))
theorem pickT(N:Nat){l:List aD}(h:aFZ l)(i:Int):T (wU N l i) (λr=>r.1.gA8.length<=260):=by
 unfold wU;rw[aR]
 refine T.cond (λ_=>T.ret (by simp)) (λhc=>?_)
 have h0:(l.length:Int)≠0:=by simpa using hc
 have h20:=h.1;rw[aR,bC (x:=(l.length:Int) - 1) (by omega) (by omega),vQ,tB]
 exact T.bind (T.idx (by omega) (by omega)) λe3 h3=>T.ret (h.2 _ (b9 h3))
def aQv(u:Vector (Vector Int 2) 3):Prop:=∀v∈u.toList,∀x∈v.toList,0<=x/\x<=65535
theorem uvT{u:Vector (Vector Int 2) 3}(h:aQv u){i j:Int}(hi:0<=i/\i < 3)(hj:0<=j/\j < 2){β:Type}{f:Int->Option β}{Q:β->Prop}(hf:∀e,cJ e->T (f e) Q):T (aa (idx u.toList i) λe=>aa (idx e.toList j) f) Q:=by
 refine T.bind (T.idx hi.1 (by simp;omega)) λe he=>T.bind (T.idx hj.1 (by simp;omega)) λx hx=>hf x ?_;have:=h _ (b9 he) _ (b9 hx)
 exact⟨by omega,by omega⟩
theorem aPn(k:Nat){j:Int}(hj:0<=j/\j < 2){m:aN}(hm:lZ m){u:Vector (Vector Int 2) 3}(hu:aQv u):T (lR (k+5) j m u) (λ_=>True):=by
 unfold lR;rw[aR]
 refine uvT hu ⟨by decide,by decide⟩ hj λe3 h3=>T.bind (aEA _ (dM _) h3) λr4 h4=>?_;refine uvT hu ⟨by decide,by decide⟩ hj λe6 h6=>T.bind (aEA _ hm.2.2.1 h6) λr7 h7=>?_;refine uvT hu ⟨by decide,by decide⟩ hj λe9 h9=>T.bind (aEA _ hm.2.2.2 h9) λr10 h10=>?_;refine T.bind (aPE _ _ (by intro x hx;simp at hx;rcases hx with rfl | rfl | rfl;exact h4;exact h7;exact h10) (by simp) (by simp)) λr11 h11=>?_;refine T.cond (λ_=>T.ret trivial) (λ_=>T.bind (aPr (k+2) h11 hm.2.1) λr12 h12=>T.bind (aGh _ h12.1) λr13 h13=>?_)
 simp only[aR]
 exact T.cond (λ_=>T.ret trivial) (λ_=>T.cond (λ_=>T.ret trivial) (λ_=>T.ret trivial))
theorem baryT(k:Nat){m:aN}(hm:lZ m){u:Vector (Vector Int 2) 3}(hu:aQv u):T (wV (k+5) m u) (λ_=>True):=by
 unfold wV;refine T.bind (P:=λ_=>True) ?_ λp1 _=>?_
 ·simp only[aR]
  exact T.cond (λ_=>T.ret trivial) (λ_=>T.cond (λ_=>T.ret trivial) (λ_=>T.ret trivial))
 ·exact T.cond (λ_=>T.ret trivial) (λ_=>T.bind (aPn k ⟨by decide,by decide⟩ hm hu) λ_ _=>T.bind (aPn k ⟨by decide,by decide⟩ hm hu) λ_ _=>T.ret trivial)
theorem aR8(N:Nat)(hN:300 < N)(t:aD)(h:t.gA8.length<=260)(x y:Int):T (wL N t x y) (λ_=>True):=by
 unfold wL;refine T.bind (texT N t (by omega) (by omega) (by omega)) λr1 h1=>T.cond (λ_=>T.ret trivial) (λhc=>?_)
 have ok:=h1 (by simpa using hc)
 exact T.bind (aHf N ⟨ok.1,ok.2.1⟩ _ _) λ_ _=>T.ret trivial
theorem aRr(N:Nat)(hN:300 < N)(t:aD)(h:t.gA8.length<=260)(x y:Int):T (tJ N t x y) (λr=>vin r.1):=by
 unfold tJ;refine T.bind (texT N t (by omega) (by omega) (by omega)) λr1 h1=>T.cond (λ_=>T.ret ⟨z64,z64,z64⟩) (λhc=>?_)
 rw[aR,aR]
 refine T.cond (λ_=>T.ret ⟨z64,z64,z64⟩) (λ_=>?_)
 refine T.letO λx4 _=>T.letO λx5 _=>?_;simp only[aR]
 have s:∀a b:Int,T (eW N a b t x4 x5) (λ_=>True):=by
  intro a b;unfold eW;simp only[aR]
  exact T.bind (aR8 N hN t h _ _) λ_ _=>T.ret trivial
 refine T.bind (s _ _) λr13 _=>T.bind (s _ _) λr14 _=>T.bind (s _ _) λr15 _=>T.bind (s _ _) λr16 _=>?_;refine T.bind (P:=λ_=>True) ?_ λp17 _=>?_
 ·refine T.loopG0 (n:=4) (λ_ _=>True) _ (F:=mN N r13 r14 r15 r16 x4 x5) (λk v i hi _ hk=>?_) (λk v _=>?_) (by omega) trivial
  ·rw[mN,dt (by omega),cond_true]
   refine T.bind (T.idx (by omega) (by simp;omega)) λe20 _=>T.bind (P:=λ_=>True) ?_ λ_ _=>by rw[dI (by omega)];exact hk _ trivial
   refine T.loopG0 (n:=3) (λ_ _=>True) _ (F:=mW N e20 (i:Int) x4 x5) (λk v j hj _ hk=>?_) (λk v _=>?_) (by omega) trivial
   ·rw[mW,dt (by omega),cond_true]
    refine T.bind (T.inRO (by omega) (by omega)) λ_ _=>T.bind (T.vgI hj) λ_ _=>T.bind (T.inRO (by omega) (by omega)) λ_ _=>T.bind (T.vgI hj) λ_ _=>T.bind (T.inRO (by omega) (by omega)) λ_ _=>T.bind (T.vgI hi) λ_ _=>?_;rw[aR]
    refine T.bind (T.inRO (by omega) (by omega)) λ_ _=>T.bind (T.vgI hj) λ_ _=>?_;rw[dI (by omega)]
    exact hk _ trivial
   ·rw[mW,df (by omega),cond_false];exact T.ret trivial
  ·rw[mN,df (by omega),cond_false];exact T.ret trivial
 ·refine T.bind (T.inRO (by decide) (by decide)) λ_ _=>T.bind (T.vg (i:=0) (by decide)) λ_ _=>T.bind (T.inRO (by decide) (by decide)) λ_ _=>T.bind (T.vg (i:=1) (by decide)) λ_ _=>T.bind (T.inRO (by decide) (by decide)) λ_ _=>T.bind (T.vg (i:=2) (by decide)) λ_ _=>T.ret ⟨dM _,dM _,dM _⟩
theorem aQY(k:Nat){c:Vector Int 3}(hc:∀x∈c.toList,0<=x/\x<=65535){l:List aD}(hl:aFZ l){u:Vector (Vector Int 2) 3}(hu:aQv u){m:aN}(hm:lZ m)(i:Int):T (lC (k+400) c l u m i) vin:=by
 unfold lC;refine T.bind (aQs (k+397) c (λx hx=>by have:=hc x hx;exact⟨by omega,by omega⟩) ⟨by decide,by decide⟩ (by decide)) λr1 h1=>T.bind (pickT _ hl i) λr2 h2=>T.cond (λ_=>T.ret h1) (λ_=>?_)
 refine T.bind (baryT (k+395) hm hu) λr3 _=>T.letO λx4 _=>T.letO λx5 _=>T.bind (aRr _ (by omega) _ h2 _ _) λr6 h6=>T.cond (λ_=>T.ret h1) (λ_=>?_)
 exact T.bind (aC7 (k+397) _ (by intro x hx;simp at hx;rcases hx with rfl | rfl;exact h1;exact h6) (by simp) (by simp)) λr7 h7=>T.ret h7
theorem aJa(k:Nat){a b c:Int}(hb:cJ b)(hc:cJ c)(v:Vector Int 2):T (jG (k+3) a b c v) cJ:=by
 unfold jG;refine T.bind (T.idx (by decide) (by simp)) λe1 _=>T.bind (aGb k hb (dM _) ⟨by decide,by decide⟩) λr2 h2=>T.bind (T.idx (by decide) (by simp)) λe3 _=>T.bind (aGb k hc (dM _) ⟨by decide,by decide⟩) λr4 h4=>?_;rw[aR]
 exact T.ret (dM _)
theorem aT4(k:Nat){l:aQ}(h:wH l)(v:Vector Int 2):T (wK (k+3) l v) pin:=by
 unfold wK;obtain⟨_,a,b,c⟩:=h;have b':=aD2 b (by decide)
 have c':=aD2 c (by decide)
 refine T.cond (λ_=>T.ret (aD2 a (by decide))) (λ_=>?_)
 exact T.bind (aJa k b'.1 c'.1 v) λ_ x=>T.bind (aJa k b'.2.1 c'.2.1 v) λ_ y=>T.bind (aJa k b'.2.2 c'.2.2 v) λ_ z=>T.ret ⟨x,y,z⟩
theorem absT(N:Nat){a:Int}(h:cJ a):T (mD N a) cJ:=by unfold mD;exact T.cond (λ_=>T.ret (dM _)) (λ_=>T.ret h)
theorem aQ6(N:Nat){a:Int}(b:Int)(h:cJ a):T (rX N a b) cJ:=by unfold rX;exact T.cond (λ_=>T.ret (dM _)) (λ_=>T.ret h)
theorem foldT(N:Nat){a b:Int}(ha:cJ a)(hb:cJ b):T (yL N a b) (λr=>cJ r.1/\cJ r.2):=by
 unfold yL;exact T.bind (absT N hb) λ_ _=>T.bind (aQ6 N _ (dM _)) λ_ x=>T.bind (absT N ha) λ_ _=>T.bind (aQ6 N _ (dM _)) λ_ y=>T.ret ⟨x,y⟩
theorem aSn(N:Nat)(a:Int):T (oY N a) cJ:=by unfold oY;rw[aR];exact T.ret (dM _)
theorem aRN(N:Nat)(a:Int):T (uX N a) pin:=by
 unfold uX;refine T.bind (aSn N _) λr1 h1=>T.bind (aSn N _) λr2 h2=>T.bind (absT N h1) λr3 _=>T.bind (absT N h2) λr4 _=>?_;rw[aR]
 refine T.bind (P:=λp=>cJ p.1/\cJ p.2) (T.cond (λ_=>T.bind (foldT N h1 h2) λr h=>T.ret h) (λ_=>T.ret ⟨h1,h2⟩)) λp h=>T.ret ⟨h.1,h.2,dM _⟩
theorem aMw(N:Nat)(a:Int):T (tL N a) pin:=by
 unfold tL uW;simp only[aR,ae]
 exact T.bind (aRN N _) λr h=>T.ret h
theorem aM5(k:Nat){a b:Int}(ha:cJ a)(hb:cJ b):T (kF (k+3) [a,b]) cJ:=⟨_,aAw k ha hb,eH _⟩
theorem negT(N:Nat){a:Int}(ha:cJ a):T (uL N a) cJ:=⟨_,aNx N ha,eH _⟩
theorem farT(k:Nat){f:vR}(hf:pin f.gE1)(p:aC){n:aA}(hn:vin n):T (qH (k+70) f p n) (λr=>pin r.1/\cJ r.2):=by
 unfold qH;refine T.bind (aAu (k+5) _) λr1 h1=>T.bind (aOK (k+66) hn h1) λr2 h2=>T.cond (λ_=>?_) (λ_=>?_)
 ·exact T.bind (negT _ h2) λ_ a=>T.bind (negT _ h2) λ_ b=>T.bind (aM5 (k+67) a b) λ_ c=>T.ret ⟨⟨dM _,dM _,dM _⟩,c⟩
 ·exact T.bind (aM5 (k+67) h2 h2) λ_ c=>T.ret ⟨hf,c⟩
theorem aTs(k:Nat)(f:vV)(p:aC){n:aA}(hn:vin n):T (oZ (k+70) f p n) (λr=>pin r.1/\cJ r.2):=by
 unfold oZ;refine T.bind (aIk _ _ _) λr1 h1=>T.bind (aAu (k+5) _) λr2 h2=>T.bind (aOK (k+66) hn h2) λr3 h3=>?_;simp only[aR]
 refine T.cond (λ_=>T.ret ⟨⟨z64,z64,z64⟩,z64⟩) (λ_=>T.bind (aKq _ _ _) λr6 h6=>T.bind (aGb (k+67) h3 ⟨by decide,by decide⟩ h6) λr7 h7=>T.ret ⟨h1,h7⟩)
theorem lampT(k:Nat){l:aQ}(h:wH l)(p:aC){n:aA}(hn:vin n)(v:Vector Int 2):T (nW (k+70) l p n v) (λr=>vin r.gC4):=by
 unfold nW;have v0:vin (aA.mk 0 0 0):=⟨z64,z64,z64⟩
 refine T.bind (P:=λ_=>True) (T.bind (aQt _ (by omega) l) λ_ _=>T.cond (λ_=>T.ret trivial) (λ_=>T.bind (aLR _ _ _) λ_ _=>T.ret trivial)) λp1 _=>T.cond (λ_=>T.ret v0) (λ_=>?_)
 refine T.bind (aT4 (k+67) h v) λr4 h4=>T.cond (λ_=>?_) (λ_=>?_)
 ·refine T.bind (T.idx (by decide) (by simp)) λe5 _=>T.bind (aMw _ _) λr6 h6=>T.bind (farT k (f:=vR.mk r6) h6 _ hn) λr7 h7=>T.cond (λ_=>T.ret v0) (λ_=>?_)
  exact T.bind (aJ5 (k+67) h) λr8 h8=>T.eq (qK (k+67) h8 h7.2) (T.ret (oS _ _))
 ·refine T.bind (aTs k _ _ hn) λr10 h10=>T.cond (λ_=>T.ret v0) (λ_=>?_)
  exact T.bind (aJ5 (k+67) h) λr8 h8=>T.eq (qK (k+67) h8 h10.2) (T.ret (oS _ _))
def aHe(t:cX):Prop:=pin t.gD7/\vin t.gC4
theorem aNa : aHe (cX.mk (aC.mk 0 0 0) (aA.mk 0 0 0) true):=⟨⟨z64,z64,z64⟩,z64,z64,z64⟩
theorem aPc(k:Nat){c n:aA}(hc:vin c)(hn:vin n)(a:Int):T (pJ (k+70) c n a) aHe:=by
 unfold pJ;refine T.bind (aMw _ _) λr1 h1=>T.bind (aAu (k+5) _) λr2 h2=>T.bind (aOK (k+66) hn h2) λr3 h3=>?_;refine T.bind (P:=λp=>pin p.1/\cJ p.2) (T.cond (λ_=>T.bind (negT _ h3) λ_ b=>T.ret ⟨⟨dM _,dM _,dM _⟩,b⟩) (λ_=>T.ret ⟨h1,h3⟩)) λp4 h4=>T.cond (λ_=>T.ret aNa) (λ_=>?_)
 exact T.bind (aM5 (k+67) h4.2 h4.2) λr6 h6=>T.eq (qK (k+67) hc h6) (T.ret ⟨h4.1,oS _ _⟩)
theorem aKU(k:Nat){n:aA}(hn:vin n)(d:aC):T (lL (k+70) n d) vin:=by
 unfold lL;exact T.bind (aAu (k+5) _) λr1 h1=>T.bind (aOK (k+66) hn h1) λr2 h2=>T.bind (aM5 (k+67) h2 h2) λr3 h3=>T.eq (qK (k+67) hn h3) (T.eq (aEU _ h1 (oS _ _)) (T.ret (aD9 _ _)))
theorem aKk(k:Nat){a c:aA}(ha:vin a)(hc:vin c):T (lA (k+3) a c) aHe:=by
 unfold lA;exact T.eq (aQR k ha) (T.cond (λ_=>T.ret aNa) (λ_=>T.ret ⟨aDv (aIz ha),hc⟩))
theorem aQE(k:Nat){m:aP}(hm:aBS m){c n:aA}(hc:vin c)(hn:vin n)(d:aC)(v:Vector Int 2):T (jK (k+70) m c n d v) aHe:=by
 unfold jK;obtain⟨_,r1,r2⟩:=hm;refine T.cond (λ_=>T.bind (T.idx (by decide) (by simp)) λe1 _=>T.bind (aPc k hc hn _) λr h=>T.ret h) (λ_=>?_)
 refine T.cond (λ_=>?_) (λ_=>?_)
 ·refine T.eq (rP _ ⟨by omega,by omega⟩) (T.eq (rP _ ⟨by decide,by decide⟩) (T.eq (wQ (k+67) (eH _) (eH _) (by decide)) ?_))
  refine T.bind (aKU k hn d) λr6 h6=>T.bind (T.idx (by decide) (by simp)) λe7 _=>T.bind (aMw _ _) λr8 _=>T.bind (aAu (k+5) _) λr9 h9=>T.eq (qK (k+67) h9 (eH _)) ?_;refine T.eq (aHM (k+67) h6 (oS _ _)) (T.bind (aOK (k+66) hn (sL _ _)) λr12 _=>T.cond (λ_=>T.ret aNa) (λ_=>T.bind (aKk (k+67) (sL _ _) hc) λr h=>T.ret h))
 refine T.cond (λ_=>?_) (λ_=>?_)
 ·refine T.bind (T.idx (by decide) (by simp)) λe14 _=>T.bind (aPR _ _ _) λr15 _=>?_;rw[aR]
  exact T.cond (λ_=>T.bind (aAu (k+5) _) λr17 h17=>T.bind (aKk (k+67) h17 hc) λr h=>T.ret h) (λ_=>T.bind (aKU k hn d) λr19 h19=>T.bind (aKk (k+67) h19 hc) λr h=>T.ret h)
 ·exact T.cond (λ_=>T.bind (aKU k hn d) λr19 h19=>T.bind (aKk (k+67) h19 hc) λr h=>T.ret h) (λ_=>T.ret aNa)
theorem T.eqo{α:Type}{o:Option α}{a:α}(h:o=some a):(aa o λr=>some r)=some a:=by rw[h];rfl
theorem aO5(k:Nat){f:aA}(hf:vin f)(a:Int):T (fB (k+70) f a) (λr=>vin r.1):=by
 unfold fB wC pX iO;refine T.eq (aK1 _ hf) (T.eq rfl (T.eq rfl (T.cond (λ_=>T.ret ⟨z64,z64,z64⟩) (λ_=>?_))))
 rw[vQ,tB]
 generalize hx:min (max (xF f) 268435456) 4294967296=x;have hx1:cJ x/\x≠0:=by unfold cJ;omega
 refine T.eq (T.eqo (wQ (k+67) hf.1 hx1.1 hx1.2)) ?_;refine T.eq (T.eqo (wQ (k+67) hf.2.1 hx1.1 hx1.2)) ?_;refine T.eq (T.eqo (wQ (k+67) hf.2.2 hx1.1 hx1.2)) ?_;exact T.ret ⟨eH _,eH _,eH _⟩
theorem aQ7(k:Nat)(c:bR)(w h x y:Int)(v:Vector Int 4):T (tF (k+6) c w h x y v) (λr=>pin r.1/\pin r.2.1):=by
 unfold tF;have p0:pin (aC.mk 0 0 0):=⟨z64,z64,z64⟩
 refine T.bind (T.idx (by decide) (by simp)) λe1 _=>T.bind (T.idx (by decide) (by simp)) λe2 _=>?_;refine T.bind (aLW k c w h x y _) λr hr=>?_;refine T.cond (λhc=>T.ret ⟨p0,p0⟩) (λhc=>?_)
 have h0:r.2=0:=by simpa using hc
 obtain⟨hv,cam⟩:=hr;obtain⟨⟨w1,w2⟩,⟨h1,h2⟩,hl,hf,o1,o2,o3,ee1,ee2⟩:=cam h0;have eye:pin c.gA9:=by
  simp only[tB,vQ] at ee1 ee2;exact⟨⟨by omega,by omega⟩,⟨by omega,by omega⟩,by omega,by omega⟩
 refine T.bind (P:=λp=>pin p.1/\vin p.2) ?_ λp hp=>?_
 ·refine T.cond (λ_=>?_) (λ_=>T.ret ⟨eye,hv⟩)
  refine T.bind (aTu k c v (aDv (aCV o1)) (aDv (aCV o2))) λr5 h5=>?_;simp only[aR]
  refine T.eq (rP _ ⟨by omega,by omega⟩) ?_;refine T.eq (rP _ ⟨by decide,by decide⟩) ?_;refine T.eq (wQ (k+3) (eH _) (eH _) (by decide)) ?_;refine T.eq (qK (k+3) hv (eH _)) ?_;refine T.eq (zK _ h5) ?_;refine T.eq (aEU _ (oS _ _) (zD _)) ?_;exact T.ret ⟨⟨dM _,dM _,dM _⟩,aD9 _ _⟩
 ·refine T.eq (aQR (k+3) hp.2) ?_;exact T.cond (λhc=>T.ret ⟨p0,p0⟩) (λ_=>T.ret ⟨hp.1,aDv (aIz hp.2)⟩)
theorem nk{N c:Nat}(h:c<=N):∃k,N=k+c:=⟨N - c,by omega⟩
section
variable {N:Nat} (hN:1000 < N)
include hN
theorem aKY(p:aC):T (fT N p) vin:=by obtain⟨k,rfl⟩:=nk (show 65<=N by omega);exact aAu k p
theorem aKG{n:aA}(hn:vin n)(d:aC):T (kA N n d) vin:=by obtain⟨k,rfl⟩:=nk (show 70<=N by omega);exact aR6 k hn d
theorem aHi{c:Vector Int 3}(hc:∀x∈c.toList,0<=x/\x<=65535){l:List aD}(hl:aFZ l){u:Vector (Vector Int 2) 3}(hu:aQv u){m:aN}(hm:lZ m)(i:Int):T (lC N c l u m i) vin:=by obtain⟨k,rfl⟩:=nk (show 400<=N by omega);exact aQY k hc hl hu hm i
theorem aMZ{o d:aC}{m:aN}(ho:pin o)(hd:pin d)(hm:lZ m):T (rG N o d m) pin:=by obtain⟨k,rfl⟩:=nk (show 3<=N by omega);exact aRM k ho hd hm
theorem aKj{v:aA}(hv:vin v):T (nN N v) cJ:=by obtain⟨k,rfl⟩:=nk (show 65<=N by omega);exact aNp k hv
theorem aPp{l:aQ}(h:wH l)(p:aC){n:aA}(hn:vin n)(v:Vector Int 2):T (nW N l p n v) (λr=>vin r.gC4):=by obtain⟨k,rfl⟩:=nk (show 70<=N by omega);exact lampT k h p hn v
theorem aHu{m:aP}(hm:aBS m){c n:aA}(hc:vin c)(hn:vin n)(d:aC)(v:Vector Int 2):T (jK N m c n d v) aHe:=by obtain⟨k,rfl⟩:=nk (show 70<=N by omega);exact aQE k hm hc hn d v
theorem aFd{f:aA}(hf:vin f)(a:Int):T (fB N f a) (λr=>vin r.1):=by obtain⟨k,rfl⟩:=nk (show 70<=N by omega);exact aO5 k hf a
theorem aFF(l:List aA)(h:∀x∈l,vin x)(hl:l.length<=10):T (iA N l) vin:=by obtain⟨k,rfl⟩:=nk (show 3<=N by omega);exact aC7 k l h (by omega) (by omega)
theorem aLh{u v:aA}(hu:vin u)(hv:vin v):kC N [u,v]=some (aGR u v):=by obtain⟨k,rfl⟩:=nk (show 3<=N by omega);exact aHM k hu hv
theorem rayN(c:bR)(w h x y:Int)(v:Vector Int 4):T (tF N c w h x y v) (λr=>pin r.1/\pin r.2.1):=by obtain⟨k,rfl⟩:=nk (show 6<=N by omega);exact aQ7 k c w h x y v
theorem aTK{f:aA}(hf:vin f):iA N [f,aA.mk 0 0 0]=some (aA.mk 0 0 0):=by
 obtain⟨k,rfl⟩:=nk (show 3<=N by omega)
 have h:=qK k hf z64;unfold fP at h;obtain⟨r,e,_⟩:=aC7 k [f,aA.mk 0 0 0] (by intro x hx;simp at hx;rcases hx with rfl | rfl;exact hf;exact⟨z64,z64,z64⟩) (by simp) (by simp)
 rw[e] at h ⊢;have h':r=aJO f 0:=Option.some.inj h;rw[h']
 unfold aJO;simp[S64]
end
def v0 : aA:=aA.mk 0 0 0
theorem aCK : vin v0:=⟨z64,z64,z64⟩
def aC9(p:aT):Prop:=pin p.gat/\vin p.gn/\vin p.gc/\aBS p.gG
def aBT(r:aJ):Prop:=pin r.go/\pin r.gd
theorem mat0 : aBS (aP.mk 0 (#v[0,0,0]) 0):=⟨by intro x hx;simp at hx;omega,by decide,by decide⟩
section
variable {ι ρ ρ' β:Type}
def TC(A:ι->Option ρ)(P:ρ->Prop):Prop:=∃a,P a/\∀i,A i=some a
theorem TU.c{A:ι->Option ρ}{B:ι->ρ->Option ρ'}{P:ρ->Prop}{Q:β->Prop}{S:ι->β->ρ'->Prop}(h:TC A P)(hf:∀a,P a->TU (λi=>B i a) Q S):TU (λi=>aa (A i) (B i)) Q S:=by
 obtain⟨a,pa,e⟩:=h;exact TU.e e (hf a pa)
theorem TC.of{o:Option ρ}{A:ι->Option ρ}{P:ρ->Prop}(h:T o P)(e:∀i,A i=o):TC A P:=by
 obtain⟨a,rfl,pa⟩:=h;exact⟨a,pa,e⟩
theorem TC.bind{A:ι->Option ρ}{B:ι->ρ->Option ρ'}{P:ρ->Prop}{Q:ρ'->Prop}(h:TC A P)(hf:∀a,P a->TC (λi=>B i a) Q):TC (λi=>aa (A i) (B i)) Q:=by
 obtain⟨a,pa,e⟩:=h;obtain⟨b,qb,e'⟩:=hf a pa;exact⟨b,qb,λi=>by show aa (A i) (B i)=_;rw[e i];exact e' i⟩
theorem TC.t{α:Type}{o:Option α}{B:ι->α->Option ρ}{P:α->Prop}{Q:ρ->Prop}(h:T o P)(hf:∀a,P a->TC (λi=>B i a) Q):TC (λi=>aa o (B i)) Q:=by
 obtain⟨a,rfl,pa⟩:=h;exact hf a pa
theorem TC.cond{c:Bool}{A B:ι->Option ρ}{Q:ρ->Prop}(h1:c=true->TC A Q)(h2:c=false->TC B Q):TC (λi=>_root_.cond c (A i) (B i)) Q:=by
 cases c with
 | true=>exact h1 rfl
 | false=>exact h2 rfl
theorem TC.ret(a:ρ){Q:ρ->Prop}(h:Q a):TC (λ_:ι=>some a) Q:=⟨a,h,λ_=>rfl⟩
end
def noR(_ _ _:Int):Prop:=True
theorem noR_0(a:Int):noR a a 0:=trivial
theorem noR_t{a b c n m:Int}(_:noR a b n)(_:noR b c m):noR a c (n+m):=trivial
theorem aRA : vin (aA.mk 4294967296 4294967296 4294967296):=⟨⟨by decide,by decide⟩,⟨by decide,by decide⟩,by decide,by decide⟩
theorem aKb{a b n m:Int}(h:fC a b n)(e:n=m):fC a b m:=e▸h
theorem noR_e{a b n m:Int}(h:noR a b n)(e:n=m):noR a b m:=trivial
end Go.UK
