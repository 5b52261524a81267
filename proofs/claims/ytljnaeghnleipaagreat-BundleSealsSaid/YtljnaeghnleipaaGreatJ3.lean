/- A part of the proof: what the functions of the program compute. -/
import Derived.Test.YtljnaeghnleipaaGreatJ2
open Bool renaming and_eq_true→an,not_true→ff
open Int renaming mul_le_mul→jp,toNat_natCast→cr
open List renaming append_assoc→ap,append_nil→fb,drop_eq_getElem_cons→cv,drop_length→eo,flatMap_cons→cw,flatMap_map→ke,getD_cons_succ→jl,getD_cons_zero→jk,getD_eq_getElem?_getD→ar,getElem?_eq_getElem→ag,getElem_mem→ci,length→kx,length_append→aj,length_cons→da,length_drop→bw,length_nil→kq,length_take→bo,mem_cons→dy,nil_append→fg,not_mem_nil→fc,range→bz,range_succ_eq_map→j4,take→jz,take_length→ib,take_of_length_le→bf,take_succ→ky,take_zero→jd,zipWith→lh
open Option renaming bind→ae,bind_some→aa
open Vector renaming replicate→ah
namespace Go.UK
open Go Go.Proofs
set_option maxRecDepth 20000
set_option maxHeartbeats 1000000
set_option linter.all false
theorem T.vec{α:Type}{n:Nat}{l:List α}(h:n<=l.length):T (aD2 n l) (λv=>v.toList=l.take n):=by
 unfold aD2;rw[dif_pos h]
 exact⟨_,rfl,by simp⟩
theorem T.app{α:Type}{b:Nat}{l r:List α}(h:(l.length+r.length)*b<=140737488355328):T (mH b l r) (λx=>x=l++r):=⟨_,kX h,rfl⟩
theorem aCl(a b:Nat):lP (a:Int) (b:Int)=((min a b:Nat):Int):=by unfold lP;split <;> omega
theorem aPh(N:Nat)(hN:20 < N)(v:Vector Int 16):T (pB N v) (λ_=>True):=by
 unfold pB;refine T.bind (T.loop0 (n:=4) (by decide) (λ_ _=>True) (F:=jQ N) (λk s i hi _ Q hk=>?_) (λk s=>by rw[jQ,df (by omega),cond_false]) (by omega) trivial) λv _=>T.ret trivial;rw[jQ,dt (by omega),cond_true,show(4:Int)=((4:Nat):Int) from rfl,i4 (by omega)]
 have f3:I64 (((4*i:Nat):Int)+3)=((4*i+3:Nat):Int):=by rw[aW (by omega) (by omega)];omega
 rw[f3]
 refine T.bind (P:=λ_=>True) ?_ λ_ _=>by rw[dC (by omega)];exact hk _ trivial
 refine T.letO λx hx=>?_;subst hx;refine T.bind (T.inRO (by omega) (by omega)) λ_ _=>T.bind (T.vget (by omega)) λ_ _=>T.bind (T.inRO (by omega) (by omega)) λ_ _=>T.bind (T.vget (by omega)) λ_ _=>?_;refine T.cond (λ_=>?_) (λ_=>T.ret trivial)
 exact T.bind (T.inRO (by omega) (by omega)) λ_ _=>T.bind (T.vget (by omega)) λ_ _=>T.bind (T.inRO (by omega) (by omega)) λ_ _=>T.bind (T.vget (by omega)) λ_ _=>T.ret trivial
theorem newT(N:Nat)(hN:20 < N)(key:Vector Int 32):T (sZ N key) (λr=>isU r.1/\isU r.2.1/\isU r.2.2.1/\isU r.2.2.2):=by
 unfold sZ;refine T.bind (T.slc (by decide) (by decide) (by simp)) λs1 h1=>T.bind (T.vec (by have:=h1.2;omega)) λv2 _=>T.bind (aPh N hN v2) λr3 _=>?_;refine T.bind (T.slc (by decide) (by decide) (by simp)) λs4 h4=>T.bind (aDr N hN s4 (by have:=h4.2;omega)) λr5 h5=>?_;refine T.bind (T.slc (by decide) (by decide) (by simp)) λs6 h6=>T.bind (aDr N hN s6 (by have:=h6.2;omega)) λr7 h7=>?_;refine T.bind (T.slc (by decide) (by decide) (by simp)) λs8 h8=>T.bind (aDr N hN s8 (by have:=h8.2;omega)) λr9 h9=>?_;refine T.bind (T.slc (by decide) (by decide) (by simp)) λs10 h10=>T.bind (aDr N hN s10 (by have:=h10.2;omega)) λr11 h11=>?_;exact T.ret ⟨h5,h7,h9,h11⟩
theorem cpV17(s:List Int):∃v,cpV (ah 17 (0:Int)) s 0 16=some v:=by
 unfold cpV;rw[dif_pos (by decide)]
 exact⟨_,rfl⟩
theorem aKX(N:Nat):∀(k:Nat) (s:List (Vector Int 17)) (m:List Int),m.length < k->m.length<=65536->s.length<=1000000 - m.length->T (kD N k s m) (λr=>r.length=s.length+(m.length+15) / 16)
 | 0,_,_,h,_,_=>by omega
 | k+1,s,m,h,hm,hs=>by
  rw[kD]
  refine T.letO λx hx=>?_;subst hx;refine T.cond (λhc=>?_) (λhc=>?_)
  ·have hc:0 < m.length:=by simpa using hc
   refine T.bind (o:=aF3 17 0 16) ⟨(),rfl,trivial⟩ λ_ (_:True)=>?_;obtain⟨v,hv⟩:=cpV17 m;rw[hv,aa]
   refine T.letO λx hx=>?_;subst hx;refine T.bind (T.inRO (by omega) (by omega)) λ_ _=>T.bind (T.vget (by omega)) λ_ _=>T.bind (T.app (by simp;omega)) λz hz=>?_;subst hz;refine T.bind (T.slc (by omega) (by omega) (by omega)) λs14 h14=>?_;have h15:=h14.2;refine T.mono (aKX N k _ s14 (by omega) (by omega) (by simp;omega)) λr hr=>?_;simp at hr;omega
  ·have hc:m.length=0:=by have:=of_decide_eq_false hc;omega
   exact T.ret (by omega)
theorem aJs(N:Nat)(m:List Int)(h:m.length < N)(hm:m.length<=65536):T (jN N m) (λr=>r.length=(m.length+15) / 16):=by
 unfold jN;refine T.letO λx hx=>?_;have hx:x=(m.length:Int):=by rw[hx];unfold lP;split <;> omega
 subst hx;refine T.bind (T.slc (by omega) (by omega) (by omega)) λs3 h3=>?_;have:=h3.2;refine T.bind (aKX N N [] s3 (by omega) (by omega) (by rw[kq];omega)) λr hr=>T.ret ?_;rw[kq] at hr;omega
theorem aPH(N:Nat)(ms:List (List Int))(hms:ms.length < 1000):∀(k i:Nat) (s:List Int) (n:Nat),i<=ms.length->ms.length - i < k->n<=65536->s.length<=n->T (eV N ms k s (n:Int) (i:Int)) (λr=>r.1.length<=65536)
 | 0,_,_,_,_,h,_,_=>by omega
 | k+1,i,s,n,hi,hk,hn,hs=>by
  rw[eV,aC]
  by_cases h:i < ms.length
  ·rw[dt (by omega),cond_true]
   refine T.bind (T.idx (by omega) (by omega)) λe6 h6=>?_;have f:I64 (65536 - (n:Int))=((65536 - n:Nat):Int):=by rw[aW (by omega) (by omega)];omega
   rw[f,aC,aCl]
   refine T.bind (T.slc (by omega) (by omega) (by omega)) λs9 h9=>?_;have h10:=h9.2;rw[aC]
   refine T.bind (T.app (by omega)) λz hz=>?_;subst hz;have f2:I64 ((n:Int)+(s9.length:Int))=((n+s9.length:Nat):Int):=by rw[aW (by omega) (by omega)];omega
   rw[f2,dC (by omega)]
   exact aPH N ms hms k (i+1) _ _ (by omega) (by omega) (by omega) (by rw[aj];omega)
  ·rw[df (by omega),cond_false]
   exact T.ret (by dsimp only;omega)
theorem aO5(N:Nat)(hN:20 < N):∀(k:Nat) (h:Vector Int 3) (made:Bool) (r0 r1 s0 s1:Int) (rest:List Int) (all:Int),sD h->rest.length < k->rest.length<=65536 ->
  T (eW N k h made r0 r1 s0 s1 rest all) (λr=>sD r.1/\r.2.1=made/\r.2.2.1=r0/\r.2.2.2.1=r1/\r.2.2.2.2.1=s0/\r.2.2.2.2.2.1=s1/\r.2.2.2.2.2.2.1.length < 16)
 | 0,_,_,_,_,_,_,_,_,_,h,_=>by omega
 | k+1,h,made,r0,r1,s0,s1,rest,all,hh,hk,hl=>by
  rw[eW]
  refine T.letO λx hx=>?_;subst hx;refine T.cond (λhc=>?_) (λhc=>?_)
  ·have hc:16<=rest.length:=by have:=of_decide_eq_true hc;omega
   refine T.bind (T.slc (by omega) (by omega) (by omega)) λs22 h22=>?_;have h23:=h22.2;refine T.bind (aJs N s22 (by omega) (by omega)) λr23 hr=>T.bind (T.idx (by omega) (by omega)) λe24 _=>?_;refine T.bind (aIe N hN e24 r0 r1 _ hh) λr25 hr25=>?_;obtain⟨g1,g2⟩:=hr25;obtain⟨h',q⟩:=r25;dsimp only at g1 g2;subst g2;dsimp only;refine T.bind (T.slc (by omega) (by omega) (by omega)) λs26 h26=>?_;have:=h26.2;exact aO5 N hN k h' made r0 r1 s0 s1 s26 all g1 (by omega) (by omega)
  ·have hc:rest.length < 16:=by have:=of_decide_eq_false hc;omega
   exact T.ret ⟨hh,rfl,rfl,rfl,rfl,rfl,hc⟩
theorem z16 : jP (ah 16 (0:Int)):=by unfold jP aX isB;decide
theorem endT(N:Nat)(hN:20 < N)(h:Vector Int 3)(hh:sD h)(s0 s1:Int)(h0:isU s0)(h1:isU s1):T (nV N (aH.mk h) s0 s1) jP:=by
 unfold nV;refine T.bind (T.loop0 (n:=2) (by decide) (λ_ (v:Vector Int 3)=>sD v) (F:=dP N) (λk s i hi hs Q hk=>?_) (λk s=>by rw[dP,df (by omega),cond_false]) (by omega) hh) λp1 hp=>?_
 ·rw[dP,dt (by omega),cond_true,dC (by omega)]
  refine T.bind (P:=sD) ?_ λv hv=>hk v hv;refine T.bind (T.inRO (by decide) (by decide)) λ_ _=>T.bind (T.vgetU hs (by decide)) λe6 h6=>T.bind (T.add64 h6 aCR ⟨by decide,by decide⟩) λr7 h7=>?_;refine T.bind (T.inRO (by decide) (by decide)) λ_ _=>T.bind (T.vgetU hs (by decide)) λe9 h9=>T.bind (T.add64 h9 vZ h7.2) λr10 h10=>?_;refine T.bind (T.inRO (by decide) (by decide)) λ_ _=>T.bind (T.vgetU hs (by decide)) λe12 h12=>?_;refine T.letO λ_ _=>T.cond (λ_=>T.letO λ_ _=>T.ret (aDm h7.1 h10.1 (qL _))) (λ_=>T.ret hs)
 refine T.bind (T.inRO (by decide) (by decide)) λ_ _=>T.bind (T.vgetU hp (by decide)) λe17 h17=>T.bind (T.add64 h17 h0 ⟨by decide,by decide⟩) λr18 h18=>?_;refine T.bind (T.inRO (by decide) (by decide)) λ_ _=>T.bind (T.vgetU hp (by decide)) λe20 h20=>T.bind (T.add64 h20 h1 h18.2) λr21 h21=>?_;refine T.bind (T.loop0 (n:=8) (by decide) (λ_ (v:Vector Int 16)=>jP v) (F:=eM N r18 r21) (λk s i hi hs Q hk=>?_) (λk s=>by rw[eM,df (by omega),cond_false]) (by omega) z16) λp22 h22=>T.ret h22;have vset:∀(v:Vector Int 16) (i:Nat) (x:Int),jP v->jP (v.setIfInBounds i (U8 x)):=by
  intro v i x hv y hy;have e:(v.setIfInBounds i (U8 x)).toList=v.toList.set i (U8 x):=by simp
  rw[e] at hy;rcases List.mem_or_eq_of_mem_set hy with h' | h'
  ·exact hv y h'
  ·rw[h'];exact aMB _
 rw[eM,dt (by omega),cond_true,show(8:Int)=((8:Nat):Int) from rfl,i4 (by omega),ia (by omega),dC (by omega)]
 rw[mF .u64 (by omega),aa,mF .u64 (by omega),aa]
 refine T.bind (T.inRO (by omega) (by omega)) λ_ _=>T.bind (T.vget (by omega)) λ_ _=>T.bind (T.inRO (by omega) (by omega)) λ_ _=>T.bind (T.vget (by omega)) λ_ _=>?_;exact hk _ (vset _ _ _ (vset _ _ _ hs))
theorem sumT(N:Nat)(hN:2000 < N)(m:aN)(hh:sD m.gA0.gh)(h0:isU m.gs0)(h1:isU m.gs1)(hr:m.gL.length<=100)(hm:m.gA=true):T (nN N m) jP:=by
 unfold nN;rw[hm,ff,cond_false]
 refine T.bind (aJs N m.gL (by omega) (by omega)) λr1 hr1=>?_;refine T.bind (T.loop0 (n:=r1.length) (by omega) (λ_ (v:Vector Int 3)=>sD v) (F:=iW N r1 m) (λk s i hi hs Q hk=>?_) (λk s=>by rw[iW,aC,df (by omega),cond_false]) (by omega) hh) λp2 hp2=>?_
 ·rw[iW,aC,dt (by omega),cond_true,dC (by omega)]
  exact T.bind (T.idx (by omega) (by omega)) λe6 _=>T.bind (aFz N (by omega) e6 _ _ (aH.mk s) hs) λr7 h7=>hk r7 h7
 exact T.bind (endT N (by omega) p2 hp2 _ _ h0 h1) λr8 h8=>T.ret h8
theorem tagT(N:Nat)(hN:2000 < N)(key:Vector Int 32)(ms:List (List Int))(hms:ms.length < 1000)(hl:65536 < N):T (rH N key ms) jP:=by
 unfold rH;refine T.bind (newT N (by omega) key) λr1 h1=>?_;obtain⟨u1,u2,u3,u4⟩:=h1;refine T.bind (P:=λr=>sD r.2.1/\r.2.2.1=true/\r.2.2.2.2.2.1=r1.2.2.1/\r.2.2.2.2.2.2.1=r1.2.2.2/\r.2.2.2.2.2.2.2.1.length < 16) ?_ λr2 h2=>?_
 ·unfold pA;rw[ff,cond_false]
  refine T.bind (aPH N ms hms N 0 [] 0 (by omega) (by omega) (by omega) (by simp)) λp1 hp1=>?_;refine T.bind (aO5 N (by omega) N _ true _ _ _ _ p1.1 p1.2 (aDm vZ vZ vZ) (by omega) hp1) λp12 hp=>T.ret ?_;obtain⟨g1,g2,g3,g4,g5,g6,g7⟩:=hp;exact⟨g1,g2,g5,g6,g7⟩
 ·obtain⟨g1,g2,g5,g6,g7⟩:=h2;exact T.bind (sumT N hN _ g1 (by dsimp only;rw[g5];exact u3) (by dsimp only;rw[g6];exact u4) (by dsimp only;omega) g2) λr3 h3=>T.ret h3
theorem keyT(N:Nat)(hN:20 < N)(key:Vector Int 32)(n:Vector Int 12):T (sX N key n) (λ_=>True):=by
 unfold sX;exact T.bind (aJl N hN key 0 n) λr1 _=>T.bind (T.slc (by decide) (by decide) (by simp)) λs3 h3=>T.bind (T.vec (by have:=h3.2;omega)) λ_ _=>T.ret trivial
theorem aOk(N:Nat)(l:List Int)(hl:l.length<=1000000):T (oU N l) (λr=>r.length<=16):=by
 unfold oU;refine T.letO λx hx=>T.letO λy hy=>?_;have hx1:x=((l.length % 16:Nat):Int):=by rw[hx];rfl
 have hy1:y=(((16 - l.length % 16) % 16:Nat):Int):=by
  have e:I64 (16 - x)=((16 - l.length % 16:Nat):Int):=by rw[hx1,aW (by omega) (by omega)];omega
  rw[hy,e];rfl
 subst hy1;rw[cr]
 refine T.bind (o:=mkO 1 _) (P:=λ_=>True) ⟨(),?_,trivial⟩ λ_ _=>T.bind (o:=aH6 _ _) (P:=λ_=>True) ⟨(),?_,trivial⟩ λ_ _=>T.ret ?_
 ·unfold mkO;rw[dt (by omega),dt (by omega),dt (by omega)]
  rfl
 ·unfold aH6;rw[show((List.replicate ((16 - l.length % 16) % 16) (0:Int)).length.beq ((16 - l.length % 16) % 16))=true by simp]
  rfl
 ·simp;omega
theorem macT(N:Nat)(hN:70000<=N)(key:Vector Int 32)(n:Vector Int 12)(a c:List Int)(ha:a.length<=1000000)(hc:c.length<=1000000):T (pE N key n a c) jP:=by
 unfold pE;refine T.bind (T.loop0 (n:=8) (by decide) (λ_ _=>True) (F:=kH N a c) (λk s i hi _ Q hk=>?_) (λk s=>by rw[kH,df (by omega),cond_false]) (by omega) trivial) λp1 _=>?_
 ·rw[kH,dt (by omega),cond_true,show(8:Int)=((8:Nat):Int) from rfl,i4 (by omega),ia (by omega),dC (by omega),mF .i64 (by omega),aa,mF .i64 (by omega),aa]
  exact T.bind (T.inRO (by omega) (by omega)) λ_ _=>T.bind (T.vget (by omega)) λ_ _=>T.bind (T.inRO (by omega) (by omega)) λ_ _=>T.bind (T.vget (by omega)) λ_ _=>hk _ trivial
 refine T.bind (keyT N (by omega) key n) λr10 _=>T.bind (aOk N a ha) λr11 _=>T.bind (aOk N c hc) λr12 _=>T.bind (T.slc (by decide) (by decide) (by simp)) λs13 _=>?_;exact T.bind (tagT N (by omega) r10 _ (by simp) (by omega)) λr14 h14=>T.ret h14
theorem aKS(N:Nat)(hN:20 < N)(key:Vector Int 32)(n:Vector Int 12)(len:Nat)(hl:len<=65536):∀(k:Nat) (s:List Int) (c:Int),s.length<=len->len - s.length < k->T (jX N (len:Int) key n k s c) (λr=>r.length=len)
 | 0,_,_,_,h=>by omega
 | k+1,s,c,hs,hk=>by
  rw[jX,show lP (len:Int) 65536=(len:Int) by unfold lP;split <;> omega]
  refine T.letO λx hx=>?_;subst hx;refine T.cond (λhc=>?_) (λhc=>?_)
  ·have hc:s.length < len:=by have:=of_decide_eq_true hc;omega
   refine T.bind (aJl N hN key c n) λr5 _=>?_;have f:I64 ((len:Int) - (s.length:Int))=((len - s.length:Nat):Int):=by rw[aW (by omega) (by omega)];omega
   rw[f,aC,show(64:Int)=((64:Nat):Int) from rfl,aCl]
   refine T.bind (T.slc (by omega) (by omega) (by simp;omega)) λs9 h9=>?_;have h10:=h9.2;refine T.bind (T.app (by omega)) λz hz=>?_;subst hz;exact aKS N hN key n len hl k _ _ (by rw[aj];omega) (by rw[aj];omega)
  ·have hc:s.length=len:=by have:=of_decide_eq_false hc;omega
   exact T.ret hc
theorem aN1(N:Nat)(hN:70000<=N)(key:Vector Int 32)(c:Int)(n:Vector Int 12)(len:Nat)(hl:len<=65536):T (jR N key c n (len:Int)) (λr=>r.length=len):=by
 unfold jR;exact T.bind (aKS N (by omega) key n len hl N [] c (by simp) (by simp;omega)) λp1 h=>T.ret h
def vQ(d s:List Int):List Int:=lh (wV .u8) d s
theorem aFW{d s:List Int}(h:s.length=d.length):(vQ d s).length=d.length:=by unfold vQ;simp;omega
theorem aFZ(d s:List Int):aX (vQ d s):=by
 intro x hx;unfold vQ at hx;rw[List.mem_iff_getElem?] at hx;obtain⟨i,hi⟩:=hx;rw[List.getElem?_zipWith] at hi;revert hi;cases d[i]? <;> cases s[i]? <;> intro hi <;> simp at hi;rw[<- hi];exact aPq
theorem aOr(N:Nat)(d st:List Int)(hs:st.length=d.length)(hl:d.length<=65536):∀(k i:Nat),i<=d.length->d.length - i < k->oN N st k (vQ (d.take i) (st.take i)++d.drop i) (i:Int)=some (vQ d st)
 | 0,_,_,h=>by omega
 | k+1,i,hi,hk=>by
  rw[oN,aC]
  have hz:(vQ (d.take i) (st.take i)).length=i:=by rw[aFW (by simp;omega)];simp;omega
  by_cases h:i < d.length
  ·have hcat:(vQ (d.take i) (st.take i)++d.drop i).length=d.length:=by rw[aj,hz,bw];omega
   have hget:(vQ (d.take i) (st.take i)++d.drop i)[i]? = some d[i]:=by
    rw[List.getElem?_append_right (by omega),hz,Nat.sub_self,List.getElem?_drop,Nat.add_zero,ag h]
   rw[dt (by omega),cond_true,dI (by omega),aa,dS (by omega) (by omega),aa,cr,hget,aa,aa]
   have hset:aLU (vQ (d.take i) (st.take i)++d.drop i) i (wV .u8 d[i] st[i])=some (vQ (d.take (i+1)) (st.take (i+1))++d.drop (i+1)):=by
    unfold aLU;rw[show Nat.blt i (vQ (d.take i) (st.take i)++d.drop i).length=true by rw[hcat];exact Nat.ble_eq_true_of_le h,cond_true]
    congr 1;rw[List.set_append_right _ _ (by omega),hz,Nat.sub_self,cv h,List.set_cons_zero]
    have e1:vQ (d.take (i+1)) (st.take (i+1))=vQ (d.take i) (st.take i)++[wV .u8 d[i] st[i]]:=by
     unfold vQ;rw[ky,ky,ag h,ag (show i < st.length by omega)]
     show lh _ (jz i d++[d[i]]) (jz i st++[st[i]])=_;rw[List.zipWith_append (by simp;omega)]
     rfl
    rw[e1]
    simp
   rw[hset,aa,dC (by omega)]
   exact aOr N d st hs hl k (i+1) (by omega) (by omega)
  ·obtain rfl:i=d.length:=by omega
   rw[df (by omega),cond_false,ib,bf (by omega),eo,fb]
def stV(N:Nat)(key:Vector Int 32)(n:Vector Int 12)(len:Nat):List Int:=(jR N key 1 n (len:Int)).getD []
theorem aJX(N:Nat)(hN:70000<=N)(key:Vector Int 32)(n:Vector Int 12)(len:Nat)(hl:len<=65536):jR N key 1 n (len:Int)=some (stV N key n len)/\(stV N key n len).length=len:=by
 obtain⟨r,h1,h2⟩:=aN1 N hN key 1 n len hl;unfold stV;rw[h1]
 exact⟨rfl,h2⟩
def zY(N:Nat)(key:Vector Int 32)(n:Vector Int 12)(d:List Int):List Int:=vQ d (stV N key n d.length)
theorem aCU(N:Nat)(hN:70000<=N)(key:Vector Int 32)(n:Vector Int 12){d:List Int}(hl:d.length<=65536):(zY N key n d).length=d.length:=aFW (aJX N hN key n _ hl).2
theorem xorP(N:Nat)(hN:70000<=N)(key:Vector Int 32)(n:Vector Int 12)(d:List Int)(hl:d.length<=65536):rU N key 1 n [d]=some (zY N key n d):=by
 obtain⟨h1,h2⟩:=aJX N hN key n _ hl;unfold rU;have hL1:lH N [d] N [] 0=some d:=by
  obtain⟨m,rfl⟩:∃m,N=m+2:=⟨N - 2,by omega⟩
  rw[show lH (m+2) [d] (m+2) [] 0=lH (m+2) [d] (m+1+1) [] 0 from rfl,lH,aC,dt (by simp),cond_true,show idx [d] 0=some d from rfl,aa]
  have f:I64 (65536 - (([]:List Int).length:Int))=65536:=by decide
  rw[f,aC,aC,show lP (d.length:Int) 65536=(d.length:Int) by unfold lP;split <;> omega,pL (by omega) (by omega) (by omega),aa,cr,ib]
  have e:(List.drop (0:Int).toNat d)=d:=rfl;rw[e,kX (by simp;omega),aa,fg,lH,aC]
  rfl
 rw[hL1,aa,h1,aa]
 have:=aOr N d _ h2 hl N 0 (by omega) (by omega)
 rw[jd,jd,List.drop_zero] at this;rw[show oN N (stV N key n d.length) N d 0=some (vQ d (stV N key n d.length)) from this]
 rfl
def aEA(N:Nat)(key:Vector Int 32)(n:Vector Int 12)(a c:List Int):Vector Int 16:=(pE N key n a c).getD (ah 16 0)
theorem macP(N:Nat)(hN:70000<=N)(key:Vector Int 32)(n:Vector Int 12)(a c:List Int)(ha:a.length<=1000000)(hc:c.length<=1000000):pE N key n a c=some (aEA N key n a c)/\jP (aEA N key n a c):=by
 obtain⟨r,h1,h2⟩:=macT N hN key n a c ha hc;unfold aEA;rw[h1]
 exact⟨rfl,h2⟩
def zX(N:Nat)(key:Vector Int 32)(n:Vector Int 12)(a p:List Int):List Int:=zY N key n p++(aEA N key n a (zY N key n p)).toList
theorem aAs(N:Nat)(hN:70000<=N)(key:Vector Int 32)(n:Vector Int 12)(a:List Int){p:List Int}(hl:p.length<=65536):(zX N key n a p).length=p.length+16:=by
 unfold zX;rw[aj,aCU N hN key n hl]
 simp
theorem aDo(N:Nat)(hN:70000<=N)(key:Vector Int 32)(n:Vector Int 12)(a:List Int){p:List Int}(ha:a.length<=1000000)(hl:p.length<=65536):aX (zX N key n a p):=
 (aFZ _ _).app (macP N hN key n a _ ha (by rw[aCU N hN key n hl];omega)).2
theorem aOi(N:Nat)(hN:70000<=N)(key:Vector Int 32)(n:Vector Int 12)(a p:List Int)(ha:a.length<=16384)(hp:p.length<=16384):tF N key n a p=some (zX N key n a p,0):=by
 unfold tF;have hx:=aCU N hN key n (d:=p) (by omega)
 rw[aC,aC,df (by omega),df (by omega),cond_false,cond_false,xorP N hN key n p (by omega),aa,(macP N hN key n a _ (by omega) (by omega)).1,aa]
 have hs:eU (aEA N key n a (zY N key n p)).toList 0 16=some (aEA N key n a (zY N key n p)).toList:=aJL (m:=16) _;rw[hs,aa,aMX N [zY N key n p,(aEA N key n a (zY N key n p)).toList] (by simp) (by show 2 < N;omega) (by intro l hl;simp only[dy,fc,or_false] at hl;rcases hl with rfl | rfl;omega;simp),aa]
 congr 2;simp[zX]
theorem aP0(N:Nat)(hN:20 < N)(base:Vector Int 8)(i:Int):T (eF N base i) (λ_=>True):=by
 unfold eF;refine T.bind (o:=aF3 12 0 12) (P:=λ_=>True) ⟨(),rfl,trivial⟩ λ_ _=>T.bind (T.slc (by decide) (by decide) (by simp)) λs2 _=>?_;refine T.bind (P:=λ_=>True) ?_ λv3 _=>?_
 ·unfold cpV;rw[dif_pos (by decide)]
  exact⟨_,rfl,trivial⟩
 refine T.bind (T.loop0 (n:=4) (by decide) (λ_ _=>True) (F:=fW N i) (λk s j hj _ Q hk=>?_) (λk s=>by rw[fW,df (by omega),cond_false]) (by omega) trivial) λp1 _=>T.ret trivial;rw[fW,dt (by omega),cond_true,show(8:Int)=((8:Nat):Int) from rfl,i4 (by omega),ia (by omega),dC (by omega),mF .i64 (by omega),aa]
 exact T.bind (T.inRO (by omega) (by omega)) λ_ _=>T.bind (T.vget (by omega)) λ_ _=>hk _ trivial
def aGn(N:Nat)(base:Vector Int 8)(i:Int):Vector Int 12:=(eF N base i).getD (ah 12 0)
theorem aMv(N:Nat)(hN:20 < N)(base:Vector Int 8)(i:Int):eF N base i=some (aGn N base i):=by
 obtain⟨r,h,_⟩:=aP0 N hN base i;unfold aGn;rw[h]
 rfl
theorem aGc : aX []:=by intro x hx;cases hx
def vV(k:Int):Int:=if k=1 then 2048 else if k=2 then 1024 else if k=3 then 64 else if k=4 then 64 else 0
theorem capP(N:Nat)(k:Int):qA N k=some (vV k):=by
 unfold qA vV;rw[aC]
 by_cases h:k < 0\/5<=k
 ·rw[show cond (decide (k < 0)) true (decide (k>=5))=true by rcases h with h | h;rw[dt h];rfl;rw[df (show ¬k < 0 by omega),dt (show k>=5 by omega)];rfl,cond_true]
  rw[if_neg (by omega),if_neg (by omega),if_neg (by omega),if_neg (by omega)]
 ·rw[df (show ¬k < 0 by omega),df (show ¬k>=5 by omega),cond_false,cond_false,dS (by omega) (by omega),aa]
  have:k=0\/k=1\/k=2\/k=3\/k=4:=by omega
  rcases this with rfl | rfl | rfl | rfl | rfl <;> rfl
def qH(s:Int):Int:=if s < 1 then 0 else(s - 1) / 256+1
theorem aG8(N:Nat){s:Int}(h:aA4 s):mQ N s=some (qH s):=by
 unfold mQ qH;obtain⟨h0,h1⟩:=h;by_cases hs:s < 1
 ·rw[dt hs,cond_true,if_pos hs]
 ·have e:Int.tdiv (s - 1) 256=(s - 1) / 256:=Int.tdiv_eq_ediv_of_nonneg (by omega)
  rw[df hs,cond_false,if_neg hs,aW (x:=s - 1) (by omega) (by omega),e,aW (x:=(s - 1) / 256) (by omega) (by omega),aC,aW (by omega) (by omega)]
def rG(m:aD):Int:=if vV m.gC=0 then 12 else if (m.gR.toList.any λe=>decide (e > 15))=true then 5 else if m.gT > m.gTo\/m.gP < 1 then 5 else if m.gP > vV m.gC then 9 else if m.gA3≠qH m.gP then 5 else 0
theorem mchkP(N:Nat)(hN:20 < N)(m:aD)(hs:aA4 m.gP):nO N m=some (rG m):=by
 unfold nO rG;rw[capP,aa]
 by_cases h0:vV m.gC=0
 ·rw[if_pos h0,h0];rfl
 ·rw[if_neg h0,show(vV m.gC==0)=false by simpa using h0,cond_false]
  have hl:iU N m N 0=some (cond (m.gR.toList.any λe=>decide (e > 15)) (Sum.inr 5) (Sum.inl ())):=by
   refine wL m.gR.toList (λe=>decide (e > 15)) (5:Int) (iU N m) (by simp) (λk i h=>?_) (λk=>?_) (by simp;omega)
   ·have h8:i < 8:=by simpa using h
    rw[iU,dt (by omega),cond_true,dI h,aa]
   ·rw[iU,df (by simp),cond_false]
  rw[hl,aa]
  cases ha:(m.gR.toList.any λe=>decide (e > 15)) with
  | true=>rw[if_pos rfl,cond_true];rfl
  | false=>
   rw[if_neg (by decide),cond_false]
   show(aO (decide (m.gT > m.gTo)) λx5=>_)=_;rw[aC,aC]
   by_cases h1:m.gT > m.gTo\/m.gP < 1
   ·rw[if_pos h1]
    rw[show cond (decide (m.gT > m.gTo)) true (decide (m.gP < 1))=true by rcases h1 with h | h;rw[dt h];rfl;rw[dt h];cases decide (m.gT > m.gTo) <;> rfl,aC,cond_true]
   ·rw[if_neg h1,df (show ¬m.gT > m.gTo by omega),df (show ¬m.gP < 1 by omega),cond_false,aC,cond_false]
    by_cases h2:m.gP > vV m.gC
    ·rw[dt h2,cond_true,if_pos h2]
    ·rw[df h2,cond_false,if_neg h2,aG8 N hs,aa]
     by_cases h3:m.gA3=qH m.gP
     ·rw[if_neg (by simpa using h3),show(m.gA3 != qH m.gP)=false by simpa using h3,cond_false]
     ·rw[if_pos h3,show(m.gA3 != qH m.gP)=true by simpa using h3,cond_true]
structure aLZ(m:aD):Prop where
 id:isU m.gId
 kind:0<=m.gC/\m.gC < 256
 label:isW m.gA2
 masks:jP m.gR
 fr:isW m.gT
 to:isW m.gTo
 size:0<=m.gP/\m.gP < 4294967296
 chunks:0<=m.gA3/\m.gA3 < 65536
structure aF7(m:aD):Prop where
 id:isU m.gId
 kind:aA4 m.gC
 label:isW m.gA2
 masks:jP m.gR
 fr:isW m.gT
 to:isW m.gTo
 size:aA4 m.gP
 chunks:aA4 m.gA3
theorem aOX{k:Int}(h:vV k≠0):1<=k/\k<=4/\vV k<=2048/\64<=vV k:=by
 unfold vV at *;split at h
 ·rename_i e;subst e;exact⟨by decide,by decide,by decide,by decide⟩
 ·split at h
  ·rename_i e;subst e;exact⟨by decide,by decide,by decide,by decide⟩
  ·split at h
   ·rename_i e;subst e;exact⟨by decide,by decide,by decide,by decide⟩
   ·split at h
    ·rename_i e;subst e;exact⟨by decide,by decide,by decide,by decide⟩
    ·exact absurd rfl h
theorem mchk0{m:aD}(h:rG m=0):vV m.gC≠0/\1<=m.gP/\m.gP<=vV m.gC/\m.gA3=qH m.gP:=by
 unfold rG at h;split at h
 ·cases h
 ·rename_i h0;split at h
  ·cases h
  ·split at h
   ·cases h
   ·split at h
    ·cases h
    ·split at h
     ·cases h
     ·exact⟨h0,by omega,by omega,by omega⟩
theorem aF7.r{m:aD}(t:aF7 m)(h:rG m=0):aLZ m:=by
 obtain⟨h0,h1,h2,h3⟩:=mchk0 h;obtain⟨k1,k2,k3,_⟩:=aOX h0;refine⟨t.id,⟨by omega,by omega⟩,t.label,t.masks,t.fr,t.to,⟨by omega,by omega⟩,?_⟩
 rw[h3]
 unfold qH;rw[if_neg (by omega)]
 omega
def aEF(m:aD):List Int:=leB 8 m.gId++(leB 1 m.gC++(leB 4 m.gA2++(m.gR.toList++(leB 4 m.gT++(leB 4 m.gTo++(leB 4 m.gP++leB 2 m.gA3))))))
theorem aFd(m:aD):(aEF m).length=35:=by unfold aEF;simp[jB]
theorem aI3{m:aD}(h:jP m.gR):aX (aEF m):=(rS _ _).app ((rS _ _).app ((rS _ _).app (h.app ((rS _ _).app ((rS _ _).app ((rS _ _).app (rS _ _)))))))
theorem aJh(N:Nat)(hN:20 < N)(b:List Int)(w:Nat)(hw0:1<=w)(hw:w<=8)(x:Int)(hx:0<=x)(hx2:x < cI w)(hb:b.length<=1000000):bO N b (w:Int) [x]=some (b++leB w x,0):=by
 have h8:=aHb hw;rw[aNG N b w hw0 hw [x] (by intro y hy;simp at hy;subst hy;exact⟨hx,by omega⟩) (by omega) (by simp) (by omega) (by simp;omega)]
 unfold aGr;have:([x].any (big w))=false:=by simp[big];omega
 rw[this,cond_false]
 simp
theorem put3(N:Nat)(hN:20 < N)(b:List Int)(w:Nat)(hw0:1<=w)(hw:w<=8)(x y z:Int)(hx:0<=x/\x < cI w)(hy:0<=y/\y < cI w)(hz:0<=z/\z < cI w)(hb:b.length<=1000000):bO N b (w:Int) [x,y,z]=some (b++(leB w x++(leB w y++leB w z)),0):=by
 have h8:=aHb hw;rw[aNG N b w hw0 hw [x,y,z] (by intro q hq;simp at hq;rcases hq with rfl | rfl | rfl <;> omega) (by omega) (by simp) (by omega) (by simp;omega)]
 unfold aGr;have:([x,y,z].any (big w))=false:=by simp[big];omega
 rw[this,cond_false]
 simp
theorem put2(N:Nat)(hN:20 < N)(b:List Int)(w:Nat)(hw0:1<=w)(hw:w<=8)(x y:Int)(hx:0<=x/\x < cI w)(hy:0<=y/\y < cI w)(hb:b.length<=1000000):bO N b (w:Int) [x,y]=some (b++(leB w x++leB w y),0):=by
 have h8:=aHb hw;rw[aNG N b w hw0 hw [x,y] (by intro q hq;simp at hq;rcases hq with rfl | rfl <;> omega) (by omega) (by simp) (by omega) (by simp;omega)]
 unfold aGr;have:([x,y].any (big w))=false:=by simp[big];omega
 rw[this,cond_false]
 simp
theorem aOl(N:Nat)(hN:20 < N)(m:aD)(t:aF7 m):kV N m=some (if rG m=0 then(aEF m,0) else([],rG m)):=by
 unfold kV;rw[mchkP N hN m t.size,aa]
 by_cases h:rG m=0
 ·have r:=t.r h;rw[if_pos h,h,show((0:Int) != 0)=false from rfl,cond_false]
  have k1:=r.kind;have k2:=r.size;have k3:=r.chunks;have k4:=r.label;have k5:=r.fr;have k6:=r.to;have e1:=aJh N hN [] 8 (by decide) (by decide) m.gId r.id.1 r.id.2 (by simp)
  rw[show bO N [] 8 [m.gId]=_ from e1,aa,fF (x:=m.gC) (by omega) (by omega),fF (x:=m.gA2) k4.1 (by have:=k4.2;omega),fF (x:=m.gT) k5.1 (by have:=k5.2;omega),fF (x:=m.gTo) k6.1 (by have:=k6.2;omega),fF (x:=m.gP) (by omega) (by omega),fF (x:=m.gA3) (by omega) (by omega)]
  have e2:=aJh N hN ([]++leB 8 m.gId) 1 (by decide) (by decide) m.gC k1.1 k1.2 (by simp[jB])
  rw[show bO N ([]++leB 8 m.gId) 1 [m.gC]=_ from e2,aa]
  have e3:=aJh N hN ([]++leB 8 m.gId++leB 1 m.gC) 4 (by decide) (by decide) m.gA2 k4.1 k4.2 (by simp[jB])
  rw[show bO N ([]++leB 8 m.gId++leB 1 m.gC) 4 [m.gA2]=_ from e3,aa]
  rw[show eU m.gR.toList 0 8=some m.gR.toList from aJL (m:=8) _,aa,rJ (by simp[jB]) (by simp),aa]
  have e4:=put3 N hN ([]++leB 8 m.gId++leB 1 m.gC++leB 4 m.gA2++m.gR.toList) 4 (by decide) (by decide) m.gT m.gTo m.gP ⟨k5.1,k5.2⟩ ⟨k6.1,k6.2⟩ k2 (by simp[jB])
  rw[show bO N ([]++leB 8 m.gId++leB 1 m.gC++leB 4 m.gA2++m.gR.toList) 4 [m.gT,m.gTo,m.gP]=_ from e4,aa]
  have e5:=aJh N hN ([]++leB 8 m.gId++leB 1 m.gC++leB 4 m.gA2++m.gR.toList++(leB 4 m.gT++(leB 4 m.gTo++leB 4 m.gP))) 2 (by decide) (by decide) m.gA3 k3.1 k3.2 (by simp[jB])
  rw[show bO N ([]++leB 8 m.gId++leB 1 m.gC++leB 4 m.gA2++m.gR.toList++(leB 4 m.gT++(leB 4 m.gTo++leB 4 m.gP))) 2 [m.gA3]=_ from e5,aa]
  congr 2;unfold aEF;simp[ap]
 ·rw[if_neg h,show(rG m != 0)=true by simpa using h,cond_true]
theorem aPD{α:Type}(l:List α)(hl:l.length < 9223372036854775807)(bad:α->Prop){F:Nat->Int->Option (Sum Unit Int)}
  (hstep:∀k i (h:i < l.length),∃c,(c=false->¬bad l[i])/\F (k+1) (i:Int)=cond c (some (Sum.inr (i:Int))) (F k (I64 ((i:Int)+1)))) (hend:∀k,F (k+1) (l.length:Int)=some (Sum.inl ())) :
  ∀(k i:Nat),i<=l.length->l.length - i < k->T (ae (ae (F k (i:Int)) λo=>oP o (λp1=>some (-1)) (λr=>some r)) λr1:Int=>some (decide (r1>=0))) (λr=>r=false->∀x∈l.drop i,¬bad x)
 | 0,i,_,h=>by omega
 | k+1,i,hi,hk=>by
  by_cases h:i < l.length
  ·obtain⟨c,h1,h2⟩:=hstep k i h;rw[h2]
   cases c with
   | true=>
    refine⟨true,?_,λe=>by cases e⟩
    show some (decide ((i:Int)>=0))=some true;rw[dt (by omega)]
   | false=>
    rw[cond_false,dC (by omega)]
    refine T.mono (aPD l hl bad hstep hend k (i+1) (by omega) (by omega)) λr hr e x hx=>?_;rw[cv h] at hx;rcases dy.1 hx with rfl | hx
    ·exact h1 rfl
    ·exact hr e x hx
  ·obtain rfl:i=l.length:=by omega
   rw[hend,eo]
   exact⟨false,rfl,λ_ x hx=>by cases hx⟩
theorem aHg{α:Type}(l:List α)(hl:l.length < 9223372036854775807)(bad:α->Prop){F:Nat->Int->Option (Sum Unit Int)}
  (hstep:∀k i (h:i < l.length),∃c,(c=false->¬bad l[i])/\F (k+1) (i:Int)=cond c (some (Sum.inr (i:Int))) (F k (I64 ((i:Int)+1)))) (hend:∀k,F (k+1) (l.length:Int)=some (Sum.inl ())) {N:Nat} (hN:l.length < N) :
  T (ae (ae (F N 0) λo=>oP o (λp1=>some (-1)) (λr=>some r)) λr1:Int=>some (decide (r1>=0))) (λr=>r=false->∀x∈l,¬bad x):=
 T.mono (aPD l hl bad hstep hend N 0 (by omega) (by omega)) λr hr e x hx=>hr e x (by simpa using hx)
theorem aNV{a b c m:Int}(h:¬tM (tM a b) c > m):a<=m/\b<=m/\c<=m:=by unfold tM at h;split at h <;> split at h <;> omega
theorem aMR{a b c m:Int}(h:¬lP (lP a b) c < m):m<=a/\m<=b/\m<=c:=by unfold lP at h;split at h <;> split at h <;> omega
theorem imax2{a b m:Int}(h:¬tM a b > m):a<=m/\b<=m:=by unfold tM at h;split at h <;> omega
theorem imin2{a b m:Int}(h:¬lP a b < m):m<=a/\m<=b:=by unfold lP at h;split at h <;> omega
def ptG(p:aB):Prop:=(-4096<=p.gX/\p.gX<=4096)/\(-4096<=p.gY/\p.gY<=4096)/\(-4096<=p.gZ/\p.gZ<=4096)
theorem aPA(N:Nat)(p:aB):T (nZ N p) (λc=>c=false->ptG p):=by
 unfold nZ;refine T.bind (P:=λc=>c=false->ptG p) ?_ λc hc=>T.ret hc;refine T.letO λx hx=>T.cond (λ_=>T.ret λh=>by cases h) λh1=>T.letO λy hy=>T.ret λh2=>?_;subst hx hy;have h1:=aNV (of_decide_eq_false h1)
 have h2:=aMR (of_decide_eq_false h2)
 exact⟨⟨h2.1,h1.1⟩,⟨h2.2.1,h1.2.1⟩,h2.2.2,h1.2.2⟩
theorem aMK(N:Nat)(p:aB):T (mU N p) (λc=>c=false->ptG p):=aPA N p
def uvG(v:Vector Int 2):Prop:=(0<=v[0]/\v[0] < 65536)/\(0<=v[1]/\v[1] < 65536)
theorem aMw(v:Vector Int 2):idx v.toList 0=some v[0]:=by have:=lN v.toList 0;rw[tT v 0 (by decide)] at this;exact this
theorem aLq(v:Vector Int 2):idx v.toList 1=some v[1]:=by have:=lN v.toList 1;rw[tT v 1 (by decide)] at this;exact this
theorem aF9(v:Vector Int 3):idx v.toList 0=some v[0]:=by have:=lN v.toList 0;rw[tT v 0 (by decide)] at this;exact this
theorem aFr(v:Vector Int 3):idx v.toList 1=some v[1]:=by have:=lN v.toList 1;rw[tT v 1 (by decide)] at this;exact this
theorem aF0(v:Vector Int 3):idx v.toList 2=some v[2]:=by have:=lN v.toList 2;rw[tT v 2 (by decide)] at this;exact this
theorem pairT(N:Nat)(v:Vector Int 2):T (oJ N v) (λc=>c=false->uvG v):=by
 unfold oJ;refine T.bind (P:=λc=>c=false->uvG v) ?_ λc hc=>T.ret hc;rw[aMw,aLq,aa,aa]
 refine T.letO λx hx=>T.cond (λ_=>T.ret λh=>by cases h) λh1=>?_;rw[aa,aa]
 refine T.letO λy hy=>T.ret λh2=>?_;subst hx hy;have h1:=imin2 (of_decide_eq_false h1)
 have h2:=imax2 (of_decide_eq_false h2)
 exact⟨⟨h1.1,by omega⟩,h1.2,by omega⟩
def trG(n:Int)(v:Vector Int 3):Prop:=(0<=v[0]/\v[0] < n)/\(0<=v[1]/\v[1] < n)/\(0<=v[2]/\v[2] < n)
theorem triT(N:Nat)(v:Vector Int 3)(m:aM):T (kI N v m) (λc=>c=false->trG (m.gF.length:Int) v):=by
 unfold kI;refine T.bind (P:=λc=>c=false->trG (m.gF.length:Int) v) ?_ λc hc=>T.ret hc;simp only[aF9,aFr,aF0,aa]
 refine T.letO λx hx=>T.cond (λ_=>T.ret λh=>by cases h) λh1=>T.letO λn hn=>T.letO λy hy=>T.cond (λ_=>T.ret λh=>by cases h) λh2=>?_;subst hx hy hn;have h1:=aMR (of_decide_eq_false h1)
 have h2:¬tM (tM v[0] v[1]) v[2] > (m.gF.length:Int) - 1:=by have:=of_decide_eq_false h2;omega
 have h2:=aNV h2;have g:trG (m.gF.length:Int) v:=⟨⟨h1.1,by omega⟩,⟨h1.2.1,by omega⟩,h1.2.2,by omega⟩
 exact T.cond (λ_=>T.ret λ_=>g) λ_=>T.cond (λ_=>T.ret λ_=>g) λ_=>T.ret λ_=>g
structure aGP(m:aM):Prop where
 nv:m.gF.length<=64
 nt:m.gI.length<=64
 nu:m.gJ.length=m.gF.length
 v:∀p∈m.gF,ptG p
 u:∀p∈m.gJ,uvG p
 t:∀p∈m.gI,trG 256 p
theorem meshT(N:Nat)(hN:1000 < N)(m:aM)(hv:m.gF.length<=500)(hu:m.gJ.length<=500)(ht:m.gI.length<=500):T (jT N m) (λc=>c=0->aGP m):=by
 unfold jT;refine T.letO λx1 e1=>T.letO λx2 e2=>T.letO λx3 e3=>?_;subst e1 e2 e3;refine T.cond (λ_=>T.ret λh=>by cases h) λh1=>?_;refine T.letO λx1 e1=>T.letO λx2 e2=>T.letO λx3 e3=>T.letO λx4 e4=>T.letO λx5 e5=>?_;subst e1 e2 e3 e4 e5;refine T.cond (λ_=>T.ret λh=>by cases h) λh2=>?_;have a1:m.gF.length<=64/\m.gI.length<=64:=by
  cases ha:decide ((m.gF.length:Int) > 64) with
  | true=>rw[ha] at h1;cases h1
  | false=>rw[ha,cond_false] at h1;have:=of_decide_eq_false ha;have:=of_decide_eq_false h1;omega
 have a2:m.gJ.length=m.gF.length:=by
  revert h2;cases cond ((m.gF.length:Int)==0) true ((m.gI.length:Int)==0) with
  | true=>intro h;cases h
  | false=>
   intro h;rw[cond_false] at h;have:(m.gJ.length:Int)=(m.gF.length:Int):=by simpa using h
   omega
 refine T.bind (P:=λr=>r=false->∀p∈m.gF,¬ ¬ptG p) ?_ λr9 h9=>T.cond (λ_=>T.ret λh=>by cases h) λc9=>?_
 ·unfold bM bQ;refine aHg m.gF (by omega) (λp=>¬ptG p) (F:=aP N m.gF) (λk i h=>?_) (λk=>by rw[aP,aC,df (by omega),cond_false]) (by omega)
  obtain⟨c,e,hc⟩:=aPA N m.gF[i]
  exact⟨c,λh=>Classical.not_not.2 (hc h),by rw[aP,aC,dt (by omega),cond_true,dI h,aa,e,aa]⟩
 refine T.bind (P:=λr=>r=false->(∀p∈m.gJ,uvG p)/\∀p∈m.gI,trG (m.gF.length:Int) p) ?_ λr10 h10=>T.cond (λ_=>T.ret λh=>by cases h) λc10=>T.ret λ_=>?_
 ·refine T.bind (P:=λr=>r=false->∀p∈m.gJ,¬ ¬uvG p) ?_ λr11 h11=>T.cond (λ_=>T.ret λh=>by cases h) λc11=>?_
  ·unfold bZ cK;refine aHg m.gJ (by omega) (λp=>¬uvG p) (F:=aZ N m.gJ) (λk i h=>?_) (λk=>by rw[aZ,aC,df (by omega),cond_false]) (by omega)
   obtain⟨c,e,hc⟩:=pairT N m.gJ[i]
   exact⟨c,λh=>Classical.not_not.2 (hc h),by rw[aZ,aC,dt (by omega),cond_true,dI h,aa,e,aa]⟩
  ·refine T.bind (P:=λr=>r=false->∀p∈m.gI,¬ ¬trG (m.gF.length:Int) p) ?_ λr12 h12=>T.ret λc12=>⟨λp hp=>Classical.not_not.1 (h11 c11 p hp),λp hp=>Classical.not_not.1 (h12 c12 p hp)⟩
   unfold bY cJ;refine aHg m.gI (by omega) (λp=>¬trG (m.gF.length:Int) p) (F:=bA N m.gI m) (λk i h=>?_) (λk=>by rw[bA,aC,df (by omega),cond_false]) (by omega)
   obtain⟨c,e,hc⟩:=triT N m.gI[i] m;exact⟨c,λh=>Classical.not_not.2 (hc h),by rw[bA,aC,dt (by omega),cond_true,dI h,aa,e,aa]⟩
 obtain⟨g1,g2⟩:=h10 c10;exact⟨a1.1,a1.2,a2,λp hp=>Classical.not_not.1 (h9 c9 p hp),g1,λp hp=>by obtain⟨q1,q2,q3⟩:=g2 p hp;exact⟨⟨q1.1,by omega⟩,⟨q2.1,by omega⟩,q3.1,by omega⟩⟩
structure aLC(t:aI):Prop where
 side:1<=t.gN/\t.gN<=16
 n:(t.gK.length:Int)=t.gN*t.gN
 t:∀p∈t.gK,trG 256 p
theorem aK7(N:Nat)(hN:1000 < N)(l:List Int)(hl:l.length<=500)(x:Int):T (eY N l x) (λr=>r=true->x∈l):=by
 unfold eY kS;have key:∀(k i:Nat),i<=l.length->l.length - i < k->T (cT N l x k (i:Int)) (λo=>(o=Sum.inl ())\/(∃j,o=Sum.inr j/\x∈l)):=by
  intro k
  induction k with
  | zero=>intro i _ h;omega
  | succ k ih=>
   intro i hi hk;rw[cT,aC]
   by_cases h:i < l.length
   ·rw[dt (by omega),cond_true,dI h,aa,dC (by omega)]
    refine T.cond (λhc=>T.ret (.inr ⟨_,rfl,?_⟩)) λ_=>ih (i+1) (by omega) (by omega)
    have:x=l[i]:=by simpa using hc
    rw[this]
    exact ci h
   ·rw[df (by omega),cond_false]
    exact T.ret (.inl rfl)
 refine T.bind (P:=λr:Int=>0<=r->x∈l) ?_ λr hr=>T.ret λh=>hr (by have:=of_decide_eq_true h;omega)
 refine T.bind (key N 0 (by omega) (by omega)) λo ho=>?_;rcases ho with rfl | ⟨j,rfl,hm⟩
 ·exact T.ret λh=>by omega
 ·exact T.ret λ_=>hm
theorem texT(N:Nat)(hN:1000 < N)(t:aI)(ht:t.gK.length<=500):T (eE N t) (λc=>c=0->aLC t):=by
 unfold eE;refine T.bind (aK7 N hN [1,2,4,8,16] (by decide) t.gN) λr1 h1=>?_;refine T.letO λx2 e2=>T.letO λx3 e3=>T.letO λx4 e4=>?_;subst e2 e3 e4;refine T.cond (λ_=>T.ret λh=>by cases h) λh2=>?_;have hr:r1=true:=by cases r1 with | true=>rfl | false=>cases h2
 subst hr;have hm:=h1 rfl;have hs:1<=t.gN/\t.gN<=16:=by
  simp only[dy,fc,or_false] at hm;omega
 have hn:(t.gK.length:Int)=t.gN*t.gN:=by
  rw[ff,cond_false] at h2;have h3:(t.gK.length:Int)=I64 (t.gN*t.gN):=by simpa using h2
  have:t.gN*t.gN<=16*16:=jp hs.2 hs.2 (by omega) (by decide)
  have:0<=t.gN*t.gN:=Int.mul_nonneg (by omega) (by omega)
  rw[h3,aW (by omega) (by omega)]
 refine T.letO λx5 e5=>?_;subst e5;have key:∀(k i:Nat),i<=t.gK.length->t.gK.length - i < k->T (hU N (t.gK.length:Int) t k (i:Int)) (λo=>o=Sum.inr 5\/(o=Sum.inl ()/\∀p∈t.gK.drop i,trG 256 p)):=by
  intro k
  induction k with
  | zero=>intro i _ h;omega
  | succ k ih=>
   intro i hi hk;rw[hU]
   by_cases h:i < t.gK.length
   ·rw[dt (by omega),cond_true,dI h,aa,dC (by omega)]
    have g0:(t.gK[i].toList[((0:Int).toNat)]?)=some t.gK[i][0]:=tT _ 0 (by decide)
    have g1:(t.gK[i].toList[((1:Int).toNat)]?)=some t.gK[i][1]:=tT _ 1 (by decide)
    have g2:(t.gK[i].toList[((2:Int).toNat)]?)=some t.gK[i][2]:=tT _ 2 (by decide)
    have i0:aQ 0 3=some ():=rfl;have i1:aQ 1 3=some ():=rfl;have i2:aQ 2 3=some ():=rfl;simp only[i0,i1,i2,g0,g1,g2,aa]
    refine T.bind (P:=λc=>c=false->trG 256 t.gK[i]) ?_ λc hc=>T.cond (λ_=>T.ret (.inl rfl)) λh0=>?_
    ·refine T.letO λx hx=>T.cond (λ_=>T.ret λh=>by cases h) λh1=>T.letO λy hy=>T.ret λh2=>?_;subst hx hy;have h1:=aMR (of_decide_eq_false h1)
     have h2:=aNV (of_decide_eq_false h2)
     exact⟨⟨h1.1,by omega⟩,⟨h1.2.1,by omega⟩,h1.2.2,by omega⟩
    ·refine T.mono (ih (i+1) (by omega) (by omega)) λo ho=>?_;rcases ho with ho | ⟨ho,hp⟩
     ·exact .inl ho
     ·refine .inr ⟨ho,λp hp'=>?_⟩
      rw[cv h] at hp';rcases dy.1 hp' with rfl | hp'
      ·exact hc h0
      ·exact hp p hp'
   ·obtain rfl:i=t.gK.length:=by omega
    rw[df (by omega),cond_false]
    exact T.ret (.inr ⟨rfl,λp hp=>by rw[eo] at hp;cases hp⟩)
 refine T.bind (key N 0 (by omega) (by omega)) λo ho=>?_;rcases ho with rfl | ⟨rfl,hp⟩
 ·exact T.ret λh=>by cases h
 ·exact T.ret λ_=>⟨hs,hn,λp h=>hp p (by simpa using h)⟩
theorem outT(N:Nat)(hN:1000 < N)(most:Int)(l:List Int)(hl:l.length<=500):T (iD N most l) (λr=>r=false->∀x∈l,0<=x/\x<=most):=by
 unfold iD;refine T.bind (P:=λr=>r=false->∀x∈l,¬ ¬(0<=x/\x<=most)) ?_ λr hr=>T.ret λh x hx=>Classical.not_not.1 (hr h x hx)
 unfold cD cV;refine aHg l (by omega) (λx=>¬(0<=x/\x<=most)) (F:=bD N l most) (λk i h=>?_) (λk=>by rw[bD,aC,df (by omega),cond_false]) (by omega)
 refine⟨cond (decide (l[i] < 0)) true (decide (l[i] > most)),λhc=>?_,?_⟩
 ·have:¬l[i] < 0/\¬l[i] > most:=by
   cases ha:decide (l[i] < 0) with
   | true=>rw[ha] at hc;cases hc
   | false=>rw[ha,cond_false] at hc;exact⟨of_decide_eq_false ha,of_decide_eq_false hc⟩
  exact Classical.not_not.2 ⟨by omega,by omega⟩
 ·rw[bD,aC,dt (by omega),cond_true,dI h,aa]
  rfl
structure MatG(m:aF):Prop where
 kind:0<=m.gC/\m.gC < 256
 color:trG 65536 m.gE
 rough:0<=m.gA1/\m.gA1 < 65536
theorem matT(N:Nat)(hN:1000 < N)(m:aF):T (lZ N m) (λc=>c=0->MatG m):=by
 unfold lZ;refine T.bind (P:=λc=>c=false->MatG m) ?_ λc hc=>T.cond (λ_=>T.ret λh=>by cases h) λh=>T.ret λ_=>hc h;refine T.bind (outT N hN 4 [m.gC] (by simp)) λr2 h2=>T.cond (λ_=>T.ret λh=>by cases h) λc2=>?_;rw[aF9,aFr,aF0,aa,aa,aa]
 refine T.bind (outT N hN 65535 [m.gE[0],m.gE[1],m.gE[2],m.gA1] (by simp)) λr6 h6=>T.ret λc6=>?_;have a:=h2 c2 m.gC (by simp)
 have b0:=h6 c6 m.gE[0] (by simp)
 have b1:=h6 c6 m.gE[1] (by simp)
 have b2:=h6 c6 m.gE[2] (by simp)
 have b3:=h6 c6 m.gA1 (by simp)
 exact⟨⟨a.1,by omega⟩,⟨⟨b0.1,by omega⟩,⟨b1.1,by omega⟩,b2.1,by omega⟩,b3.1,by omega⟩
structure aLp(l:aJ):Prop where
 kind:0<=l.gC/\l.gC < 256
 color:trG 4294967296 l.gE
 at_:ptG l.gAt
 u:ptG l.gU
 v:ptG l.gV
theorem ligT(N:Nat)(hN:1000 < N)(l:aJ):T (pG N l) (λc=>c=0->aLp l):=by
 unfold pG;refine T.bind (P:=λc=>c=false->(0<=l.gC/\l.gC < 256)/\trG 4294967296 l.gE) ?_ λc hc=>T.cond (λ_=>T.ret λh=>by cases h) λh=>?_
 ·refine T.bind (outT N hN 2 [l.gC] (by simp)) λr2 h2=>T.cond (λ_=>T.ret λh=>by cases h) λc2=>?_;rw[show eU l.gE.toList 0 3=some l.gE.toList from aJL (m:=3) _,aa]
  refine T.bind (outT N hN 1048576 l.gE.toList (by simp)) λr4 h4=>T.ret λc4=>?_;have a:=h2 c2 l.gC (by simp)
  have b0:=h4 c4 l.gE[0] (aNW _ (by decide))
  have b1:=h4 c4 l.gE[1] (aNW _ (by decide))
  have b2:=h4 c4 l.gE[2] (aNW _ (by decide))
  exact⟨⟨a.1,by omega⟩,⟨b0.1,by omega⟩,⟨b1.1,by omega⟩,b2.1,by omega⟩
 obtain⟨hk,hcol⟩:=hc h;refine T.bind (P:=λc=>c=false->ptG l.gAt/\ptG l.gU/\ptG l.gV) ?_ λc hc=>T.cond (λ_=>T.ret λh=>by cases h) λh=>?_
 ·exact T.bind (aMK N l.gAt) λr6 h6=>T.cond (λ_=>T.ret λh=>by cases h) λc6=>T.bind (aMK N l.gU) λr7 h7=>T.cond (λ_=>T.ret λh=>by cases h) λc7=>T.bind (aMK N l.gV) λr8 h8=>T.ret λc8=>⟨h6 c6,h7 c7,h8 c8⟩
 obtain⟨p1,p2,p3⟩:=hc h;have g:aLp l:=⟨hk,hcol,p1,p2,p3⟩
 refine T.bind (P:=λ_=>True) ?_ λo _=>?_
 ·refine T.cond (λ_=>T.cond (λ_=>T.ret trivial) λ_=>T.bind (P:=λ_=>True) ?_ λ_ _=>T.cond (λ_=>T.ret trivial) λ_=>T.ret trivial) λ_=>T.cond (λ_=>T.bind (P:=λ_=>True) ?_ λ_ _=>T.cond (λ_=>T.ret trivial) λ_=>T.ret trivial) λ_=>T.ret trivial
  ·exact T.letO λ_ _=>T.cond (λ_=>T.ret trivial) λ_=>T.ret trivial
  ·exact T.letO λ_ _=>T.cond (λ_=>T.ret trivial) λ_=>T.ret trivial
 ·cases o with
  | inl _=>exact T.ret λ_=>g
  | inr c=>exact T.ret λ_=>g
theorem aPJ(a b:aB):aB.eq a b=true↔a=b:=by
 unfold aB.eq;simp only[an,beq_iff_eq,and_true]
 constructor
 ·rintro⟨h1,h2,h3⟩
  cases a;cases b;dsimp only at *;subst h1 h2 h3;rfl
 ·rintro rfl;exact⟨rfl,rfl,rfl⟩
theorem aJg(a b:aF):aF.eq a b=true↔a=b:=by
 unfold aF.eq;simp only[an,aER,beq_iff_eq,and_true]
 constructor
 ·rintro⟨h1,h2,h3⟩
  cases a;cases b;dsimp only at *;subst h1 h2 h3;rfl
 ·rintro rfl;exact⟨rfl,rfl,rfl⟩
theorem aJK(a b:aJ):aJ.eq a b=true↔a=b:=by
 unfold aJ.eq;simp only[an,aER,beq_iff_eq,and_true,aPJ]
 constructor
 ·rintro⟨h1,h2,h3,h4,h5⟩
  cases a;cases b;dsimp only at *;subst h1 h2 h3 h4 h5;rfl
 ·rintro rfl;exact⟨rfl,rfl,rfl,rfl,rfl⟩
theorem aIs{α:Type}(eq:α->α->Bool)(heq:∀x y,eq x y=true↔x=y)(a b:List α)(hl:a.length<=100000){F:Nat->Int->Option (Sum Unit Bool)}
  (hstep:∀k i (h:i < a.length) (h':i < b.length),F (k+1) (i:Int)=cond (!eq a[i] b[i]) (some (Sum.inr false)) (F k (I64 ((i:Int)+1)))) (hend:∀k,F (k+1) (a.length:Int)=some (Sum.inl ())) {N:Nat} (hN:a.length < N) :
  T (aO ((a.length:Int) != (b.length:Int)) λx1=>cond x1 (some false) (ae (F N 0) λo=>oP o (λp2=>some true) (λr=>some r))) (λr=>r=true↔a=b):=by
 refine T.letO λx hx=>?_;subst hx;refine T.cond (λh=>T.ret ?_) λh=>?_
 ·have h:¬(a.length:Int)=(b.length:Int):=by simpa using h
  constructor
  ·intro e;cases e
  ·rintro rfl;exact absurd rfl h
 ·have h:(a.length:Int)=(b.length:Int):=by simpa using h
  have key:∀(k i:Nat),i<=a.length->a.length - i < k->T (ae (F k (i:Int)) λo=>oP o (λp2=>some true) (λr=>some r)) (λr=>r=true↔a.drop i=b.drop i):=by
   intro k
   induction k with
   | zero=>intro i _ h;omega
   | succ k ih=>
    intro i hi hk;by_cases h1:i < a.length
    ·rw[hstep k i h1 (by omega),cv h1,cv (show i < b.length by omega)]
     cases he:eq a[i] b[i] with
     | false=>
      refine⟨false,rfl,?_⟩
      constructor
      ·intro e;cases e
      ·intro e;have:=(List.cons.inj e).1;rw[(heq _ _).2 this] at he;cases he
     | true=>
      rw[ff,cond_false,dC (by omega)]
      refine T.mono (ih (i+1) (by omega) (by omega)) λr hr=>?_;rw[hr,(heq _ _).1 he]
      constructor
      ·intro e;rw[e]
      ·intro e;exact(List.cons.inj e).2
    ·obtain rfl:i=a.length:=by omega
     rw[hend,eo,List.drop_of_length_le (by omega)]
     exact⟨true,rfl,by simp⟩
  exact T.mono (key N 0 (by omega) (by omega)) λr hr=>by simpa using hr
theorem aPf(N:Nat)(a b:List aB)(hl:a.length<=100000)(hN:a.length < N):T (kG N a b) (λr=>r=true↔a=b):=by
 unfold kG;exact aIs aB.eq aPJ a b hl (F:=eJ N a b) (λk i h h'=>by rw[eJ,aC,dt (by omega),cond_true,dI h,aa,dI h',aa]) (λk=>by rw[eJ,aC,df (by omega),cond_false]) hN
theorem aPz(N:Nat)(a b:List (Vector Int 2))(hl:a.length<=100000)(hN:a.length < N):T (nC N a b) (λr=>r=true↔a=b):=by
 unfold nC;exact aIs (eqV (λa b=>a==b)) aER a b hl (F:=iE N a b) (λk i h h'=>by rw[iE,aC,dt (by omega),cond_true,dI h,aa,dI h',aa]) (λk=>by rw[iE,aC,df (by omega),cond_false]) hN
theorem aNB(N:Nat)(a b:List (Vector Int 3))(hl:a.length<=100000)(hN:a.length < N):T (lD N a b) (λr=>r=true↔a=b):=by
 unfold lD;exact aIs (eqV (λa b=>a==b)) aER a b hl (F:=iJ N a b) (λk i h h'=>by rw[iJ,aC,dt (by omega),cond_true,dI h,aa,dI h',aa]) (λk=>by rw[iJ,aC,df (by omega),cond_false]) hN
structure aD6(a:aE):Prop where
 v:a.gQ.gF.length<=500
 u:a.gQ.gJ.length<=500
 t:a.gQ.gI.length<=500
 x:a.gW.gK.length<=500
theorem aOp(N:Nat)(hN:1000 < N)(a b:aE)(h:aD6 a):T (qI N a b) (λr=>r=true↔a=b):=by
 unfold qI;refine T.bind (P:=λr=>r=false↔(a.gC=b.gC/\a.gG=b.gG/\a.gD=b.gD/\a.gW.gN=b.gW.gN)) ?_ λp1 h1=>T.cond (λc=>T.ret ?_) λc=>?_
 ·refine T.cond (λc=>T.ret ?_) λc=>?_
  ·have c:¬a.gC=b.gC:=by simpa using c
   constructor
   ·intro e;cases e
   ·intro e;exact absurd e.1 c
  ·have c:a.gC=b.gC:=by simpa using c
   refine T.letO λx2 e2=>T.cond (λc2=>T.ret ?_) λc2=>T.letO λx3 e3=>T.letO λx4 e4=>T.ret ?_
   ·subst e2;constructor
    ·intro e;cases e
    ·intro e;rw[(aJg _ _).2 e.2.1] at c2;cases c2
   ·subst e2 e3 e4;have hm:aF.eq a.gG b.gG=true:=by simpa using c2
    have hm:=(aJg _ _).1 hm;constructor
    ·intro e;cases hl:aJ.eq a.gD b.gD with
     | false=>rw[hl] at e;cases e
     | true=>
      rw[hl,ff,cond_false] at e;exact⟨c,hm,(aJK _ _).1 hl,by simpa using e⟩
    ·rintro⟨_,_,e1,e2⟩
     rw[(aJK _ _).2 e1,e2]
     simp
 ·constructor
  ·intro e;cases e
  ·rintro rfl;have:=h1.2 ⟨rfl,rfl,rfl,rfl⟩
   rw[this] at c;cases c
 ·obtain⟨g1,g2,g3,g4⟩:=h1.1 c;refine T.bind (P:=λr=>r=true↔(a.gQ.gF=b.gQ.gF/\a.gQ.gJ=b.gQ.gJ/\a.gQ.gI=b.gQ.gI/\a.gW.gK=b.gW.gK)) ?_ λr hr=>T.ret ?_
  ·refine T.bind (aPf N _ _ (by have:=h.v;omega) (by have:=h.v;omega)) λr6 h6=>T.cond (λc6=>?_) λc6=>T.ret ?_
   ·refine T.bind (aPz N _ _ (by have:=h.u;omega) (by have:=h.u;omega)) λr7 h7=>T.cond (λc7=>?_) λc7=>T.ret ?_
    ·refine T.bind (aNB N _ _ (by have:=h.t;omega) (by have:=h.t;omega)) λr8 h8=>T.cond (λc8=>?_) λc8=>T.ret ?_
     ·refine T.bind (aNB N _ _ (by have:=h.x;omega) (by have:=h.x;omega)) λr9 h9=>T.ret ?_;exact⟨λe=>⟨h6.1 c6,h7.1 c7,h8.1 c8,h9.1 e⟩,λe=>h9.2 e.2.2.2⟩
     ·exact⟨λe=>(by cases e),λe=>by rw[h8.2 e.2.2.1] at c8;cases c8⟩
    ·exact⟨λe=>(by cases e),λe=>by rw[h7.2 e.2.1] at c7;cases c7⟩
   ·exact⟨λe=>(by cases e),λe=>by rw[h6.2 e.1] at c6;cases c6⟩
  ·rw[hr]
   constructor
   ·rintro⟨q1,q2,q3,q4⟩
    obtain⟨k,⟨v,u,t⟩,⟨s,x⟩,m,l⟩:=a;obtain⟨k',⟨v',u',t'⟩,⟨s',x'⟩,m',l'⟩:=b;dsimp only at *;subst g1 g2 g3 g4 q1 q2 q3 q4;rfl
   ·rintro rfl;exact⟨rfl,rfl,rfl,rfl⟩
def ptB(p:aB):List Int:=leB 2 (p.gX % 65536)++(leB 2 (p.gY % 65536)++leB 2 (p.gZ % 65536))
def uvB(v:Vector Int 2):List Int:=leB 2 v[0]++leB 2 v[1]
def trB(w:Nat)(t:Vector Int 3):List Int:=leB w t[0]++(leB w t[1]++leB w t[2])
theorem yZ(p:aB):(ptB p).length=6:=by unfold ptB;simp[jB]
theorem aEK(p:Vector Int 2):(uvB p).length=4:=by unfold uvB;simp[jB]
theorem aB8(w:Nat)(p:Vector Int 3):(trB w p).length=3*w:=by unfold trB;simp[jB];omega
theorem aAU{α:Type}{f:α->List Int}{c:Nat}(h:∀x,(f x).length=c):∀(l:List α),(l.flatMap f).length=l.length*c
 | []=>by simp
 | a :: l=>by rw[cw,aj,h,aAU h l,da,Nat.add_mul];omega
theorem zJ{x:Int}(h:0<=x/\x < 256):leB 1 x=[x]:=by
 unfold leB;show [U8 (shr .u64 x ((8*0:Nat):Int))]=_;rw[aJi x 0 (by decide),show cI 0=1 from rfl,Int.ediv_one,qZ h.1 h.2]
def aH3(m:aM):List Int:=leB 1 (m.gF.length:Int)++(leB 1 (m.gI.length:Int)++(m.gF.flatMap ptB++(m.gJ.flatMap uvB++m.gI.flatMap (trB 1))))
def aM2(t:aI):List Int:=leB 1 t.gN++t.gK.flatMap (trB 1)
def matB(m:aF):List Int:=leB 1 m.gC++(trB 2 m.gE++leB 2 m.gA1)
def ligB(l:aJ):List Int:=leB 1 l.gC++(trB 4 l.gE++(ptB l.gAt++(ptB l.gU++ptB l.gV)))
theorem sgn3(N:Nat)(hN:20 < N)(b:List Int)(p:aB)(h:ptG p)(hb:b.length<=1000000):kW N b 2 [p.gX,p.gY,p.gZ]=some (b++ptB p,0):=by
 obtain⟨hx,hy,hz⟩:=h;have:=sgnP N b 2 (by decide) (by decide) [p.gX,p.gY,p.gZ] (by intro q hq;simp at hq;unfold aA4;rcases hq with rfl | rfl | rfl <;> omega) (by omega) (by simp) (by omega) (by simp;omega)
 rw[show kW N b 2 [p.gX,p.gY,p.gZ]=_ from this]
 unfold aMZ;have e:([p.gX,p.gY,p.gZ].any (aCO 2))=false:=by
  simp[aCO,show cI 2 / 2=32768 from rfl]
  omega
 rw[e,cond_false]
 unfold aGr;have e2:(([p.gX,p.gY,p.gZ].map (λx=>x % cI 2)).any (big 2))=false:=by
  simp[big,show cI 2=65536 from rfl]
  omega
 rw[e2,cond_false]
 unfold ptB;simp[show cI 2=65536 from rfl]
theorem meshE(N:Nat)(hN:1000 < N)(m:aM)(g:aGP m)(h0:jT N m=some 0):sN N m=some (aH3 m,0):=by
 unfold sN;have nv:=g.nv;have nt:=g.nt;have nu:=g.nu;rw[h0,aa,show((0:Int) != 0)=false from rfl,cond_false,aC,aC,aC,qZ (x:=(m.gF.length:Int)) (by omega) (by omega),qZ (x:=(m.gI.length:Int)) (by omega) (by omega)]
 have l1:=lY m.gF.length (by omega) (λi=>ptB (m.gF.getD i ⟨0,0,0⟩)) (λs i=>s.length<=100+6*i) (nP N (m.gF.length:Int) m) (by intro s i hi hs;simp[yZ];omega) (λk s i hi hs=>by
  have hp:=g.v _ (ci hi)
  rw[nP,dt (by omega),cond_true,dI hi,aa,sgn3 N (by omega) s _ hp (by omega),aa]
  rw[ar,ag hi]
  rfl) (λk s=>by rw[nP,df (by omega),cond_false]) (N:=N) (by omega) (s:=[(m.gF.length:Int),(m.gI.length:Int)]) (by simp)
 rw[l1,aa]
 have hflat:∀{α:Type} (l:List α) (d:α) (f:α->List Int),(bz l.length).flatMap (λi=>f (l.getD i d))=l.flatMap f:=by
  intro α l d f
  induction l with
  | nil=>rfl
  | cons a l ih=>
   rw[da,j4,cw,ke]
   simp only[jk,jl,cw]
   rw[ih]
 rw[hflat m.gF ⟨0,0,0⟩ ptB]
 have hlen1:=aAU yZ m.gF;have l2:=lY m.gJ.length (by omega) (λi=>uvB (m.gJ.getD i #v[0,0])) (λs i=>s.length<=1000+4*i) (nQ N m) (by intro s i hi hs;simp[aEK];omega) (λk s i hi hs=>by
  have hp:=g.u _ (ci hi)
  rw[nQ,aC,dt (by omega),cond_true,dI hi,aa,show aQ 0 2=some () from rfl,aa,show m.gJ[i].toList[((0:Int).toNat)]? = some m.gJ[i][0] from tT _ 0 (by decide),aa,show aQ 1 2=some () from rfl,aa,show m.gJ[i].toList[((1:Int).toNat)]? = some m.gJ[i][1] from tT _ 1 (by decide),aa,fF hp.1.1 (by have:=hp.1.2;omega),fF hp.2.1 (by have:=hp.2.2;omega)]
  have e:=put2 N (by omega) s 2 (by decide) (by decide) m.gJ[i][0] m.gJ[i][1] ⟨hp.1.1,hp.1.2⟩ ⟨hp.2.1,hp.2.2⟩ (by omega)
  rw[show bO N s 2 [m.gJ[i][0],m.gJ[i][1]]=_ from e,aa,ar,ag hi]
  rfl) (λk s=>by rw[nQ,aC,df (by omega),cond_false]) (N:=N) (by omega) (s:=[(m.gF.length:Int),(m.gI.length:Int)]++m.gF.flatMap ptB) (by simp at hlen1 ⊢;omega)
 rw[l2,aa,hflat m.gJ #v[0,0] uvB,aC]
 have hlen2:=aAU aEK m.gJ;have l3:=lY m.gI.length (by omega) (λi=>trB 1 (m.gI.getD i #v[0,0,0])) (λs i=>s.length<=2000+3*i) (kC N (m.gI.length:Int) m) (by intro s i hi hs;simp[aB8];omega) (λk s i hi hs=>by
  have hp:=g.t _ (ci hi)
  obtain⟨q0,q1,q2⟩:=hp;rw[kC,dt (by omega),cond_true,dI hi,aa,show aQ 0 3=some () from rfl,aa,show m.gI[i].toList[((0:Int).toNat)]? = some m.gI[i][0] from tT _ 0 (by decide),aa,show aQ 1 3=some () from rfl,aa,show m.gI[i].toList[((1:Int).toNat)]? = some m.gI[i][1] from tT _ 1 (by decide),aa,show aQ 2 3=some () from rfl,aa,show m.gI[i].toList[((2:Int).toNat)]? = some m.gI[i][2] from tT _ 2 (by decide),aa,qZ q0.1 q0.2,qZ q1.1 q1.2,qZ q2.1 q2.2,rJ (by omega) (by simp),aa,ar,ag hi]
  show kC N _ m k (s++[m.gI[i][0],m.gI[i][1],m.gI[i][2]]) _=kC N _ m k (s++trB 1 m.gI[i]) _;unfold trB;rw[zJ q0,zJ q1,zJ q2]
  rfl) (λk s=>by rw[kC,df (by omega),cond_false]) (N:=N) (by omega) (s:=[(m.gF.length:Int),(m.gI.length:Int)]++m.gF.flatMap ptB++m.gJ.flatMap uvB) (by simp at hlen1 hlen2 ⊢;omega)
 rw[l3,aa,hflat m.gI #v[0,0,0] (trB 1)]
 unfold aH3;rw[zJ (x:=(m.gF.length:Int)) ⟨by omega,by omega⟩,zJ (x:=(m.gI.length:Int)) ⟨by omega,by omega⟩]
 simp[ap]
theorem hflat{α:Type}(l:List α)(d:α)(f:α->List Int):(bz l.length).flatMap (λi=>f (l.getD i d))=l.flatMap f:=by
 induction l with
 | nil=>rfl
 | cons a l ih=>
  rw[da,j4,cw,ke]
  simp only[jk,jl,cw]
  rw[ih]
theorem texE(N:Nat)(hN:1000 < N)(t:aI)(g:aLC t)(h0:eE N t=some 0):pT N t=some (aM2 t,0):=by
 unfold pT;have n1:=g.side;have n2:=g.n;have n3:t.gN*t.gN<=16*16:=jp n1.2 n1.2 (by omega) (by decide)
 rw[h0,aa,show((0:Int) != 0)=false from rfl,cond_false,aC,qZ (x:=t.gN) (by omega) (by omega)]
 have l3:=lY t.gK.length (by omega) (λi=>trB 1 (t.gK.getD i #v[0,0,0])) (λs i=>s.length<=2000+3*i) (fN N (t.gK.length:Int) t) (by intro s i hi hs;simp[aB8];omega) (λk s i hi hs=>by
  have hp:=g.t _ (ci hi)
  obtain⟨q0,q1,q2⟩:=hp;rw[fN,dt (by omega),cond_true,dI hi,aa,show aQ 0 3=some () from rfl,aa,show t.gK[i].toList[((0:Int).toNat)]? = some t.gK[i][0] from tT _ 0 (by decide),aa,show aQ 1 3=some () from rfl,aa,show t.gK[i].toList[((1:Int).toNat)]? = some t.gK[i][1] from tT _ 1 (by decide),aa,show aQ 2 3=some () from rfl,aa,show t.gK[i].toList[((2:Int).toNat)]? = some t.gK[i][2] from tT _ 2 (by decide),aa,qZ q0.1 q0.2,qZ q1.1 q1.2,qZ q2.1 q2.2,rJ (by omega) (by simp),aa,ar,ag hi]
  show fN N _ t k (s++[t.gK[i][0],t.gK[i][1],t.gK[i][2]]) _=fN N _ t k (s++trB 1 t.gK[i]) _;unfold trB;rw[zJ q0,zJ q1,zJ q2]
  rfl) (λk s=>by rw[fN,df (by omega),cond_false]) (N:=N) (by omega) (s:=[t.gN]) (by simp)
 rw[l3,aa,hflat t.gK #v[0,0,0] (trB 1)]
 unfold aM2;rw[zJ (x:=t.gN) ⟨by omega,by omega⟩]
def aKw(a:aE):Prop:=(a.gC=1/\aGP a.gQ)\/(a.gC=2/\aLC a.gW)\/(a.gC=3/\MatG a.gG)\/(a.gC=4/\aLp a.gD)
def qW(a:aE):List Int:=if a.gC=1 then aH3 a.gQ else if a.gC=2 then aM2 a.gW else if a.gC=3 then matB a.gG else ligB a.gD
theorem ownT(N:Nat)(hN:1000 < N)(a:aE)(h:aD6 a):T (mN N a) (λc=>c=0->aKw a):=by
 unfold mN;refine T.cond (λc=>?_) λ_=>T.cond (λc=>?_) λ_=>T.cond (λc=>?_) λ_=>T.cond (λc=>?_) λ_=>T.ret λe=>by cases e
 ·exact T.bind (meshT N hN _ h.v h.u h.t) λr hr=>T.ret λe => .inl ⟨by simpa using c,hr e⟩
 ·exact T.bind (texT N hN _ h.x) λr hr=>T.ret λe => .inr (.inl ⟨by simpa using c,hr e⟩)
 ·exact T.bind (matT N hN _) λr hr=>T.ret λe => .inr (.inr (.inl ⟨by simpa using c,hr e⟩))
 ·exact T.bind (ligT N hN _) λr hr=>T.ret λe => .inr (.inr (.inr ⟨by simpa using c,hr e⟩))
theorem assE(N:Nat)(hN:1000 < N)(a:aE)(g:aKw a)(h0:mN N a=some 0):pQ N a=some (qW a):=by
 unfold pQ qW;unfold mN at h0;rcases g with ⟨k,g⟩ | ⟨k,g⟩ | ⟨k,g⟩ | ⟨k,g⟩
 ·rw[k] at h0 ⊢;rw[show((1:Int)==1)=true from rfl,cond_true] at h0 ⊢;have h1:jT N a.gQ=some 0:=by
   cases hc:jT N a.gQ with
   | none=>rw[hc] at h0;cases h0
   | some r=>rw[hc] at h0;exact h0
  rw[meshE N hN _ g h1,if_pos rfl]
  rfl
 ·rw[k] at h0 ⊢;rw[show((2:Int)==1)=false from rfl,show((2:Int)==2)=true from rfl,cond_false,cond_true] at h0 ⊢;have h1:eE N a.gW=some 0:=by
   cases hc:eE N a.gW with
   | none=>rw[hc] at h0;cases h0
   | some r=>rw[hc] at h0;exact h0
  rw[texE N hN _ g h1,if_neg (by decide),if_pos rfl]
  rfl
 ·rw[k,show((3:Int)==1)=false from rfl,show((3:Int)==2)=false from rfl,show((3:Int)==3)=true from rfl,cond_false,cond_false,cond_true,if_neg (by decide),if_neg (by decide),if_pos rfl]
  obtain⟨g1,⟨g2,g3,g4⟩,g5⟩:=g;rw[show aQ 0 3=some () from rfl,aa,show a.gG.gE.toList[((0:Int).toNat)]? = some a.gG.gE[0] from tT _ 0 (by decide),aa,show aQ 1 3=some () from rfl,aa,show a.gG.gE.toList[((1:Int).toNat)]? = some a.gG.gE[1] from tT _ 1 (by decide),aa,show aQ 2 3=some () from rfl,aa,show a.gG.gE.toList[((2:Int).toNat)]? = some a.gG.gE[2] from tT _ 2 (by decide),aa,qZ g1.1 g1.2]
  have l:=lY 4 (by decide) (λi=>leB 2 ([a.gG.gE[0],a.gG.gE[1],a.gG.gE[2],a.gG.gA1].getD i 0)) (λs i=>s.length<=100+2*i) (mR N a.gG.gE[0] a.gG.gE[1] a.gG.gE[2] a) (by intro s i hi hs;simp[jB];omega) (λk s i hi hs=>by
   rw[mR,dt (by omega),cond_true,aIH (by simp;omega),aa]
   have hx:0<=[a.gG.gE[0],a.gG.gE[1],a.gG.gE[2],a.gG.gA1].getD i 0/\[a.gG.gE[0],a.gG.gE[1],a.gG.gE[2],a.gG.gA1].getD i 0 < 65536:=by
    have:i=0\/i=1\/i=2\/i=3:=by omega
    rcases this with rfl | rfl | rfl | rfl
    ·exact g2
    ·exact g3
    ·exact g4
    ·exact g5
   rw[fF hx.1 (by omega)]
   have e:=aJh N (by omega) s 2 (by decide) (by decide) _ hx.1 hx.2 (by omega)
   rw[show bO N s 2 _=_ from e,aa]) (λk s=>by rw[mR,df (by omega),cond_false]) (N:=N) (by omega) (s:=[a.gG.gC]) (by simp)
  rw[l,aa]
  unfold matB trB;rw[zJ g1]
  rfl
 ·rw[k,show((4:Int)==1)=false from rfl,show((4:Int)==2)=false from rfl,show((4:Int)==3)=false from rfl,cond_false,cond_false,cond_false,if_neg (by decide),if_neg (by decide),if_neg (by decide)]
  obtain⟨g1,⟨g2,g3,g4⟩,g5,g6,g7⟩:=g;rw[show aQ 0 3=some () from rfl,aa,show a.gD.gE.toList[((0:Int).toNat)]? = some a.gD.gE[0] from tT _ 0 (by decide),aa,show aQ 1 3=some () from rfl,aa,show a.gD.gE.toList[((1:Int).toNat)]? = some a.gD.gE[1] from tT _ 1 (by decide),aa,show aQ 2 3=some () from rfl,aa,show a.gD.gE.toList[((2:Int).toNat)]? = some a.gD.gE[2] from tT _ 2 (by decide),aa,qZ g1.1 g1.2]
  rw[fF g2.1 (by omega),fF g3.1 (by omega),fF g4.1 (by omega)]
  have e:=put3 N (by omega) [a.gD.gC] 4 (by decide) (by decide) a.gD.gE[0] a.gD.gE[1] a.gD.gE[2] g2 g3 g4 (by simp)
  rw[show bO N [a.gD.gC] 4 [a.gD.gE[0],a.gD.gE[1],a.gD.gE[2]]=_ from e,aa]
  have l:=lY 3 (by decide) (λi=>ptB ([a.gD.gAt,a.gD.gU,a.gD.gV].getD i ⟨0,0,0⟩)) (λs i=>s.length<=100+6*i) (mO N a) (by intro s i hi hs;simp[yZ];omega) (λk s i hi hs=>by
   rw[mO,dt (by omega),cond_true,dI (by simp;omega),aa]
   have hx:ptG ([a.gD.gAt,a.gD.gU,a.gD.gV][i]'(by simp;omega)):=by
    have:i=0\/i=1\/i=2:=by omega
    rcases this with rfl | rfl | rfl
    ·exact g5
    ·exact g6
    ·exact g7
   rw[sgn3 N (by omega) s _ hx (by omega),aa]
   rw[ar,ag (by simp;omega)]
   rfl) (λk s=>by rw[mO,df (by omega),cond_false]) (N:=N) (by omega) (s:=[a.gD.gC]++(leB 4 a.gD.gE[0]++(leB 4 a.gD.gE[1]++leB 4 a.gD.gE[2]))) (by simp[jB])
  rw[l,aa]
  unfold ligB trB;rw[zJ g1]
  show some (_++(bz 3).flatMap _)=_;rw[show(bz 3).flatMap (λi=>ptB ([a.gD.gAt,a.gD.gU,a.gD.gV].getD i ⟨0,0,0⟩))=ptB a.gD.gAt++(ptB a.gD.gU++ptB a.gD.gV) by
   simp[List.range_succ,cw]]
  simp[ap]
def sP : aM:=aM.mk [] [] []
def xU : aI:=aI.mk 0 []
def yN : aF:=aF.mk 0 (#v[0,0,0]) 0
def zPt : aB:=aB.mk 0 0 0
def yD : aJ:=aJ.mk 0 (#v[0,0,0]) zPt zPt zPt
def zA(k:Int):aE:=aE.mk k sP xU yN yD
def qR(a:aE):Prop:=(a.gC=1->a=aE.mk 1 a.gQ xU yN yD)/\(a.gC=2->a=aE.mk 2 sP a.gW yN yD)/\(a.gC=3->a=aE.mk 3 sP xU a.gG yD)/\(a.gC=4->a=aE.mk 4 sP xU yN a.gD)
theorem aPC(N:Nat)(a:aE)(h:aD6 a):T (tR N a) (λb=>aD6 b/\(b=zA a.gC->qR a)/\(qR a->aKw a->b=zA a.gC)):=by
 obtain⟨k,⟨v,u,t⟩,⟨s,x⟩,⟨mk,mc,mr⟩,⟨lk,lc,⟨ax,ay,az⟩,⟨ux,uy,uz⟩,⟨vx,vy,vz⟩⟩⟩:=a;obtain⟨h1,h2,h3,h4⟩:=h;unfold tR;dsimp only at h1 h2 h3 h4 ⊢;have hk:k=1\/k=2\/k=3\/k=4\/(k≠1/\k≠2/\k≠3/\k≠4):=by omega
 rcases hk with rfl | rfl | rfl | rfl | ⟨n1,n2,n3,n4⟩
 ·rw[show((1:Int)==1)=true from rfl,cond_true,aa]
  refine T.ret ⟨⟨by simp,by simp,by simp,h4⟩,λe=>?_,λe _=>?_⟩
  ·simp only[zA,sP,xU,yN,yD,zPt,aE.mk.injEq,aI.mk.injEq,aF.mk.injEq,aJ.mk.injEq,aB.mk.injEq] at e;refine⟨λ_=>?_,λh=>(by cases h),λh=>(by cases h),λh=>by cases h⟩
   simp only[zA,sP,xU,yN,yD,zPt,aE.mk.injEq,aI.mk.injEq,aF.mk.injEq,aJ.mk.injEq,aB.mk.injEq]
   simp[e]
  ·have e:=e.1 rfl;simp only[zA,sP,xU,yN,yD,zPt,aE.mk.injEq,aI.mk.injEq,aF.mk.injEq,aJ.mk.injEq,aB.mk.injEq] at e ⊢;simp[e]
 ·rw[show((2:Int)==1)=false from rfl,show((2:Int)==2)=true from rfl,cond_false,cond_true,aa]
  refine T.ret ⟨⟨h1,h2,h3,by simp⟩,λe=>?_,λe _=>?_⟩
  ·simp only[zA,sP,xU,yN,yD,zPt,aE.mk.injEq,aM.mk.injEq,aI.mk.injEq,aF.mk.injEq,aJ.mk.injEq,aB.mk.injEq] at e;refine⟨λh=>(by cases h),λ_=>?_,λh=>(by cases h),λh=>by cases h⟩
   simp only[zA,sP,xU,yN,yD,zPt,aE.mk.injEq,aM.mk.injEq,aI.mk.injEq,aF.mk.injEq,aJ.mk.injEq,aB.mk.injEq]
   simp[e]
  ·have e:=e.2.1 rfl;simp only[zA,sP,xU,yN,yD,zPt,aE.mk.injEq,aM.mk.injEq,aI.mk.injEq,aF.mk.injEq,aJ.mk.injEq,aB.mk.injEq] at e ⊢;simp[e]
 ·rw[show((3:Int)==1)=false from rfl,show((3:Int)==2)=false from rfl,show((3:Int)==3)=true from rfl,cond_false,cond_false,cond_true,aa]
  refine T.ret ⟨⟨h1,h2,h3,h4⟩,λe=>?_,λe _=>?_⟩
  ·simp only[zA,sP,xU,yN,yD,zPt,aE.mk.injEq,aM.mk.injEq,aI.mk.injEq,aF.mk.injEq,aJ.mk.injEq,aB.mk.injEq] at e;refine⟨λh=>(by cases h),λh=>(by cases h),λ_=>?_,λh=>by cases h⟩
   simp only[zA,sP,xU,yN,yD,zPt,aE.mk.injEq,aM.mk.injEq,aI.mk.injEq,aF.mk.injEq,aJ.mk.injEq,aB.mk.injEq]
   simp[e]
  ·have e:=e.2.2.1 rfl;simp only[zA,sP,xU,yN,yD,zPt,aE.mk.injEq,aM.mk.injEq,aI.mk.injEq,aF.mk.injEq,aJ.mk.injEq,aB.mk.injEq] at e ⊢;simp[e]
 ·rw[show((4:Int)==1)=false from rfl,show((4:Int)==2)=false from rfl,show((4:Int)==3)=false from rfl,show((4:Int)==4)=true from rfl,cond_false,cond_false,cond_false,cond_true,aa]
  refine T.ret ⟨⟨h1,h2,h3,h4⟩,λe=>?_,λe _=>?_⟩
  ·simp only[zA,sP,xU,yN,yD,zPt,aE.mk.injEq,aM.mk.injEq,aI.mk.injEq,aF.mk.injEq,aJ.mk.injEq,aB.mk.injEq] at e;refine⟨λh=>(by cases h),λh=>(by cases h),λh=>(by cases h),λ_=>?_⟩
   simp only[zA,sP,xU,yN,yD,zPt,aE.mk.injEq,aM.mk.injEq,aI.mk.injEq,aF.mk.injEq,aJ.mk.injEq,aB.mk.injEq]
   simp[e]
  ·have e:=e.2.2.2 rfl;simp only[zA,sP,xU,yN,yD,zPt,aE.mk.injEq,aM.mk.injEq,aI.mk.injEq,aF.mk.injEq,aJ.mk.injEq,aB.mk.injEq] at e ⊢;simp[e]
 ·rw[show(k==1)=false by simpa using n1,show(k==2)=false by simpa using n2,show(k==3)=false by simpa using n3,show(k==4)=false by simpa using n4,cond_false,cond_false,cond_false,cond_false,aa]
  refine T.ret ⟨⟨h1,h2,h3,h4⟩,λ_=>⟨λh=>absurd h n1,λh=>absurd h n2,λh=>absurd h n3,λh=>absurd h n4⟩,λ_ g=>?_⟩
  rcases g with ⟨g,_⟩ | ⟨g,_⟩ | ⟨g,_⟩ | ⟨g,_⟩
  ·exact absurd g n1
  ·exact absurd g n2
  ·exact absurd g n3
  ·exact absurd g n4
structure aDW(N:Nat)(a:aE):Prop where
 own0:mN N a=some 0
 own:aKw a
 clean:qR a
 cap:((qW a).length:Int)<=vV a.gC
theorem aL6(N:Nat)(hN:1000 < N)(a:aE)(h:aD6 a):T (mD N a) (λc=>(c=0->aDW N a)/\(aDW N a->c=0)):=by
 unfold mD;obtain⟨r1,e1,h1⟩:=ownT N hN a h;rw[e1,aa]
 refine T.cond (λc=>T.ret ⟨λe=>?_,λg=>?_⟩) λc=>?_
 ·subst e;cases c
 ·have:=g.own0;rw[e1] at this;cases this;cases c
 ·have hr:r1=0:=by simpa using c
  subst hr;have hown:=h1 rfl;obtain⟨b,eb,hb1,hb2,hb3⟩:=aPC N a h;rw[eb,aa]
  obtain⟨r3,e3,h3⟩:=aOp N hN b (zA a.gC) hb1;rw[show qI N b (aE.mk a.gC (aM.mk [] [] []) (aI.mk 0 []) (aF.mk 0 (#v[0,0,0]) 0) (aJ.mk 0 (#v[0,0,0]) (aB.mk 0 0 0) (aB.mk 0 0 0) (aB.mk 0 0 0)))=some r3 from e3,aa]
  refine T.cond (λc3=>T.ret ⟨λe=>(by cases e),λg=>?_⟩) λc3=>?_
  ·have:=h3.2 (hb3 g.clean g.own)
   rw[this] at c3;cases c3
  ·have hr3:r3=true:=by simpa using c3
   have hclean:=hb2 (h3.1 hr3)
   rw[assE N hN a hown e1,aa,capP,aa]
   refine T.letO λx hx=>?_;subst hx;refine T.cond (λc4=>T.ret ⟨λe=>(by cases e),λg=>?_⟩) λc4=>T.ret ⟨λ_=>⟨e1,hown,hclean,?_⟩,λ_=>rfl⟩
   ·have:=g.cap;have:=of_decide_eq_true c4;omega
   ·have:=of_decide_eq_false c4;omega
theorem aJz(N:Nat)(hN:1000 < N)(a:aE)(h:aD6 a):T (nY N a) (λr=>(r.2=0/\aDW N a/\r.1=qW a)\/(r.2≠0/\r.1=[]/\¬aDW N a)):=by
 unfold nY;refine T.bind (aL6 N hN a h) λc hc=>T.cond (λe=>T.ret ?_) λe=>?_
 ·have e:c≠0:=by simpa using e
  exact .inr ⟨e,rfl,λg=>e (hc.2 g)⟩
 ·have e:c=0:=by simpa using e
  have g:=hc.1 e;rw[assE N hN a g.own g.own0,aa]
  exact T.ret (.inl ⟨rfl,g,rfl⟩)
def RdQ{α:Type}(f:α->List Int)(P:α->Prop)(c:Nat)(b:List Int)(e:Int)(b':List Int)(e':Int)(x:α):Prop:=
 aX b'/\b'.length<=b.length/\((e'=0/\e=0/\b=f x++b'/\P x)\/(e'≠0/\(e=0->b.length < c)))
def ptR(p:aB):Prop:=(-32768<=p.gX/\p.gX < 32768)/\(-32768<=p.gY/\p.gY < 32768)/\(-32768<=p.gZ/\p.gZ < 32768)
theorem ptG.r{p:aB}(h:ptG p):ptR p:=by obtain⟨h1,h2,h3⟩:=h;exact⟨⟨by omega,by omega⟩,⟨by omega,by omega⟩,by omega,by omega⟩
structure MeshR(m:aM):Prop where
 nv:m.gF.length < 256
 nt:m.gI.length < 256
 nu:m.gJ.length=m.gF.length
 v:∀p∈m.gF,ptR p
 u:∀p∈m.gJ,uvG p
 t:∀p∈m.gI,trG 256 p
theorem aGP.r{m:aM}(g:aGP m):MeshR m:=⟨by have:=g.nv;omega,by have:=g.nt;omega,g.nu,λp h=>(g.v p h).r,g.u,g.t⟩
structure TexR(t:aI):Prop where
 side:0<=t.gN/\t.gN < 256
 n:(t.gK.length:Int)=t.gN*t.gN
 t:∀p∈t.gK,trG 256 p
theorem aLC.r{t:aI}(g:aLC t):TexR t:=⟨⟨by have:=g.side;omega,by have:=g.side;omega⟩,g.n,g.t⟩
def LigR(l:aJ):Prop:=(0<=l.gC/\l.gC < 256)/\trG 4294967296 l.gE/\ptR l.gAt/\ptR l.gU/\ptR l.gV
theorem aLp.r{l:aJ}(g:aLp l):LigR l:=⟨g.kind,g.color,g.at_.r,g.u.r,g.v.r⟩
set_option maxHeartbeats 2000000
theorem RdQ.seq{α β:Type}{f:α->List Int}{P:α->Prop}{c:Nat}{g:β->List Int}{Q:β->Prop}{d:Nat}{b b1 b2:List Int}{e e1 e2:Int}{x:α}{y:β}(hf:∀x,(f x).length=c)(h:RdQ f P c b e b1 e1 x)(k:RdQ g Q d b1 e1 b2 e2 y):RdQ (λp:α×β=>f p.1++g p.2) (λp=>P p.1/\Q p.2) (c+d) b e b2 e2 (x,y):=by
 obtain⟨h1,h2,h3⟩:=h;obtain⟨k1,k2,k3⟩:=k;refine⟨k1,by omega,?_⟩
 rcases k3 with ⟨q1,q2,q3,q4⟩ | ⟨q1,q2⟩
 ·subst q2;rcases h3 with ⟨_,i2,i3,i4⟩ | ⟨i1,_⟩
  ·exact .inl ⟨q1,i2,by rw[i3,q3,ap],i4,q4⟩
  ·exact absurd rfl i1
 ·refine .inr ⟨q1,λhe=>?_⟩
  rcases h3 with ⟨i1,_,i3,_⟩ | ⟨_,i1⟩
  ·have hl:=congrArg kx i3;rw[aj,hf] at hl;have:=q2 i1;omega
  ·have:=i1 he;omega
set_option maxHeartbeats 1000000
def tX(base:Vector Int 8)(m:aD):List Int:=[85,77,66,49]++(base.toList++aEF m)
theorem sB(base:Vector Int 8)(m:aD):(tX base m).length=47:=by unfold tX;simp[aFd]
def vC(N:Nat)(key:Vector Int 32)(base:Vector Int 8)(m:aD):List Int:=zX N key (aGn N base 0) (tX base m) []
theorem yL(N:Nat)(hN:70000<=N)(key:Vector Int 32)(base:Vector Int 8)(m:aD):(vC N key base m).length=16:=by
 unfold vC;rw[aAs N hN key _ _ (by simp)];rfl
theorem aDw(N:Nat)(hN:70000<=N)(key:Vector Int 32)(base:Vector Int 8)(m:aD):aX (vC N key base m):=by
 unfold vC;exact aDo N hN key _ _ (by rw[sB];omega) (by simp)
def aC7(i n:Nat):List Int:=leB 2 (i:Int)++leB 2 (n:Int)
theorem rF(i n:Nat):(aC7 i n).length=4:=by unfold aC7;simp[jB]
theorem aFC(i n:Nat):aX (aC7 i n):=(rS _ _).app (rS _ _)
def aMq(N:Nat)(key:Vector Int 32)(base:Vector Int 8)(mark:List Int)(i:Nat)(p:List Int):List Int:=zX N key (aGn N base ((i+1:Nat):Int)) (aC7 i p.length++mark) p
def aDG(N:Nat)(key:Vector Int 32)(base:Vector Int 8)(mark:List Int)(i:Nat)(p:List Int):List Int:=aC7 i p.length++aMq N key base mark i p
theorem aEY(N:Nat)(hN:70000<=N)(key:Vector Int 32)(base:Vector Int 8)(mark:List Int)(i:Nat){p:List Int}(hp:p.length<=65536):(aDG N key base mark i p).length=p.length+20:=by
 unfold aDG aMq;rw[aj,rF,aAs N hN key _ _ hp];omega
def aBM(N:Nat)(key:Vector Int 32)(base:Vector Int 8)(mark:List Int):Nat->Nat->List Int->List Int
 | 0,_,_=>[]
 | c+1,i,l=>aDG N key base mark i (l.take 256)++aBM N key base mark c (i+1) (l.drop 256)
def nCh(n:Nat):Nat:=(n+255) / 256
theorem aND(n:Nat):qH (n:Int)=(nCh n:Int):=by unfold qH nCh;split <;> omega
theorem aQS(N:Nat)(hN:70000<=N)(key:Vector Int 32)(base:Vector Int 8)(s mark q:List Int)(i:Nat)(p:List Int)(hm:mark.length=16)(hi:i < 1000)(hp:p.length<=256)(hs:s.length<=100000) :
  pW N s key base mark q (i:Int) p=some (s++aDG N key base mark i p):=by
 unfold pW;have e:=put2 N (by omega) [] 2 (by decide) (by decide) (i:Int) (p.length:Int) ⟨by omega,by rw[show cI 2=65536 from rfl];omega⟩ ⟨by omega,by rw[show cI 2=65536 from rfl];omega⟩ (by simp)
 rw[fF (x:=(p.length:Int)) (by omega) (by omega),aC,fF (x:=(i:Int)) (by omega) (by omega),show bO N [] 2 [(i:Int),(p.length:Int)]=_ from e,aa,dC (by omega),aMv N (by omega),aa]
 dsimp only;rw[fg,show leB 2 (i:Int)++leB 2 (p.length:Int)=aC7 i p.length from rfl,aMX N [aC7 i p.length,mark] (by simp) (by show 2 < N;omega) (by intro l hl;simp only[dy,fc,or_false] at hl;rcases hl with rfl | rfl;rw[rF];omega;omega),aa]
 have e2:[aC7 i p.length,mark].flatten=aC7 i p.length++mark:=by simp
 rw[e2,aOi N hN key _ _ p (by rw[aj,rF];omega) (by omega),aa,rJ (by omega) (by rw[rF];omega),aa]
 dsimp only;rw[rJ (by rw[aj,rF];omega) (by rw[aAs N hN key _ _ (by omega)];omega),aa,ap]
 rfl
theorem aNT{α:Type}(l:List α):l.take (min l.length 256)=l.take 256:=by
 by_cases h:l.length<=256
 ·rw[Nat.min_eq_left h,ib,bf h]
 ·rw[Nat.min_eq_right (by omega)]
theorem aMU{α:Type}(l:List α):l.drop (min l.length 256)=l.drop 256:=by
 by_cases h:l.length<=256
 ·rw[Nat.min_eq_left h,eo,List.drop_eq_nil_of_le h]
 ·rw[Nat.min_eq_right (by omega)]
theorem aPG(N:Nat)(hN:70000<=N)(key:Vector Int 32)(base:Vector Int 8)(mark:List Int)(hm:mark.length=16):∀(k:Nat) (s l:List Int) (i:Nat),nCh l.length < k->i+nCh l.length<=100->s.length+300*nCh l.length<=100000 ->
  cE N key base mark k s l (i:Int)=some (s++aBM N key base mark (nCh l.length) i l,[])
 | 0,_,_,_,h,_,_=>by omega
 | k+1,s,l,i,hk,hi,hs=>by
  rw[cE,aC]
  by_cases h:l.length=0
  ·obtain rfl:=List.eq_nil_of_length_eq_zero h;rw[df (by simp),cond_false,show nCh ([]:List Int).length=0 from rfl,aBM,fb]
  ·have hn:nCh l.length=nCh (l.drop 256).length+1:=by unfold nCh;rw[bw];omega
   rw[dt (by omega),cond_true,show(256:Int)=((256:Nat):Int) from rfl,aCl,aC,aMo (by omega),aa,aNT,aQS N hN key base s mark l i _ hm (by omega) (by simp;omega) (by omega),aa,aLe (by omega),aa,aMU,dC (by omega)]
   rw[aPG N hN key base mark hm k _ (l.drop 256) (i+1) (by omega) (by omega) (by rw[aj,aEY N hN key base mark i (by simp;omega),bo];omega)]
   rw[hn,aBM,ap]
def aAl(N:Nat)(key:Vector Int 32)(base:Vector Int 8)(m:aD)(p:List Int):List Int:=
 tX base m++(vC N key base m++aBM N key base (vC N key base m) (nCh p.length) 0 p)
def tC(m:aD)(n:Nat):aD:=aD.mk m.gId m.gC m.gA2 m.gR m.gT m.gTo (n:Int) (nCh n:Int)
theorem aOe(k:Int):vV k<=2048:=by unfold vV;split;decide;split;decide;split;decide;split <;> decide
theorem aCo{m:aD}(t:aF7 m){n:Nat}(h:n<=2048):aF7 (tC m n):=
 ⟨t.id,t.kind,t.label,t.masks,t.fr,t.to,⟨by show _<=(n:Int);omega,by show(n:Int)<=_;omega⟩,⟨by show _<=(nCh n:Int);omega,by show(nCh n:Int)<=_;unfold nCh;omega⟩⟩
theorem aDW.len{N:Nat}{a:aE}(g:aDW N a):(qW a).length<=2048:=by have:=g.cap;have:=aOe a.gC;omega
theorem aPE(N:Nat)(hN:70000<=N)(key:Vector Int 32)(base:Vector Int 8)(m:aD)(a:aE)(t:aF7 m)(hA:aD6 a) :
  T (nL N key base m a) (λr=>(r.2=0/\aDW N a/\m.gC=a.gC/\rG (tC m (qW a).length)=0/\r.1=aAl N key base (tC m (qW a).length) (qW a))\/(r.2≠0/\r.1=[]/\¬(aDW N a/\m.gC=a.gC/\rG (tC m (qW a).length)=0))):=by
 unfold nL;obtain⟨r1,e1,h1⟩:=aJz N (by omega) a hA;rw[e1,aa]
 rcases h1 with ⟨c,g,h⟩ | ⟨c,_,h⟩
 rotate_left
 ·rw[show(r1.2 != 0)=true by simpa using c,cond_true]
  exact T.ret (.inr ⟨c,rfl,λq=>h q.1⟩)
 ·rw[c,show((0:Int) != 0)=false from rfl,cond_false,h]
  have hl:=g.len;by_cases hk:m.gC=a.gC
  rotate_left
  ·rw[show(m.gC != a.gC)=true by simpa using hk,cond_true]
   exact T.ret (.inr ⟨by decide,rfl,λq=>hk q.2.1⟩)
  rw[show(m.gC != a.gC)=false by simpa using hk,cond_false,aG8 N ⟨by omega,by omega⟩,aa,aND]
  have e3:=aOl N (by omega) (tC m (qW a).length) (aCo t hl)
  rw[show kV N (aD.mk m.gId m.gC m.gA2 m.gR m.gT m.gTo ((qW a).length:Int) (nCh (qW a).length:Int))=_ from e3,aa]
  by_cases hc:rG (tC m (qW a).length)=0
  rotate_left
  ·rw[if_neg hc]
   dsimp only;rw[show(rG (tC m (qW a).length) != 0)=true by simpa using hc,cond_true]
   exact T.ret (.inr ⟨hc,rfl,λq=>hc q.2.2⟩)
  rw[if_pos hc]
  dsimp only;rw[show((0:Int) != 0)=false from rfl,cond_false,show eU base.toList 0 8=some base.toList from aJL (m:=8) _,aa]
  rw[aMX N [[85,77,66,49],base.toList,aEF (tC m (qW a).length)] (by simp) (by show 3 < N;omega) (by intro l hl;simp only[dy,fc,or_false] at hl;rcases hl with rfl | rfl | rfl;simp;simp;rw[aFd];omega),aa]
  rw[show([[85,77,66,49],base.toList,aEF (tC m (qW a).length)]:List (List Int)).flatten=tX base (tC m (qW a).length) by unfold tX;simp,aMv N (by omega),aa]
  rw[aOi N hN key _ _ [] (by rw[sB];omega) (by simp),aa]
  dsimp only;rw[show zX N key (aGn N base 0) (tX base (tC m (qW a).length)) []=vC N key base (tC m (qW a).length) from rfl]
  have hm:=yL N hN key base (tC m (qW a).length)
  rw[rJ (by rw[sB];omega) (by omega),aa]
  rw[show sS N (qW a)=some () from rfl,aa]
  unfold eD;have hn:nCh (qW a).length<=8:=by unfold nCh;omega
  have e:=aPG N hN key base (vC N key base (tC m (qW a).length)) hm N (tX base (tC m (qW a).length)++vC N key base (tC m (qW a).length)) (qW a) 0 (by omega) (by omega) (by rw[aj,sB,hm];omega)
  rw[show((0:Nat):Int)=0 from rfl] at e;rw[e,aa,aa]
  refine T.ret (.inl ⟨rfl,g,hk,hc,?_⟩)
  unfold aAl;rw[ap]
theorem toB'{x:Int}(h:isB x):((UInt8.ofNat x.toNat).toNat:Int)=x:=by
 obtain⟨h0,h1⟩:=h;have e:(UInt8.ofNat x.toNat).toNat=x.toNat % 256:=UInt8.toNat_ofNat';rw[e];omega
theorem aIa : ∀{a b:List Int},aX a->aX b->(a.map λx=>UInt8.ofNat x.toNat)=(b.map λx=>UInt8.ofNat x.toNat)->a=b
 | [],[],_,_,_=>rfl
 | [],b :: l,_,_,h=>by simp at h
 | a :: l,[],_,_,h=>by simp at h
 | a :: l,b :: r,ha,hb,h=>by
  simp only[List.map_cons,List.cons.injEq] at h;have h1:=congrArg (λu:UInt8=>(u.toNat:Int)) h.1;rw[toB' (ha a (by simp)),toB' (hb b (by simp))] at h1;rw[h1,aIa (λx hx=>ha x (by simp[hx])) (λx hx=>hb x (by simp[hx])) h.2]
theorem aQD(N:Nat){a b:List Int}(ha:aX a)(hb:aX b):pF N a b=some (decide (a=b)):=by
 unfold pF;rw[aC]
 congr 1;rw[ByteArray.toList_eq,ByteArray.toList_eq,Bool.eq_iff_iff,beq_iff_eq,decide_eq_true_eq]
 unfold aHY;dsimp only;exact⟨aIa ha hb,λh=>by rw[h]⟩
theorem aDT{base:Vector Int 8}{m:aD}(hb:jP base)(r:aLZ m):aX (tX base m):=by
 unfold tX;refine aX.app ?_ (hb.app (aI3 r.masks))
 intro x hx;simp only[dy,fc,or_false] at hx;rcases hx with rfl | rfl | rfl | rfl <;> exact⟨by decide,by decide⟩
def aHH(N:Nat)(key:Vector Int 32)(base:Vector Int 8)(m:aD)(b:List Int):Prop:=
 jP base/\aLZ m/\rG m=0/\b=tX base m++(vC N key base m++b.drop 63)
theorem aHH.len{N:Nat}(hN:70000<=N){key:Vector Int 32}{base:Vector Int 8}{m:aD}{b:List Int}(h:aHH N key base m b):63<=b.length:=by
 have:=congrArg kx h.2.2.2;rw[aj,aj,sB,yL N hN] at this;omega
theorem aHH.of{N:Nat}(hN:70000<=N)(key:Vector Int 32){base:Vector Int 8}{m:aD}(hb:jP base)(r:aLZ m)(h0:rG m=0)(x:List Int):aHH N key base m (tX base m++(vC N key base m++x))/\(tX base m++(vC N key base m++x)).drop 63=x:=by
 have e:(tX base m++(vC N key base m++x)).drop 63=x:=by
  rw[<- ap,List.drop_left' (by rw[aj,sB,yL N hN])]
 exact⟨⟨hb,r,h0,by rw[e]⟩,e⟩
theorem fewP(N:Nat)(a:aE):T (pR N a) aD6:=by
 unfold pR rY;simp only[aC]
 rw[show(70:Int)=((70:Nat):Int) from rfl,show(260:Int)=((260:Nat):Int) from rfl,aCf,aa,aCf,aa,aCf,aa,aa,aCf,aa]
 exact T.ret ⟨by dsimp only;rw[bo];omega,by dsimp only;rw[bo];omega,by dsimp only;rw[bo];omega,by dsimp only;rw[bo];omega⟩
theorem aDa(N:Nat)(hN:70000<=N)(key:Vector Int 32)(base:Vector Int 8)(mark:List Int)(hm:mark.length=16):∀(c i:Nat) (l:List Int),aX (aBM N key base mark c i l)
 | 0,_,_=>aGc
 | c+1,i,l=>by
  rw[aBM]
  refine aX.app ?_ (aDa N hN key base mark hm c (i+1) _)
  unfold aDG aMq;exact(aFC _ _).app (aDo N hN key _ _ (by rw[aj,rF];omega) (by simp;omega))
theorem aFo{N:Nat}(hN:70000<=N)(key:Vector Int 32){base:Vector Int 8}(hb:jP base){m:aD}(r:aLZ m)(p:List Int):aX (aAl N key base m p):=by
 unfold aAl;exact(aDT hb r).app ((aDw N hN key base m).app (aDa N hN key base _ (yL N hN key base m) _ _ _))
end Go.UK
