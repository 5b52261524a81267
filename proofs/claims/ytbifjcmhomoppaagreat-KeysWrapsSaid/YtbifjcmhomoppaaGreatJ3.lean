/- A part of the proof: what the functions of the program compute. -/
import Derived.Test.YtbifjcmhomoppaaGreatJ2
open Bool renaming and_eq_true→aq,not_true→fc
open Int renaming mul_le_mul→ki,toNat_natCast→bx
open List renaming append_assoc→ap,append_nil→dq,drop_eq_getElem_cons→cp,drop_length→f8,flatMap_cons→cx,flatMap_map→lg,getD_cons_succ→kc,getD_cons_zero→ka,getD_eq_getElem?_getD→an,getElem?_eq_getElem→ah,getElem_mem→ck,length→mh,length_append→ai,length_cons→de,length_drop→ca,length_nil→me,length_take→bp,mem_cons→d8,nil_append→dm,not_mem_nil→d9,range→bo,range_succ_eq_map→jd,take→l6,take_length→ir,take_of_length_le→ar,take_succ→j5,take_zero→jq,zipWith→mz
open Option renaming bind→ae,bind_some→aa
open Vector renaming replicate→ag
namespace Go.UK
open Go Go.Proofs
set_option maxRecDepth 20000
set_option maxHeartbeats 1000000
set_option linter.all false
theorem T.vec{α:Type}{n:Nat}{l:List α}(h:n<=l.length):T (aGi n l) (λv=>v.toList=l.take n):=by
 unfold aGi;rw[dif_pos h]
 exact⟨_,rfl,by simp⟩
theorem T.app{α:Type}{b:Nat}{l r:List α}(h:(l.length+r.length)*b<=140737488355328):T (iB b l r) (λx=>x=l++r):=⟨_,eF h,rfl⟩
theorem aE3(a b:Nat):mY (a:Int) (b:Int)=((min a b:Nat):Int):=by unfold mY;split <;> omega
theorem aTt(N:Nat)(hN:20 < N)(v:Vector Int 16):T (qY N v) (λ_=>True):=by
 unfold qY;refine T.bind (T.loop0 (n:=4) (by decide) (λ_ _=>True) (F:=kT N) (λk s i hi _ Q hk=>?_) (λk s=>by rw[kT,df (by omega),cond_false]) (by omega) trivial) λv _=>T.ret trivial;rw[kT,dt (by omega),cond_true,show(4:Int)=((4:Nat):Int) from rfl,i4 (by omega)]
 have f3:I64 (((4*i:Nat):Int)+3)=((4*i+3:Nat):Int):=by rw[aR (by omega) (by omega)];omega
 rw[f3]
 refine T.bind (P:=λ_=>True) ?_ λ_ _=>by rw[cZ (by omega)];exact hk _ trivial
 refine T.letO λx hx=>?_;subst hx;refine T.bind (T.inRO (by omega) (by omega)) λ_ _=>T.bind (T.vget (by omega)) λ_ _=>T.bind (T.inRO (by omega) (by omega)) λ_ _=>T.bind (T.vget (by omega)) λ_ _=>?_;refine T.cond (λ_=>?_) (λ_=>T.ret trivial)
 exact T.bind (T.inRO (by omega) (by omega)) λ_ _=>T.bind (T.vget (by omega)) λ_ _=>T.bind (T.inRO (by omega) (by omega)) λ_ _=>T.bind (T.vget (by omega)) λ_ _=>T.ret trivial
theorem newT(N:Nat)(hN:20 < N)(key:Vector Int 32):T (vX N key) (λr=>isU r.1/\isU r.2.1/\isU r.2.2.1/\isU r.2.2.2):=by
 unfold vX;refine T.bind (T.slc (by decide) (by decide) (by simp)) λs1 h1=>T.bind (T.vec (by have:=h1.2;omega)) λv2 _=>T.bind (aTt N hN v2) λr3 _=>?_;refine T.bind (T.slc (by decide) (by decide) (by simp)) λs4 h4=>T.bind (aGM N hN s4 (by have:=h4.2;omega)) λr5 h5=>?_;refine T.bind (T.slc (by decide) (by decide) (by simp)) λs6 h6=>T.bind (aGM N hN s6 (by have:=h6.2;omega)) λr7 h7=>?_;refine T.bind (T.slc (by decide) (by decide) (by simp)) λs8 h8=>T.bind (aGM N hN s8 (by have:=h8.2;omega)) λr9 h9=>?_;refine T.bind (T.slc (by decide) (by decide) (by simp)) λs10 h10=>T.bind (aGM N hN s10 (by have:=h10.2;omega)) λr11 h11=>?_;exact T.ret ⟨h5,h7,h9,h11⟩
theorem cpV17(s:List Int):∃v,cpV (ag 17 (0:Int)) s 0 16=some v:=by
 unfold cpV;rw[dif_pos (by decide)]
 exact⟨_,rfl⟩
theorem aNe(N:Nat):∀(k:Nat) (s:List (Vector Int 17)) (m:List Int),m.length < k->m.length<=65536->s.length<=1000000 - m.length->T (lH N k s m) (λr=>r.length=s.length+(m.length+15) / 16)
 | 0,_,_,h,_,_=>by omega
 | k+1,s,m,h,hm,hs=>by
  rw[lH]
  refine T.letO λx hx=>?_;subst hx;refine T.cond (λhc=>?_) (λhc=>?_)
  ·have hc:0 < m.length:=by simpa using hc
   refine T.bind (o:=aEJ 17 0 16) ⟨(),rfl,trivial⟩ λ_ (_:True)=>?_;obtain⟨v,hv⟩:=cpV17 m;rw[hv,aa]
   refine T.letO λx hx=>?_;subst hx;refine T.bind (T.inRO (by omega) (by omega)) λ_ _=>T.bind (T.vget (by omega)) λ_ _=>T.bind (T.app (by simp;omega)) λz hz=>?_;subst hz;refine T.bind (T.slc (by omega) (by omega) (by omega)) λs14 h14=>?_;have h15:=h14.2;refine T.mono (aNe N k _ s14 (by omega) (by omega) (by simp;omega)) λr hr=>?_;simp at hr;omega
  ·have hc:m.length=0:=by have:=of_decide_eq_false hc;omega
   exact T.ret (by omega)
theorem aNW(N:Nat)(m:List Int)(h:m.length < N)(hm:m.length<=65536):T (kL N m) (λr=>r.length=(m.length+15) / 16):=by
 unfold kL;refine T.letO λx hx=>?_;have hx:x=(m.length:Int):=by rw[hx];unfold mY;split <;> omega
 subst hx;refine T.bind (T.slc (by omega) (by omega) (by omega)) λs3 h3=>?_;have:=h3.2;refine T.bind (aNe N N [] s3 (by omega) (by omega) (by rw[me];omega)) λr hr=>T.ret ?_;rw[me] at hr;omega
theorem aSn(N:Nat)(ms:List (List Int))(hms:ms.length < 1000):∀(k i:Nat) (s:List Int) (n:Nat),i<=ms.length->ms.length - i < k->n<=65536->s.length<=n->T (fI N ms k s (n:Int) (i:Int)) (λr=>r.1.length<=65536)
 | 0,_,_,_,_,h,_,_=>by omega
 | k+1,i,s,n,hi,hk,hn,hs=>by
  rw[fI,aC]
  by_cases h:i < ms.length
  ·rw[dt (by omega),cond_true]
   refine T.bind (T.idx (by omega) (by omega)) λe6 h6=>?_;have f:I64 (65536 - (n:Int))=((65536 - n:Nat):Int):=by rw[aR (by omega) (by omega)];omega
   rw[f,aC,aE3]
   refine T.bind (T.slc (by omega) (by omega) (by omega)) λs9 h9=>?_;have h10:=h9.2;rw[aC]
   refine T.bind (T.app (by omega)) λz hz=>?_;subst hz;have f2:I64 ((n:Int)+(s9.length:Int))=((n+s9.length:Nat):Int):=by rw[aR (by omega) (by omega)];omega
   rw[f2,cZ (by omega)]
   exact aSn N ms hms k (i+1) _ _ (by omega) (by omega) (by omega) (by rw[ai];omega)
  ·rw[df (by omega),cond_false]
   exact T.ret (by dsimp only;omega)
theorem aTK(N:Nat)(hN:20 < N):∀(k:Nat) (h:Vector Int 3) (made:Bool) (r0 r1 s0 s1:Int) (rest:List Int) (all:Int),uX h->rest.length < k->rest.length<=65536 ->
  T (fH N k h made r0 r1 s0 s1 rest all) (λr=>uX r.1/\r.2.1=made/\r.2.2.1=r0/\r.2.2.2.1=r1/\r.2.2.2.2.1=s0/\r.2.2.2.2.2.1=s1/\r.2.2.2.2.2.2.1.length < 16)
 | 0,_,_,_,_,_,_,_,_,_,h,_=>by omega
 | k+1,h,made,r0,r1,s0,s1,rest,all,hh,hk,hl=>by
  rw[fH]
  refine T.letO λx hx=>?_;subst hx;refine T.cond (λhc=>?_) (λhc=>?_)
  ·have hc:16<=rest.length:=by have:=of_decide_eq_true hc;omega
   refine T.bind (T.slc (by omega) (by omega) (by omega)) λs22 h22=>?_;have h23:=h22.2;refine T.bind (aNW N s22 (by omega) (by omega)) λr23 hr=>T.bind (T.idx (by omega) (by omega)) λe24 _=>?_;refine T.bind (aLR N hN e24 r0 r1 _ hh) λr25 hr25=>?_;obtain⟨g1,g2⟩:=hr25;obtain⟨h',q⟩:=r25;dsimp only at g1 g2;subst g2;dsimp only;refine T.bind (T.slc (by omega) (by omega) (by omega)) λs26 h26=>?_;have:=h26.2;exact aTK N hN k h' made r0 r1 s0 s1 s26 all g1 (by omega) (by omega)
  ·have hc:rest.length < 16:=by have:=of_decide_eq_false hc;omega
   exact T.ret ⟨hh,rfl,rfl,rfl,rfl,rfl,hc⟩
theorem z16 : eH (ag 16 (0:Int)):=by unfold eH aQ isB;decide
theorem endT(N:Nat)(hN:20 < N)(h:Vector Int 3)(hh:uX h)(s0 s1:Int)(h0:isU s0)(h1:isU s1):T (pR N (aJ.mk h) s0 s1) eH:=by
 unfold pR;refine T.bind (T.loop0 (n:=2) (by decide) (λ_ (v:Vector Int 3)=>uX v) (F:=dY N) (λk s i hi hs Q hk=>?_) (λk s=>by rw[dY,df (by omega),cond_false]) (by omega) hh) λp1 hp=>?_
 ·rw[dY,dt (by omega),cond_true,cZ (by omega)]
  refine T.bind (P:=uX) ?_ λv hv=>hk v hv;refine T.bind (T.inRO (by decide) (by decide)) λ_ _=>T.bind (T.vgetU hs (by decide)) λe6 h6=>T.bind (T.add64 h6 aE1 ⟨by decide,by decide⟩) λr7 h7=>?_;refine T.bind (T.inRO (by decide) (by decide)) λ_ _=>T.bind (T.vgetU hs (by decide)) λe9 h9=>T.bind (T.add64 h9 zP h7.2) λr10 h10=>?_;refine T.bind (T.inRO (by decide) (by decide)) λ_ _=>T.bind (T.vgetU hs (by decide)) λe12 h12=>?_;refine T.letO λ_ _=>T.cond (λ_=>T.letO λ_ _=>T.ret (aGA h7.1 h10.1 (sW _))) (λ_=>T.ret hs)
 refine T.bind (T.inRO (by decide) (by decide)) λ_ _=>T.bind (T.vgetU hp (by decide)) λe17 h17=>T.bind (T.add64 h17 h0 ⟨by decide,by decide⟩) λr18 h18=>?_;refine T.bind (T.inRO (by decide) (by decide)) λ_ _=>T.bind (T.vgetU hp (by decide)) λe20 h20=>T.bind (T.add64 h20 h1 h18.2) λr21 h21=>?_;refine T.bind (T.loop0 (n:=8) (by decide) (λ_ (v:Vector Int 16)=>eH v) (F:=fA N r18 r21) (λk s i hi hs Q hk=>?_) (λk s=>by rw[fA,df (by omega),cond_false]) (by omega) z16) λp22 h22=>T.ret h22;have vset:∀(v:Vector Int 16) (i:Nat) (x:Int),eH v->eH (v.setIfInBounds i (U8 x)):=by
  intro v i x hv y hy;have e:(v.setIfInBounds i (U8 x)).toList=v.toList.set i (U8 x):=by simp
  rw[e] at hy;rcases List.mem_or_eq_of_mem_set hy with h' | h'
  ·exact hv y h'
  ·rw[h'];exact aIa _
 rw[fA,dt (by omega),cond_true,show(8:Int)=((8:Nat):Int) from rfl,i4 (by omega),ia (by omega),cZ (by omega)]
 rw[kS .u64 (by omega),aa,kS .u64 (by omega),aa]
 refine T.bind (T.inRO (by omega) (by omega)) λ_ _=>T.bind (T.vget (by omega)) λ_ _=>T.bind (T.inRO (by omega) (by omega)) λ_ _=>T.bind (T.vget (by omega)) λ_ _=>?_;exact hk _ (vset _ _ _ (vset _ _ _ hs))
theorem sumT(N:Nat)(hN:2000 < N)(m:aO)(hh:uX m.gA2.gh)(h0:isU m.gs0)(h1:isU m.gs1)(hr:m.gP.length<=100)(hm:m.gC=true):T (pJ N m) eH:=by
 unfold pJ;rw[hm,fc,cond_false]
 refine T.bind (aNW N m.gP (by omega) (by omega)) λr1 hr1=>?_;refine T.bind (T.loop0 (n:=r1.length) (by omega) (λ_ (v:Vector Int 3)=>uX v) (F:=jT N r1 m) (λk s i hi hs Q hk=>?_) (λk s=>by rw[jT,aC,df (by omega),cond_false]) (by omega) hh) λp2 hp2=>?_
 ·rw[jT,aC,dt (by omega),cond_true,cZ (by omega)]
  exact T.bind (T.idx (by omega) (by omega)) λe6 _=>T.bind (aI0 N (by omega) e6 _ _ (aJ.mk s) hs) λr7 h7=>hk r7 h7
 exact T.bind (endT N (by omega) p2 hp2 _ _ h0 h1) λr8 h8=>T.ret h8
theorem tagT(N:Nat)(hN:2000 < N)(key:Vector Int 32)(ms:List (List Int))(hms:ms.length < 1000)(hl:65536 < N):T (uI N key ms) eH:=by
 unfold uI;refine T.bind (newT N (by omega) key) λr1 h1=>?_;obtain⟨u1,u2,u3,u4⟩:=h1;refine T.bind (P:=λr=>uX r.2.1/\r.2.2.1=true/\r.2.2.2.2.2.1=r1.2.2.1/\r.2.2.2.2.2.2.1=r1.2.2.2/\r.2.2.2.2.2.2.2.1.length < 16) ?_ λr2 h2=>?_
 ·unfold qW;rw[fc,cond_false]
  refine T.bind (aSn N ms hms N 0 [] 0 (by omega) (by omega) (by omega) (by simp)) λp1 hp1=>?_;refine T.bind (aTK N (by omega) N _ true _ _ _ _ p1.1 p1.2 (aGA zP zP zP) (by omega) hp1) λp12 hp=>T.ret ?_;obtain⟨g1,g2,g3,g4,g5,g6,g7⟩:=hp;exact⟨g1,g2,g5,g6,g7⟩
 ·obtain⟨g1,g2,g5,g6,g7⟩:=h2;exact T.bind (sumT N hN _ g1 (by dsimp only;rw[g5];exact u3) (by dsimp only;rw[g6];exact u4) (by dsimp only;omega) g2) λr3 h3=>T.ret h3
theorem keyT(N:Nat)(hN:20 < N)(key:Vector Int 32)(n:Vector Int 12):T (vT N key n) (λ_=>True):=by
 unfold vT;exact T.bind (aMy N hN key 0 n) λr1 _=>T.bind (T.slc (by decide) (by decide) (by simp)) λs3 h3=>T.bind (T.vec (by have:=h3.2;omega)) λ_ _=>T.ret trivial
theorem aSv(N:Nat)(l:List Int)(hl:l.length<=1000000):T (rB N l) (λr=>r.length<=16):=by
 unfold rB;refine T.letO λx hx=>T.letO λy hy=>?_;have hx1:x=((l.length % 16:Nat):Int):=by rw[hx];rfl
 have hy1:y=(((16 - l.length % 16) % 16:Nat):Int):=by
  have e:I64 (16 - x)=((16 - l.length % 16:Nat):Int):=by rw[hx1,aR (by omega) (by omega)];omega
  rw[hy,e];rfl
 subst hy1;rw[bx]
 refine T.bind (o:=mkO 1 _) (P:=λ_=>True) ⟨(),?_,trivial⟩ λ_ _=>T.bind (o:=aGm _ _) (P:=λ_=>True) ⟨(),?_,trivial⟩ λ_ _=>T.ret ?_
 ·unfold mkO;rw[dt (by omega),dt (by omega),dt (by omega)]
  rfl
 ·unfold aGm;rw[show((List.replicate ((16 - l.length % 16) % 16) (0:Int)).length.beq ((16 - l.length % 16) % 16))=true by simp]
  rfl
 ·simp;omega
theorem macT(N:Nat)(hN:70000<=N)(key:Vector Int 32)(n:Vector Int 12)(a c:List Int)(ha:a.length<=1000000)(hc:c.length<=1000000):T (rH N key n a c) eH:=by
 unfold rH;refine T.bind (T.loop0 (n:=8) (by decide) (λ_ _=>True) (F:=lN N a c) (λk s i hi _ Q hk=>?_) (λk s=>by rw[lN,df (by omega),cond_false]) (by omega) trivial) λp1 _=>?_
 ·rw[lN,dt (by omega),cond_true,show(8:Int)=((8:Nat):Int) from rfl,i4 (by omega),ia (by omega),cZ (by omega),kS .i64 (by omega),aa,kS .i64 (by omega),aa]
  exact T.bind (T.inRO (by omega) (by omega)) λ_ _=>T.bind (T.vget (by omega)) λ_ _=>T.bind (T.inRO (by omega) (by omega)) λ_ _=>T.bind (T.vget (by omega)) λ_ _=>hk _ trivial
 refine T.bind (keyT N (by omega) key n) λr10 _=>T.bind (aSv N a ha) λr11 _=>T.bind (aSv N c hc) λr12 _=>T.bind (T.slc (by decide) (by decide) (by simp)) λs13 _=>?_;exact T.bind (tagT N (by omega) r10 _ (by simp) (by omega)) λr14 h14=>T.ret h14
theorem aNS(N:Nat)(hN:20 < N)(key:Vector Int 32)(n:Vector Int 12)(len:Nat)(hl:len<=65536):∀(k:Nat) (s:List Int) (c:Int),s.length<=len->len - s.length < k->T (kX N (len:Int) key n k s c) (λr=>r.length=len)
 | 0,_,_,_,h=>by omega
 | k+1,s,c,hs,hk=>by
  rw[kX,show mY (len:Int) 65536=(len:Int) by unfold mY;split <;> omega]
  refine T.letO λx hx=>?_;subst hx;refine T.cond (λhc=>?_) (λhc=>?_)
  ·have hc:s.length < len:=by have:=of_decide_eq_true hc;omega
   refine T.bind (aMy N hN key c n) λr5 _=>?_;have f:I64 ((len:Int) - (s.length:Int))=((len - s.length:Nat):Int):=by rw[aR (by omega) (by omega)];omega
   rw[f,aC,show(64:Int)=((64:Nat):Int) from rfl,aE3]
   refine T.bind (T.slc (by omega) (by omega) (by simp;omega)) λs9 h9=>?_;have h10:=h9.2;refine T.bind (T.app (by omega)) λz hz=>?_;subst hz;exact aNS N hN key n len hl k _ _ (by rw[ai];omega) (by rw[ai];omega)
  ·have hc:s.length=len:=by have:=of_decide_eq_false hc;omega
   exact T.ret hc
theorem aRc(N:Nat)(hN:70000<=N)(key:Vector Int 32)(c:Int)(n:Vector Int 12)(len:Nat)(hl:len<=65536):T (kU N key c n (len:Int)) (λr=>r.length=len):=by
 unfold kU;exact T.bind (aNS N (by omega) key n len hl N [] c (by simp) (by simp;omega)) λp1 h=>T.ret h
def zM(d s:List Int):List Int:=mz (eZ .u8) d s
theorem aHT{d s:List Int}(h:s.length=d.length):(zM d s).length=d.length:=by unfold zM;simp;omega
theorem aH7(d s:List Int):aQ (zM d s):=by
 intro x hx;unfold zM at hx;rw[List.mem_iff_getElem?] at hx;obtain⟨i,hi⟩:=hx;rw[List.getElem?_zipWith] at hi;revert hi;cases d[i]? <;> cases s[i]? <;> intro hi <;> simp at hi;rw[<- hi];exact aTi
theorem aSx(N:Nat)(d st:List Int)(hs:st.length=d.length)(hl:d.length<=65536):∀(k i:Nat),i<=d.length->d.length - i < k->qK N st k (zM (d.take i) (st.take i)++d.drop i) (i:Int)=some (zM d st)
 | 0,_,_,h=>by omega
 | k+1,i,hi,hk=>by
  rw[qK,aC]
  have hz:(zM (d.take i) (st.take i)).length=i:=by rw[aHT (by simp;omega)];simp;omega
  by_cases h:i < d.length
  ·have hcat:(zM (d.take i) (st.take i)++d.drop i).length=d.length:=by rw[ai,hz,ca];omega
   have hget:(zM (d.take i) (st.take i)++d.drop i)[i]? = some d[i]:=by
    rw[List.getElem?_append_right (by omega),hz,Nat.sub_self,List.getElem?_drop,Nat.add_zero,ah h]
   rw[dt (by omega),cond_true,dJ (by omega),aa,cD (by omega) (by omega),aa,bx,hget,aa,aa]
   have hset:aOr (zM (d.take i) (st.take i)++d.drop i) i (eZ .u8 d[i] st[i])=some (zM (d.take (i+1)) (st.take (i+1))++d.drop (i+1)):=by
    unfold aOr;rw[show Nat.blt i (zM (d.take i) (st.take i)++d.drop i).length=true by rw[hcat];exact Nat.ble_eq_true_of_le h,cond_true]
    congr 1;rw[List.set_append_right _ _ (by omega),hz,Nat.sub_self,cp h,List.set_cons_zero]
    have e1:zM (d.take (i+1)) (st.take (i+1))=zM (d.take i) (st.take i)++[eZ .u8 d[i] st[i]]:=by
     unfold zM;rw[j5,j5,ah h,ah (show i < st.length by omega)]
     show mz _ (l6 i d++[d[i]]) (l6 i st++[st[i]])=_;rw[List.zipWith_append (by simp;omega)]
     rfl
    rw[e1]
    simp
   rw[hset,aa,cZ (by omega)]
   exact aSx N d st hs hl k (i+1) (by omega) (by omega)
  ·obtain rfl:i=d.length:=by omega
   rw[df (by omega),cond_false,ir,ar (by omega),f8,dq]
def stV(N:Nat)(key:Vector Int 32)(n:Vector Int 12)(len:Nat):List Int:=(kU N key 1 n (len:Int)).getD []
theorem aMR(N:Nat)(hN:70000<=N)(key:Vector Int 32)(n:Vector Int 12)(len:Nat)(hl:len<=65536):kU N key 1 n (len:Int)=some (stV N key n len)/\(stV N key n len).length=len:=by
 obtain⟨r,h1,h2⟩:=aRc N hN key 1 n len hl;unfold stV;rw[h1]
 exact⟨rfl,h2⟩
def aBw(N:Nat)(key:Vector Int 32)(n:Vector Int 12)(d:List Int):List Int:=zM d (stV N key n d.length)
theorem aEQ(N:Nat)(hN:70000<=N)(key:Vector Int 32)(n:Vector Int 12){d:List Int}(hl:d.length<=65536):(aBw N key n d).length=d.length:=aHT (aMR N hN key n _ hl).2
theorem xorP(N:Nat)(hN:70000<=N)(key:Vector Int 32)(n:Vector Int 12)(d:List Int)(hl:d.length<=65536):uR N key 1 n [d]=some (aBw N key n d):=by
 obtain⟨h1,h2⟩:=aMR N hN key n _ hl;unfold uR;have hL1:mS N [d] N [] 0=some d:=by
  obtain⟨m,rfl⟩:∃m,N=m+2:=⟨N - 2,by omega⟩
  rw[show mS (m+2) [d] (m+2) [] 0=mS (m+2) [d] (m+1+1) [] 0 from rfl,mS,aC,dt (by simp),cond_true,show idx [d] 0=some d from rfl,aa]
  have f:I64 (65536 - (([]:List Int).length:Int))=65536:=by decide
  rw[f,aC,aC,show mY (d.length:Int) 65536=(d.length:Int) by unfold mY;split <;> omega,rP (by omega) (by omega) (by omega),aa,bx,ir]
  have e:(List.drop (0:Int).toNat d)=d:=rfl;rw[e,eF (by simp;omega),aa,dm,mS,aC]
  rfl
 rw[hL1,aa,h1,aa]
 have:=aSx N d _ h2 hl N 0 (by omega) (by omega)
 rw[jq,jq,List.drop_zero] at this;rw[show qK N (stV N key n d.length) N d 0=some (zM d (stV N key n d.length)) from this]
 rfl
def aGc(N:Nat)(key:Vector Int 32)(n:Vector Int 12)(a c:List Int):Vector Int 16:=(rH N key n a c).getD (ag 16 0)
theorem macP(N:Nat)(hN:70000<=N)(key:Vector Int 32)(n:Vector Int 12)(a c:List Int)(ha:a.length<=1000000)(hc:c.length<=1000000):rH N key n a c=some (aGc N key n a c)/\eH (aGc N key n a c):=by
 obtain⟨r,h1,h2⟩:=macT N hN key n a c ha hc;unfold aGc;rw[h1]
 exact⟨rfl,h2⟩
def aBs(N:Nat)(key:Vector Int 32)(n:Vector Int 12)(a p:List Int):List Int:=aBw N key n p++(aGc N key n a (aBw N key n p)).toList
theorem aCh(N:Nat)(hN:70000<=N)(key:Vector Int 32)(n:Vector Int 12)(a:List Int){p:List Int}(hl:p.length<=65536):(aBs N key n a p).length=p.length+16:=by
 unfold aBs;rw[ai,aEQ N hN key n hl]
 simp
theorem aGS(N:Nat)(hN:70000<=N)(key:Vector Int 32)(n:Vector Int 12)(a:List Int){p:List Int}(ha:a.length<=1000000)(hl:p.length<=65536):aQ (aBs N key n a p):=
 (aH7 _ _).app (macP N hN key n a _ ha (by rw[aEQ N hN key n hl];omega)).2
theorem aTC(N:Nat)(hN:70000<=N)(key:Vector Int 32)(n:Vector Int 12)(a p:List Int)(ha:a.length<=16384)(hp:p.length<=16384):wC N key n a p=some (aBs N key n a p,0):=by
 unfold wC;have hx:=aEQ N hN key n (d:=p) (by omega)
 rw[aC,aC,df (by omega),df (by omega),cond_false,cond_false,xorP N hN key n p (by omega),aa,(macP N hN key n a _ (by omega) (by omega)).1,aa]
 have hs:dU (aGc N key n a (aBw N key n p)).toList 0 16=some (aGc N key n a (aBw N key n p)).toList:=aJy (m:=16) _;rw[hs,aa,aP8 N [aBw N key n p,(aGc N key n a (aBw N key n p)).toList] (by simp) (by show 2 < N;omega) (by intro l hl;simp only[d8,d9,or_false] at hl;rcases hl with rfl | rfl;omega;simp),aa]
 congr 2;simp[aBs]
theorem aTX(N:Nat)(hN:20 < N)(base:Vector Int 8)(i:Int):T (fV N base i) (λ_=>True):=by
 unfold fV;refine T.bind (o:=aEJ 12 0 12) (P:=λ_=>True) ⟨(),rfl,trivial⟩ λ_ _=>T.bind (T.slc (by decide) (by decide) (by simp)) λs2 _=>?_;refine T.bind (P:=λ_=>True) ?_ λv3 _=>?_
 ·unfold cpV;rw[dif_pos (by decide)]
  exact⟨_,rfl,trivial⟩
 refine T.bind (T.loop0 (n:=4) (by decide) (λ_ _=>True) (F:=iJ N i) (λk s j hj _ Q hk=>?_) (λk s=>by rw[iJ,df (by omega),cond_false]) (by omega) trivial) λp1 _=>T.ret trivial;rw[iJ,dt (by omega),cond_true,show(8:Int)=((8:Nat):Int) from rfl,i4 (by omega),ia (by omega),cZ (by omega),kS .i64 (by omega),aa]
 exact T.bind (T.inRO (by omega) (by omega)) λ_ _=>T.bind (T.vget (by omega)) λ_ _=>hk _ trivial
def aJw(N:Nat)(base:Vector Int 8)(i:Int):Vector Int 12:=(fV N base i).getD (ag 12 0)
theorem nonP(N:Nat)(hN:20 < N)(base:Vector Int 8)(i:Int):fV N base i=some (aJw N base i):=by
 obtain⟨r,h,_⟩:=aTX N hN base i;unfold aJw;rw[h]
 rfl
theorem aCn : aQ []:=by intro x hx;cases hx
def zO(k:Int):Int:=if k=1 then 2048 else if k=2 then 1024 else if k=3 then 64 else if k=4 then 64 else 0
theorem capP(N:Nat)(k:Int):sH N k=some (zO k):=by
 unfold sH zO;rw[aC]
 by_cases h:k < 0\/5<=k
 ·rw[show cond (decide (k < 0)) true (decide (k>=5))=true by rcases h with h | h;rw[dt h];rfl;rw[df (show ¬k < 0 by omega),dt (show k>=5 by omega)];rfl,cond_true]
  rw[if_neg (by omega),if_neg (by omega),if_neg (by omega),if_neg (by omega)]
 ·rw[df (show ¬k < 0 by omega),df (show ¬k>=5 by omega),cond_false,cond_false,cD (by omega) (by omega),aa]
  have:k=0\/k=1\/k=2\/k=3\/k=4:=by omega
  rcases this with rfl | rfl | rfl | rfl | rfl <;> rfl
def sS(s:Int):Int:=if s < 1 then 0 else(s - 1) / 256+1
theorem aKP(N:Nat){s:Int}(h:aDQ s):nW N s=some (sS s):=by
 unfold nW sS;obtain⟨h0,h1⟩:=h;by_cases hs:s < 1
 ·rw[dt hs,cond_true,if_pos hs]
 ·have e:Int.tdiv (s - 1) 256=(s - 1) / 256:=Int.tdiv_eq_ediv_of_nonneg (by omega)
  rw[df hs,cond_false,if_neg hs,aR (x:=s - 1) (by omega) (by omega),e,aR (x:=(s - 1) / 256) (by omega) (by omega),aC,aR (by omega) (by omega)]
def tV(m:aE):Int:=if zO m.gD=0 then 12 else if (m.gA3.toList.any λe=>decide (e > 15))=true then 5 else if m.gA4 > m.gTo\/m.gA0 < 1 then 5 else if m.gA0 > zO m.gD then 9 else if m.gA7≠sS m.gA0 then 5 else 0
theorem mchkP(N:Nat)(hN:20 < N)(m:aE)(hs:aDQ m.gA0):pH N m=some (tV m):=by
 unfold pH tV;rw[capP,aa]
 by_cases h0:zO m.gD=0
 ·rw[if_pos h0,h0];rfl
 ·rw[if_neg h0,show(zO m.gD==0)=false by simpa using h0,cond_false]
  have hl:jP N m N 0=some (cond (m.gA3.toList.any λe=>decide (e > 15)) (Sum.inr 5) (Sum.inl ())):=by
   refine aAG m.gA3.toList (λe=>decide (e > 15)) (5:Int) (jP N m) (by simp) (λk i h=>?_) (λk=>?_) (by simp;omega)
   ·have h8:i < 8:=by simpa using h
    rw[jP,dt (by omega),cond_true,dJ h,aa]
   ·rw[jP,df (by simp),cond_false]
  rw[hl,aa]
  cases ha:(m.gA3.toList.any λe=>decide (e > 15)) with
  | true=>rw[if_pos rfl,cond_true];rfl
  | false=>
   rw[if_neg (by decide),cond_false]
   show(aN (decide (m.gA4 > m.gTo)) λx5=>_)=_;rw[aC,aC]
   by_cases h1:m.gA4 > m.gTo\/m.gA0 < 1
   ·rw[if_pos h1]
    rw[show cond (decide (m.gA4 > m.gTo)) true (decide (m.gA0 < 1))=true by rcases h1 with h | h;rw[dt h];rfl;rw[dt h];cases decide (m.gA4 > m.gTo) <;> rfl,aC,cond_true]
   ·rw[if_neg h1,df (show ¬m.gA4 > m.gTo by omega),df (show ¬m.gA0 < 1 by omega),cond_false,aC,cond_false]
    by_cases h2:m.gA0 > zO m.gD
    ·rw[dt h2,cond_true,if_pos h2]
    ·rw[df h2,cond_false,if_neg h2,aKP N hs,aa]
     by_cases h3:m.gA7=sS m.gA0
     ·rw[if_neg (by simpa using h3),show(m.gA7 != sS m.gA0)=false by simpa using h3,cond_false]
     ·rw[if_pos h3,show(m.gA7 != sS m.gA0)=true by simpa using h3,cond_true]
structure aOS(m:aE):Prop where
 id:isU m.gId
 kind:0<=m.gD/\m.gD < 256
 label:isW m.gA6
 masks:eH m.gA3
 fr:isW m.gA4
 to:isW m.gTo
 size:0<=m.gA0/\m.gA0 < 4294967296
 chunks:0<=m.gA7/\m.gA7 < 65536
structure aHB(m:aE):Prop where
 id:isU m.gId
 kind:aDQ m.gD
 label:isW m.gA6
 masks:eH m.gA3
 fr:isW m.gA4
 to:isW m.gTo
 size:aDQ m.gA0
 chunks:aDQ m.gA7
theorem aRm{k:Int}(h:zO k≠0):1<=k/\k<=4/\zO k<=2048/\64<=zO k:=by
 unfold zO at *;split at h
 ·rename_i e;subst e;exact⟨by decide,by decide,by decide,by decide⟩
 ·split at h
  ·rename_i e;subst e;exact⟨by decide,by decide,by decide,by decide⟩
  ·split at h
   ·rename_i e;subst e;exact⟨by decide,by decide,by decide,by decide⟩
   ·split at h
    ·rename_i e;subst e;exact⟨by decide,by decide,by decide,by decide⟩
    ·exact absurd rfl h
theorem mchk0{m:aE}(h:tV m=0):zO m.gD≠0/\1<=m.gA0/\m.gA0<=zO m.gD/\m.gA7=sS m.gA0:=by
 unfold tV at h;split at h
 ·cases h
 ·rename_i h0;split at h
  ·cases h
  ·split at h
   ·cases h
   ·split at h
    ·cases h
    ·split at h
     ·cases h
     ·exact⟨h0,by omega,by omega,by omega⟩
theorem aHB.r{m:aE}(t:aHB m)(h:tV m=0):aOS m:=by
 obtain⟨h0,h1,h2,h3⟩:=mchk0 h;obtain⟨k1,k2,k3,_⟩:=aRm h0;refine⟨t.id,⟨by omega,by omega⟩,t.label,t.masks,t.fr,t.to,⟨by omega,by omega⟩,?_⟩
 rw[h3]
 unfold sS;rw[if_neg (by omega)]
 omega
def aGh(m:aE):List Int:=leB 8 m.gId++(leB 1 m.gD++(leB 4 m.gA6++(m.gA3.toList++(leB 4 m.gA4++(leB 4 m.gTo++(leB 4 m.gA0++leB 2 m.gA7))))))
theorem aG9(m:aE):(aGh m).length=35:=by unfold aGh;simp[iI]
theorem aMh{m:aE}(h:eH m.gA3):aQ (aGh m):=(pG _ _).app ((pG _ _).app ((pG _ _).app (h.app ((pG _ _).app ((pG _ _).app ((pG _ _).app (pG _ _)))))))
theorem aMA(N:Nat)(hN:20 < N)(b:List Int)(w:Nat)(hw0:1<=w)(hw:w<=8)(x:Int)(hx:0<=x)(hx2:x < cH w)(hb:b.length<=1000000):bO N b (w:Int) [x]=some (b++leB w x,0):=by
 have h8:=aGs hw;rw[aOX N b w hw0 hw [x] (by intro y hy;simp at hy;subst hy;exact⟨hx,by omega⟩) (by omega) (by simp) (by omega) (by simp;omega)]
 unfold aI1;have:([x].any (big w))=false:=by simp[big];omega
 rw[this,cond_false]
 simp
theorem put3(N:Nat)(hN:20 < N)(b:List Int)(w:Nat)(hw0:1<=w)(hw:w<=8)(x y z:Int)(hx:0<=x/\x < cH w)(hy:0<=y/\y < cH w)(hz:0<=z/\z < cH w)(hb:b.length<=1000000):bO N b (w:Int) [x,y,z]=some (b++(leB w x++(leB w y++leB w z)),0):=by
 have h8:=aGs hw;rw[aOX N b w hw0 hw [x,y,z] (by intro q hq;simp at hq;rcases hq with rfl | rfl | rfl <;> omega) (by omega) (by simp) (by omega) (by simp;omega)]
 unfold aI1;have:([x,y,z].any (big w))=false:=by simp[big];omega
 rw[this,cond_false]
 simp
theorem put2(N:Nat)(hN:20 < N)(b:List Int)(w:Nat)(hw0:1<=w)(hw:w<=8)(x y:Int)(hx:0<=x/\x < cH w)(hy:0<=y/\y < cH w)(hb:b.length<=1000000):bO N b (w:Int) [x,y]=some (b++(leB w x++leB w y),0):=by
 have h8:=aGs hw;rw[aOX N b w hw0 hw [x,y] (by intro q hq;simp at hq;rcases hq with rfl | rfl <;> omega) (by omega) (by simp) (by omega) (by simp;omega)]
 unfold aI1;have:([x,y].any (big w))=false:=by simp[big];omega
 rw[this,cond_false]
 simp
theorem aSi(N:Nat)(hN:20 < N)(m:aE)(t:aHB m):lP N m=some (if tV m=0 then(aGh m,0) else([],tV m)):=by
 unfold lP;rw[mchkP N hN m t.size,aa]
 by_cases h:tV m=0
 ·have r:=t.r h;rw[if_pos h,h,show((0:Int) != 0)=false from rfl,cond_false]
  have k1:=r.kind;have k2:=r.size;have k3:=r.chunks;have k4:=r.label;have k5:=r.fr;have k6:=r.to;have e1:=aMA N hN [] 8 (by decide) (by decide) m.gId r.id.1 r.id.2 (by simp)
  rw[show bO N [] 8 [m.gId]=_ from e1,aa,eJ (x:=m.gD) (by omega) (by omega),eJ (x:=m.gA6) k4.1 (by have:=k4.2;omega),eJ (x:=m.gA4) k5.1 (by have:=k5.2;omega),eJ (x:=m.gTo) k6.1 (by have:=k6.2;omega),eJ (x:=m.gA0) (by omega) (by omega),eJ (x:=m.gA7) (by omega) (by omega)]
  have e2:=aMA N hN ([]++leB 8 m.gId) 1 (by decide) (by decide) m.gD k1.1 k1.2 (by simp[iI])
  rw[show bO N ([]++leB 8 m.gId) 1 [m.gD]=_ from e2,aa]
  have e3:=aMA N hN ([]++leB 8 m.gId++leB 1 m.gD) 4 (by decide) (by decide) m.gA6 k4.1 k4.2 (by simp[iI])
  rw[show bO N ([]++leB 8 m.gId++leB 1 m.gD) 4 [m.gA6]=_ from e3,aa]
  rw[show dU m.gA3.toList 0 8=some m.gA3.toList from aJy (m:=8) _,aa,rE (by simp[iI]) (by simp),aa]
  have e4:=put3 N hN ([]++leB 8 m.gId++leB 1 m.gD++leB 4 m.gA6++m.gA3.toList) 4 (by decide) (by decide) m.gA4 m.gTo m.gA0 ⟨k5.1,k5.2⟩ ⟨k6.1,k6.2⟩ k2 (by simp[iI])
  rw[show bO N ([]++leB 8 m.gId++leB 1 m.gD++leB 4 m.gA6++m.gA3.toList) 4 [m.gA4,m.gTo,m.gA0]=_ from e4,aa]
  have e5:=aMA N hN ([]++leB 8 m.gId++leB 1 m.gD++leB 4 m.gA6++m.gA3.toList++(leB 4 m.gA4++(leB 4 m.gTo++leB 4 m.gA0))) 2 (by decide) (by decide) m.gA7 k3.1 k3.2 (by simp[iI])
  rw[show bO N ([]++leB 8 m.gId++leB 1 m.gD++leB 4 m.gA6++m.gA3.toList++(leB 4 m.gA4++(leB 4 m.gTo++leB 4 m.gA0))) 2 [m.gA7]=_ from e5,aa]
  congr 2;unfold aGh;simp[ap]
 ·rw[if_neg h,show(tV m != 0)=true by simpa using h,cond_true]
theorem aSh{α:Type}(l:List α)(hl:l.length < 9223372036854775807)(bad:α->Prop){F:Nat->Int->Option (Sum Unit Int)}
  (hstep:∀k i (h:i < l.length),∃c,(c=false->¬bad l[i])/\F (k+1) (i:Int)=cond c (some (Sum.inr (i:Int))) (F k (I64 ((i:Int)+1)))) (hend:∀k,F (k+1) (l.length:Int)=some (Sum.inl ())) :
  ∀(k i:Nat),i<=l.length->l.length - i < k->T (ae (ae (F k (i:Int)) λo=>qS o (λp1=>some (-1)) (λr=>some r)) λr1:Int=>some (decide (r1>=0))) (λr=>r=false->∀x∈l.drop i,¬bad x)
 | 0,i,_,h=>by omega
 | k+1,i,hi,hk=>by
  by_cases h:i < l.length
  ·obtain⟨c,h1,h2⟩:=hstep k i h;rw[h2]
   cases c with
   | true=>
    refine⟨true,?_,λe=>by cases e⟩
    show some (decide ((i:Int)>=0))=some true;rw[dt (by omega)]
   | false=>
    rw[cond_false,cZ (by omega)]
    refine T.mono (aSh l hl bad hstep hend k (i+1) (by omega) (by omega)) λr hr e x hx=>?_;rw[cp h] at hx;rcases d8.1 hx with rfl | hx
    ·exact h1 rfl
    ·exact hr e x hx
  ·obtain rfl:i=l.length:=by omega
   rw[hend,f8]
   exact⟨false,rfl,λ_ x hx=>by cases hx⟩
theorem aJ9{α:Type}(l:List α)(hl:l.length < 9223372036854775807)(bad:α->Prop){F:Nat->Int->Option (Sum Unit Int)}
  (hstep:∀k i (h:i < l.length),∃c,(c=false->¬bad l[i])/\F (k+1) (i:Int)=cond c (some (Sum.inr (i:Int))) (F k (I64 ((i:Int)+1)))) (hend:∀k,F (k+1) (l.length:Int)=some (Sum.inl ())) {N:Nat} (hN:l.length < N) :
  T (ae (ae (F N 0) λo=>qS o (λp1=>some (-1)) (λr=>some r)) λr1:Int=>some (decide (r1>=0))) (λr=>r=false->∀x∈l,¬bad x):=
 T.mono (aSh l hl bad hstep hend N 0 (by omega) (by omega)) λr hr e x hx=>hr e x (by simpa using hx)
theorem aPY{a b c m:Int}(h:¬vB (vB a b) c > m):a<=m/\b<=m/\c<=m:=by unfold vB at h;split at h <;> split at h <;> omega
theorem aP5{a b c m:Int}(h:¬mY (mY a b) c < m):m<=a/\m<=b/\m<=c:=by unfold mY at h;split at h <;> split at h <;> omega
theorem imax2{a b m:Int}(h:¬vB a b > m):a<=m/\b<=m:=by unfold vB at h;split at h <;> omega
theorem imin2{a b m:Int}(h:¬mY a b < m):m<=a/\m<=b:=by unfold mY at h;split at h <;> omega
def ptG(p:aB):Prop:=(-4096<=p.gX/\p.gX<=4096)/\(-4096<=p.gY/\p.gY<=4096)/\(-4096<=p.gZ/\p.gZ<=4096)
theorem aSe(N:Nat)(p:aB):T (pU N p) (λc=>c=false->ptG p):=by
 unfold pU;refine T.bind (P:=λc=>c=false->ptG p) ?_ λc hc=>T.ret hc;refine T.letO λx hx=>T.cond (λ_=>T.ret λh=>by cases h) λh1=>T.letO λy hy=>T.ret λh2=>?_;subst hx hy;have h1:=aPY (of_decide_eq_false h1)
 have h2:=aP5 (of_decide_eq_false h2)
 exact⟨⟨h2.1,h1.1⟩,⟨h2.2.1,h1.2.1⟩,h2.2.2,h1.2.2⟩
theorem aQO(N:Nat)(p:aB):T (oD N p) (λc=>c=false->ptG p):=aSe N p
def uvG(v:Vector Int 2):Prop:=(0<=v[0]/\v[0] < 65536)/\(0<=v[1]/\v[1] < 65536)
theorem aPq(v:Vector Int 2):idx v.toList 0=some v[0]:=by have:=mX v.toList 0;rw[oT v 0 (by decide)] at this;exact this
theorem aQH(v:Vector Int 2):idx v.toList 1=some v[1]:=by have:=mX v.toList 1;rw[oT v 1 (by decide)] at this;exact this
theorem aIi(v:Vector Int 3):idx v.toList 0=some v[0]:=by have:=mX v.toList 0;rw[oT v 0 (by decide)] at this;exact this
theorem aI2(v:Vector Int 3):idx v.toList 1=some v[1]:=by have:=mX v.toList 1;rw[oT v 1 (by decide)] at this;exact this
theorem aIj(v:Vector Int 3):idx v.toList 2=some v[2]:=by have:=mX v.toList 2;rw[oT v 2 (by decide)] at this;exact this
theorem pairT(N:Nat)(v:Vector Int 2):T (pO N v) (λc=>c=false->uvG v):=by
 unfold pO;refine T.bind (P:=λc=>c=false->uvG v) ?_ λc hc=>T.ret hc;rw[aPq,aQH,aa,aa]
 refine T.letO λx hx=>T.cond (λ_=>T.ret λh=>by cases h) λh1=>?_;rw[aa,aa]
 refine T.letO λy hy=>T.ret λh2=>?_;subst hx hy;have h1:=imin2 (of_decide_eq_false h1)
 have h2:=imax2 (of_decide_eq_false h2)
 exact⟨⟨h1.1,by omega⟩,h1.2,by omega⟩
def trG(n:Int)(v:Vector Int 3):Prop:=(0<=v[0]/\v[0] < n)/\(0<=v[1]/\v[1] < n)/\(0<=v[2]/\v[2] < n)
theorem triT(N:Nat)(v:Vector Int 3)(m:aL):T (mD N v m) (λc=>c=false->trG (m.gG.length:Int) v):=by
 unfold mD;refine T.bind (P:=λc=>c=false->trG (m.gG.length:Int) v) ?_ λc hc=>T.ret hc;simp only[aIi,aI2,aIj,aa]
 refine T.letO λx hx=>T.cond (λ_=>T.ret λh=>by cases h) λh1=>T.letO λn hn=>T.letO λy hy=>T.cond (λ_=>T.ret λh=>by cases h) λh2=>?_;subst hx hy hn;have h1:=aP5 (of_decide_eq_false h1)
 have h2:¬vB (vB v[0] v[1]) v[2] > (m.gG.length:Int) - 1:=by have:=of_decide_eq_false h2;omega
 have h2:=aPY h2;have g:trG (m.gG.length:Int) v:=⟨⟨h1.1,by omega⟩,⟨h1.2.1,by omega⟩,h1.2.2,by omega⟩
 exact T.cond (λ_=>T.ret λ_=>g) λ_=>T.cond (λ_=>T.ret λ_=>g) λ_=>T.ret λ_=>g
structure aJX(m:aL):Prop where
 nv:m.gG.length<=64
 nt:m.gK.length<=64
 nu:m.gO.length=m.gG.length
 v:∀p∈m.gG,ptG p
 u:∀p∈m.gO,uvG p
 t:∀p∈m.gK,trG 256 p
theorem meshT(N:Nat)(hN:1000 < N)(m:aL)(hv:m.gG.length<=500)(hu:m.gO.length<=500)(ht:m.gK.length<=500):T (kP N m) (λc=>c=0->aJX m):=by
 unfold kP;refine T.letO λx1 e1=>T.letO λx2 e2=>T.letO λx3 e3=>?_;subst e1 e2 e3;refine T.cond (λ_=>T.ret λh=>by cases h) λh1=>?_;refine T.letO λx1 e1=>T.letO λx2 e2=>T.letO λx3 e3=>T.letO λx4 e4=>T.letO λx5 e5=>?_;subst e1 e2 e3 e4 e5;refine T.cond (λ_=>T.ret λh=>by cases h) λh2=>?_;have a1:m.gG.length<=64/\m.gK.length<=64:=by
  cases ha:decide ((m.gG.length:Int) > 64) with
  | true=>rw[ha] at h1;cases h1
  | false=>rw[ha,cond_false] at h1;have:=of_decide_eq_false ha;have:=of_decide_eq_false h1;omega
 have a2:m.gO.length=m.gG.length:=by
  revert h2;cases cond ((m.gG.length:Int)==0) true ((m.gK.length:Int)==0) with
  | true=>intro h;cases h
  | false=>
   intro h;rw[cond_false] at h;have:(m.gO.length:Int)=(m.gG.length:Int):=by simpa using h
   omega
 refine T.bind (P:=λr=>r=false->∀p∈m.gG,¬ ¬ptG p) ?_ λr9 h9=>T.cond (λ_=>T.ret λh=>by cases h) λc9=>?_
 ·unfold bS bX;refine aJ9 m.gG (by omega) (λp=>¬ptG p) (F:=aU N m.gG) (λk i h=>?_) (λk=>by rw[aU,aC,df (by omega),cond_false]) (by omega)
  obtain⟨c,e,hc⟩:=aSe N m.gG[i]
  exact⟨c,λh=>Classical.not_not.2 (hc h),by rw[aU,aC,dt (by omega),cond_true,dJ h,aa,e,aa]⟩
 refine T.bind (P:=λr=>r=false->(∀p∈m.gO,uvG p)/\∀p∈m.gK,trG (m.gG.length:Int) p) ?_ λr10 h10=>T.cond (λ_=>T.ret λh=>by cases h) λc10=>T.ret λ_=>?_
 ·refine T.bind (P:=λr=>r=false->∀p∈m.gO,¬ ¬uvG p) ?_ λr11 h11=>T.cond (λ_=>T.ret λh=>by cases h) λc11=>?_
  ·unfold cI cS;refine aJ9 m.gO (by omega) (λp=>¬uvG p) (F:=bE N m.gO) (λk i h=>?_) (λk=>by rw[bE,aC,df (by omega),cond_false]) (by omega)
   obtain⟨c,e,hc⟩:=pairT N m.gO[i]
   exact⟨c,λh=>Classical.not_not.2 (hc h),by rw[bE,aC,dt (by omega),cond_true,dJ h,aa,e,aa]⟩
  ·refine T.bind (P:=λr=>r=false->∀p∈m.gK,¬ ¬trG (m.gG.length:Int) p) ?_ λr12 h12=>T.ret λc12=>⟨λp hp=>Classical.not_not.1 (h11 c11 p hp),λp hp=>Classical.not_not.1 (h12 c12 p hp)⟩
   unfold cJ cQ;refine aJ9 m.gK (by omega) (λp=>¬trG (m.gG.length:Int) p) (F:=bD N m.gK m) (λk i h=>?_) (λk=>by rw[bD,aC,df (by omega),cond_false]) (by omega)
   obtain⟨c,e,hc⟩:=triT N m.gK[i] m;exact⟨c,λh=>Classical.not_not.2 (hc h),by rw[bD,aC,dt (by omega),cond_true,dJ h,aa,e,aa]⟩
 obtain⟨g1,g2⟩:=h10 c10;exact⟨a1.1,a1.2,a2,λp hp=>Classical.not_not.1 (h9 c9 p hp),g1,λp hp=>by obtain⟨q1,q2,q3⟩:=g2 p hp;exact⟨⟨q1.1,by omega⟩,⟨q2.1,by omega⟩,q3.1,by omega⟩⟩
structure aOW(t:aI):Prop where
 side:1<=t.gQ/\t.gQ<=16
 n:(t.gL.length:Int)=t.gQ*t.gQ
 t:∀p∈t.gL,trG 256 p
theorem aO6(N:Nat)(hN:1000 < N)(l:List Int)(hl:l.length<=500)(x:Int):T (fL N l x) (λr=>r=true->x∈l):=by
 unfold fL lX;have key:∀(k i:Nat),i<=l.length->l.length - i < k->T (cY N l x k (i:Int)) (λo=>(o=Sum.inl ())\/(∃j,o=Sum.inr j/\x∈l)):=by
  intro k
  induction k with
  | zero=>intro i _ h;omega
  | succ k ih=>
   intro i hi hk;rw[cY,aC]
   by_cases h:i < l.length
   ·rw[dt (by omega),cond_true,dJ h,aa,cZ (by omega)]
    refine T.cond (λhc=>T.ret (.inr ⟨_,rfl,?_⟩)) λ_=>ih (i+1) (by omega) (by omega)
    have:x=l[i]:=by simpa using hc
    rw[this]
    exact ck h
   ·rw[df (by omega),cond_false]
    exact T.ret (.inl rfl)
 refine T.bind (P:=λr:Int=>0<=r->x∈l) ?_ λr hr=>T.ret λh=>hr (by have:=of_decide_eq_true h;omega)
 refine T.bind (key N 0 (by omega) (by omega)) λo ho=>?_;rcases ho with rfl | ⟨j,rfl,hm⟩
 ·exact T.ret λh=>by omega
 ·exact T.ret λ_=>hm
theorem texT(N:Nat)(hN:1000 < N)(t:aI)(ht:t.gL.length<=500):T (dW N t) (λc=>c=0->aOW t):=by
 unfold dW;refine T.bind (aO6 N hN [1,2,4,8,16] (by decide) t.gQ) λr1 h1=>?_;refine T.letO λx2 e2=>T.letO λx3 e3=>T.letO λx4 e4=>?_;subst e2 e3 e4;refine T.cond (λ_=>T.ret λh=>by cases h) λh2=>?_;have hr:r1=true:=by cases r1 with | true=>rfl | false=>cases h2
 subst hr;have hm:=h1 rfl;have hs:1<=t.gQ/\t.gQ<=16:=by
  simp only[d8,d9,or_false] at hm;omega
 have hn:(t.gL.length:Int)=t.gQ*t.gQ:=by
  rw[fc,cond_false] at h2;have h3:(t.gL.length:Int)=I64 (t.gQ*t.gQ):=by simpa using h2
  have:t.gQ*t.gQ<=16*16:=ki hs.2 hs.2 (by omega) (by decide)
  have:0<=t.gQ*t.gQ:=Int.mul_nonneg (by omega) (by omega)
  rw[h3,aR (by omega) (by omega)]
 refine T.letO λx5 e5=>?_;subst e5;have key:∀(k i:Nat),i<=t.gL.length->t.gL.length - i < k->T (iT N (t.gL.length:Int) t k (i:Int)) (λo=>o=Sum.inr 5\/(o=Sum.inl ()/\∀p∈t.gL.drop i,trG 256 p)):=by
  intro k
  induction k with
  | zero=>intro i _ h;omega
  | succ k ih=>
   intro i hi hk;rw[iT]
   by_cases h:i < t.gL.length
   ·rw[dt (by omega),cond_true,dJ h,aa,cZ (by omega)]
    have g0:(t.gL[i].toList[((0:Int).toNat)]?)=some t.gL[i][0]:=oT _ 0 (by decide)
    have g1:(t.gL[i].toList[((1:Int).toNat)]?)=some t.gL[i][1]:=oT _ 1 (by decide)
    have g2:(t.gL[i].toList[((2:Int).toNat)]?)=some t.gL[i][2]:=oT _ 2 (by decide)
    have i0:aP 0 3=some ():=rfl;have i1:aP 1 3=some ():=rfl;have i2:aP 2 3=some ():=rfl;simp only[i0,i1,i2,g0,g1,g2,aa]
    refine T.bind (P:=λc=>c=false->trG 256 t.gL[i]) ?_ λc hc=>T.cond (λ_=>T.ret (.inl rfl)) λh0=>?_
    ·refine T.letO λx hx=>T.cond (λ_=>T.ret λh=>by cases h) λh1=>T.letO λy hy=>T.ret λh2=>?_;subst hx hy;have h1:=aP5 (of_decide_eq_false h1)
     have h2:=aPY (of_decide_eq_false h2)
     exact⟨⟨h1.1,by omega⟩,⟨h1.2.1,by omega⟩,h1.2.2,by omega⟩
    ·refine T.mono (ih (i+1) (by omega) (by omega)) λo ho=>?_;rcases ho with ho | ⟨ho,hp⟩
     ·exact .inl ho
     ·refine .inr ⟨ho,λp hp'=>?_⟩
      rw[cp h] at hp';rcases d8.1 hp' with rfl | hp'
      ·exact hc h0
      ·exact hp p hp'
   ·obtain rfl:i=t.gL.length:=by omega
    rw[df (by omega),cond_false]
    exact T.ret (.inr ⟨rfl,λp hp=>by rw[f8] at hp;cases hp⟩)
 refine T.bind (key N 0 (by omega) (by omega)) λo ho=>?_;rcases ho with rfl | ⟨rfl,hp⟩
 ·exact T.ret λh=>by cases h
 ·exact T.ret λ_=>⟨hs,hn,λp h=>hp p (by simpa using h)⟩
theorem outT(N:Nat)(hN:1000 < N)(most:Int)(l:List Int)(hl:l.length<=500):T (iU N most l) (λr=>r=false->∀x∈l,0<=x/\x<=most):=by
 unfold iU;refine T.bind (P:=λr=>r=false->∀x∈l,¬ ¬(0<=x/\x<=most)) ?_ λr hr=>T.ret λh x hx=>Classical.not_not.1 (hr h x hx)
 unfold cM dE;refine aJ9 l (by omega) (λx=>¬(0<=x/\x<=most)) (F:=bJ N l most) (λk i h=>?_) (λk=>by rw[bJ,aC,df (by omega),cond_false]) (by omega)
 refine⟨cond (decide (l[i] < 0)) true (decide (l[i] > most)),λhc=>?_,?_⟩
 ·have:¬l[i] < 0/\¬l[i] > most:=by
   cases ha:decide (l[i] < 0) with
   | true=>rw[ha] at hc;cases hc
   | false=>rw[ha,cond_false] at hc;exact⟨of_decide_eq_false ha,of_decide_eq_false hc⟩
  exact Classical.not_not.2 ⟨by omega,by omega⟩
 ·rw[bJ,aC,dt (by omega),cond_true,dJ h,aa]
  rfl
structure MatG(m:aG):Prop where
 kind:0<=m.gD/\m.gD < 256
 color:trG 65536 m.gF
 rough:0<=m.gA5/\m.gA5 < 65536
theorem matT(N:Nat)(hN:1000 < N)(m:aG):T (nI N m) (λc=>c=0->MatG m):=by
 unfold nI;refine T.bind (P:=λc=>c=false->MatG m) ?_ λc hc=>T.cond (λ_=>T.ret λh=>by cases h) λh=>T.ret λ_=>hc h;refine T.bind (outT N hN 4 [m.gD] (by simp)) λr2 h2=>T.cond (λ_=>T.ret λh=>by cases h) λc2=>?_;rw[aIi,aI2,aIj,aa,aa,aa]
 refine T.bind (outT N hN 65535 [m.gF[0],m.gF[1],m.gF[2],m.gA5] (by simp)) λr6 h6=>T.ret λc6=>?_;have a:=h2 c2 m.gD (by simp)
 have b0:=h6 c6 m.gF[0] (by simp)
 have b1:=h6 c6 m.gF[1] (by simp)
 have b2:=h6 c6 m.gF[2] (by simp)
 have b3:=h6 c6 m.gA5 (by simp)
 exact⟨⟨a.1,by omega⟩,⟨⟨b0.1,by omega⟩,⟨b1.1,by omega⟩,b2.1,by omega⟩,b3.1,by omega⟩
structure aPo(l:aK):Prop where
 kind:0<=l.gD/\l.gD < 256
 color:trG 4294967296 l.gF
 at_:ptG l.gAt
 u:ptG l.gU
 v:ptG l.gV
theorem ligT(N:Nat)(hN:1000 < N)(l:aK):T (rJ N l) (λc=>c=0->aPo l):=by
 unfold rJ;refine T.bind (P:=λc=>c=false->(0<=l.gD/\l.gD < 256)/\trG 4294967296 l.gF) ?_ λc hc=>T.cond (λ_=>T.ret λh=>by cases h) λh=>?_
 ·refine T.bind (outT N hN 2 [l.gD] (by simp)) λr2 h2=>T.cond (λ_=>T.ret λh=>by cases h) λc2=>?_;rw[show dU l.gF.toList 0 3=some l.gF.toList from aJy (m:=3) _,aa]
  refine T.bind (outT N hN 1048576 l.gF.toList (by simp)) λr4 h4=>T.ret λc4=>?_;have a:=h2 c2 l.gD (by simp)
  have b0:=h4 c4 l.gF[0] (aQU _ (by decide))
  have b1:=h4 c4 l.gF[1] (aQU _ (by decide))
  have b2:=h4 c4 l.gF[2] (aQU _ (by decide))
  exact⟨⟨a.1,by omega⟩,⟨b0.1,by omega⟩,⟨b1.1,by omega⟩,b2.1,by omega⟩
 obtain⟨hk,hcol⟩:=hc h;refine T.bind (P:=λc=>c=false->ptG l.gAt/\ptG l.gU/\ptG l.gV) ?_ λc hc=>T.cond (λ_=>T.ret λh=>by cases h) λh=>?_
 ·exact T.bind (aQO N l.gAt) λr6 h6=>T.cond (λ_=>T.ret λh=>by cases h) λc6=>T.bind (aQO N l.gU) λr7 h7=>T.cond (λ_=>T.ret λh=>by cases h) λc7=>T.bind (aQO N l.gV) λr8 h8=>T.ret λc8=>⟨h6 c6,h7 c7,h8 c8⟩
 obtain⟨p1,p2,p3⟩:=hc h;have g:aPo l:=⟨hk,hcol,p1,p2,p3⟩
 refine T.bind (P:=λ_=>True) ?_ λo _=>?_
 ·refine T.cond (λ_=>T.cond (λ_=>T.ret trivial) λ_=>T.bind (P:=λ_=>True) ?_ λ_ _=>T.cond (λ_=>T.ret trivial) λ_=>T.ret trivial) λ_=>T.cond (λ_=>T.bind (P:=λ_=>True) ?_ λ_ _=>T.cond (λ_=>T.ret trivial) λ_=>T.ret trivial) λ_=>T.ret trivial
  ·exact T.letO λ_ _=>T.cond (λ_=>T.ret trivial) λ_=>T.ret trivial
  ·exact T.letO λ_ _=>T.cond (λ_=>T.ret trivial) λ_=>T.ret trivial
 ·cases o with
  | inl _=>exact T.ret λ_=>g
  | inr c=>exact T.ret λ_=>g
theorem aS0(a b:aB):aB.eq a b=true↔a=b:=by
 unfold aB.eq;simp only[aq,beq_iff_eq,and_true]
 constructor
 ·rintro⟨h1,h2,h3⟩
  cases a;cases b;dsimp only at *;subst h1 h2 h3;rfl
 ·rintro rfl;exact⟨rfl,rfl,rfl⟩
theorem aMF(a b:aG):aG.eq a b=true↔a=b:=by
 unfold aG.eq;simp only[aq,aGq,beq_iff_eq,and_true]
 constructor
 ·rintro⟨h1,h2,h3⟩
  cases a;cases b;dsimp only at *;subst h1 h2 h3;rfl
 ·rintro rfl;exact⟨rfl,rfl,rfl⟩
theorem aMk(a b:aK):aK.eq a b=true↔a=b:=by
 unfold aK.eq;simp only[aq,aGq,beq_iff_eq,and_true,aS0]
 constructor
 ·rintro⟨h1,h2,h3,h4,h5⟩
  cases a;cases b;dsimp only at *;subst h1 h2 h3 h4 h5;rfl
 ·rintro rfl;exact⟨rfl,rfl,rfl,rfl,rfl⟩
theorem aL9{α:Type}(eq:α->α->Bool)(heq:∀x y,eq x y=true↔x=y)(a b:List α)(hl:a.length<=100000){F:Nat->Int->Option (Sum Unit Bool)}
  (hstep:∀k i (h:i < a.length) (h':i < b.length),F (k+1) (i:Int)=cond (!eq a[i] b[i]) (some (Sum.inr false)) (F k (I64 ((i:Int)+1)))) (hend:∀k,F (k+1) (a.length:Int)=some (Sum.inl ())) {N:Nat} (hN:a.length < N) :
  T (aN ((a.length:Int) != (b.length:Int)) λx1=>cond x1 (some false) (ae (F N 0) λo=>qS o (λp2=>some true) (λr=>some r))) (λr=>r=true↔a=b):=by
 refine T.letO λx hx=>?_;subst hx;refine T.cond (λh=>T.ret ?_) λh=>?_
 ·have h:¬(a.length:Int)=(b.length:Int):=by simpa using h
  constructor
  ·intro e;cases e
  ·rintro rfl;exact absurd rfl h
 ·have h:(a.length:Int)=(b.length:Int):=by simpa using h
  have key:∀(k i:Nat),i<=a.length->a.length - i < k->T (ae (F k (i:Int)) λo=>qS o (λp2=>some true) (λr=>some r)) (λr=>r=true↔a.drop i=b.drop i):=by
   intro k
   induction k with
   | zero=>intro i _ h;omega
   | succ k ih=>
    intro i hi hk;by_cases h1:i < a.length
    ·rw[hstep k i h1 (by omega),cp h1,cp (show i < b.length by omega)]
     cases he:eq a[i] b[i] with
     | false=>
      refine⟨false,rfl,?_⟩
      constructor
      ·intro e;cases e
      ·intro e;have:=(List.cons.inj e).1;rw[(heq _ _).2 this] at he;cases he
     | true=>
      rw[fc,cond_false,cZ (by omega)]
      refine T.mono (ih (i+1) (by omega) (by omega)) λr hr=>?_;rw[hr,(heq _ _).1 he]
      constructor
      ·intro e;rw[e]
      ·intro e;exact(List.cons.inj e).2
    ·obtain rfl:i=a.length:=by omega
     rw[hend,f8,List.drop_of_length_le (by omega)]
     exact⟨true,rfl,by simp⟩
  exact T.mono (key N 0 (by omega) (by omega)) λr hr=>by simpa using hr
theorem aUf(N:Nat)(a b:List aB)(hl:a.length<=100000)(hN:a.length < N):T (lM N a b) (λr=>r=true↔a=b):=by
 unfold lM;exact aL9 aB.eq aS0 a b hl (F:=eW N a b) (λk i h h'=>by rw[eW,aC,dt (by omega),cond_true,dJ h,aa,dJ h',aa]) (λk=>by rw[eW,aC,df (by omega),cond_false]) hN
theorem aUm(N:Nat)(a b:List (Vector Int 2))(hl:a.length<=100000)(hN:a.length < N):T (oP N a b) (λr=>r=true↔a=b):=by
 unfold oP;exact aL9 (eqV (λa b=>a==b)) aGq a b hl (F:=jB N a b) (λk i h h'=>by rw[jB,aC,dt (by omega),cond_true,dJ h,aa,dJ h',aa]) (λk=>by rw[jB,aC,df (by omega),cond_false]) hN
theorem aP9(N:Nat)(a b:List (Vector Int 3))(hl:a.length<=100000)(hN:a.length < N):T (mM N a b) (λr=>r=true↔a=b):=by
 unfold mM;exact aL9 (eqV (λa b=>a==b)) aGq a b hl (F:=jJ N a b) (λk i h h'=>by rw[jJ,aC,dt (by omega),cond_true,dJ h,aa,dJ h',aa]) (λk=>by rw[jJ,aC,df (by omega),cond_false]) hN
structure aFp(a:aF):Prop where
 v:a.gW.gG.length<=500
 u:a.gW.gO.length<=500
 t:a.gW.gK.length<=500
 x:a.gA1.gL.length<=500
theorem aTD(N:Nat)(hN:1000 < N)(a b:aF)(h:aFp a):T (sV N a b) (λr=>r=true↔a=b):=by
 unfold sV;refine T.bind (P:=λr=>r=false↔(a.gD=b.gD/\a.gJ=b.gJ/\a.gE=b.gE/\a.gA1.gQ=b.gA1.gQ)) ?_ λp1 h1=>T.cond (λc=>T.ret ?_) λc=>?_
 ·refine T.cond (λc=>T.ret ?_) λc=>?_
  ·have c:¬a.gD=b.gD:=by simpa using c
   constructor
   ·intro e;cases e
   ·intro e;exact absurd e.1 c
  ·have c:a.gD=b.gD:=by simpa using c
   refine T.letO λx2 e2=>T.cond (λc2=>T.ret ?_) λc2=>T.letO λx3 e3=>T.letO λx4 e4=>T.ret ?_
   ·subst e2;constructor
    ·intro e;cases e
    ·intro e;rw[(aMF _ _).2 e.2.1] at c2;cases c2
   ·subst e2 e3 e4;have hm:aG.eq a.gJ b.gJ=true:=by simpa using c2
    have hm:=(aMF _ _).1 hm;constructor
    ·intro e;cases hl:aK.eq a.gE b.gE with
     | false=>rw[hl] at e;cases e
     | true=>
      rw[hl,fc,cond_false] at e;exact⟨c,hm,(aMk _ _).1 hl,by simpa using e⟩
    ·rintro⟨_,_,e1,e2⟩
     rw[(aMk _ _).2 e1,e2]
     simp
 ·constructor
  ·intro e;cases e
  ·rintro rfl;have:=h1.2 ⟨rfl,rfl,rfl,rfl⟩
   rw[this] at c;cases c
 ·obtain⟨g1,g2,g3,g4⟩:=h1.1 c;refine T.bind (P:=λr=>r=true↔(a.gW.gG=b.gW.gG/\a.gW.gO=b.gW.gO/\a.gW.gK=b.gW.gK/\a.gA1.gL=b.gA1.gL)) ?_ λr hr=>T.ret ?_
  ·refine T.bind (aUf N _ _ (by have:=h.v;omega) (by have:=h.v;omega)) λr6 h6=>T.cond (λc6=>?_) λc6=>T.ret ?_
   ·refine T.bind (aUm N _ _ (by have:=h.u;omega) (by have:=h.u;omega)) λr7 h7=>T.cond (λc7=>?_) λc7=>T.ret ?_
    ·refine T.bind (aP9 N _ _ (by have:=h.t;omega) (by have:=h.t;omega)) λr8 h8=>T.cond (λc8=>?_) λc8=>T.ret ?_
     ·refine T.bind (aP9 N _ _ (by have:=h.x;omega) (by have:=h.x;omega)) λr9 h9=>T.ret ?_;exact⟨λe=>⟨h6.1 c6,h7.1 c7,h8.1 c8,h9.1 e⟩,λe=>h9.2 e.2.2.2⟩
     ·exact⟨λe=>(by cases e),λe=>by rw[h8.2 e.2.2.1] at c8;cases c8⟩
    ·exact⟨λe=>(by cases e),λe=>by rw[h7.2 e.2.1] at c7;cases c7⟩
   ·exact⟨λe=>(by cases e),λe=>by rw[h6.2 e.1] at c6;cases c6⟩
  ·rw[hr]
   constructor
   ·rintro⟨q1,q2,q3,q4⟩
    obtain⟨k,⟨v,u,t⟩,⟨s,x⟩,m,l⟩:=a;obtain⟨k',⟨v',u',t'⟩,⟨s',x'⟩,m',l'⟩:=b;dsimp only at *;subst g1 g2 g3 g4 q1 q2 q3 q4;rfl
   ·rintro rfl;exact⟨rfl,rfl,rfl,rfl⟩
def ptB(p:aB):List Int:=leB 2 (p.gX % 65536)++(leB 2 (p.gY % 65536)++leB 2 (p.gZ % 65536))
def uvB(v:Vector Int 2):List Int:=leB 2 v[0]++leB 2 v[1]
def trB(w:Nat)(t:Vector Int 3):List Int:=leB w t[0]++(leB w t[1]++leB w t[2])
theorem aBR(p:aB):(ptB p).length=6:=by unfold ptB;simp[iI]
theorem aG0(p:Vector Int 2):(uvB p).length=4:=by unfold uvB;simp[iI]
theorem aEU(w:Nat)(p:Vector Int 3):(trB w p).length=3*w:=by unfold trB;simp[iI];omega
theorem aB3{α:Type}{f:α->List Int}{c:Nat}(h:∀x,(f x).length=c):∀(l:List α),(l.flatMap f).length=l.length*c
 | []=>by simp
 | a :: l=>by rw[cx,ai,h,aB3 h l,de,Nat.add_mul];omega
theorem aBZ{x:Int}(h:0<=x/\x < 256):leB 1 x=[x]:=by
 unfold leB;show [U8 (shr .u64 x ((8*0:Nat):Int))]=_;rw[aHH x 0 (by decide),show cH 0=1 from rfl,Int.ediv_one,tO h.1 h.2]
def aLn(m:aL):List Int:=leB 1 (m.gG.length:Int)++(leB 1 (m.gK.length:Int)++(m.gG.flatMap ptB++(m.gO.flatMap uvB++m.gK.flatMap (trB 1))))
def aPn(t:aI):List Int:=leB 1 t.gQ++t.gL.flatMap (trB 1)
def matB(m:aG):List Int:=leB 1 m.gD++(trB 2 m.gF++leB 2 m.gA5)
def ligB(l:aK):List Int:=leB 1 l.gD++(trB 4 l.gF++(ptB l.gAt++(ptB l.gU++ptB l.gV)))
theorem sgn3(N:Nat)(hN:20 < N)(b:List Int)(p:aB)(h:ptG p)(hb:b.length<=1000000):lW N b 2 [p.gX,p.gY,p.gZ]=some (b++ptB p,0):=by
 obtain⟨hx,hy,hz⟩:=h;have:=sgnP N b 2 (by decide) (by decide) [p.gX,p.gY,p.gZ] (by intro q hq;simp at hq;unfold aDQ;rcases hq with rfl | rfl | rfl <;> omega) (by omega) (by simp) (by omega) (by simp;omega)
 rw[show lW N b 2 [p.gX,p.gY,p.gZ]=_ from this]
 unfold aQS;have e:([p.gX,p.gY,p.gZ].any (aES 2))=false:=by
  simp[aES,show cH 2 / 2=32768 from rfl]
  omega
 rw[e,cond_false]
 unfold aI1;have e2:(([p.gX,p.gY,p.gZ].map (λx=>x % cH 2)).any (big 2))=false:=by
  simp[big,show cH 2=65536 from rfl]
  omega
 rw[e2,cond_false]
 unfold ptB;simp[show cH 2=65536 from rfl]
theorem meshE(N:Nat)(hN:1000 < N)(m:aL)(g:aJX m)(h0:kP N m=some 0):vL N m=some (aLn m,0):=by
 unfold vL;have nv:=g.nv;have nt:=g.nt;have nu:=g.nu;rw[h0,aa,show((0:Int) != 0)=false from rfl,cond_false,aC,aC,aC,tO (x:=(m.gG.length:Int)) (by omega) (by omega),tO (x:=(m.gK.length:Int)) (by omega) (by omega)]
 have l1:=mL m.gG.length (by omega) (λi=>ptB (m.gG.getD i ⟨0,0,0⟩)) (λs i=>s.length<=100+6*i) (pD N (m.gG.length:Int) m) (by intro s i hi hs;simp[aBR];omega) (λk s i hi hs=>by
  have hp:=g.v _ (ck hi)
  rw[pD,dt (by omega),cond_true,dJ hi,aa,sgn3 N (by omega) s _ hp (by omega),aa]
  rw[an,ah hi]
  rfl) (λk s=>by rw[pD,df (by omega),cond_false]) (N:=N) (by omega) (s:=[(m.gG.length:Int),(m.gK.length:Int)]) (by simp)
 rw[l1,aa]
 have hflat:∀{α:Type} (l:List α) (d:α) (f:α->List Int),(bo l.length).flatMap (λi=>f (l.getD i d))=l.flatMap f:=by
  intro α l d f
  induction l with
  | nil=>rfl
  | cons a l ih=>
   rw[de,jd,cx,lg]
   simp only[ka,kc,cx]
   rw[ih]
 rw[hflat m.gG ⟨0,0,0⟩ ptB]
 have hlen1:=aB3 aBR m.gG;have l2:=mL m.gO.length (by omega) (λi=>uvB (m.gO.getD i #v[0,0])) (λs i=>s.length<=1000+4*i) (pE N m) (by intro s i hi hs;simp[aG0];omega) (λk s i hi hs=>by
  have hp:=g.u _ (ck hi)
  rw[pE,aC,dt (by omega),cond_true,dJ hi,aa,show aP 0 2=some () from rfl,aa,show m.gO[i].toList[((0:Int).toNat)]? = some m.gO[i][0] from oT _ 0 (by decide),aa,show aP 1 2=some () from rfl,aa,show m.gO[i].toList[((1:Int).toNat)]? = some m.gO[i][1] from oT _ 1 (by decide),aa,eJ hp.1.1 (by have:=hp.1.2;omega),eJ hp.2.1 (by have:=hp.2.2;omega)]
  have e:=put2 N (by omega) s 2 (by decide) (by decide) m.gO[i][0] m.gO[i][1] ⟨hp.1.1,hp.1.2⟩ ⟨hp.2.1,hp.2.2⟩ (by omega)
  rw[show bO N s 2 [m.gO[i][0],m.gO[i][1]]=_ from e,aa,an,ah hi]
  rfl) (λk s=>by rw[pE,aC,df (by omega),cond_false]) (N:=N) (by omega) (s:=[(m.gG.length:Int),(m.gK.length:Int)]++m.gG.flatMap ptB) (by simp at hlen1 ⊢;omega)
 rw[l2,aa,hflat m.gO #v[0,0] uvB,aC]
 have hlen2:=aB3 aG0 m.gO;have l3:=mL m.gK.length (by omega) (λi=>trB 1 (m.gK.getD i #v[0,0,0])) (λs i=>s.length<=2000+3*i) (lJ N (m.gK.length:Int) m) (by intro s i hi hs;simp[aEU];omega) (λk s i hi hs=>by
  have hp:=g.t _ (ck hi)
  obtain⟨q0,q1,q2⟩:=hp;rw[lJ,dt (by omega),cond_true,dJ hi,aa,show aP 0 3=some () from rfl,aa,show m.gK[i].toList[((0:Int).toNat)]? = some m.gK[i][0] from oT _ 0 (by decide),aa,show aP 1 3=some () from rfl,aa,show m.gK[i].toList[((1:Int).toNat)]? = some m.gK[i][1] from oT _ 1 (by decide),aa,show aP 2 3=some () from rfl,aa,show m.gK[i].toList[((2:Int).toNat)]? = some m.gK[i][2] from oT _ 2 (by decide),aa,tO q0.1 q0.2,tO q1.1 q1.2,tO q2.1 q2.2,rE (by omega) (by simp),aa,an,ah hi]
  show lJ N _ m k (s++[m.gK[i][0],m.gK[i][1],m.gK[i][2]]) _=lJ N _ m k (s++trB 1 m.gK[i]) _;unfold trB;rw[aBZ q0,aBZ q1,aBZ q2]
  rfl) (λk s=>by rw[lJ,df (by omega),cond_false]) (N:=N) (by omega) (s:=[(m.gG.length:Int),(m.gK.length:Int)]++m.gG.flatMap ptB++m.gO.flatMap uvB) (by simp at hlen1 hlen2 ⊢;omega)
 rw[l3,aa,hflat m.gK #v[0,0,0] (trB 1)]
 unfold aLn;rw[aBZ (x:=(m.gG.length:Int)) ⟨by omega,by omega⟩,aBZ (x:=(m.gK.length:Int)) ⟨by omega,by omega⟩]
 simp[ap]
theorem hflat{α:Type}(l:List α)(d:α)(f:α->List Int):(bo l.length).flatMap (λi=>f (l.getD i d))=l.flatMap f:=by
 induction l with
 | nil=>rfl
 | cons a l ih=>
  rw[de,jd,cx,lg]
  simp only[ka,kc,cx]
  rw[ih]
theorem texE(N:Nat)(hN:1000 < N)(t:aI)(g:aOW t)(h0:dW N t=some 0):sF N t=some (aPn t,0):=by
 unfold sF;have n1:=g.side;have n2:=g.n;have n3:t.gQ*t.gQ<=16*16:=ki n1.2 n1.2 (by omega) (by decide)
 rw[h0,aa,show((0:Int) != 0)=false from rfl,cond_false,aC,tO (x:=t.gQ) (by omega) (by omega)]
 have l3:=mL t.gL.length (by omega) (λi=>trB 1 (t.gL.getD i #v[0,0,0])) (λs i=>s.length<=2000+3*i) (hZ N (t.gL.length:Int) t) (by intro s i hi hs;simp[aEU];omega) (λk s i hi hs=>by
  have hp:=g.t _ (ck hi)
  obtain⟨q0,q1,q2⟩:=hp;rw[hZ,dt (by omega),cond_true,dJ hi,aa,show aP 0 3=some () from rfl,aa,show t.gL[i].toList[((0:Int).toNat)]? = some t.gL[i][0] from oT _ 0 (by decide),aa,show aP 1 3=some () from rfl,aa,show t.gL[i].toList[((1:Int).toNat)]? = some t.gL[i][1] from oT _ 1 (by decide),aa,show aP 2 3=some () from rfl,aa,show t.gL[i].toList[((2:Int).toNat)]? = some t.gL[i][2] from oT _ 2 (by decide),aa,tO q0.1 q0.2,tO q1.1 q1.2,tO q2.1 q2.2,rE (by omega) (by simp),aa,an,ah hi]
  show hZ N _ t k (s++[t.gL[i][0],t.gL[i][1],t.gL[i][2]]) _=hZ N _ t k (s++trB 1 t.gL[i]) _;unfold trB;rw[aBZ q0,aBZ q1,aBZ q2]
  rfl) (λk s=>by rw[hZ,df (by omega),cond_false]) (N:=N) (by omega) (s:=[t.gQ]) (by simp)
 rw[l3,aa,hflat t.gL #v[0,0,0] (trB 1)]
 unfold aPn;rw[aBZ (x:=t.gQ) ⟨by omega,by omega⟩]
def aOJ(a:aF):Prop:=(a.gD=1/\aJX a.gW)\/(a.gD=2/\aOW a.gA1)\/(a.gD=3/\MatG a.gJ)\/(a.gD=4/\aPo a.gE)
def sK(a:aF):List Int:=if a.gD=1 then aLn a.gW else if a.gD=2 then aPn a.gA1 else if a.gD=3 then matB a.gJ else ligB a.gE
theorem ownT(N:Nat)(hN:1000 < N)(a:aF)(h:aFp a):T (nT N a) (λc=>c=0->aOJ a):=by
 unfold nT;refine T.cond (λc=>?_) λ_=>T.cond (λc=>?_) λ_=>T.cond (λc=>?_) λ_=>T.cond (λc=>?_) λ_=>T.ret λe=>by cases e
 ·exact T.bind (meshT N hN _ h.v h.u h.t) λr hr=>T.ret λe => .inl ⟨by simpa using c,hr e⟩
 ·exact T.bind (texT N hN _ h.x) λr hr=>T.ret λe => .inr (.inl ⟨by simpa using c,hr e⟩)
 ·exact T.bind (matT N hN _) λr hr=>T.ret λe => .inr (.inr (.inl ⟨by simpa using c,hr e⟩))
 ·exact T.bind (ligT N hN _) λr hr=>T.ret λe => .inr (.inr (.inr ⟨by simpa using c,hr e⟩))
theorem assE(N:Nat)(hN:1000 < N)(a:aF)(g:aOJ a)(h0:nT N a=some 0):rS N a=some (sK a):=by
 unfold rS sK;unfold nT at h0;rcases g with ⟨k,g⟩ | ⟨k,g⟩ | ⟨k,g⟩ | ⟨k,g⟩
 ·rw[k] at h0 ⊢;rw[show((1:Int)==1)=true from rfl,cond_true] at h0 ⊢;have h1:kP N a.gW=some 0:=by
   cases hc:kP N a.gW with
   | none=>rw[hc] at h0;cases h0
   | some r=>rw[hc] at h0;exact h0
  rw[meshE N hN _ g h1,if_pos rfl]
  rfl
 ·rw[k] at h0 ⊢;rw[show((2:Int)==1)=false from rfl,show((2:Int)==2)=true from rfl,cond_false,cond_true] at h0 ⊢;have h1:dW N a.gA1=some 0:=by
   cases hc:dW N a.gA1 with
   | none=>rw[hc] at h0;cases h0
   | some r=>rw[hc] at h0;exact h0
  rw[texE N hN _ g h1,if_neg (by decide),if_pos rfl]
  rfl
 ·rw[k,show((3:Int)==1)=false from rfl,show((3:Int)==2)=false from rfl,show((3:Int)==3)=true from rfl,cond_false,cond_false,cond_true,if_neg (by decide),if_neg (by decide),if_pos rfl]
  obtain⟨g1,⟨g2,g3,g4⟩,g5⟩:=g;rw[show aP 0 3=some () from rfl,aa,show a.gJ.gF.toList[((0:Int).toNat)]? = some a.gJ.gF[0] from oT _ 0 (by decide),aa,show aP 1 3=some () from rfl,aa,show a.gJ.gF.toList[((1:Int).toNat)]? = some a.gJ.gF[1] from oT _ 1 (by decide),aa,show aP 2 3=some () from rfl,aa,show a.gJ.gF.toList[((2:Int).toNat)]? = some a.gJ.gF[2] from oT _ 2 (by decide),aa,tO g1.1 g1.2]
  have l:=mL 4 (by decide) (λi=>leB 2 ([a.gJ.gF[0],a.gJ.gF[1],a.gJ.gF[2],a.gJ.gA5].getD i 0)) (λs i=>s.length<=100+2*i) (nV N a.gJ.gF[0] a.gJ.gF[1] a.gJ.gF[2] a) (by intro s i hi hs;simp[iI];omega) (λk s i hi hs=>by
   rw[nV,dt (by omega),cond_true,tY (by simp;omega),aa]
   have hx:0<=[a.gJ.gF[0],a.gJ.gF[1],a.gJ.gF[2],a.gJ.gA5].getD i 0/\[a.gJ.gF[0],a.gJ.gF[1],a.gJ.gF[2],a.gJ.gA5].getD i 0 < 65536:=by
    have:i=0\/i=1\/i=2\/i=3:=by omega
    rcases this with rfl | rfl | rfl | rfl
    ·exact g2
    ·exact g3
    ·exact g4
    ·exact g5
   rw[eJ hx.1 (by omega)]
   have e:=aMA N (by omega) s 2 (by decide) (by decide) _ hx.1 hx.2 (by omega)
   rw[show bO N s 2 _=_ from e,aa]) (λk s=>by rw[nV,df (by omega),cond_false]) (N:=N) (by omega) (s:=[a.gJ.gD]) (by simp)
  rw[l,aa]
  unfold matB trB;rw[aBZ g1]
  rfl
 ·rw[k,show((4:Int)==1)=false from rfl,show((4:Int)==2)=false from rfl,show((4:Int)==3)=false from rfl,cond_false,cond_false,cond_false,if_neg (by decide),if_neg (by decide),if_neg (by decide)]
  obtain⟨g1,⟨g2,g3,g4⟩,g5,g6,g7⟩:=g;rw[show aP 0 3=some () from rfl,aa,show a.gE.gF.toList[((0:Int).toNat)]? = some a.gE.gF[0] from oT _ 0 (by decide),aa,show aP 1 3=some () from rfl,aa,show a.gE.gF.toList[((1:Int).toNat)]? = some a.gE.gF[1] from oT _ 1 (by decide),aa,show aP 2 3=some () from rfl,aa,show a.gE.gF.toList[((2:Int).toNat)]? = some a.gE.gF[2] from oT _ 2 (by decide),aa,tO g1.1 g1.2]
  rw[eJ g2.1 (by omega),eJ g3.1 (by omega),eJ g4.1 (by omega)]
  have e:=put3 N (by omega) [a.gE.gD] 4 (by decide) (by decide) a.gE.gF[0] a.gE.gF[1] a.gE.gF[2] g2 g3 g4 (by simp)
  rw[show bO N [a.gE.gD] 4 [a.gE.gF[0],a.gE.gF[1],a.gE.gF[2]]=_ from e,aa]
  have l:=mL 3 (by decide) (λi=>ptB ([a.gE.gAt,a.gE.gU,a.gE.gV].getD i ⟨0,0,0⟩)) (λs i=>s.length<=100+6*i) (nY N a) (by intro s i hi hs;simp[aBR];omega) (λk s i hi hs=>by
   rw[nY,dt (by omega),cond_true,dJ (by simp;omega),aa]
   have hx:ptG ([a.gE.gAt,a.gE.gU,a.gE.gV][i]'(by simp;omega)):=by
    have:i=0\/i=1\/i=2:=by omega
    rcases this with rfl | rfl | rfl
    ·exact g5
    ·exact g6
    ·exact g7
   rw[sgn3 N (by omega) s _ hx (by omega),aa]
   rw[an,ah (by simp;omega)]
   rfl) (λk s=>by rw[nY,df (by omega),cond_false]) (N:=N) (by omega) (s:=[a.gE.gD]++(leB 4 a.gE.gF[0]++(leB 4 a.gE.gF[1]++leB 4 a.gE.gF[2]))) (by simp[iI])
  rw[l,aa]
  unfold ligB trB;rw[aBZ g1]
  show some (_++(bo 3).flatMap _)=_;rw[show(bo 3).flatMap (λi=>ptB ([a.gE.gAt,a.gE.gU,a.gE.gV].getD i ⟨0,0,0⟩))=ptB a.gE.gAt++(ptB a.gE.gU++ptB a.gE.gV) by
   simp[List.range_succ,cx]]
  simp[ap]
def vI : aL:=aL.mk [] [] []
def aAq : aI:=aI.mk 0 []
def aBB : aG:=aG.mk 0 (#v[0,0,0]) 0
def zPt : aB:=aB.mk 0 0 0
def aA5 : aK:=aK.mk 0 (#v[0,0,0]) zPt zPt zPt
def zA(k:Int):aF:=aF.mk k vI aAq aBB aA5
def tL(a:aF):Prop:=(a.gD=1->a=aF.mk 1 a.gW aAq aBB aA5)/\(a.gD=2->a=aF.mk 2 vI a.gA1 aBB aA5)/\(a.gD=3->a=aF.mk 3 vI aAq a.gJ aA5)/\(a.gD=4->a=aF.mk 4 vI aAq aBB a.gE)
theorem aSp(N:Nat)(a:aF)(h:aFp a):T (wR N a) (λb=>aFp b/\(b=zA a.gD->tL a)/\(tL a->aOJ a->b=zA a.gD)):=by
 obtain⟨k,⟨v,u,t⟩,⟨s,x⟩,⟨mk,mc,mr⟩,⟨lk,lc,⟨ax,ay,az⟩,⟨ux,uy,uz⟩,⟨vx,vy,vz⟩⟩⟩:=a;obtain⟨h1,h2,h3,h4⟩:=h;unfold wR;dsimp only at h1 h2 h3 h4 ⊢;have hk:k=1\/k=2\/k=3\/k=4\/(k≠1/\k≠2/\k≠3/\k≠4):=by omega
 rcases hk with rfl | rfl | rfl | rfl | ⟨n1,n2,n3,n4⟩
 ·rw[show((1:Int)==1)=true from rfl,cond_true,aa]
  refine T.ret ⟨⟨by simp,by simp,by simp,h4⟩,λe=>?_,λe _=>?_⟩
  ·simp only[zA,vI,aAq,aBB,aA5,zPt,aF.mk.injEq,aI.mk.injEq,aG.mk.injEq,aK.mk.injEq,aB.mk.injEq] at e;refine⟨λ_=>?_,λh=>(by cases h),λh=>(by cases h),λh=>by cases h⟩
   simp only[zA,vI,aAq,aBB,aA5,zPt,aF.mk.injEq,aI.mk.injEq,aG.mk.injEq,aK.mk.injEq,aB.mk.injEq]
   simp[e]
  ·have e:=e.1 rfl;simp only[zA,vI,aAq,aBB,aA5,zPt,aF.mk.injEq,aI.mk.injEq,aG.mk.injEq,aK.mk.injEq,aB.mk.injEq] at e ⊢;simp[e]
 ·rw[show((2:Int)==1)=false from rfl,show((2:Int)==2)=true from rfl,cond_false,cond_true,aa]
  refine T.ret ⟨⟨h1,h2,h3,by simp⟩,λe=>?_,λe _=>?_⟩
  ·simp only[zA,vI,aAq,aBB,aA5,zPt,aF.mk.injEq,aL.mk.injEq,aI.mk.injEq,aG.mk.injEq,aK.mk.injEq,aB.mk.injEq] at e;refine⟨λh=>(by cases h),λ_=>?_,λh=>(by cases h),λh=>by cases h⟩
   simp only[zA,vI,aAq,aBB,aA5,zPt,aF.mk.injEq,aL.mk.injEq,aI.mk.injEq,aG.mk.injEq,aK.mk.injEq,aB.mk.injEq]
   simp[e]
  ·have e:=e.2.1 rfl;simp only[zA,vI,aAq,aBB,aA5,zPt,aF.mk.injEq,aL.mk.injEq,aI.mk.injEq,aG.mk.injEq,aK.mk.injEq,aB.mk.injEq] at e ⊢;simp[e]
 ·rw[show((3:Int)==1)=false from rfl,show((3:Int)==2)=false from rfl,show((3:Int)==3)=true from rfl,cond_false,cond_false,cond_true,aa]
  refine T.ret ⟨⟨h1,h2,h3,h4⟩,λe=>?_,λe _=>?_⟩
  ·simp only[zA,vI,aAq,aBB,aA5,zPt,aF.mk.injEq,aL.mk.injEq,aI.mk.injEq,aG.mk.injEq,aK.mk.injEq,aB.mk.injEq] at e;refine⟨λh=>(by cases h),λh=>(by cases h),λ_=>?_,λh=>by cases h⟩
   simp only[zA,vI,aAq,aBB,aA5,zPt,aF.mk.injEq,aL.mk.injEq,aI.mk.injEq,aG.mk.injEq,aK.mk.injEq,aB.mk.injEq]
   simp[e]
  ·have e:=e.2.2.1 rfl;simp only[zA,vI,aAq,aBB,aA5,zPt,aF.mk.injEq,aL.mk.injEq,aI.mk.injEq,aG.mk.injEq,aK.mk.injEq,aB.mk.injEq] at e ⊢;simp[e]
 ·rw[show((4:Int)==1)=false from rfl,show((4:Int)==2)=false from rfl,show((4:Int)==3)=false from rfl,show((4:Int)==4)=true from rfl,cond_false,cond_false,cond_false,cond_true,aa]
  refine T.ret ⟨⟨h1,h2,h3,h4⟩,λe=>?_,λe _=>?_⟩
  ·simp only[zA,vI,aAq,aBB,aA5,zPt,aF.mk.injEq,aL.mk.injEq,aI.mk.injEq,aG.mk.injEq,aK.mk.injEq,aB.mk.injEq] at e;refine⟨λh=>(by cases h),λh=>(by cases h),λh=>(by cases h),λ_=>?_⟩
   simp only[zA,vI,aAq,aBB,aA5,zPt,aF.mk.injEq,aL.mk.injEq,aI.mk.injEq,aG.mk.injEq,aK.mk.injEq,aB.mk.injEq]
   simp[e]
  ·have e:=e.2.2.2 rfl;simp only[zA,vI,aAq,aBB,aA5,zPt,aF.mk.injEq,aL.mk.injEq,aI.mk.injEq,aG.mk.injEq,aK.mk.injEq,aB.mk.injEq] at e ⊢;simp[e]
 ·rw[show(k==1)=false by simpa using n1,show(k==2)=false by simpa using n2,show(k==3)=false by simpa using n3,show(k==4)=false by simpa using n4,cond_false,cond_false,cond_false,cond_false,aa]
  refine T.ret ⟨⟨h1,h2,h3,h4⟩,λ_=>⟨λh=>absurd h n1,λh=>absurd h n2,λh=>absurd h n3,λh=>absurd h n4⟩,λ_ g=>?_⟩
  rcases g with ⟨g,_⟩ | ⟨g,_⟩ | ⟨g,_⟩ | ⟨g,_⟩
  ·exact absurd g n1
  ·exact absurd g n2
  ·exact absurd g n3
  ·exact absurd g n4
structure aGK(N:Nat)(a:aF):Prop where
 own0:nT N a=some 0
 own:aOJ a
 clean:tL a
 cap:((sK a).length:Int)<=zO a.gD
theorem aQE(N:Nat)(hN:1000 < N)(a:aF)(h:aFp a):T (nL N a) (λc=>(c=0->aGK N a)/\(aGK N a->c=0)):=by
 unfold nL;obtain⟨r1,e1,h1⟩:=ownT N hN a h;rw[e1,aa]
 refine T.cond (λc=>T.ret ⟨λe=>?_,λg=>?_⟩) λc=>?_
 ·subst e;cases c
 ·have:=g.own0;rw[e1] at this;cases this;cases c
 ·have hr:r1=0:=by simpa using c
  subst hr;have hown:=h1 rfl;obtain⟨b,eb,hb1,hb2,hb3⟩:=aSp N a h;rw[eb,aa]
  obtain⟨r3,e3,h3⟩:=aTD N hN b (zA a.gD) hb1;rw[show sV N b (aF.mk a.gD (aL.mk [] [] []) (aI.mk 0 []) (aG.mk 0 (#v[0,0,0]) 0) (aK.mk 0 (#v[0,0,0]) (aB.mk 0 0 0) (aB.mk 0 0 0) (aB.mk 0 0 0)))=some r3 from e3,aa]
  refine T.cond (λc3=>T.ret ⟨λe=>(by cases e),λg=>?_⟩) λc3=>?_
  ·have:=h3.2 (hb3 g.clean g.own)
   rw[this] at c3;cases c3
  ·have hr3:r3=true:=by simpa using c3
   have hclean:=hb2 (h3.1 hr3)
   rw[assE N hN a hown e1,aa,capP,aa]
   refine T.letO λx hx=>?_;subst hx;refine T.cond (λc4=>T.ret ⟨λe=>(by cases e),λg=>?_⟩) λc4=>T.ret ⟨λ_=>⟨e1,hown,hclean,?_⟩,λ_=>rfl⟩
   ·have:=g.cap;have:=of_decide_eq_true c4;omega
   ·have:=of_decide_eq_false c4;omega
theorem aNa(N:Nat)(hN:1000 < N)(a:aF)(h:aFp a):T (pW N a) (λr=>(r.2=0/\aGK N a/\r.1=sK a)\/(r.2≠0/\r.1=[]/\¬aGK N a)):=by
 unfold pW;refine T.bind (aQE N hN a h) λc hc=>T.cond (λe=>T.ret ?_) λe=>?_
 ·have e:c≠0:=by simpa using e
  exact .inr ⟨e,rfl,λg=>e (hc.2 g)⟩
 ·have e:c=0:=by simpa using e
  have g:=hc.1 e;rw[assE N hN a g.own g.own0,aa]
  exact T.ret (.inl ⟨rfl,g,rfl⟩)
def RdQ{α:Type}(f:α->List Int)(P:α->Prop)(c:Nat)(b:List Int)(e:Int)(b':List Int)(e':Int)(x:α):Prop:=
 aQ b'/\b'.length<=b.length/\((e'=0/\e=0/\b=f x++b'/\P x)\/(e'≠0/\(e=0->b.length < c)))
def ptR(p:aB):Prop:=(-32768<=p.gX/\p.gX < 32768)/\(-32768<=p.gY/\p.gY < 32768)/\(-32768<=p.gZ/\p.gZ < 32768)
theorem ptG.r{p:aB}(h:ptG p):ptR p:=by obtain⟨h1,h2,h3⟩:=h;exact⟨⟨by omega,by omega⟩,⟨by omega,by omega⟩,by omega,by omega⟩
structure MeshR(m:aL):Prop where
 nv:m.gG.length < 256
 nt:m.gK.length < 256
 nu:m.gO.length=m.gG.length
 v:∀p∈m.gG,ptR p
 u:∀p∈m.gO,uvG p
 t:∀p∈m.gK,trG 256 p
theorem aJX.r{m:aL}(g:aJX m):MeshR m:=⟨by have:=g.nv;omega,by have:=g.nt;omega,g.nu,λp h=>(g.v p h).r,g.u,g.t⟩
structure TexR(t:aI):Prop where
 side:0<=t.gQ/\t.gQ < 256
 n:(t.gL.length:Int)=t.gQ*t.gQ
 t:∀p∈t.gL,trG 256 p
theorem aOW.r{t:aI}(g:aOW t):TexR t:=⟨⟨by have:=g.side;omega,by have:=g.side;omega⟩,g.n,g.t⟩
def LigR(l:aK):Prop:=(0<=l.gD/\l.gD < 256)/\trG 4294967296 l.gF/\ptR l.gAt/\ptR l.gU/\ptR l.gV
theorem aPo.r{l:aK}(g:aPo l):LigR l:=⟨g.kind,g.color,g.at_.r,g.u.r,g.v.r⟩
set_option maxHeartbeats 2000000
theorem RdQ.seq{α β:Type}{f:α->List Int}{P:α->Prop}{c:Nat}{g:β->List Int}{Q:β->Prop}{d:Nat}{b b1 b2:List Int}{e e1 e2:Int}{x:α}{y:β}(hf:∀x,(f x).length=c)(h:RdQ f P c b e b1 e1 x)(k:RdQ g Q d b1 e1 b2 e2 y):RdQ (λp:α×β=>f p.1++g p.2) (λp=>P p.1/\Q p.2) (c+d) b e b2 e2 (x,y):=by
 obtain⟨h1,h2,h3⟩:=h;obtain⟨k1,k2,k3⟩:=k;refine⟨k1,by omega,?_⟩
 rcases k3 with ⟨q1,q2,q3,q4⟩ | ⟨q1,q2⟩
 ·subst q2;rcases h3 with ⟨_,i2,i3,i4⟩ | ⟨i1,_⟩
  ·exact .inl ⟨q1,i2,by rw[i3,q3,ap],i4,q4⟩
  ·exact absurd rfl i1
 ·refine .inr ⟨q1,λhe=>?_⟩
  rcases h3 with ⟨i1,_,i3,_⟩ | ⟨_,i1⟩
  ·have hl:=congrArg mh i3;rw[ai,hf] at hl;have:=q2 i1;omega
  ·have:=i1 he;omega
set_option maxHeartbeats 1000000
def xA(base:Vector Int 8)(m:aE):List Int:=[85,77,66,49]++(base.toList++aGh m)
theorem sZ(base:Vector Int 8)(m:aE):(xA base m).length=47:=by unfold xA;simp[aG9]
def yK(N:Nat)(key:Vector Int 32)(base:Vector Int 8)(m:aE):List Int:=aBs N key (aJw N base 0) (xA base m) []
theorem zV(N:Nat)(hN:70000<=N)(key:Vector Int 32)(base:Vector Int 8)(m:aE):(yK N key base m).length=16:=by
 unfold yK;rw[aCh N hN key _ _ (by simp)];rfl
theorem aGC(N:Nat)(hN:70000<=N)(key:Vector Int 32)(base:Vector Int 8)(m:aE):aQ (yK N key base m):=by
 unfold yK;exact aGS N hN key _ _ (by rw[sZ];omega) (by simp)
def aFH(i n:Nat):List Int:=leB 2 (i:Int)++leB 2 (n:Int)
theorem uB(i n:Nat):(aFH i n).length=4:=by unfold aFH;simp[iI]
theorem aG8(i n:Nat):aQ (aFH i n):=(pG _ _).app (pG _ _)
def aPC(N:Nat)(key:Vector Int 32)(base:Vector Int 8)(mark:List Int)(i:Nat)(p:List Int):List Int:=aBs N key (aJw N base ((i+1:Nat):Int)) (aFH i p.length++mark) p
def aFX(N:Nat)(key:Vector Int 32)(base:Vector Int 8)(mark:List Int)(i:Nat)(p:List Int):List Int:=aFH i p.length++aPC N key base mark i p
theorem aD6(N:Nat)(hN:70000<=N)(key:Vector Int 32)(base:Vector Int 8)(mark:List Int)(i:Nat){p:List Int}(hp:p.length<=65536):(aFX N key base mark i p).length=p.length+20:=by
 unfold aFX aPC;rw[ai,uB,aCh N hN key _ _ hp];omega
def aBA(N:Nat)(key:Vector Int 32)(base:Vector Int 8)(mark:List Int):Nat->Nat->List Int->List Int
 | 0,_,_=>[]
 | c+1,i,l=>aFX N key base mark i (l.take 256)++aBA N key base mark c (i+1) (l.drop 256)
def nCh(n:Nat):Nat:=(n+255) / 256
theorem aPM(n:Nat):sS (n:Int)=(nCh n:Int):=by unfold sS nCh;split <;> omega
theorem aJJ(N:Nat)(hN:70000<=N)(key:Vector Int 32)(base:Vector Int 8)(mark:List Int):∀(c i:Nat) (l:List Int),(aBA N key base mark c i l).length=(min l.length (256*c))+20*c
 | 0,_,_=>by simp[aBA]
 | c+1,i,l=>by
  rw[aBA,ai,aD6 N hN key base mark i (by simp;omega),aJJ N hN key base mark c (i+1),bp,ca]
  omega
theorem aUy(N:Nat)(hN:70000<=N)(key:Vector Int 32)(base:Vector Int 8)(s mark q:List Int)(i:Nat)(p:List Int)(hm:mark.length=16)(hi:i < 1000)(hp:p.length<=256)(hs:s.length<=100000) :
  sB N s key base mark q (i:Int) p=some (s++aFX N key base mark i p):=by
 unfold sB;have e:=put2 N (by omega) [] 2 (by decide) (by decide) (i:Int) (p.length:Int) ⟨by omega,by rw[show cH 2=65536 from rfl];omega⟩ ⟨by omega,by rw[show cH 2=65536 from rfl];omega⟩ (by simp)
 rw[eJ (x:=(p.length:Int)) (by omega) (by omega),aC,eJ (x:=(i:Int)) (by omega) (by omega),show bO N [] 2 [(i:Int),(p.length:Int)]=_ from e,aa,cZ (by omega),nonP N (by omega),aa]
 dsimp only;rw[dm,show leB 2 (i:Int)++leB 2 (p.length:Int)=aFH i p.length from rfl,aP8 N [aFH i p.length,mark] (by simp) (by show 2 < N;omega) (by intro l hl;simp only[d8,d9,or_false] at hl;rcases hl with rfl | rfl;rw[uB];omega;omega),aa]
 have e2:[aFH i p.length,mark].flatten=aFH i p.length++mark:=by simp
 rw[e2,aTC N hN key _ _ p (by rw[ai,uB];omega) (by omega),aa,rE (by omega) (by rw[uB];omega),aa]
 dsimp only;rw[rE (by rw[ai,uB];omega) (by rw[aCh N hN key _ _ (by omega)];omega),aa,ap]
 rfl
theorem aQp{α:Type}(l:List α):l.take (min l.length 256)=l.take 256:=by
 by_cases h:l.length<=256
 ·rw[Nat.min_eq_left h,ir,ar h]
 ·rw[Nat.min_eq_right (by omega)]
theorem aQk{α:Type}(l:List α):l.drop (min l.length 256)=l.drop 256:=by
 by_cases h:l.length<=256
 ·rw[Nat.min_eq_left h,f8,List.drop_eq_nil_of_le h]
 ·rw[Nat.min_eq_right (by omega)]
theorem aTG(N:Nat)(hN:70000<=N)(key:Vector Int 32)(base:Vector Int 8)(mark:List Int)(hm:mark.length=16):∀(k:Nat) (s l:List Int) (i:Nat),nCh l.length < k->i+nCh l.length<=100->s.length+300*nCh l.length<=100000 ->
  cN N key base mark k s l (i:Int)=some (s++aBA N key base mark (nCh l.length) i l,[])
 | 0,_,_,_,h,_,_=>by omega
 | k+1,s,l,i,hk,hi,hs=>by
  rw[cN,aC]
  by_cases h:l.length=0
  ·obtain rfl:=List.eq_nil_of_length_eq_zero h;rw[df (by simp),cond_false,show nCh ([]:List Int).length=0 from rfl,aBA,dq]
  ·have hn:nCh l.length=nCh (l.drop 256).length+1:=by unfold nCh;rw[ca];omega
   rw[dt (by omega),cond_true,show(256:Int)=((256:Nat):Int) from rfl,aE3,aC,aQL (by omega),aa,aQp,aUy N hN key base s mark l i _ hm (by omega) (by simp;omega) (by omega),aa,aJO (by omega),aa,aQk,cZ (by omega)]
   rw[aTG N hN key base mark hm k _ (l.drop 256) (i+1) (by omega) (by omega) (by rw[ai,aD6 N hN key base mark i (by simp;omega),bp];omega)]
   rw[hn,aBA,ap]
def aAa(N:Nat)(key:Vector Int 32)(base:Vector Int 8)(m:aE)(p:List Int):List Int:=
 xA base m++(yK N key base m++aBA N key base (yK N key base m) (nCh p.length) 0 p)
theorem aK5(N:Nat)(hN:70000<=N)(key:Vector Int 32)(base:Vector Int 8)(m:aE)(p:List Int):(aAa N key base m p).length=63+p.length+20*nCh p.length:=by
 unfold aAa;rw[ai,ai,sZ,zV N hN,aJJ N hN]
 unfold nCh;omega
def vG(m:aE)(n:Nat):aE:=aE.mk m.gId m.gD m.gA6 m.gA3 m.gA4 m.gTo (n:Int) (nCh n:Int)
theorem aRD(k:Int):zO k<=2048:=by unfold zO;split;decide;split;decide;split;decide;split <;> decide
theorem aEo{m:aE}(t:aHB m){n:Nat}(h:n<=2048):aHB (vG m n):=
 ⟨t.id,t.kind,t.label,t.masks,t.fr,t.to,⟨by show _<=(n:Int);omega,by show(n:Int)<=_;omega⟩,⟨by show _<=(nCh n:Int);omega,by show(nCh n:Int)<=_;unfold nCh;omega⟩⟩
theorem aGK.len{N:Nat}{a:aF}(g:aGK N a):(sK a).length<=2048:=by have:=g.cap;have:=aRD a.gD;omega
theorem aTA(N:Nat)(hN:70000<=N)(key:Vector Int 32)(base:Vector Int 8)(m:aE)(a:aF)(t:aHB m)(hA:aFp a) :
  T (rF N key base m a) (λr=>(r.2=0/\aGK N a/\m.gD=a.gD/\tV (vG m (sK a).length)=0/\r.1=aAa N key base (vG m (sK a).length) (sK a))\/(r.2≠0/\r.1=[]/\¬(aGK N a/\m.gD=a.gD/\tV (vG m (sK a).length)=0))):=by
 unfold rF;obtain⟨r1,e1,h1⟩:=aNa N (by omega) a hA;rw[e1,aa]
 rcases h1 with ⟨c,g,h⟩ | ⟨c,_,h⟩
 rotate_left
 ·rw[show(r1.2 != 0)=true by simpa using c,cond_true]
  exact T.ret (.inr ⟨c,rfl,λq=>h q.1⟩)
 ·rw[c,show((0:Int) != 0)=false from rfl,cond_false,h]
  have hl:=g.len;by_cases hk:m.gD=a.gD
  rotate_left
  ·rw[show(m.gD != a.gD)=true by simpa using hk,cond_true]
   exact T.ret (.inr ⟨by decide,rfl,λq=>hk q.2.1⟩)
  rw[show(m.gD != a.gD)=false by simpa using hk,cond_false,aKP N ⟨by omega,by omega⟩,aa,aPM]
  have e3:=aSi N (by omega) (vG m (sK a).length) (aEo t hl)
  rw[show lP N (aE.mk m.gId m.gD m.gA6 m.gA3 m.gA4 m.gTo ((sK a).length:Int) (nCh (sK a).length:Int))=_ from e3,aa]
  by_cases hc:tV (vG m (sK a).length)=0
  rotate_left
  ·rw[if_neg hc]
   dsimp only;rw[show(tV (vG m (sK a).length) != 0)=true by simpa using hc,cond_true]
   exact T.ret (.inr ⟨hc,rfl,λq=>hc q.2.2⟩)
  rw[if_pos hc]
  dsimp only;rw[show((0:Int) != 0)=false from rfl,cond_false,show dU base.toList 0 8=some base.toList from aJy (m:=8) _,aa]
  rw[aP8 N [[85,77,66,49],base.toList,aGh (vG m (sK a).length)] (by simp) (by show 3 < N;omega) (by intro l hl;simp only[d8,d9,or_false] at hl;rcases hl with rfl | rfl | rfl;simp;simp;rw[aG9];omega),aa]
  rw[show([[85,77,66,49],base.toList,aGh (vG m (sK a).length)]:List (List Int)).flatten=xA base (vG m (sK a).length) by unfold xA;simp,nonP N (by omega),aa]
  rw[aTC N hN key _ _ [] (by rw[sZ];omega) (by simp),aa]
  dsimp only;rw[show aBs N key (aJw N base 0) (xA base (vG m (sK a).length)) []=yK N key base (vG m (sK a).length) from rfl]
  have hm:=zV N hN key base (vG m (sK a).length)
  rw[rE (by rw[sZ];omega) (by omega),aa]
  rw[show vS N (sK a)=some () from rfl,aa]
  unfold eU;have hn:nCh (sK a).length<=8:=by unfold nCh;omega
  have e:=aTG N hN key base (yK N key base (vG m (sK a).length)) hm N (xA base (vG m (sK a).length)++yK N key base (vG m (sK a).length)) (sK a) 0 (by omega) (by omega) (by rw[ai,sZ,hm];omega)
  rw[show((0:Nat):Int)=0 from rfl] at e;rw[e,aa,aa]
  refine T.ret (.inl ⟨rfl,g,hk,hc,?_⟩)
  unfold aAa;rw[ap]
theorem toB'{x:Int}(h:isB x):((UInt8.ofNat x.toNat).toNat:Int)=x:=by
 obtain⟨h0,h1⟩:=h;have e:(UInt8.ofNat x.toNat).toNat=x.toNat % 256:=UInt8.toNat_ofNat';rw[e];omega
theorem aLE : ∀{a b:List Int},aQ a->aQ b->(a.map λx=>UInt8.ofNat x.toNat)=(b.map λx=>UInt8.ofNat x.toNat)->a=b
 | [],[],_,_,_=>rfl
 | [],b :: l,_,_,h=>by simp at h
 | a :: l,[],_,_,h=>by simp at h
 | a :: l,b :: r,ha,hb,h=>by
  simp only[List.map_cons,List.cons.injEq] at h;have h1:=congrArg (λu:UInt8=>(u.toNat:Int)) h.1;rw[toB' (ha a (by simp)),toB' (hb b (by simp))] at h1;rw[h1,aLE (λx hx=>ha x (by simp[hx])) (λx hx=>hb x (by simp[hx])) h.2]
theorem aUE(N:Nat){a b:List Int}(ha:aQ a)(hb:aQ b):rK N a b=some (decide (a=b)):=by
 unfold rK;rw[aC]
 congr 1;rw[ByteArray.toList_eq,ByteArray.toList_eq,Bool.eq_iff_iff,beq_iff_eq,decide_eq_true_eq]
 unfold aIr;dsimp only;exact⟨aLE ha hb,λh=>by rw[h]⟩
theorem aGI{base:Vector Int 8}{m:aE}(hb:eH base)(r:aOS m):aQ (xA base m):=by
 unfold xA;refine aQ.app ?_ (hb.app (aMh r.masks))
 intro x hx;simp only[d8,d9,or_false] at hx;rcases hx with rfl | rfl | rfl | rfl <;> exact⟨by decide,by decide⟩
def aJg(N:Nat)(key:Vector Int 32)(base:Vector Int 8)(m:aE)(b:List Int):Prop:=
 eH base/\aOS m/\tV m=0/\b=xA base m++(yK N key base m++b.drop 63)
theorem aJg.len{N:Nat}(hN:70000<=N){key:Vector Int 32}{base:Vector Int 8}{m:aE}{b:List Int}(h:aJg N key base m b):63<=b.length:=by
 have:=congrArg mh h.2.2.2;rw[ai,ai,sZ,zV N hN] at this;omega
theorem aJg.of{N:Nat}(hN:70000<=N)(key:Vector Int 32){base:Vector Int 8}{m:aE}(hb:eH base)(r:aOS m)(h0:tV m=0)(x:List Int):aJg N key base m (xA base m++(yK N key base m++x))/\(xA base m++(yK N key base m++x)).drop 63=x:=by
 have e:(xA base m++(yK N key base m++x)).drop 63=x:=by
  rw[<- ap,List.drop_left' (by rw[ai,sZ,zV N hN])]
 exact⟨⟨hb,r,h0,by rw[e]⟩,e⟩
theorem aGR(N:Nat)(hN:70000<=N)(key:Vector Int 32)(base:Vector Int 8)(mark:List Int)(hm:mark.length=16):∀(c i:Nat) (l:List Int),aQ (aBA N key base mark c i l)
 | 0,_,_=>aCn
 | c+1,i,l=>by
  rw[aBA]
  refine aQ.app ?_ (aGR N hN key base mark hm c (i+1) _)
  unfold aFX aPC;exact(aG8 _ _).app (aGS N hN key _ _ (by rw[ai,uB];omega) (by simp;omega))
theorem aIl{N:Nat}(hN:70000<=N)(key:Vector Int 32){base:Vector Int 8}(hb:eH base){m:aE}(r:aOS m)(p:List Int):aQ (aAa N key base m p):=by
 unfold aAa;exact(aGI hb r).app ((aGC N hN key base m).app (aGR N hN key base _ (zV N hN key base m) _ _ _))
end Go.UK
