/- A part of the proof: what the functions of the program compute. -/
import Derived.Test.YtljnaeghnleipaaGreatJ2
open BitVec renaming ofInt→ar
open Bool renaming and_eq_true→aq,eq_iff_iff→gg,not_true→fv
open Int renaming emod_eq_of_lt→ir,eq_ofNat_of_zero_le→bp,mul_le_mul→gq,natCast_mul→fx,toNat_natCast→cw
open List renaming append_assoc→am,append_inj→ce,append_nil→cg,drop_eq_getElem_cons→co,drop_eq_nil_of_le→gc,drop_left'→j3,drop_length→gf,eq_nil_of_length_eq_zero→d9,ext_getElem?→dr,flatMap_cons→dp,flatMap_map→mw,getD_cons_succ→li,getD_cons_zero→lh,getD_eq_getElem?_getD→bf,getElem?_append_left→cn,getElem?_append_right→cr,getElem?_drop→eo,getElem?_eq_getElem→ag,getElem?_eq_none→au,getElem?_take_of_lt→fb,getElem_mem→ci,length→dm,length_append→ai,length_cons→cx,length_drop→br,length_nil→jg,length_take→bw,mem_cons→fk,nil_append→fq,not_mem_nil→jc,range→cj,range_succ_eq_map→ka,take→mo,take_append_drop→eg,take_left'→jz,take_length→mv,take_of_length_le→bj,take_succ→kp,take_zero→gs,zipWith→nh
open Nat renaming add_mul→iq,le_refl→cm,sub_self→nm,sub_zero→np
open Option renaming bind→ae,bind_some→aa
open Vector renaming ext→ni,replicate→ah,toList_inj→dx
namespace Go.UK
open Go Go.Proofs
set_option maxRecDepth 20000
set_option maxHeartbeats 1000000
set_option linter.all false
theorem T.vec{α:Type}{n:Nat}{l:List α}(h:n<=l.length):T (aEn n l) (λv=>v.toList=l.take n):=by
 unfold aEn;rw[dif_pos h]
 exact⟨_,rfl,by simp⟩
theorem T.app{α:Type}{b:Nat}{l r:List α}(h:(l.length+r.length)*b<=140737488355328):T (nR b l r) (λx=>x=l++r):=⟨_,hJ h,rfl⟩
theorem aF0(a b:Nat):mU (a:Int) (b:Int)=((min a b:Nat):Int):=by unfold mU;split <;> omega
theorem aQ1(N:Nat)(hN:20 < N)(v:Vector Int 16):T (qU N v) (λ_=>True):=by
 unfold qU;refine T.bind (T.loop0 (n:=4) (by decide) (λ_ _=>True) (F:=kX N) (λk s i hi _ Q hk=>?_) (λk s=>by rw[kX,df (by omega),cond_false]) (by omega) trivial) λv _=>T.ret trivial;rw[kX,dt (by omega),cond_true,show(4:Int)=((4:Nat):Int) from rfl,i4 (by omega)]
 have f3:I64 (((4*i:Nat):Int)+3)=((4*i+3:Nat):Int):=by rw[aU (by omega) (by omega)];omega
 rw[f3]
 refine T.bind (P:=λ_=>True) ?_ λ_ _=>by rw[cV (by omega)];exact hk _ trivial
 refine T.letO λx hx=>?_;subst hx;refine T.bind (T.inRO (by omega) (by omega)) λ_ _=>T.bind (T.vget (by omega)) λ_ _=>T.bind (T.inRO (by omega) (by omega)) λ_ _=>T.bind (T.vget (by omega)) λ_ _=>?_;refine T.cond (λ_=>?_) (λ_=>T.ret trivial)
 exact T.bind (T.inRO (by omega) (by omega)) λ_ _=>T.bind (T.vget (by omega)) λ_ _=>T.bind (T.inRO (by omega) (by omega)) λ_ _=>T.bind (T.vget (by omega)) λ_ _=>T.ret trivial
theorem newT(N:Nat)(hN:20 < N)(key:Vector Int 32):T (uG N key) (λr=>isU r.1/\isU r.2.1/\isU r.2.2.1/\isU r.2.2.2):=by
 unfold uG;refine T.bind (T.slc (by decide) (by decide) (by simp)) λs1 h1=>T.bind (T.vec (by have:=h1.2;omega)) λv2 _=>T.bind (aQ1 N hN v2) λr3 _=>?_;refine T.bind (T.slc (by decide) (by decide) (by simp)) λs4 h4=>T.bind (aEa N hN s4 (by have:=h4.2;omega)) λr5 h5=>?_;refine T.bind (T.slc (by decide) (by decide) (by simp)) λs6 h6=>T.bind (aEa N hN s6 (by have:=h6.2;omega)) λr7 h7=>?_;refine T.bind (T.slc (by decide) (by decide) (by simp)) λs8 h8=>T.bind (aEa N hN s8 (by have:=h8.2;omega)) λr9 h9=>?_;refine T.bind (T.slc (by decide) (by decide) (by simp)) λs10 h10=>T.bind (aEa N hN s10 (by have:=h10.2;omega)) λr11 h11=>?_;exact T.ret ⟨h5,h7,h9,h11⟩
theorem cpV17(s:List Int):∃v,cpV (ah 17 (0:Int)) s 0 16=some v:=by
 unfold cpV;rw[dif_pos (by decide)]
 exact⟨_,rfl⟩
theorem aKv(N:Nat):∀(k:Nat) (s:List (Vector Int 17)) (m:List Int),m.length < k->m.length<=65536->s.length<=1000000 - m.length->T (lL N k s m) (λr=>r.length=s.length+(m.length+15) / 16)
 | 0,_,_,h,_,_=>by omega
 | k+1,s,m,h,hm,hs=>by
  rw[lL]
  refine T.letO λx hx=>?_;subst hx;refine T.cond (λhc=>?_) (λhc=>?_)
  ·have hc:0 < m.length:=by simpa using hc
   refine T.bind (o:=aGc 17 0 16) ⟨(),rfl,trivial⟩ λ_ (_:True)=>?_;obtain⟨v,hv⟩:=cpV17 m;rw[hv,aa]
   refine T.letO λx hx=>?_;subst hx;refine T.bind (T.inRO (by omega) (by omega)) λ_ _=>T.bind (T.vget (by omega)) λ_ _=>T.bind (T.app (by simp;omega)) λz hz=>?_;subst hz;refine T.bind (T.slc (by omega) (by omega) (by omega)) λs14 h14=>?_;have h15:=h14.2;refine T.mono (aKv N k _ s14 (by omega) (by omega) (by simp;omega)) λr hr=>?_;simp at hr;omega
  ·have hc:m.length=0:=by have:=of_decide_eq_false hc;omega
   exact T.ret (by omega)
theorem aLv(N:Nat)(m:List Int)(h:m.length < N)(hm:m.length<=65536):T (kU N m) (λr=>r.length=(m.length+15) / 16):=by
 unfold kU;refine T.letO λx hx=>?_;have hx:x=(m.length:Int):=by rw[hx];unfold mU;split <;> omega
 subst hx;refine T.bind (T.slc (by omega) (by omega) (by omega)) λs3 h3=>?_;have:=h3.2;refine T.bind (aKv N N [] s3 (by omega) (by omega) (by rw[jg];omega)) λr hr=>T.ret ?_;rw[jg] at hr;omega
theorem aQr(N:Nat)(ms:List (List Int))(hms:ms.length < 1000):∀(k i:Nat) (s:List Int) (n:Nat),i<=ms.length->ms.length - i < k->n<=65536->s.length<=n->T (fI N ms k s (n:Int) (i:Int)) (λr=>r.1.length<=65536)
 | 0,_,_,_,_,h,_,_=>by omega
 | k+1,i,s,n,hi,hk,hn,hs=>by
  rw[fI,aC]
  by_cases h:i < ms.length
  ·rw[dt (by omega),cond_true]
   refine T.bind (T.idx (by omega) (by omega)) λe6 h6=>?_;have f:I64 (65536 - (n:Int))=((65536 - n:Nat):Int):=by rw[aU (by omega) (by omega)];omega
   rw[f,aC,aF0]
   refine T.bind (T.slc (by omega) (by omega) (by omega)) λs9 h9=>?_;have h10:=h9.2;rw[aC]
   refine T.bind (T.app (by omega)) λz hz=>?_;subst hz;have f2:I64 ((n:Int)+(s9.length:Int))=((n+s9.length:Nat):Int):=by rw[aU (by omega) (by omega)];omega
   rw[f2,cV (by omega)]
   exact aQr N ms hms k (i+1) _ _ (by omega) (by omega) (by omega) (by rw[ai];omega)
  ·rw[df (by omega),cond_false]
   exact T.ret (by dsimp only;omega)
theorem aQv(N:Nat)(hN:20 < N):∀(k:Nat) (h:Vector Int 3) (made:Bool) (r0 r1 s0 s1:Int) (rest:List Int) (all:Int),tL h->rest.length < k->rest.length<=65536 ->
  T (fK N k h made r0 r1 s0 s1 rest all) (λr=>tL r.1/\r.2.1=made/\r.2.2.1=r0/\r.2.2.2.1=r1/\r.2.2.2.2.1=s0/\r.2.2.2.2.2.1=s1/\r.2.2.2.2.2.2.1.length < 16)
 | 0,_,_,_,_,_,_,_,_,_,h,_=>by omega
 | k+1,h,made,r0,r1,s0,s1,rest,all,hh,hk,hl=>by
  rw[fK]
  refine T.letO λx hx=>?_;subst hx;refine T.cond (λhc=>?_) (λhc=>?_)
  ·have hc:16<=rest.length:=by have:=of_decide_eq_true hc;omega
   refine T.bind (T.slc (by omega) (by omega) (by omega)) λs22 h22=>?_;have h23:=h22.2;refine T.bind (aLv N s22 (by omega) (by omega)) λr23 hr=>T.bind (T.idx (by omega) (by omega)) λe24 _=>?_;refine T.bind (aIn N hN e24 r0 r1 _ hh) λr25 hr25=>?_;obtain⟨g1,g2⟩:=hr25;obtain⟨h',q⟩:=r25;dsimp only at g1 g2;subst g2;dsimp only;refine T.bind (T.slc (by omega) (by omega) (by omega)) λs26 h26=>?_;have:=h26.2;exact aQv N hN k h' made r0 r1 s0 s1 s26 all g1 (by omega) (by omega)
  ·have hc:rest.length < 16:=by have:=of_decide_eq_false hc;omega
   exact T.ret ⟨hh,rfl,rfl,rfl,rfl,rfl,hc⟩
theorem z16 : jD (ah 16 (0:Int)):=by unfold jD aR isB;decide
theorem endT(N:Nat)(hN:20 < N)(h:Vector Int 3)(hh:tL h)(s0 s1:Int)(h0:isU s0)(h1:isU s1):T (pR N (aN.mk h) s0 s1) jD:=by
 unfold pR;refine T.bind (T.loop0 (n:=2) (by decide) (λ_ (v:Vector Int 3)=>tL v) (F:=eH N) (λk s i hi hs Q hk=>?_) (λk s=>by rw[eH,df (by omega),cond_false]) (by omega) hh) λp1 hp=>?_
 ·rw[eH,dt (by omega),cond_true,cV (by omega)]
  refine T.bind (P:=tL) ?_ λv hv=>hk v hv;refine T.bind (T.inRO (by decide) (by decide)) λ_ _=>T.bind (T.vgetU hs (by decide)) λe6 h6=>T.bind (T.add64 h6 aCg ⟨by decide,by decide⟩) λr7 h7=>?_;refine T.bind (T.inRO (by decide) (by decide)) λ_ _=>T.bind (T.vgetU hs (by decide)) λe9 h9=>T.bind (T.add64 h9 wZ h7.2) λr10 h10=>?_;refine T.bind (T.inRO (by decide) (by decide)) λ_ _=>T.bind (T.vgetU hs (by decide)) λe12 h12=>?_;refine T.letO λ_ _=>T.cond (λ_=>T.letO λ_ _=>T.ret (aEe h7.1 h10.1 (rY _))) (λ_=>T.ret hs)
 refine T.bind (T.inRO (by decide) (by decide)) λ_ _=>T.bind (T.vgetU hp (by decide)) λe17 h17=>T.bind (T.add64 h17 h0 ⟨by decide,by decide⟩) λr18 h18=>?_;refine T.bind (T.inRO (by decide) (by decide)) λ_ _=>T.bind (T.vgetU hp (by decide)) λe20 h20=>T.bind (T.add64 h20 h1 h18.2) λr21 h21=>?_;refine T.bind (T.loop0 (n:=8) (by decide) (λ_ (v:Vector Int 16)=>jD v) (F:=fC N r18 r21) (λk s i hi hs Q hk=>?_) (λk s=>by rw[fC,df (by omega),cond_false]) (by omega) z16) λp22 h22=>T.ret h22;have vset:∀(v:Vector Int 16) (i:Nat) (x:Int),jD v->jD (v.setIfInBounds i (U8 x)):=by
  intro v i x hv y hy;have e:(v.setIfInBounds i (U8 x)).toList=v.toList.set i (U8 x):=by simp
  rw[e] at hy;rcases List.mem_or_eq_of_mem_set hy with h' | h'
  ·exact hv y h'
  ·rw[h'];exact aMN _
 rw[fC,dt (by omega),cond_true,show(8:Int)=((8:Nat):Int) from rfl,i4 (by omega),ia (by omega),cV (by omega)]
 rw[lX .u64 (by omega),aa,lX .u64 (by omega),aa]
 refine T.bind (T.inRO (by omega) (by omega)) λ_ _=>T.bind (T.vget (by omega)) λ_ _=>T.bind (T.inRO (by omega) (by omega)) λ_ _=>T.bind (T.vget (by omega)) λ_ _=>?_;exact hk _ (vset _ _ _ (vset _ _ _ hs))
theorem sumT(N:Nat)(hN:2000 < N)(m:aP)(hh:tL m.gT.gh)(h0:isU m.gs0)(h1:isU m.gs1)(hr:m.gN.length<=100)(hm:m.gA=true):T (pD N m) jD:=by
 unfold pD;rw[hm,fv,cond_false]
 refine T.bind (aLv N m.gN (by omega) (by omega)) λr1 hr1=>?_;refine T.bind (T.loop0 (n:=r1.length) (by omega) (λ_ (v:Vector Int 3)=>tL v) (F:=kB N r1 m) (λk s i hi hs Q hk=>?_) (λk s=>by rw[kB,aC,df (by omega),cond_false]) (by omega) hh) λp2 hp2=>?_
 ·rw[kB,aC,dt (by omega),cond_true,cV (by omega)]
  exact T.bind (T.idx (by omega) (by omega)) λe6 _=>T.bind (aGp N (by omega) e6 _ _ (aN.mk s) hs) λr7 h7=>hk r7 h7
 exact T.bind (endT N (by omega) p2 hp2 _ _ h0 h1) λr8 h8=>T.ret h8
theorem tagT(N:Nat)(hN:2000 < N)(key:Vector Int 32)(ms:List (List Int))(hms:ms.length < 1000)(hl:65536 < N):T (sX N key ms) jD:=by
 unfold sX;refine T.bind (newT N (by omega) key) λr1 h1=>?_;obtain⟨u1,u2,u3,u4⟩:=h1;refine T.bind (P:=λr=>tL r.2.1/\r.2.2.1=true/\r.2.2.2.2.2.1=r1.2.2.1/\r.2.2.2.2.2.2.1=r1.2.2.2/\r.2.2.2.2.2.2.2.1.length < 16) ?_ λr2 h2=>?_
 ·unfold qN;rw[fv,cond_false]
  refine T.bind (aQr N ms hms N 0 [] 0 (by omega) (by omega) (by omega) (by simp)) λp1 hp1=>?_;refine T.bind (aQv N (by omega) N _ true _ _ _ _ p1.1 p1.2 (aEe wZ wZ wZ) (by omega) hp1) λp12 hp=>T.ret ?_;obtain⟨g1,g2,g3,g4,g5,g6,g7⟩:=hp;exact⟨g1,g2,g5,g6,g7⟩
 ·obtain⟨g1,g2,g5,g6,g7⟩:=h2;exact T.bind (sumT N hN _ g1 (by dsimp only;rw[g5];exact u3) (by dsimp only;rw[g6];exact u4) (by dsimp only;omega) g2) λr3 h3=>T.ret h3
theorem keyT(N:Nat)(hN:20 < N)(key:Vector Int 32)(n:Vector Int 12):T (uI N key n) (λ_=>True):=by
 unfold uI;exact T.bind (aJt N hN key 0 n) λr1 _=>T.bind (T.slc (by decide) (by decide) (by simp)) λs3 h3=>T.bind (T.vec (by have:=h3.2;omega)) λ_ _=>T.ret trivial
theorem aQX(N:Nat)(l:List Int)(hl:l.length<=1000000):T (qX N l) (λr=>r.length<=16):=by
 unfold qX;refine T.letO λx hx=>T.letO λy hy=>?_;have hx1:x=((l.length % 16:Nat):Int):=by rw[hx];rfl
 have hy1:y=(((16 - l.length % 16) % 16:Nat):Int):=by
  have e:I64 (16 - x)=((16 - l.length % 16:Nat):Int):=by rw[hx1,aU (by omega) (by omega)];omega
  rw[hy,e];rfl
 subst hy1;rw[cw]
 refine T.bind (o:=mkO 1 _) (P:=λ_=>True) ⟨(),?_,trivial⟩ λ_ _=>T.bind (o:=aJR _ _) (P:=λ_=>True) ⟨(),?_,trivial⟩ λ_ _=>T.ret ?_
 ·unfold mkO;rw[dt (by omega),dt (by omega),dt (by omega)]
  rfl
 ·unfold aJR;rw[show((List.replicate ((16 - l.length % 16) % 16) (0:Int)).length.beq ((16 - l.length % 16) % 16))=true by simp]
  rfl
 ·simp;omega
theorem macT(N:Nat)(hN:70000<=N)(key:Vector Int 32)(n:Vector Int 12)(a c:List Int)(ha:a.length<=1000000)(hc:c.length<=1000000):T (rA N key n a c) jD:=by
 unfold rA;refine T.bind (T.loop0 (n:=8) (by decide) (λ_ _=>True) (F:=lW N a c) (λk s i hi _ Q hk=>?_) (λk s=>by rw[lW,df (by omega),cond_false]) (by omega) trivial) λp1 _=>?_
 ·rw[lW,dt (by omega),cond_true,show(8:Int)=((8:Nat):Int) from rfl,i4 (by omega),ia (by omega),cV (by omega),lX .i64 (by omega),aa,lX .i64 (by omega),aa]
  exact T.bind (T.inRO (by omega) (by omega)) λ_ _=>T.bind (T.vget (by omega)) λ_ _=>T.bind (T.inRO (by omega) (by omega)) λ_ _=>T.bind (T.vget (by omega)) λ_ _=>hk _ trivial
 refine T.bind (keyT N (by omega) key n) λr10 _=>T.bind (aQX N a ha) λr11 _=>T.bind (aQX N c hc) λr12 _=>T.bind (T.slc (by decide) (by decide) (by simp)) λs13 _=>?_;exact T.bind (tagT N (by omega) r10 _ (by simp) (by omega)) λr14 h14=>T.ret h14
theorem aLO(N:Nat)(hN:20 < N)(key:Vector Int 32)(n:Vector Int 12)(len:Nat)(hl:len<=65536):∀(k:Nat) (s:List Int) (c:Int),s.length<=len->len - s.length < k->T (lF N (len:Int) key n k s c) (λr=>r.length=len)
 | 0,_,_,_,h=>by omega
 | k+1,s,c,hs,hk=>by
  rw[lF,show mU (len:Int) 65536=(len:Int) by unfold mU;split <;> omega]
  refine T.letO λx hx=>?_;subst hx;refine T.cond (λhc=>?_) (λhc=>?_)
  ·have hc:s.length < len:=by have:=of_decide_eq_true hc;omega
   refine T.bind (aJt N hN key c n) λr5 _=>?_;have f:I64 ((len:Int) - (s.length:Int))=((len - s.length:Nat):Int):=by rw[aU (by omega) (by omega)];omega
   rw[f,aC,show(64:Int)=((64:Nat):Int) from rfl,aF0]
   refine T.bind (T.slc (by omega) (by omega) (by simp;omega)) λs9 h9=>?_;have h10:=h9.2;refine T.bind (T.app (by omega)) λz hz=>?_;subst hz;exact aLO N hN key n len hl k _ _ (by rw[ai];omega) (by rw[ai];omega)
  ·have hc:s.length=len:=by have:=of_decide_eq_false hc;omega
   exact T.ret hc
theorem aPj(N:Nat)(hN:70000<=N)(key:Vector Int 32)(c:Int)(n:Vector Int 12)(len:Nat)(hl:len<=65536):T (kY N key c n (len:Int)) (λr=>r.length=len):=by
 unfold kY;exact T.bind (aLO N (by omega) key n len hl N [] c (by simp) (by simp;omega)) λp1 h=>T.ret h
def vP(d s:List Int):List Int:=nh (uR .u8) d s
theorem aC8{d s:List Int}(h:s.length=d.length):(vP d s).length=d.length:=by unfold vP;simp;omega
theorem aKa(d s:List Int):aR (vP d s):=by
 intro x hx;unfold vP at hx;rw[List.mem_iff_getElem?] at hx;obtain⟨i,hi⟩:=hx;rw[List.getElem?_zipWith] at hi;revert hi;cases d[i]? <;> cases s[i]? <;> intro hi <;> simp at hi;rw[<- hi];exact aNK
theorem aKS{a:Int}(ha:isB a)(b:Int):uR .u8 (uR .u8 a b) b=a:=by
 have e:∀x y:Int,uR .u8 x y=((ar 8 x ^^^ ar 8 y).toNat:Int):=by
  intro x y;unfold uR;have:(ar 8 x ^^^ ar 8 y).toNat < 256:=(ar 8 x ^^^ ar 8 y).isLt;exact rM (by omega) (by show((ar 8 x ^^^ ar 8 y).toNat:Int) < 256;omega)
 rw[e,e,BitVec.ofInt_natCast,BitVec.ofNat_toNat,BitVec.setWidth_eq,BitVec.xor_assoc,BitVec.xor_self,BitVec.xor_zero,aGY ha]
 have:=ha.1;omega
theorem aGQ : ∀{d s:List Int},aR d->s.length=d.length->vP (vP d s) s=d
 | [],s,_,_=>rfl
 | a :: d,[],_,h=>by simp at h
 | a :: d,b :: s,hd,h=>by
  have h1:=aKS (hd a (by simp)) b;have h2:=aGQ (d:=d) (s:=s) (λx hx=>hd x (by simp[hx])) (by simpa using h)
  unfold vP at *;simp[h1,h2]
theorem aP9(N:Nat)(d st:List Int)(hs:st.length=d.length)(hl:d.length<=65536):∀(k i:Nat),i<=d.length->d.length - i < k->qE N st k (vP (d.take i) (st.take i)++d.drop i) (i:Int)=some (vP d st)
 | 0,_,_,h=>by omega
 | k+1,i,hi,hk=>by
  rw[qE,aC]
  have hz:(vP (d.take i) (st.take i)).length=i:=by rw[aC8 (by simp;omega)];simp;omega
  by_cases h:i < d.length
  ·have hcat:(vP (d.take i) (st.take i)++d.drop i).length=d.length:=by rw[ai,hz,br];omega
   have hget:(vP (d.take i) (st.take i)++d.drop i)[i]? = some d[i]:=by
    rw[cr (by omega),hz,nm,eo,Nat.add_zero,ag h]
   rw[dt (by omega),cond_true,dA (by omega),aa,dP (by omega) (by omega),aa,cw,hget,aa,aa]
   have hset:aMd (vP (d.take i) (st.take i)++d.drop i) i (uR .u8 d[i] st[i])=some (vP (d.take (i+1)) (st.take (i+1))++d.drop (i+1)):=by
    unfold aMd;rw[show Nat.blt i (vP (d.take i) (st.take i)++d.drop i).length=true by rw[hcat];exact Nat.ble_eq_true_of_le h,cond_true]
    congr 1;rw[List.set_append_right _ _ (by omega),hz,nm,co h,List.set_cons_zero]
    have e1:vP (d.take (i+1)) (st.take (i+1))=vP (d.take i) (st.take i)++[uR .u8 d[i] st[i]]:=by
     unfold vP;rw[kp,kp,ag h,ag (show i < st.length by omega)]
     show nh _ (mo i d++[d[i]]) (mo i st++[st[i]])=_;rw[List.zipWith_append (by simp;omega)]
     rfl
    rw[e1]
    simp
   rw[hset,aa,cV (by omega)]
   exact aP9 N d st hs hl k (i+1) (by omega) (by omega)
  ·obtain rfl:i=d.length:=by omega
   rw[df (by omega),cond_false,mv,bj (by omega),gf,cg]
def stV(N:Nat)(key:Vector Int 32)(n:Vector Int 12)(len:Nat):List Int:=(kY N key 1 n (len:Int)).getD []
theorem aIA(N:Nat)(hN:70000<=N)(key:Vector Int 32)(n:Vector Int 12)(len:Nat)(hl:len<=65536):kY N key 1 n (len:Int)=some (stV N key n len)/\(stV N key n len).length=len:=by
 obtain⟨r,h1,h2⟩:=aPj N hN key 1 n len hl;unfold stV;rw[h1]
 exact⟨rfl,h2⟩
def aGo(N:Nat)(key:Vector Int 32)(n:Vector Int 12)(d:List Int):List Int:=vP d (stV N key n d.length)
theorem aGF(N:Nat)(hN:70000<=N)(key:Vector Int 32)(n:Vector Int 12){d:List Int}(hl:d.length<=65536):(aGo N key n d).length=d.length:=aC8 (aIA N hN key n _ hl).2
theorem aFc(N:Nat)(hN:70000<=N)(key:Vector Int 32)(n:Vector Int 12){d:List Int}(hd:aR d)(hl:d.length<=65536):aGo N key n (aGo N key n d)=d:=by
 have h:=(aIA N hN key n _ hl).2;unfold aGo;rw[aC8 h]
 exact aGQ hd h
theorem xorP(N:Nat)(hN:70000<=N)(key:Vector Int 32)(n:Vector Int 12)(d:List Int)(hl:d.length<=65536):tF N key 1 n [d]=some (aGo N key n d):=by
 obtain⟨h1,h2⟩:=aIA N hN key n _ hl;unfold tF;have hL1:mT N [d] N [] 0=some d:=by
  obtain⟨m,rfl⟩:∃m,N=m+2:=⟨N - 2,by omega⟩
  rw[show mT (m+2) [d] (m+2) [] 0=mT (m+2) [d] (m+1+1) [] 0 from rfl,mT,aC,dt (by simp),cond_true,show idx [d] 0=some d from rfl,aa]
  have f:I64 (65536 - (([]:List Int).length:Int))=65536:=by decide
  rw[f,aC,aC,show mU (d.length:Int) 65536=(d.length:Int) by unfold mU;split <;> omega,qM (by omega) (by omega) (by omega),aa,cw,mv]
  have e:(List.drop (0:Int).toNat d)=d:=rfl;rw[e,hJ (by simp;omega),aa,fq,mT,aC]
  rfl
 rw[hL1,aa,h1,aa]
 have:=aP9 N d _ h2 hl N 0 (by omega) (by omega)
 rw[gs,gs,List.drop_zero] at this;rw[show qE N (stV N key n d.length) N d 0=some (vP d (stV N key n d.length)) from this]
 rfl
def aAh(N:Nat)(key:Vector Int 32)(n:Vector Int 12)(a c:List Int):Vector Int 16:=(rA N key n a c).getD (ah 16 0)
theorem macP(N:Nat)(hN:70000<=N)(key:Vector Int 32)(n:Vector Int 12)(a c:List Int)(ha:a.length<=1000000)(hc:c.length<=1000000):rA N key n a c=some (aAh N key n a c)/\jD (aAh N key n a c):=by
 obtain⟨r,h1,h2⟩:=macT N hN key n a c ha hc;unfold aAh;rw[h1]
 exact⟨rfl,h2⟩
def aET(N:Nat)(key:Vector Int 32)(n:Vector Int 12)(a p:List Int):List Int:=aGo N key n p++(aAh N key n a (aGo N key n p)).toList
theorem aMo(N:Nat)(hN:70000<=N)(key:Vector Int 32)(n:Vector Int 12)(a:List Int){p:List Int}(hl:p.length<=65536):(aET N key n a p).length=p.length+16:=by
 unfold aET;rw[ai,aGF N hN key n hl]
 simp
theorem aLn(N:Nat)(a b:Vector Int 16)(ha:jD a)(hb:jD b):∀(k i:Nat) (s:Int),isB s->i<=16->16 - i < k->∃t,sS N a b k s (i:Int)=some t/\isB t/\(t=0↔s=0/\∀j,i<=j->j < 16->a.toList.getD j 0=b.toList.getD j 0)
 | 0,_,_,_,_,h=>by omega
 | k+1,i,s,hs,hi,hk=>by
  rw[sS]
  by_cases h:i < 16
  ·have b1:isB (uR .u8 (a.toList.getD i 0) (b.toList.getD i 0)):=aNK;obtain⟨c1,c2⟩:=bor8 hs b1;rw[dt (by omega),cond_true,aEK (by simp;omega),aa,aEK (by simp;omega),aa,aC,cV (by omega)]
   obtain⟨t,h1,h2,h3⟩:=aLn N a b ha hb k (i+1) _ c1 (by omega) (by omega)
   refine⟨t,h1,h2,?_⟩
   rw[h3,c2,bxor8 (ha.getD i) (hb.getD i)]
   constructor
   ·rintro⟨⟨h4,h5⟩,h6⟩
    refine⟨h4,λj hj hj2=>?_⟩
    rcases Nat.lt_or_ge i j with h7 | h7
    ·exact h6 j h7 hj2
    ·obtain rfl:j=i:=by omega
     exact h5
   ·rintro⟨h4,h5⟩
    exact⟨⟨h4,h5 i (cm _) h⟩,λj hj hj2=>h5 j (by omega) hj2⟩
  ·refine⟨s,by rw[df (by omega),cond_false],hs,?_⟩
   constructor
   ·intro h0;exact⟨h0,λj hj hj2=>by omega⟩
   ·intro h0;exact h0.1
theorem aRv(N:Nat)(hN:32 < N)(a b:Vector Int 16)(ha:jD a)(hb:jD b):wH N a b=some (decide (a=b)):=by
 unfold wH;obtain⟨t,h1,h2,h3⟩:=aLn N a b ha hb N 0 0 ⟨by decide,by decide⟩ (by omega) (by omega)
 rw[show((0:Nat):Int)=0 from rfl] at h1;rw[h1,aa]
 congr 1;rw[gg,beq_iff_eq,decide_eq_true_eq,h3]
 constructor
 ·rintro⟨_,h⟩
  exact vext (λj hj=>h j (by omega) hj)
 ·rintro rfl;exact⟨rfl,λ_ _ _=>rfl⟩
def aEW(N:Nat)(key:Vector Int 32)(n:Vector Int 12)(a c t:List Int):List Int×Int:=cond (decide ((aAh N key n a c).toList=t)) (aGo N key n c,0) ([],6)
theorem aJQ(N:Nat)(hN:70000<=N)(key:Vector Int 32)(n:Vector Int 12)(a c t:List Int)(ht:aR t)(ht16:t.length=16)(ha:a.length<=16384)(hc:c.length<=16384):iZ N key n a (c++t)=some (aEW N key n a c t):=by
 unfold iZ;have f:I64 (((c++t).length:Int) - 16)=(c.length:Int):=by rw[ai,ht16,aU (by omega) (by omega)];omega
 rw[f,aC,df (by omega),cond_false,aC,df (by omega),cond_false,aC,df (by omega),cond_false,nS (by simp),aa,jz,(macP N hN key n a c (by omega) (by omega)).1,aa,aDj (by simp),aa]
 ·rw[j3 rfl]
  obtain⟨v,h1,h2⟩:=T.vec (n:=16) (l:=t) (by omega)
  rw[bj (by omega)] at h2;rw[h1,aa,aRv N (by omega) _ _ (macP N hN key n a c (by omega) (by omega)).2 (by unfold jD;rw[h2];exact ht),aa]
  unfold aEW;have e:decide ((aAh N key n a c).toList=t)=decide (aAh N key n a c=v):=by
   rw[gg,decide_eq_true_eq,decide_eq_true_eq,<- h2,dx]
  rw[e]
  cases decide (aAh N key n a c=v) with
  | true=>rw[fv,cond_false,cond_true,xorP N hN key n c (by omega),aa]
  | false=>rfl
 ·rfl
theorem aDf(N:Nat)(key:Vector Int 32)(n:Vector Int 12)(a s:List Int)(h:s.length < 16):iZ N key n a s=some ([],4):=by
 unfold iZ;have f:I64 ((s.length:Int) - 16)=(s.length:Int) - 16:=by rw[aU (by omega) (by omega)]
 rw[f,aC,dt (by omega),cond_true]
theorem aOG(N:Nat)(hN:70000<=N)(key:Vector Int 32)(n:Vector Int 12)(a p:List Int)(hp:aR p)(ha:a.length<=16384)(hl:p.length<=16384):iZ N key n a (aET N key n a p)=some (p,0):=by
 have hx:=aGF N hN key n (d:=p) (by omega)
 have hm:=(macP N hN key n a (aGo N key n p) (by omega) (by omega)).2;unfold aET;rw[aJQ N hN key n a _ _ hm (by simp) ha (by omega)]
 unfold aEW;rw[dt rfl,cond_true,aFc N hN key n hp (by omega)]
theorem aOJ(N:Nat)(hN:70000<=N)(key:Vector Int 32)(n:Vector Int 12)(a s p:List Int)(hs:aR s)(ha:a.length<=16384)(hl:s.length<=16384)(h:iZ N key n a s=some (p,0)):s=aET N key n a p/\aR p/\s.length=p.length+16:=by
 by_cases h16:s.length < 16
 ·rw[aDf N key n a s h16] at h;simp at h
 ·have e:s=s.take (s.length - 16)++s.drop (s.length - 16):=(eg _ _).symm;rw[e,aJQ N hN key n a _ _ (hs.drop _) (by simp;omega) ha (by simp;omega)] at h;unfold aEW at h;cases hd:decide ((aAh N key n a (s.take (s.length - 16))).toList=s.drop (s.length - 16)) with
  | false=>rw[hd,cond_false] at h;simp at h
  | true=>
   rw[hd,cond_true] at h;have h:=(Prod.mk.inj (Option.some.inj h)).1;have hd:=of_decide_eq_true hd;subst h;have hb:aR (s.take (s.length - 16)):=hs.take _;refine⟨?_,aKa _ _,?_⟩
   ·unfold aET;rw[aFc N hN key n hb (by simp;omega),hd]
    exact e
   ·rw[aGF N hN key n (by simp;omega)]
    simp;omega
theorem aQM(N:Nat)(hN:70000<=N)(key:Vector Int 32)(n:Vector Int 12)(a s:List Int)(hs:aR s)(ha:a.length<=16384)(hl:s.length<=16384):T (iZ N key n a s) (λr=>(r.2=0/\aR r.1/\s.length=r.1.length+16/\s=aET N key n a r.1)\/(r.1=[]/\(r.2=4\/r.2=6))):=by
 by_cases h16:s.length < 16
 ·exact T.of (aDf N key n a s h16) (.inr ⟨rfl,.inl rfl⟩)
 ·have e:s=s.take (s.length - 16)++s.drop (s.length - 16):=(eg _ _).symm;have h:iZ N key n a s=some (aEW N key n a (s.take (s.length - 16)) (s.drop (s.length - 16))):=by
   conv=>lhs;rw[e]
   exact aJQ N hN key n a _ _ (hs.drop _) (by simp;omega) ha (by simp;omega)
  refine T.of h ?_;unfold aEW at h ⊢;cases hd:decide ((aAh N key n a (s.take (s.length - 16))).toList=s.drop (s.length - 16)) with
  | false=>exact .inr ⟨rfl,.inr rfl⟩
  | true=>
   rw[hd,cond_true] at h;obtain⟨g1,g2,g3⟩:=aOJ N hN key n a s _ hs ha hl h;exact .inl ⟨rfl,g2,g3,g1⟩
theorem aQ0(N:Nat)(hN:20 < N)(base:Vector Int 8)(i:Int):T (fZ N base i) (λ_=>True):=by
 unfold fZ;refine T.bind (o:=aGc 12 0 12) (P:=λ_=>True) ⟨(),rfl,trivial⟩ λ_ _=>T.bind (T.slc (by decide) (by decide) (by simp)) λs2 _=>?_;refine T.bind (P:=λ_=>True) ?_ λv3 _=>?_
 ·unfold cpV;rw[dif_pos (by decide)]
  exact⟨_,rfl,trivial⟩
 refine T.bind (T.loop0 (n:=4) (by decide) (λ_ _=>True) (F:=iO N i) (λk s j hj _ Q hk=>?_) (λk s=>by rw[iO,df (by omega),cond_false]) (by omega) trivial) λp1 _=>T.ret trivial;rw[iO,dt (by omega),cond_true,show(8:Int)=((8:Nat):Int) from rfl,i4 (by omega),ia (by omega),cV (by omega),lX .i64 (by omega),aa]
 exact T.bind (T.inRO (by omega) (by omega)) λ_ _=>T.bind (T.vget (by omega)) λ_ _=>hk _ trivial
def aF6(N:Nat)(base:Vector Int 8)(i:Int):Vector Int 12:=(fZ N base i).getD (ah 12 0)
theorem aOk(N:Nat)(hN:20 < N)(base:Vector Int 8)(i:Int):fZ N base i=some (aF6 N base i):=by
 obtain⟨r,h,_⟩:=aQ0 N hN base i;unfold aF6;rw[h]
 rfl
theorem aLC(N:Nat)(b:List Int)(e:Int):kK N (aA.mk b e true)=some false:=rfl
theorem aD6(N:Nat)(b:List Int)(n:Nat)(h:n<=b.length):bD N (n:Int) (aA.mk b 0 true)=some (b.drop n,0,b.take n):=by
 unfold bD;rw[aLC,aa,cond_false,aC]
 dsimp only;rw[show((0:Int) != 0)=false from rfl,cond_false,df (by omega),cond_false,aC,df (by omega),cond_false,aN5 h,aa,aDj h,aa]
theorem zY(N:Nat)(b:List Int)(n:Nat)(h:¬n<=b.length):bD N (n:Int) (aA.mk b 0 true)=some (b,4,[]):=by
 unfold bD;rw[aLC,aa,cond_false,aC]
 dsimp only;rw[show((0:Int) != 0)=false from rfl,cond_false,df (by omega),cond_false,aC,dt (by omega),cond_true]
theorem aK5(N:Nat)(b:List Int)(n:Nat){e:Int}(h:e≠0):bD N (n:Int) (aA.mk b e true)=some (b,e,[]):=by
 unfold bD;rw[aLC,aa,cond_false,aC]
 dsimp only;rw[show(e != 0)=true by simpa using h,cond_true]
theorem aBK : aR []:=by intro x hx;cases hx
theorem aNq(N:Nat)(b:List Int)(e:Int)(n:Nat)(hb:aR b):T (bD N (n:Int) (aA.mk b e true)) (λr=>aR r.1/\aR r.2.2/\r.2.2.length<=n/\r.1.length<=b.length/\((r.2.1=0/\e=0/\b=r.2.2++r.1/\r.2.2.length=n)\/(r.2.1≠0/\r.2.2=[]/\r.1=b/\(e=0->r.2.1=4/\b.length < n)/\(e≠0->r.2.1=e)))):=by
 by_cases he:e=0
 ·subst he;by_cases h:n<=b.length
  ·refine T.of (aD6 N b n h) ⟨hb.drop _,hb.take _,by simp;omega,by simp,.inl ⟨rfl,rfl,(eg _ _).symm,by simp;omega⟩⟩
  ·exact T.of (zY N b n h) ⟨hb,aBK,by simp,cm _,.inr ⟨(show(4:Int)≠0 by decide),rfl,rfl,λ_=>⟨rfl,by omega⟩,λh=>absurd rfl h⟩⟩
 ·exact T.of (aK5 N b n he) ⟨hb,aBK,by simp,cm _,.inr ⟨he,rfl,rfl,λh=>absurd h he,λ_=>rfl⟩⟩
theorem aP0 : ∀(x:List Int),aR x->x.length<=8->leB x.length (rZ x)=x:=by
 intro x hx hl;have hlen:∀i,i < x.length->(leB x.length (rZ x))[i]? = x[i]? := by
  intro i hi;unfold leB;rw[List.getElem?_map,List.getElem?_range hi,Option.map_some,ag hi,aHp _ _ (by omega),aAP]
  congr 1
  -- the i-th byte
  have key:∀(l:List Int),aR l->∀i (h:i < l.length),rZ l / bO i % 256=l[i]:=by
   intro l
   induction l with
   | nil=>intro _ i h;simp at h
   | cons a l ih=>
    intro hl i h;have ha:=hl a (by simp)
    have e:rZ (a :: l)=a+256*rZ l:=rfl;cases i with
    | zero=>
     rw[e,show bO 0=1 from rfl]
     have:=ha.1;have:=ha.2;simp only[List.getElem_cons_zero]
     omega
    | succ i=>
     rw[show bO (i+1)=256*bO i by rw[aCS,Int.mul_comm],<- Int.ediv_ediv_of_nonneg (by decide),e]
     have h1:(a+256*rZ l) / 256=rZ l:=by have:=ha.1;have:=ha.2;omega
     rw[h1]
     simpa using ih (λx hx=>hl x (by simp[hx])) i (by simpa using h)
  exact key x hx i hi
 apply dr;intro i;by_cases hi:i < x.length
 ·exact hlen i hi
 ·rw[au (by rw[bN];omega),au (by omega)]
theorem aCN(N:Nat)(hN:20 < N)(b:List Int)(e:Int)(w:Nat)(hw0:1<=w)(hw:w<=8)(hb:aR b):T (bI N (w:Int) (aA.mk b e true)) (λr=>aR r.1/\r.1.length<=b.length/\0<=r.2.2/\r.2.2 < bO w/\((r.2.1=0/\e=0/\b=leB w r.2.2++r.1)\/(r.2.1≠0/\r.2.2=0/\r.1=b/\(e=0->r.2.1=4/\b.length < w)/\(e≠0->r.2.1=e)))):=by
 unfold bI;rw[df (show ¬(w:Int) < 1 by omega),df (show ¬(w:Int) > 8 by omega),cond_false,aC,cond_false,aa]
 refine T.bind (aNq N b e w hb) λr3 h3=>?_;obtain⟨h1,h2,h4,h4b,h5⟩:=h3;have n1:=numL N r3.2.2 r3 rfl h2 (by omega) N 0 (by omega) (by omega)
 rw[gs] at n1;rw[show dK N r3 N 0 0=some (rZ r3.2.2) from n1,aa]
 have hlt:=aAN _ h2;refine T.ret ⟨h1,h4b,hlt.1,?_,?_⟩
 ·rcases h5 with ⟨_,_,_,h5⟩ | ⟨_,h5,_⟩
  ·dsimp only;rw[<- h5];exact hlt.2
  ·dsimp only;rw[h5];exact uZ w
 ·rcases h5 with ⟨g1,g2,g3,g4⟩ | ⟨g1,g2,g3,g4,g5⟩
  ·refine .inl ⟨g1,g2,?_⟩
   dsimp only;rw[<- g4,aP0 _ h2 (by omega)]
   exact g3
  ·exact .inr ⟨g1,by dsimp only;rw[g2];rfl,g3,g4,g5⟩
theorem aQy(N:Nat)(hN:20 < N)(w:Nat)(hw0:1<=w)(hw:w<=8)(v:Int)(rest:List Int)(hv:0<=v)(hv2:v < bO w)(hr:aR rest):bI N (w:Int) (aA.mk (leB w v++rest) 0 true)=some (rest,0,v):=by
 unfold bI;rw[df (show ¬(w:Int) < 1 by omega),df (show ¬(w:Int) > 8 by omega),cond_false,aC,cond_false,aa,aD6 N _ w (by rw[ai,bN];omega),aa]
 have hl:=bN w v;have e1:(leB w v++rest).take w=leB w v:=jz hl;have e2:(leB w v++rest).drop w=rest:=j3 hl;have n1:=numL N (leB w v) (rest,0,leB w v) rfl (aD5 w v) (by omega) N 0 (by omega) (by omega)
 rw[gs] at n1;rw[e1,e2,show dK N (rest,0,leB w v) N 0 0=some (rZ (leB w v)) from n1,aa,aLb v w hw,ir hv hv2]
theorem aLf(N:Nat)(hN:20 < N)(b:List Int)(e:Int)(hb:aR b):T (bX N 2 (aA.mk b e true)) (λr=>aR r.1/\r.1.length<=b.length /\ -32768<=r.2.2/\r.2.2 < 32768/\((r.2.1=0/\e=0/\b=leB 2 (r.2.2 % 65536)++r.1)\/(r.2.1≠0/\r.1=b/\(e=0->r.2.1=4/\b.length < 2)/\(e≠0->r.2.1=e)))):=by
 unfold bX;refine T.bind (aCN N hN b e 2 (by decide) (by decide) hb) λr h=>?_;obtain⟨h1,h1b,h2,h3,h4⟩:=h;rw[show bO 2=65536 from rfl] at h3;rw[show decide ((2:Int) < 1)=false from rfl,show decide ((2:Int) > 8)=false from rfl,cond_false,aC,cond_false,show I64 (64 - I64 (8*2))=((48:Nat):Int) by decide,aC,uC .i64 (by omega),aa,aC,lX .i64 (by omega),aa]
 have hI:I64 r.2.2=r.2.2:=aU (by omega) (by omega)
 have hv:shr .i64 (shl .i64 (I64 r.2.2) ((48:Nat):Int)) ((48:Nat):Int)=if r.2.2 < 32768 then r.2.2 else r.2.2 - 65536:=by
  rw[hI,wF .i64 _ _ 48 rfl (by decide),aL1 _ _ (by decide),aK7,show(2:Int) ^ 48=281474976710656 from rfl]
  split <;> omega
 rw[hv]
 refine T.ret ⟨h1,h1b,by dsimp only;split <;> omega,by dsimp only;split <;> omega,?_⟩
 rcases h4 with ⟨g1,g2,g3⟩ | ⟨g1,g2,g3,g4,g5⟩
 ·refine .inl ⟨g1,g2,?_⟩
  dsimp only;have:(if r.2.2 < 32768 then r.2.2 else r.2.2 - 65536) % 65536=r.2.2:=by split <;> omega
  rw[this]
  exact g3
 ·exact .inr ⟨g1,g3,g4,g5⟩
theorem aGx(N:Nat)(b:List Int)(e:Int):cT N (aA.mk b e true)=some (cond (e != 0) e (cond (decide (0 < b.length)) 5 0)):=by
 unfold cT lK;rw[aLC,aa,cond_false,aa]
 dsimp only;cases e != 0 with
 | true=>rfl
 | false=>
  rw[cond_false,cond_false,aC]
  by_cases h:0 < b.length
  ·rw[dt (by omega),dt h];rfl
  ·rw[df (by omega),df h];rfl
theorem aIx(N:Nat)(b:List Int)(h:b.length<=100000000000000):qV N b=some b:=by
 unfold qV;rw[aN1 N b h,aa]
def xE(k:Int):Int:=if k=1 then 2048 else if k=2 then 1024 else if k=3 then 64 else if k=4 then 64 else 0
theorem capP(N:Nat)(k:Int):rO N k=some (xE k):=by
 unfold rO xE;rw[aC]
 by_cases h:k < 0\/5<=k
 ·rw[show cond (decide (k < 0)) true (decide (k>=5))=true by rcases h with h | h;rw[dt h];rfl;rw[df (show ¬k < 0 by omega),dt (show k>=5 by omega)];rfl,cond_true]
  rw[if_neg (by omega),if_neg (by omega),if_neg (by omega),if_neg (by omega)]
 ·rw[df (show ¬k < 0 by omega),df (show ¬k>=5 by omega),cond_false,cond_false,dP (by omega) (by omega),aa]
  have:k=0\/k=1\/k=2\/k=3\/k=4:=by omega
  rcases this with rfl | rfl | rfl | rfl | rfl <;> rfl
def rV(s:Int):Int:=if s < 1 then 0 else(s - 1) / 256+1
theorem aPb(N:Nat){s:Int}(h:aCk s):nY N s=some (rV s):=by
 unfold nY rV;obtain⟨h0,h1⟩:=h;by_cases hs:s < 1
 ·rw[dt hs,cond_true,if_pos hs]
 ·have e:Int.tdiv (s - 1) 256=(s - 1) / 256:=Int.tdiv_eq_ediv_of_nonneg (by omega)
  rw[df hs,cond_false,if_neg hs,aU (x:=s - 1) (by omega) (by omega),e,aU (x:=(s - 1) / 256) (by omega) (by omega),aC,aU (by omega) (by omega)]
def wT(m:aE):Int:=if xE m.gC=0 then 12 else if (m.gA1.toList.any λe=>decide (e > 15))=true then 5 else if m.gA2 > m.gTo\/m.gR < 1 then 5 else if m.gR > xE m.gC then 9 else if m.gA0≠rV m.gR then 5 else 0
theorem mchkP(N:Nat)(hN:20 < N)(m:aE)(hs:aCk m.gR):pC N m=some (wT m):=by
 unfold pC wT;rw[capP,aa]
 by_cases h0:xE m.gC=0
 ·rw[if_pos h0,h0];rfl
 ·rw[if_neg h0,show(xE m.gC==0)=false by simpa using h0,cond_false]
  have hl:kD N m N 0=some (cond (m.gA1.toList.any λe=>decide (e > 15)) (Sum.inr 5) (Sum.inl ())):=by
   refine rG m.gA1.toList (λe=>decide (e > 15)) (5:Int) (kD N m) (by simp) (λk i h=>?_) (λk=>?_) (by simp;omega)
   ·have h8:i < 8:=by simpa using h
    rw[kD,dt (by omega),cond_true,dA h,aa]
   ·rw[kD,df (by simp),cond_false]
  rw[hl,aa]
  cases ha:(m.gA1.toList.any λe=>decide (e > 15)) with
  | true=>rw[if_pos rfl,cond_true];rfl
  | false=>
   rw[if_neg (by decide),cond_false]
   show(aT (decide (m.gA2 > m.gTo)) λx5=>_)=_;rw[aC,aC]
   by_cases h1:m.gA2 > m.gTo\/m.gR < 1
   ·rw[if_pos h1]
    rw[show cond (decide (m.gA2 > m.gTo)) true (decide (m.gR < 1))=true by rcases h1 with h | h;rw[dt h];rfl;rw[dt h];cases decide (m.gA2 > m.gTo) <;> rfl,aC,cond_true]
   ·rw[if_neg h1,df (show ¬m.gA2 > m.gTo by omega),df (show ¬m.gR < 1 by omega),cond_false,aC,cond_false]
    by_cases h2:m.gR > xE m.gC
    ·rw[dt h2,cond_true,if_pos h2]
    ·rw[df h2,cond_false,if_neg h2,aPb N hs,aa]
     by_cases h3:m.gA0=rV m.gR
     ·rw[if_neg (by simpa using h3),show(m.gA0 != rV m.gR)=false by simpa using h3,cond_false]
     ·rw[if_pos h3,show(m.gA0 != rV m.gR)=true by simpa using h3,cond_true]
structure aHn(m:aE):Prop where
 id:isU m.gId
 kind:0<=m.gC/\m.gC < 256
 label:isW m.gA3
 masks:jD m.gA1
 fr:isW m.gA2
 to:isW m.gTo
 size:0<=m.gR/\m.gR < 4294967296
 chunks:0<=m.gA0/\m.gA0 < 65536
structure ManT(m:aE):Prop where
 id:isU m.gId
 kind:aCk m.gC
 label:isW m.gA3
 masks:jD m.gA1
 fr:isW m.gA2
 to:isW m.gTo
 size:aCk m.gR
 chunks:aCk m.gA0
theorem aPk{k:Int}(h:xE k≠0):1<=k/\k<=4/\xE k<=2048/\64<=xE k:=by
 unfold xE at *;split at h
 ·rename_i e;subst e;exact⟨by decide,by decide,by decide,by decide⟩
 ·split at h
  ·rename_i e;subst e;exact⟨by decide,by decide,by decide,by decide⟩
  ·split at h
   ·rename_i e;subst e;exact⟨by decide,by decide,by decide,by decide⟩
   ·split at h
    ·rename_i e;subst e;exact⟨by decide,by decide,by decide,by decide⟩
    ·exact absurd rfl h
theorem aQK{m:aE}(h:wT m=0):xE m.gC≠0/\1<=m.gR/\m.gR<=xE m.gC/\m.gA0=rV m.gR:=by
 unfold wT at h;split at h
 ·cases h
 ·rename_i h0;split at h
  ·cases h
  ·split at h
   ·cases h
   ·split at h
    ·cases h
    ·split at h
     ·cases h
     ·exact⟨h0,by omega,by omega,by omega⟩
theorem ManT.r{m:aE}(t:ManT m)(h:wT m=0):aHn m:=by
 obtain⟨h0,h1,h2,h3⟩:=aQK h;obtain⟨k1,k2,k3,_⟩:=aPk h0;refine⟨t.id,⟨by omega,by omega⟩,t.label,t.masks,t.fr,t.to,⟨by omega,by omega⟩,?_⟩
 rw[h3]
 unfold rV;rw[if_neg (by omega)]
 omega
def aEw(m:aE):List Int:=leB 8 m.gId++(leB 1 m.gC++(leB 4 m.gA3++(m.gA1.toList++(leB 4 m.gA2++(leB 4 m.gTo++(leB 4 m.gR++leB 2 m.gA0))))))
theorem aIr(m:aE):(aEw m).length=35:=by unfold aEw;simp[bN]
theorem put1(N:Nat)(hN:20 < N)(b:List Int)(w:Nat)(hw0:1<=w)(hw:w<=8)(x:Int)(hx:0<=x)(hx2:x < bO w)(hb:b.length<=1000000):cM N b (w:Int) [x]=some (b++leB w x,0):=by
 have h8:=aE4 hw;rw[aNJ N b w hw0 hw [x] (by intro y hy;simp at hy;subst hy;exact⟨hx,by omega⟩) (by omega) (by simp) (by omega) (by simp;omega)]
 unfold aII;have:([x].any (big w))=false:=by simp[big];omega
 rw[this,cond_false]
 simp
theorem put3(N:Nat)(hN:20 < N)(b:List Int)(w:Nat)(hw0:1<=w)(hw:w<=8)(x y z:Int)(hx:0<=x/\x < bO w)(hy:0<=y/\y < bO w)(hz:0<=z/\z < bO w)(hb:b.length<=1000000):cM N b (w:Int) [x,y,z]=some (b++(leB w x++(leB w y++leB w z)),0):=by
 have h8:=aE4 hw;rw[aNJ N b w hw0 hw [x,y,z] (by intro q hq;simp at hq;rcases hq with rfl | rfl | rfl <;> omega) (by omega) (by simp) (by omega) (by simp;omega)]
 unfold aII;have:([x,y,z].any (big w))=false:=by simp[big];omega
 rw[this,cond_false]
 simp
theorem put2(N:Nat)(hN:20 < N)(b:List Int)(w:Nat)(hw0:1<=w)(hw:w<=8)(x y:Int)(hx:0<=x/\x < bO w)(hy:0<=y/\y < bO w)(hb:b.length<=1000000):cM N b (w:Int) [x,y]=some (b++(leB w x++leB w y),0):=by
 have h8:=aE4 hw;rw[aNJ N b w hw0 hw [x,y] (by intro q hq;simp at hq;rcases hq with rfl | rfl <;> omega) (by omega) (by simp) (by omega) (by simp;omega)]
 unfold aII;have:([x,y].any (big w))=false:=by simp[big];omega
 rw[this,cond_false]
 simp
theorem lV{w:Nat}(hw:w<=8){x y:Int}(hx:0<=x/\x < bO w)(hy:0<=y/\y < bO w)(h:leB w x=leB w y):x=y:=by
 have:=congrArg rZ h;rw[aLb x w hw,aLb y w hw,ir hx.1 hx.2,ir hy.1 hy.2] at this;exact this
theorem aN3{m m':aE}(r:aHn m)(r':aHn m')(h:aEw m=aEw m'):m=m':=by
 unfold aEw at h;obtain⟨h1,h⟩:=ce h (by simp[bN])
 obtain⟨h2,h⟩:=ce h (by simp[bN])
 obtain⟨h3,h⟩:=ce h (by simp[bN])
 obtain⟨h4,h⟩:=ce h (by simp)
 obtain⟨h5,h⟩:=ce h (by simp[bN])
 obtain⟨h6,h⟩:=ce h (by simp[bN])
 obtain⟨h7,h8⟩:=ce h (by simp[bN])
 have q1:=lV (w:=8) (by decide) r.id r'.id h1;have q2:=lV (w:=1) (by decide) r.kind r'.kind h2;have q3:=lV (w:=4) (by decide) r.label r'.label h3;have q4:=dx.1 h4;have q5:=lV (w:=4) (by decide) r.fr r'.fr h5;have q6:=lV (w:=4) (by decide) r.to r'.to h6;have q7:=lV (w:=4) (by decide) r.size r'.size h7;have q8:=lV (w:=2) (by decide) r.chunks r'.chunks h8;cases m;cases m';dsimp only at *;subst q1 q2 q3 q4 q5 q6 q7 q8;rfl
theorem cpVm{m:Nat}(d:List Int)(h:d.length=m):∃v,cpV (ah m (0:Int)) d 0 m=some v/\v.toList=d:=by
 unfold cpV;rw[dif_pos (by omega)]
 refine⟨_,rfl,?_⟩
 subst h;simp[cpy]
def zM : aE:=aE.mk 0 0 0 (ah 8 0) 0 0 0 0
theorem aP6(N:Nat)(hN:20 < N)(b:List Int)(hb:aR b)(h35:b.length=35):T (nT N b) (λr=>∃m,aHn m/\aEw m=b/\r=if wT m=0 then(m,0) else(zM,wT m)):=by
 unfold nT;rw[aIx N b (by omega),aa]
 refine T.bind (aCN N hN b 0 8 (by decide) (by decide) hb) λr2 h2=>?_;obtain⟨b2,e2,v2⟩:=r2;obtain⟨p2,l2,q2,q2',⟨rfl,_,c2⟩ | ⟨_,_,_,c2,_⟩⟩:=h2
 rotate_left
 ·have:=(c2 rfl).2;omega
 dsimp only at p2 l2 q2 q2' c2 ⊢;have hl2:=congrArg dm c2;rw[ai,bN] at hl2;unfold eP;refine T.bind (P:=λr=>aR r.1/\r.2.1=0/\0<=r.2.2/\r.2.2 < 256/\b2=leB 1 r.2.2++r.1) (T.bind (aCN N hN b2 0 1 (by decide) (by decide) p2) λr h=>T.ret ?_) λr3 h3=>?_
 ·obtain⟨p,l,q,q',⟨e,_,c⟩ | ⟨_,_,_,c,_⟩⟩:=h
  ·rw[show bO 1=256 from rfl] at q';have:I64 r.2.2=r.2.2:=aU (by omega) (by omega)
   dsimp only;rw[this]
   exact⟨p,e,q,q',c⟩
  ·have:=(c rfl).2;omega
 obtain⟨b3,e3,v3⟩:=r3;obtain⟨p3,rfl,q3,q3',c3⟩:=h3;dsimp only at p3 q3 q3' c3 ⊢;have hl3:=congrArg dm c3;rw[ai,bN] at hl3;refine T.bind (aCN N hN b3 0 4 (by decide) (by decide) p3) λr4 h4=>?_;obtain⟨b4,e4,v4⟩:=r4;obtain⟨p4,l4,q4,q4',⟨rfl,_,c4⟩ | ⟨_,_,_,c4,_⟩⟩:=h4
 rotate_left
 ·have:=(c4 rfl).2;omega
 dsimp only at p4 l4 q4 q4' c4 ⊢;have hl4:=congrArg dm c4;rw[ai,bN] at hl4;refine T.bind (o:=aGc 8 0 8) (P:=λ_=>True) ⟨(),rfl,trivial⟩ λ_ _=>?_;refine T.bind (aNq N b4 0 8 p4) λr6 h6=>?_;obtain⟨b6,e6,v6⟩:=r6;obtain⟨p6,pv6,_,_,⟨rfl,_,c6,l6⟩ | ⟨_,_,_,c6,_⟩⟩:=h6
 rotate_left
 ·have:=(c6 rfl).2;omega
 dsimp only at p6 pv6 c6 l6 ⊢;have hl6:=congrArg dm c6;rw[ai,l6] at hl6;obtain⟨v7,e7,c7⟩:=cpVm v6 l6;rw[e7,aa]
 refine T.bind (aCN N hN b6 0 4 (by decide) (by decide) p6) λr8 h8=>?_;obtain⟨b8,e8,v8⟩:=r8;obtain⟨p8,l8,q8,q8',⟨rfl,_,c8⟩ | ⟨_,_,_,c8,_⟩⟩:=h8
 rotate_left
 ·have:=(c8 rfl).2;omega
 dsimp only at p8 l8 q8 q8' c8 ⊢;have hl8:=congrArg dm c8;rw[ai,bN] at hl8;refine T.bind (aCN N hN b8 0 4 (by decide) (by decide) p8) λr9 h9=>?_;obtain⟨b9,e9,v9⟩:=r9;obtain⟨p9,l9,q9,q9',⟨rfl,_,c9⟩ | ⟨_,_,_,c9,_⟩⟩:=h9
 rotate_left
 ·have:=(c9 rfl).2;omega
 dsimp only at p9 l9 q9 q9' c9 ⊢;have hl9:=congrArg dm c9;rw[ai,bN] at hl9;refine T.bind (P:=λr=>aR r.1/\r.2.1=0/\0<=r.2.2/\r.2.2 < 4294967296/\b9=leB 4 r.2.2++r.1) (T.bind (aCN N hN b9 0 4 (by decide) (by decide) p9) λr h=>T.ret ?_) λr10 h10=>?_
 ·obtain⟨p,l,q,q',⟨e,_,c⟩ | ⟨_,_,_,c,_⟩⟩:=h
  ·rw[show bO 4=4294967296 from rfl] at q';have:I64 r.2.2=r.2.2:=aU (by omega) (by omega)
   dsimp only;rw[this]
   exact⟨p,e,q,q',c⟩
  ·have:=(c rfl).2;omega
 obtain⟨b10,e10,v10⟩:=r10;obtain⟨p10,rfl,q10,q10',c10⟩:=h10;dsimp only at p10 q10 q10' c10 ⊢;have hl10:=congrArg dm c10;rw[ai,bN] at hl10;refine T.bind (P:=λr=>aR r.1/\r.2.1=0/\0<=r.2.2/\r.2.2 < 65536/\b10=leB 2 r.2.2++r.1) (T.bind (aCN N hN b10 0 2 (by decide) (by decide) p10) λr h=>T.ret ?_) λr11 h11=>?_
 ·obtain⟨p,l,q,q',⟨e,_,c⟩ | ⟨_,_,_,c,_⟩⟩:=h
  ·rw[show bO 2=65536 from rfl] at q';have:I64 r.2.2=r.2.2:=aU (by omega) (by omega)
   dsimp only;rw[this]
   exact⟨p,e,q,q',c⟩
  ·have:=(c rfl).2;omega
 obtain⟨b11,e11,v11⟩:=r11;obtain⟨p11,rfl,q11,q11',c11⟩:=h11;dsimp only at p11 q11 q11' c11 ⊢;have hl11:=congrArg dm c11;rw[ai,bN] at hl11;have h0:b11=[]:=d9 (by omega)
 subst h0;rw[aGx,aa,show((0:Int) != 0)=false from rfl,cond_false,show decide (0 < ([]:List Int).length)=false from rfl,cond_false,show((0:Int) != 0)=false from rfl,cond_false]
 rw[show bO 8=18446744073709551616 from rfl] at q2';rw[show bO 4=4294967296 from rfl] at q4' q8' q9';have u4:=aAD q4 q4';have u8:=aAD q8 q8';have u9:=aAD q9 q9';rw[u4,u8,u9]
 have R:aHn (aE.mk v2 v3 v4 v7 v8 v9 v10 v11):=⟨⟨q2,q2'⟩,⟨q3,q3'⟩,⟨q4,q4'⟩,by unfold jD;rw[show(aE.mk v2 v3 v4 v7 v8 v9 v10 v11).gA1=v7 from rfl,c7];exact pv6,⟨q8,q8'⟩,⟨q9,q9'⟩,⟨q10,q10'⟩,⟨q11,q11'⟩⟩
 rw[mchkP N hN _ ⟨by dsimp only;omega,by dsimp only;omega⟩,aa]
 have hB:aEw (aE.mk v2 v3 v4 v7 v8 v9 v10 v11)=b:=by
  unfold aEw;dsimp only;rw[c2,c3,c4,c6,c8,c9,c10,c11,c7,cg]
 by_cases hc:wT (aE.mk v2 v3 v4 v7 v8 v9 v10 v11)=0
 ·rw[hc,show((0:Int) != 0)=false from rfl,cond_false]
  exact T.ret ⟨_,R,hB,by rw[if_pos hc]⟩
 ·rw[show(wT (aE.mk v2 v3 v4 v7 v8 v9 v10 v11) != 0)=true by simpa using hc,cond_true]
  exact T.ret ⟨_,R,hB,by rw[if_neg hc];rfl⟩
theorem aQH{α:Type}(l:List α)(hl:l.length < 9223372036854775807)(bad:α->Prop){F:Nat->Int->Option (Sum Unit Int)}
  (hstep:∀k i (h:i < l.length),∃c,(c=false->¬bad l[i])/\F (k+1) (i:Int)=cond c (some (Sum.inr (i:Int))) (F k (I64 ((i:Int)+1)))) (hend:∀k,F (k+1) (l.length:Int)=some (Sum.inl ())) :
  ∀(k i:Nat),i<=l.length->l.length - i < k->T (ae (ae (F k (i:Int)) λo=>nQ o (λp1=>some (-1)) (λr=>some r)) λr1:Int=>some (decide (r1>=0))) (λr=>r=false->∀x∈l.drop i,¬bad x)
 | 0,i,_,h=>by omega
 | k+1,i,hi,hk=>by
  by_cases h:i < l.length
  ·obtain⟨c,h1,h2⟩:=hstep k i h;rw[h2]
   cases c with
   | true=>
    refine⟨true,?_,λe=>by cases e⟩
    show some (decide ((i:Int)>=0))=some true;rw[dt (by omega)]
   | false=>
    rw[cond_false,cV (by omega)]
    refine T.mono (aQH l hl bad hstep hend k (i+1) (by omega) (by omega)) λr hr e x hx=>?_;rw[co h] at hx;rcases fk.1 hx with rfl | hx
    ·exact h1 rfl
    ·exact hr e x hx
  ·obtain rfl:i=l.length:=by omega
   rw[hend,gf]
   exact⟨false,rfl,λ_ x hx=>by cases hx⟩
theorem aHv{α:Type}(l:List α)(hl:l.length < 9223372036854775807)(bad:α->Prop){F:Nat->Int->Option (Sum Unit Int)}
  (hstep:∀k i (h:i < l.length),∃c,(c=false->¬bad l[i])/\F (k+1) (i:Int)=cond c (some (Sum.inr (i:Int))) (F k (I64 ((i:Int)+1)))) (hend:∀k,F (k+1) (l.length:Int)=some (Sum.inl ())) {N:Nat} (hN:l.length < N) :
  T (ae (ae (F N 0) λo=>nQ o (λp1=>some (-1)) (λr=>some r)) λr1:Int=>some (decide (r1>=0))) (λr=>r=false->∀x∈l,¬bad x):=
 T.mono (aQH l hl bad hstep hend N 0 (by omega) (by omega)) λr hr e x hx=>hr e x (by simpa using hx)
theorem aNx{a b c m:Int}(h:¬tQ (tQ a b) c > m):a<=m/\b<=m/\c<=m:=by unfold tQ at h;split at h <;> split at h <;> omega
theorem aM2{a b c m:Int}(h:¬mU (mU a b) c < m):m<=a/\m<=b/\m<=c:=by unfold mU at h;split at h <;> split at h <;> omega
theorem imax2{a b m:Int}(h:¬tQ a b > m):a<=m/\b<=m:=by unfold tQ at h;split at h <;> omega
theorem imin2{a b m:Int}(h:¬mU a b < m):m<=a/\m<=b:=by unfold mU at h;split at h <;> omega
def ptG(p:aB):Prop:=(-4096<=p.gX/\p.gX<=4096)/\(-4096<=p.gY/\p.gY<=4096)/\(-4096<=p.gZ/\p.gZ<=4096)
theorem aP3(N:Nat)(p:aB):T (pG N p) (λc=>c=false->ptG p):=by
 unfold pG;refine T.bind (P:=λc=>c=false->ptG p) ?_ λc hc=>T.ret hc;refine T.letO λx hx=>T.cond (λ_=>T.ret λh=>by cases h) λh1=>T.letO λy hy=>T.ret λh2=>?_;subst hx hy;have h1:=aNx (of_decide_eq_false h1)
 have h2:=aM2 (of_decide_eq_false h2)
 exact⟨⟨h2.1,h1.1⟩,⟨h2.2.1,h1.2.1⟩,h2.2.2,h1.2.2⟩
theorem aOB(N:Nat)(p:aB):T (oC N p) (λc=>c=false->ptG p):=aP3 N p
def uvG(v:Vector Int 2):Prop:=(0<=v[0]/\v[0] < 65536)/\(0<=v[1]/\v[1] < 65536)
theorem aNF(v:Vector Int 2):idx v.toList 0=some v[0]:=by have:=mK v.toList 0;rw[uU v 0 (by decide)] at this;exact this
theorem aOU(v:Vector Int 2):idx v.toList 1=some v[1]:=by have:=mK v.toList 1;rw[uU v 1 (by decide)] at this;exact this
theorem aGe(v:Vector Int 3):idx v.toList 0=some v[0]:=by have:=mK v.toList 0;rw[uU v 0 (by decide)] at this;exact this
theorem aHB(v:Vector Int 3):idx v.toList 1=some v[1]:=by have:=mK v.toList 1;rw[uU v 1 (by decide)] at this;exact this
theorem aGw(v:Vector Int 3):idx v.toList 2=some v[2]:=by have:=mK v.toList 2;rw[uU v 2 (by decide)] at this;exact this
theorem pairT(N:Nat)(v:Vector Int 2):T (pP N v) (λc=>c=false->uvG v):=by
 unfold pP;refine T.bind (P:=λc=>c=false->uvG v) ?_ λc hc=>T.ret hc;rw[aNF,aOU,aa,aa]
 refine T.letO λx hx=>T.cond (λ_=>T.ret λh=>by cases h) λh1=>?_;rw[aa,aa]
 refine T.letO λy hy=>T.ret λh2=>?_;subst hx hy;have h1:=imin2 (of_decide_eq_false h1)
 have h2:=imax2 (of_decide_eq_false h2)
 exact⟨⟨h1.1,by omega⟩,h1.2,by omega⟩
def trG(n:Int)(v:Vector Int 3):Prop:=(0<=v[0]/\v[0] < n)/\(0<=v[1]/\v[1] < n)/\(0<=v[2]/\v[2] < n)
theorem triT(N:Nat)(v:Vector Int 3)(m:aK):T (mF N v m) (λc=>c=false->trG (m.gG.length:Int) v):=by
 unfold mF;refine T.bind (P:=λc=>c=false->trG (m.gG.length:Int) v) ?_ λc hc=>T.ret hc;simp only[aGe,aHB,aGw,aa]
 refine T.letO λx hx=>T.cond (λ_=>T.ret λh=>by cases h) λh1=>T.letO λn hn=>T.letO λy hy=>T.cond (λ_=>T.ret λh=>by cases h) λh2=>?_;subst hx hy hn;have h1:=aM2 (of_decide_eq_false h1)
 have h2:¬tQ (tQ v[0] v[1]) v[2] > (m.gG.length:Int) - 1:=by have:=of_decide_eq_false h2;omega
 have h2:=aNx h2;have g:trG (m.gG.length:Int) v:=⟨⟨h1.1,by omega⟩,⟨h1.2.1,by omega⟩,h1.2.2,by omega⟩
 exact T.cond (λ_=>T.ret λ_=>g) λ_=>T.cond (λ_=>T.ret λ_=>g) λ_=>T.ret λ_=>g
structure aBt(m:aK):Prop where
 nv:m.gG.length<=64
 nt:m.gJ.length<=64
 nu:m.gL.length=m.gG.length
 v:∀p∈m.gG,ptG p
 u:∀p∈m.gL,uvG p
 t:∀p∈m.gJ,trG 256 p
theorem aQB(N:Nat)(hN:1000 < N)(m:aK)(hv:m.gG.length<=500)(hu:m.gL.length<=500)(ht:m.gJ.length<=500):T (fV N m) (λc=>c=0->aBt m):=by
 unfold fV;refine T.letO λx1 e1=>T.letO λx2 e2=>T.letO λx3 e3=>?_;subst e1 e2 e3;refine T.cond (λ_=>T.ret λh=>by cases h) λh1=>?_;refine T.letO λx1 e1=>T.letO λx2 e2=>T.letO λx3 e3=>T.letO λx4 e4=>T.letO λx5 e5=>?_;subst e1 e2 e3 e4 e5;refine T.cond (λ_=>T.ret λh=>by cases h) λh2=>?_;have a1:m.gG.length<=64/\m.gJ.length<=64:=by
  cases ha:decide ((m.gG.length:Int) > 64) with
  | true=>rw[ha] at h1;cases h1
  | false=>rw[ha,cond_false] at h1;have:=of_decide_eq_false ha;have:=of_decide_eq_false h1;omega
 have a2:m.gL.length=m.gG.length:=by
  revert h2;cases cond ((m.gG.length:Int)==0) true ((m.gJ.length:Int)==0) with
  | true=>intro h;cases h
  | false=>
   intro h;rw[cond_false] at h;have:(m.gL.length:Int)=(m.gG.length:Int):=by simpa using h
   omega
 refine T.bind (P:=λr=>r=false->∀p∈m.gG,¬ ¬ptG p) ?_ λr9 h9=>T.cond (λ_=>T.ret λh=>by cases h) λc9=>?_
 ·unfold bV bZ;refine aHv m.gG (by omega) (λp=>¬ptG p) (F:=aX N m.gG) (λk i h=>?_) (λk=>by rw[aX,aC,df (by omega),cond_false]) (by omega)
  obtain⟨c,e,hc⟩:=aP3 N m.gG[i]
  exact⟨c,λh=>Classical.not_not.2 (hc h),by rw[aX,aC,dt (by omega),cond_true,dA h,aa,e,aa]⟩
 refine T.bind (P:=λr=>r=false->(∀p∈m.gL,uvG p)/\∀p∈m.gJ,trG (m.gG.length:Int) p) ?_ λr10 h10=>T.cond (λ_=>T.ret λh=>by cases h) λc10=>T.ret λ_=>?_
 ·refine T.bind (P:=λr=>r=false->∀p∈m.gL,¬ ¬uvG p) ?_ λr11 h11=>T.cond (λ_=>T.ret λh=>by cases h) λc11=>?_
  ·unfold cI cS;refine aHv m.gL (by omega) (λp=>¬uvG p) (F:=bF N m.gL) (λk i h=>?_) (λk=>by rw[bF,aC,df (by omega),cond_false]) (by omega)
   obtain⟨c,e,hc⟩:=pairT N m.gL[i]
   exact⟨c,λh=>Classical.not_not.2 (hc h),by rw[bF,aC,dt (by omega),cond_true,dA h,aa,e,aa]⟩
  ·refine T.bind (P:=λr=>r=false->∀p∈m.gJ,¬ ¬trG (m.gG.length:Int) p) ?_ λr12 h12=>T.ret λc12=>⟨λp hp=>Classical.not_not.1 (h11 c11 p hp),λp hp=>Classical.not_not.1 (h12 c12 p hp)⟩
   unfold cJ cR;refine aHv m.gJ (by omega) (λp=>¬trG (m.gG.length:Int) p) (F:=bG N m.gJ m) (λk i h=>?_) (λk=>by rw[bG,aC,df (by omega),cond_false]) (by omega)
   obtain⟨c,e,hc⟩:=triT N m.gJ[i] m;exact⟨c,λh=>Classical.not_not.2 (hc h),by rw[bG,aC,dt (by omega),cond_true,dA h,aa,e,aa]⟩
 obtain⟨g1,g2⟩:=h10 c10;exact⟨a1.1,a1.2,a2,λp hp=>Classical.not_not.1 (h9 c9 p hp),g1,λp hp=>by obtain⟨q1,q2,q3⟩:=g2 p hp;exact⟨⟨q1.1,by omega⟩,⟨q2.1,by omega⟩,q3.1,by omega⟩⟩
structure aG3(t:aH):Prop where
 side:1<=t.gM/\t.gM<=16
 n:(t.gK.length:Int)=t.gM*t.gM
 t:∀p∈t.gK,trG 256 p
theorem aHa(N:Nat)(hN:1000 < N)(l:List Int)(hl:l.length<=500)(x:Int):T (fN N l x) (λr=>r=true->x∈l):=by
 unfold fN mH;have key:∀(k i:Nat),i<=l.length->l.length - i < k->T (dC N l x k (i:Int)) (λo=>(o=Sum.inl ())\/(∃j,o=Sum.inr j/\x∈l)):=by
  intro k
  induction k with
  | zero=>intro i _ h;omega
  | succ k ih=>
   intro i hi hk;rw[dC,aC]
   by_cases h:i < l.length
   ·rw[dt (by omega),cond_true,dA h,aa,cV (by omega)]
    refine T.cond (λhc=>T.ret (.inr ⟨_,rfl,?_⟩)) λ_=>ih (i+1) (by omega) (by omega)
    have:x=l[i]:=by simpa using hc
    rw[this]
    exact ci h
   ·rw[df (by omega),cond_false]
    exact T.ret (.inl rfl)
 refine T.bind (P:=λr:Int=>0<=r->x∈l) ?_ λr hr=>T.ret λh=>hr (by have:=of_decide_eq_true h;omega)
 refine T.bind (key N 0 (by omega) (by omega)) λo ho=>?_;rcases ho with rfl | ⟨j,rfl,hm⟩
 ·exact T.ret λh=>by omega
 ·exact T.ret λ_=>hm
theorem texT(N:Nat)(hN:1000 < N)(t:aH)(ht:t.gK.length<=500):T (cE N t) (λc=>c=0->aG3 t):=by
 unfold cE;refine T.bind (aHa N hN [1,2,4,8,16] (by decide) t.gM) λr1 h1=>?_;refine T.letO λx2 e2=>T.letO λx3 e3=>T.letO λx4 e4=>?_;subst e2 e3 e4;refine T.cond (λ_=>T.ret λh=>by cases h) λh2=>?_;have hr:r1=true:=by cases r1 with | true=>rfl | false=>cases h2
 subst hr;have hm:=h1 rfl;have hs:1<=t.gM/\t.gM<=16:=by
  simp only[fk,jc,or_false] at hm;omega
 have hn:(t.gK.length:Int)=t.gM*t.gM:=by
  rw[fv,cond_false] at h2;have h3:(t.gK.length:Int)=I64 (t.gM*t.gM):=by simpa using h2
  have:t.gM*t.gM<=16*16:=gq hs.2 hs.2 (by omega) (by decide)
  have:0<=t.gM*t.gM:=Int.mul_nonneg (by omega) (by omega)
  rw[h3,aU (by omega) (by omega)]
 refine T.letO λx5 e5=>?_;subst e5;have key:∀(k i:Nat),i<=t.gK.length->t.gK.length - i < k->T (jF N (t.gK.length:Int) t k (i:Int)) (λo=>o=Sum.inr 5\/(o=Sum.inl ()/\∀p∈t.gK.drop i,trG 256 p)):=by
  intro k
  induction k with
  | zero=>intro i _ h;omega
  | succ k ih=>
   intro i hi hk;rw[jF]
   by_cases h:i < t.gK.length
   ·rw[dt (by omega),cond_true,dA h,aa,cV (by omega)]
    have g0:(t.gK[i].toList[((0:Int).toNat)]?)=some t.gK[i][0]:=uU _ 0 (by decide)
    have g1:(t.gK[i].toList[((1:Int).toNat)]?)=some t.gK[i][1]:=uU _ 1 (by decide)
    have g2:(t.gK[i].toList[((2:Int).toNat)]?)=some t.gK[i][2]:=uU _ 2 (by decide)
    have i0:aW 0 3=some ():=rfl;have i1:aW 1 3=some ():=rfl;have i2:aW 2 3=some ():=rfl;simp only[i0,i1,i2,g0,g1,g2,aa]
    refine T.bind (P:=λc=>c=false->trG 256 t.gK[i]) ?_ λc hc=>T.cond (λ_=>T.ret (.inl rfl)) λh0=>?_
    ·refine T.letO λx hx=>T.cond (λ_=>T.ret λh=>by cases h) λh1=>T.letO λy hy=>T.ret λh2=>?_;subst hx hy;have h1:=aM2 (of_decide_eq_false h1)
     have h2:=aNx (of_decide_eq_false h2)
     exact⟨⟨h1.1,by omega⟩,⟨h1.2.1,by omega⟩,h1.2.2,by omega⟩
    ·refine T.mono (ih (i+1) (by omega) (by omega)) λo ho=>?_;rcases ho with ho | ⟨ho,hp⟩
     ·exact .inl ho
     ·refine .inr ⟨ho,λp hp'=>?_⟩
      rw[co h] at hp';rcases fk.1 hp' with rfl | hp'
      ·exact hc h0
      ·exact hp p hp'
   ·obtain rfl:i=t.gK.length:=by omega
    rw[df (by omega),cond_false]
    exact T.ret (.inr ⟨rfl,λp hp=>by rw[gf] at hp;cases hp⟩)
 refine T.bind (key N 0 (by omega) (by omega)) λo ho=>?_;rcases ho with rfl | ⟨rfl,hp⟩
 ·exact T.ret λh=>by cases h
 ·exact T.ret λ_=>⟨hs,hn,λp h=>hp p (by simpa using h)⟩
theorem outT(N:Nat)(hN:1000 < N)(most:Int)(l:List Int)(hl:l.length<=500):T (jH N most l) (λr=>r=false->∀x∈l,0<=x/\x<=most):=by
 unfold jH;refine T.bind (P:=λr=>r=false->∀x∈l,¬ ¬(0<=x/\x<=most)) ?_ λr hr=>T.ret λh x hx=>Classical.not_not.1 (hr h x hx)
 unfold cO dH;refine aHv l (by omega) (λx=>¬(0<=x/\x<=most)) (F:=bL N l most) (λk i h=>?_) (λk=>by rw[bL,aC,df (by omega),cond_false]) (by omega)
 refine⟨cond (decide (l[i] < 0)) true (decide (l[i] > most)),λhc=>?_,?_⟩
 ·have:¬l[i] < 0/\¬l[i] > most:=by
   cases ha:decide (l[i] < 0) with
   | true=>rw[ha] at hc;cases hc
   | false=>rw[ha,cond_false] at hc;exact⟨of_decide_eq_false ha,of_decide_eq_false hc⟩
  exact Classical.not_not.2 ⟨by omega,by omega⟩
 ·rw[bL,aC,dt (by omega),cond_true,dA h,aa]
  rfl
structure aH3(m:aG):Prop where
 kind:0<=m.gC/\m.gC < 256
 color:trG 65536 m.gF
 rough:0<=m.gW/\m.gW < 65536
theorem matT(N:Nat)(hN:1000 < N)(m:aG):T (nH N m) (λc=>c=0->aH3 m):=by
 unfold nH;refine T.bind (P:=λc=>c=false->aH3 m) ?_ λc hc=>T.cond (λ_=>T.ret λh=>by cases h) λh=>T.ret λ_=>hc h;refine T.bind (outT N hN 4 [m.gC] (by simp)) λr2 h2=>T.cond (λ_=>T.ret λh=>by cases h) λc2=>?_;rw[aGe,aHB,aGw,aa,aa,aa]
 refine T.bind (outT N hN 65535 [m.gF[0],m.gF[1],m.gF[2],m.gW] (by simp)) λr6 h6=>T.ret λc6=>?_;have a:=h2 c2 m.gC (by simp)
 have b0:=h6 c6 m.gF[0] (by simp)
 have b1:=h6 c6 m.gF[1] (by simp)
 have b2:=h6 c6 m.gF[2] (by simp)
 have b3:=h6 c6 m.gW (by simp)
 exact⟨⟨a.1,by omega⟩,⟨⟨b0.1,by omega⟩,⟨b1.1,by omega⟩,b2.1,by omega⟩,b3.1,by omega⟩
structure aKh(l:aL):Prop where
 kind:0<=l.gC/\l.gC < 256
 color:trG 4294967296 l.gF
 at_:ptG l.gAt
 u:ptG l.gU
 v:ptG l.gV
theorem ligT(N:Nat)(hN:1000 < N)(l:aL):T (rB N l) (λc=>c=0->aKh l):=by
 unfold rB;refine T.bind (P:=λc=>c=false->(0<=l.gC/\l.gC < 256)/\trG 4294967296 l.gF) ?_ λc hc=>T.cond (λ_=>T.ret λh=>by cases h) λh=>?_
 ·refine T.bind (outT N hN 2 [l.gC] (by simp)) λr2 h2=>T.cond (λ_=>T.ret λh=>by cases h) λc2=>?_;rw[show eD l.gF.toList 0 3=some l.gF.toList from slcV (m:=3) _,aa]
  refine T.bind (outT N hN 1048576 l.gF.toList (by simp)) λr4 h4=>T.ret λc4=>?_;have a:=h2 c2 l.gC (by simp)
  have b0:=h4 c4 l.gF[0] (aOM _ (by decide))
  have b1:=h4 c4 l.gF[1] (aOM _ (by decide))
  have b2:=h4 c4 l.gF[2] (aOM _ (by decide))
  exact⟨⟨a.1,by omega⟩,⟨b0.1,by omega⟩,⟨b1.1,by omega⟩,b2.1,by omega⟩
 obtain⟨hk,hcol⟩:=hc h;refine T.bind (P:=λc=>c=false->ptG l.gAt/\ptG l.gU/\ptG l.gV) ?_ λc hc=>T.cond (λ_=>T.ret λh=>by cases h) λh=>?_
 ·exact T.bind (aOB N l.gAt) λr6 h6=>T.cond (λ_=>T.ret λh=>by cases h) λc6=>T.bind (aOB N l.gU) λr7 h7=>T.cond (λ_=>T.ret λh=>by cases h) λc7=>T.bind (aOB N l.gV) λr8 h8=>T.ret λc8=>⟨h6 c6,h7 c7,h8 c8⟩
 obtain⟨p1,p2,p3⟩:=hc h;have g:aKh l:=⟨hk,hcol,p1,p2,p3⟩
 refine T.bind (P:=λ_=>True) ?_ λo _=>?_
 ·refine T.cond (λ_=>T.cond (λ_=>T.ret trivial) λ_=>T.bind (P:=λ_=>True) ?_ λ_ _=>T.cond (λ_=>T.ret trivial) λ_=>T.ret trivial) λ_=>T.cond (λ_=>T.bind (P:=λ_=>True) ?_ λ_ _=>T.cond (λ_=>T.ret trivial) λ_=>T.ret trivial) λ_=>T.ret trivial
  ·exact T.letO λ_ _=>T.cond (λ_=>T.ret trivial) λ_=>T.ret trivial
  ·exact T.letO λ_ _=>T.cond (λ_=>T.ret trivial) λ_=>T.ret trivial
 ·cases o with
  | inl _=>exact T.ret λ_=>g
  | inr c=>exact T.ret λ_=>g
theorem aOe(a b:aB):aB.eq a b=true↔a=b:=by
 unfold aB.eq;simp only[aq,beq_iff_eq,and_true]
 constructor
 ·rintro⟨h1,h2,h3⟩
  cases a;cases b;dsimp only at *;subst h1 h2 h3;rfl
 ·rintro rfl;exact⟨rfl,rfl,rfl⟩
theorem aIF(a b:aG):aG.eq a b=true↔a=b:=by
 unfold aG.eq;simp only[aq,aDM,beq_iff_eq,and_true]
 constructor
 ·rintro⟨h1,h2,h3⟩
  cases a;cases b;dsimp only at *;subst h1 h2 h3;rfl
 ·rintro rfl;exact⟨rfl,rfl,rfl⟩
theorem aIa(a b:aL):aL.eq a b=true↔a=b:=by
 unfold aL.eq;simp only[aq,aDM,beq_iff_eq,and_true,aOe]
 constructor
 ·rintro⟨h1,h2,h3,h4,h5⟩
  cases a;cases b;dsimp only at *;subst h1 h2 h3 h4 h5;rfl
 ·rintro rfl;exact⟨rfl,rfl,rfl,rfl,rfl⟩
theorem aR4(a b:aE):aE.eq a b=true↔a=b:=by
 unfold aE.eq;simp only[aq,aDM,beq_iff_eq,and_true]
 constructor
 ·rintro⟨h1,h2,h3,h4,h5,h6,h7,h8⟩
  cases a;cases b;dsimp only at *;subst h1 h2 h3 h4 h5 h6 h7 h8;rfl
 ·rintro rfl;exact⟨rfl,rfl,rfl,rfl,rfl,rfl,rfl,rfl⟩
theorem aKM{α:Type}(eq:α->α->Bool)(heq:∀x y,eq x y=true↔x=y)(a b:List α)(hl:a.length<=100000){F:Nat->Int->Option (Sum Unit Bool)}
  (hstep:∀k i (h:i < a.length) (h':i < b.length),F (k+1) (i:Int)=cond (!eq a[i] b[i]) (some (Sum.inr false)) (F k (I64 ((i:Int)+1)))) (hend:∀k,F (k+1) (a.length:Int)=some (Sum.inl ())) {N:Nat} (hN:a.length < N) :
  T (aT ((a.length:Int) != (b.length:Int)) λx1=>cond x1 (some false) (ae (F N 0) λo=>nQ o (λp2=>some true) (λr=>some r))) (λr=>r=true↔a=b):=by
 refine T.letO λx hx=>?_;subst hx;refine T.cond (λh=>T.ret ?_) λh=>?_
 ·have h:¬(a.length:Int)=(b.length:Int):=by simpa using h
  constructor
  ·intro e;cases e
  ·rintro rfl;exact absurd rfl h
 ·have h:(a.length:Int)=(b.length:Int):=by simpa using h
  have key:∀(k i:Nat),i<=a.length->a.length - i < k->T (ae (F k (i:Int)) λo=>nQ o (λp2=>some true) (λr=>some r)) (λr=>r=true↔a.drop i=b.drop i):=by
   intro k
   induction k with
   | zero=>intro i _ h;omega
   | succ k ih=>
    intro i hi hk;by_cases h1:i < a.length
    ·rw[hstep k i h1 (by omega),co h1,co (show i < b.length by omega)]
     cases he:eq a[i] b[i] with
     | false=>
      refine⟨false,rfl,?_⟩
      constructor
      ·intro e;cases e
      ·intro e;have:=(List.cons.inj e).1;rw[(heq _ _).2 this] at he;cases he
     | true=>
      rw[fv,cond_false,cV (by omega)]
      refine T.mono (ih (i+1) (by omega) (by omega)) λr hr=>?_;rw[hr,(heq _ _).1 he]
      constructor
      ·intro e;rw[e]
      ·intro e;exact(List.cons.inj e).2
    ·obtain rfl:i=a.length:=by omega
     rw[hend,gf,List.drop_of_length_le (by omega)]
     exact⟨true,rfl,by simp⟩
  exact T.mono (key N 0 (by omega) (by omega)) λr hr=>by simpa using hr
theorem aRo(N:Nat)(a b:List aB)(hl:a.length<=100000)(hN:a.length < N):T (lT N a b) (λr=>r=true↔a=b):=by
 unfold lT;exact aKM aB.eq aOe a b hl (F:=fB N a b) (λk i h h'=>by rw[fB,aC,dt (by omega),cond_true,dA h,aa,dA h',aa]) (λk=>by rw[fB,aC,df (by omega),cond_false]) hN
theorem aSN(N:Nat)(a b:List (Vector Int 2))(hl:a.length<=100000)(hN:a.length < N):T (oF N a b) (λr=>r=true↔a=b):=by
 unfold oF;exact aKM (eqV (λa b=>a==b)) aDM a b hl (F:=jW N a b) (λk i h h'=>by rw[jW,aC,dt (by omega),cond_true,dA h,aa,dA h',aa]) (λk=>by rw[jW,aC,df (by omega),cond_false]) hN
theorem aNH(N:Nat)(a b:List (Vector Int 3))(hl:a.length<=100000)(hN:a.length < N):T (mN N a b) (λr=>r=true↔a=b):=by
 unfold mN;exact aKM (eqV (λa b=>a==b)) aDM a b hl (F:=jI N a b) (λk i h h'=>by rw[jI,aC,dt (by omega),cond_true,dA h,aa,dA h',aa]) (λk=>by rw[jI,aC,df (by omega),cond_false]) hN
structure aB4(a:aI):Prop where
 v:a.gP.gG.length<=500
 u:a.gP.gL.length<=500
 t:a.gP.gJ.length<=500
 x:a.gQ.gK.length<=500
theorem aQc(N:Nat)(hN:1000 < N)(a b:aI)(h:aB4 a):T (rU N a b) (λr=>r=true↔a=b):=by
 unfold rU;refine T.bind (P:=λr=>r=false↔(a.gC=b.gC/\a.gI=b.gI/\a.gD=b.gD/\a.gQ.gM=b.gQ.gM)) ?_ λp1 h1=>T.cond (λc=>T.ret ?_) λc=>?_
 ·refine T.cond (λc=>T.ret ?_) λc=>?_
  ·have c:¬a.gC=b.gC:=by simpa using c
   constructor
   ·intro e;cases e
   ·intro e;exact absurd e.1 c
  ·have c:a.gC=b.gC:=by simpa using c
   refine T.letO λx2 e2=>T.cond (λc2=>T.ret ?_) λc2=>T.letO λx3 e3=>T.letO λx4 e4=>T.ret ?_
   ·subst e2;constructor
    ·intro e;cases e
    ·intro e;rw[(aIF _ _).2 e.2.1] at c2;cases c2
   ·subst e2 e3 e4;have hm:aG.eq a.gI b.gI=true:=by simpa using c2
    have hm:=(aIF _ _).1 hm;constructor
    ·intro e;cases hl:aL.eq a.gD b.gD with
     | false=>rw[hl] at e;cases e
     | true=>
      rw[hl,fv,cond_false] at e;exact⟨c,hm,(aIa _ _).1 hl,by simpa using e⟩
    ·rintro⟨_,_,e1,e2⟩
     rw[(aIa _ _).2 e1,e2]
     simp
 ·constructor
  ·intro e;cases e
  ·rintro rfl;have:=h1.2 ⟨rfl,rfl,rfl,rfl⟩
   rw[this] at c;cases c
 ·obtain⟨g1,g2,g3,g4⟩:=h1.1 c;refine T.bind (P:=λr=>r=true↔(a.gP.gG=b.gP.gG/\a.gP.gL=b.gP.gL/\a.gP.gJ=b.gP.gJ/\a.gQ.gK=b.gQ.gK)) ?_ λr hr=>T.ret ?_
  ·refine T.bind (aRo N _ _ (by have:=h.v;omega) (by have:=h.v;omega)) λr6 h6=>T.cond (λc6=>?_) λc6=>T.ret ?_
   ·refine T.bind (aSN N _ _ (by have:=h.u;omega) (by have:=h.u;omega)) λr7 h7=>T.cond (λc7=>?_) λc7=>T.ret ?_
    ·refine T.bind (aNH N _ _ (by have:=h.t;omega) (by have:=h.t;omega)) λr8 h8=>T.cond (λc8=>?_) λc8=>T.ret ?_
     ·refine T.bind (aNH N _ _ (by have:=h.x;omega) (by have:=h.x;omega)) λr9 h9=>T.ret ?_;exact⟨λe=>⟨h6.1 c6,h7.1 c7,h8.1 c8,h9.1 e⟩,λe=>h9.2 e.2.2.2⟩
     ·exact⟨λe=>(by cases e),λe=>by rw[h8.2 e.2.2.1] at c8;cases c8⟩
    ·exact⟨λe=>(by cases e),λe=>by rw[h7.2 e.2.1] at c7;cases c7⟩
   ·exact⟨λe=>(by cases e),λe=>by rw[h6.2 e.1] at c6;cases c6⟩
  ·rw[hr]
   constructor
   ·rintro⟨q1,q2,q3,q4⟩
    obtain⟨k,⟨v,u,t⟩,⟨s,x⟩,m,l⟩:=a;obtain⟨k',⟨v',u',t'⟩,⟨s',x'⟩,m',l'⟩:=b;dsimp only at *;subst g1 g2 g3 g4 q1 q2 q3 q4;rfl
   ·rintro rfl;exact⟨rfl,rfl,rfl,rfl⟩
def ptB(p:aB):List Int:=leB 2 (p.gX % 65536)++(leB 2 (p.gY % 65536)++leB 2 (p.gZ % 65536))
def uvB(v:Vector Int 2):List Int:=leB 2 v[0]++leB 2 v[1]
def trB(w:Nat)(t:Vector Int 3):List Int:=leB w t[0]++(leB w t[1]++leB w t[2])
theorem qS(p:aB):(ptB p).length=6:=by unfold ptB;simp[bN]
theorem yQ(p:Vector Int 2):(uvB p).length=4:=by unfold uvB;simp[bN]
theorem qC(w:Nat)(p:Vector Int 3):(trB w p).length=3*w:=by unfold trB;simp[bN];omega
theorem sW{α:Type}{f:α->List Int}{c:Nat}(h:∀x,(f x).length=c):∀(l:List α),(l.flatMap f).length=l.length*c
 | []=>by simp
 | a :: l=>by rw[dp,ai,h,sW h l,cx,iq];omega
theorem yE{x:Int}(h:0<=x/\x < 256):leB 1 x=[x]:=by
 unfold leB;show [U8 (shr .u64 x ((8*0:Nat):Int))]=_;rw[aHp x 0 (by decide),show bO 0=1 from rfl,Int.ediv_one,rM h.1 h.2]
def uY(m:aK):List Int:=leB 1 (m.gG.length:Int)++(leB 1 (m.gJ.length:Int)++(m.gG.flatMap ptB++(m.gL.flatMap uvB++m.gJ.flatMap (trB 1))))
def aAQ(t:aH):List Int:=leB 1 t.gM++t.gK.flatMap (trB 1)
def aD9(m:aG):List Int:=leB 1 m.gC++(trB 2 m.gF++leB 2 m.gW)
def aD2(l:aL):List Int:=leB 1 l.gC++(trB 4 l.gF++(ptB l.gAt++(ptB l.gU++ptB l.gV)))
theorem sgn3(N:Nat)(hN:20 < N)(b:List Int)(p:aB)(h:ptG p)(hb:b.length<=1000000):lZ N b 2 [p.gX,p.gY,p.gZ]=some (b++ptB p,0):=by
 obtain⟨hx,hy,hz⟩:=h;have:=sgnP N b 2 (by decide) (by decide) [p.gX,p.gY,p.gZ] (by intro q hq;simp at hq;unfold aCk;rcases hq with rfl | rfl | rfl <;> omega) (by omega) (by simp) (by omega) (by simp;omega)
 rw[show lZ N b 2 [p.gX,p.gY,p.gZ]=_ from this]
 unfold aON;have e:([p.gX,p.gY,p.gZ].any (aDD 2))=false:=by
  simp[aDD,show bO 2 / 2=32768 from rfl]
  omega
 rw[e,cond_false]
 unfold aII;have e2:(([p.gX,p.gY,p.gZ].map (λx=>x % bO 2)).any (big 2))=false:=by
  simp[big,show bO 2=65536 from rfl]
  omega
 rw[e2,cond_false]
 unfold ptB;simp[show bO 2=65536 from rfl]
theorem meshE(N:Nat)(hN:1000 < N)(m:aK)(g:aBt m)(h0:fV N m=some 0):tR N m=some (uY m,0):=by
 unfold tR;have nv:=g.nv;have nt:=g.nt;have nu:=g.nu;rw[h0,aa,show((0:Int) != 0)=false from rfl,cond_false,aC,aC,aC,rM (x:=(m.gG.length:Int)) (by omega) (by omega),rM (x:=(m.gJ.length:Int)) (by omega) (by omega)]
 have l1:=pF m.gG.length (by omega) (λi=>ptB (m.gG.getD i ⟨0,0,0⟩)) (λs i=>s.length<=100+6*i) (pB N (m.gG.length:Int) m) (by intro s i hi hs;simp[qS];omega) (λk s i hi hs=>by
  have hp:=g.v _ (ci hi)
  rw[pB,dt (by omega),cond_true,dA hi,aa,sgn3 N (by omega) s _ hp (by omega),aa]
  rw[bf,ag hi]
  rfl) (λk s=>by rw[pB,df (by omega),cond_false]) (N:=N) (by omega) (s:=[(m.gG.length:Int),(m.gJ.length:Int)]) (by simp)
 rw[l1,aa]
 have hflat:∀{α:Type} (l:List α) (d:α) (f:α->List Int),(cj l.length).flatMap (λi=>f (l.getD i d))=l.flatMap f:=by
  intro α l d f
  induction l with
  | nil=>rfl
  | cons a l ih=>
   rw[cx,ka,dp,mw]
   simp only[lh,li,dp]
   rw[ih]
 rw[hflat m.gG ⟨0,0,0⟩ ptB]
 have hlen1:=sW qS m.gG;have l2:=pF m.gL.length (by omega) (λi=>uvB (m.gL.getD i #v[0,0])) (λs i=>s.length<=1000+4*i) (pE N m) (by intro s i hi hs;simp[yQ];omega) (λk s i hi hs=>by
  have hp:=g.u _ (ci hi)
  rw[pE,aC,dt (by omega),cond_true,dA hi,aa,show aW 0 2=some () from rfl,aa,show m.gL[i].toList[((0:Int).toNat)]? = some m.gL[i][0] from uU _ 0 (by decide),aa,show aW 1 2=some () from rfl,aa,show m.gL[i].toList[((1:Int).toNat)]? = some m.gL[i][1] from uU _ 1 (by decide),aa,kW hp.1.1 (by have:=hp.1.2;omega),kW hp.2.1 (by have:=hp.2.2;omega)]
  have e:=put2 N (by omega) s 2 (by decide) (by decide) m.gL[i][0] m.gL[i][1] ⟨hp.1.1,hp.1.2⟩ ⟨hp.2.1,hp.2.2⟩ (by omega)
  rw[show cM N s 2 [m.gL[i][0],m.gL[i][1]]=_ from e,aa,bf,ag hi]
  rfl) (λk s=>by rw[pE,aC,df (by omega),cond_false]) (N:=N) (by omega) (s:=[(m.gG.length:Int),(m.gJ.length:Int)]++m.gG.flatMap ptB) (by simp at hlen1 ⊢;omega)
 rw[l2,aa,hflat m.gL #v[0,0] uvB,aC]
 have hlen2:=sW yQ m.gL;have l3:=pF m.gJ.length (by omega) (λi=>trB 1 (m.gJ.getD i #v[0,0,0])) (λs i=>s.length<=2000+3*i) (lO N (m.gJ.length:Int) m) (by intro s i hi hs;simp[qC];omega) (λk s i hi hs=>by
  have hp:=g.t _ (ci hi)
  obtain⟨q0,q1,q2⟩:=hp;rw[lO,dt (by omega),cond_true,dA hi,aa,show aW 0 3=some () from rfl,aa,show m.gJ[i].toList[((0:Int).toNat)]? = some m.gJ[i][0] from uU _ 0 (by decide),aa,show aW 1 3=some () from rfl,aa,show m.gJ[i].toList[((1:Int).toNat)]? = some m.gJ[i][1] from uU _ 1 (by decide),aa,show aW 2 3=some () from rfl,aa,show m.gJ[i].toList[((2:Int).toNat)]? = some m.gJ[i][2] from uU _ 2 (by decide),aa,rM q0.1 q0.2,rM q1.1 q1.2,rM q2.1 q2.2,zJ (by omega) (by simp),aa,bf,ag hi]
  show lO N _ m k (s++[m.gJ[i][0],m.gJ[i][1],m.gJ[i][2]]) _=lO N _ m k (s++trB 1 m.gJ[i]) _;unfold trB;rw[yE q0,yE q1,yE q2]
  rfl) (λk s=>by rw[lO,df (by omega),cond_false]) (N:=N) (by omega) (s:=[(m.gG.length:Int),(m.gJ.length:Int)]++m.gG.flatMap ptB++m.gL.flatMap uvB) (by simp at hlen1 hlen2 ⊢;omega)
 rw[l3,aa,hflat m.gJ #v[0,0,0] (trB 1)]
 unfold uY;rw[yE (x:=(m.gG.length:Int)) ⟨by omega,by omega⟩,yE (x:=(m.gJ.length:Int)) ⟨by omega,by omega⟩]
 simp[am]
theorem hflat{α:Type}(l:List α)(d:α)(f:α->List Int):(cj l.length).flatMap (λi=>f (l.getD i d))=l.flatMap f:=by
 induction l with
 | nil=>rfl
 | cons a l ih=>
  rw[cx,ka,dp,mw]
  simp only[lh,li,dp]
  rw[ih]
theorem texE(N:Nat)(hN:1000 < N)(t:aH)(g:aG3 t)(h0:cE N t=some 0):rF N t=some (aAQ t,0):=by
 unfold rF;have n1:=g.side;have n2:=g.n;have n3:t.gM*t.gM<=16*16:=gq n1.2 n1.2 (by omega) (by decide)
 rw[h0,aa,show((0:Int) != 0)=false from rfl,cond_false,aC,rM (x:=t.gM) (by omega) (by omega)]
 have l3:=pF t.gK.length (by omega) (λi=>trB 1 (t.gK.getD i #v[0,0,0])) (λs i=>s.length<=2000+3*i) (iG N (t.gK.length:Int) t) (by intro s i hi hs;simp[qC];omega) (λk s i hi hs=>by
  have hp:=g.t _ (ci hi)
  obtain⟨q0,q1,q2⟩:=hp;rw[iG,dt (by omega),cond_true,dA hi,aa,show aW 0 3=some () from rfl,aa,show t.gK[i].toList[((0:Int).toNat)]? = some t.gK[i][0] from uU _ 0 (by decide),aa,show aW 1 3=some () from rfl,aa,show t.gK[i].toList[((1:Int).toNat)]? = some t.gK[i][1] from uU _ 1 (by decide),aa,show aW 2 3=some () from rfl,aa,show t.gK[i].toList[((2:Int).toNat)]? = some t.gK[i][2] from uU _ 2 (by decide),aa,rM q0.1 q0.2,rM q1.1 q1.2,rM q2.1 q2.2,zJ (by omega) (by simp),aa,bf,ag hi]
  show iG N _ t k (s++[t.gK[i][0],t.gK[i][1],t.gK[i][2]]) _=iG N _ t k (s++trB 1 t.gK[i]) _;unfold trB;rw[yE q0,yE q1,yE q2]
  rfl) (λk s=>by rw[iG,df (by omega),cond_false]) (N:=N) (by omega) (s:=[t.gM]) (by simp)
 rw[l3,aa,hflat t.gK #v[0,0,0] (trB 1)]
 unfold aAQ;rw[yE (x:=t.gM) ⟨by omega,by omega⟩]
def aJe(a:aI):Prop:=(a.gC=1/\aBt a.gP)\/(a.gC=2/\aG3 a.gQ)\/(a.gC=3/\aH3 a.gI)\/(a.gC=4/\aKh a.gD)
def uT(a:aI):List Int:=if a.gC=1 then uY a.gP else if a.gC=2 then aAQ a.gQ else if a.gC=3 then aD9 a.gI else aD2 a.gD
theorem ownT(N:Nat)(hN:1000 < N)(a:aI)(h:aB4 a):T (lR N a) (λc=>c=0->aJe a):=by
 unfold lR;refine T.cond (λc=>?_) λ_=>T.cond (λc=>?_) λ_=>T.cond (λc=>?_) λ_=>T.cond (λc=>?_) λ_=>T.ret λe=>by cases e
 ·exact T.bind (aQB N hN _ h.v h.u h.t) λr hr=>T.ret λe => .inl ⟨by simpa using c,hr e⟩
 ·exact T.bind (texT N hN _ h.x) λr hr=>T.ret λe => .inr (.inl ⟨by simpa using c,hr e⟩)
 ·exact T.bind (matT N hN _) λr hr=>T.ret λe => .inr (.inr (.inl ⟨by simpa using c,hr e⟩))
 ·exact T.bind (ligT N hN _) λr hr=>T.ret λe => .inr (.inr (.inr ⟨by simpa using c,hr e⟩))
theorem assE(N:Nat)(hN:1000 < N)(a:aI)(g:aJe a)(h0:lR N a=some 0):rN N a=some (uT a):=by
 unfold rN uT;unfold lR at h0;rcases g with ⟨k,g⟩ | ⟨k,g⟩ | ⟨k,g⟩ | ⟨k,g⟩
 ·rw[k] at h0 ⊢;rw[show((1:Int)==1)=true from rfl,cond_true] at h0 ⊢;have h1:fV N a.gP=some 0:=by
   cases hc:fV N a.gP with
   | none=>rw[hc] at h0;cases h0
   | some r=>rw[hc] at h0;exact h0
  rw[meshE N hN _ g h1,if_pos rfl]
  rfl
 ·rw[k] at h0 ⊢;rw[show((2:Int)==1)=false from rfl,show((2:Int)==2)=true from rfl,cond_false,cond_true] at h0 ⊢;have h1:cE N a.gQ=some 0:=by
   cases hc:cE N a.gQ with
   | none=>rw[hc] at h0;cases h0
   | some r=>rw[hc] at h0;exact h0
  rw[texE N hN _ g h1,if_neg (by decide),if_pos rfl]
  rfl
 ·rw[k,show((3:Int)==1)=false from rfl,show((3:Int)==2)=false from rfl,show((3:Int)==3)=true from rfl,cond_false,cond_false,cond_true,if_neg (by decide),if_neg (by decide),if_pos rfl]
  obtain⟨g1,⟨g2,g3,g4⟩,g5⟩:=g;rw[show aW 0 3=some () from rfl,aa,show a.gI.gF.toList[((0:Int).toNat)]? = some a.gI.gF[0] from uU _ 0 (by decide),aa,show aW 1 3=some () from rfl,aa,show a.gI.gF.toList[((1:Int).toNat)]? = some a.gI.gF[1] from uU _ 1 (by decide),aa,show aW 2 3=some () from rfl,aa,show a.gI.gF.toList[((2:Int).toNat)]? = some a.gI.gF[2] from uU _ 2 (by decide),aa,rM g1.1 g1.2]
  have l:=pF 4 (by decide) (λi=>leB 2 ([a.gI.gF[0],a.gI.gF[1],a.gI.gF[2],a.gI.gW].getD i 0)) (λs i=>s.length<=100+2*i) (nX N a.gI.gF[0] a.gI.gF[1] a.gI.gF[2] a) (by intro s i hi hs;simp[bN];omega) (λk s i hi hs=>by
   rw[nX,dt (by omega),cond_true,aEK (by simp;omega),aa]
   have hx:0<=[a.gI.gF[0],a.gI.gF[1],a.gI.gF[2],a.gI.gW].getD i 0/\[a.gI.gF[0],a.gI.gF[1],a.gI.gF[2],a.gI.gW].getD i 0 < 65536:=by
    have:i=0\/i=1\/i=2\/i=3:=by omega
    rcases this with rfl | rfl | rfl | rfl
    ·exact g2
    ·exact g3
    ·exact g4
    ·exact g5
   rw[kW hx.1 (by omega)]
   have e:=put1 N (by omega) s 2 (by decide) (by decide) _ hx.1 hx.2 (by omega)
   rw[show cM N s 2 _=_ from e,aa]) (λk s=>by rw[nX,df (by omega),cond_false]) (N:=N) (by omega) (s:=[a.gI.gC]) (by simp)
  rw[l,aa]
  unfold aD9 trB;rw[yE g1]
  rfl
 ·rw[k,show((4:Int)==1)=false from rfl,show((4:Int)==2)=false from rfl,show((4:Int)==3)=false from rfl,cond_false,cond_false,cond_false,if_neg (by decide),if_neg (by decide),if_neg (by decide)]
  obtain⟨g1,⟨g2,g3,g4⟩,g5,g6,g7⟩:=g;rw[show aW 0 3=some () from rfl,aa,show a.gD.gF.toList[((0:Int).toNat)]? = some a.gD.gF[0] from uU _ 0 (by decide),aa,show aW 1 3=some () from rfl,aa,show a.gD.gF.toList[((1:Int).toNat)]? = some a.gD.gF[1] from uU _ 1 (by decide),aa,show aW 2 3=some () from rfl,aa,show a.gD.gF.toList[((2:Int).toNat)]? = some a.gD.gF[2] from uU _ 2 (by decide),aa,rM g1.1 g1.2]
  rw[kW g2.1 (by omega),kW g3.1 (by omega),kW g4.1 (by omega)]
  have e:=put3 N (by omega) [a.gD.gC] 4 (by decide) (by decide) a.gD.gF[0] a.gD.gF[1] a.gD.gF[2] g2 g3 g4 (by simp)
  rw[show cM N [a.gD.gC] 4 [a.gD.gF[0],a.gD.gF[1],a.gD.gF[2]]=_ from e,aa]
  have l:=pF 3 (by decide) (λi=>ptB ([a.gD.gAt,a.gD.gU,a.gD.gV].getD i ⟨0,0,0⟩)) (λs i=>s.length<=100+6*i) (nV N a) (by intro s i hi hs;simp[qS];omega) (λk s i hi hs=>by
   rw[nV,dt (by omega),cond_true,dA (by simp;omega),aa]
   have hx:ptG ([a.gD.gAt,a.gD.gU,a.gD.gV][i]'(by simp;omega)):=by
    have:i=0\/i=1\/i=2:=by omega
    rcases this with rfl | rfl | rfl
    ·exact g5
    ·exact g6
    ·exact g7
   rw[sgn3 N (by omega) s _ hx (by omega),aa]
   rw[bf,ag (by simp;omega)]
   rfl) (λk s=>by rw[nV,df (by omega),cond_false]) (N:=N) (by omega) (s:=[a.gD.gC]++(leB 4 a.gD.gF[0]++(leB 4 a.gD.gF[1]++leB 4 a.gD.gF[2]))) (by simp[bN])
  rw[l,aa]
  unfold aD2 trB;rw[yE g1]
  show some (_++(cj 3).flatMap _)=_;rw[show(cj 3).flatMap (λi=>ptB ([a.gD.gAt,a.gD.gU,a.gD.gV].getD i ⟨0,0,0⟩))=ptB a.gD.gAt++(ptB a.gD.gU++ptB a.gD.gV) by
   simp[List.range_succ,dp]]
  simp[am]
def lN : aK:=aK.mk [] [] []
def uF : aH:=aH.mk 0 []
def wW : aG:=aG.mk 0 (#v[0,0,0]) 0
def zPt : aB:=aB.mk 0 0 0
def wX : aL:=aL.mk 0 (#v[0,0,0]) zPt zPt zPt
def zA(k:Int):aI:=aI.mk k lN uF wW wX
def sJ(a:aI):Prop:=(a.gC=1->a=aI.mk 1 a.gP uF wW wX)/\(a.gC=2->a=aI.mk 2 lN a.gQ wW wX)/\(a.gC=3->a=aI.mk 3 lN uF a.gI wX)/\(a.gC=4->a=aI.mk 4 lN uF wW a.gD)
theorem aQN(N:Nat)(a:aI)(h:aB4 a):T (uS N a) (λb=>aB4 b/\(b=zA a.gC->sJ a)/\(sJ a->aJe a->b=zA a.gC)):=by
 obtain⟨k,⟨v,u,t⟩,⟨s,x⟩,⟨mk,mc,mr⟩,⟨lk,lc,⟨ax,ay,az⟩,⟨ux,uy,uz⟩,⟨vx,vy,vz⟩⟩⟩:=a;obtain⟨h1,h2,h3,h4⟩:=h;unfold uS;dsimp only at h1 h2 h3 h4 ⊢;have hk:k=1\/k=2\/k=3\/k=4\/(k≠1/\k≠2/\k≠3/\k≠4):=by omega
 rcases hk with rfl | rfl | rfl | rfl | ⟨n1,n2,n3,n4⟩
 ·rw[show((1:Int)==1)=true from rfl,cond_true,aa]
  refine T.ret ⟨⟨by simp,by simp,by simp,h4⟩,λe=>?_,λe _=>?_⟩
  ·simp only[zA,lN,uF,wW,wX,zPt,aI.mk.injEq,aH.mk.injEq,aG.mk.injEq,aL.mk.injEq,aB.mk.injEq] at e;refine⟨λ_=>?_,λh=>(by cases h),λh=>(by cases h),λh=>by cases h⟩
   simp only[zA,lN,uF,wW,wX,zPt,aI.mk.injEq,aH.mk.injEq,aG.mk.injEq,aL.mk.injEq,aB.mk.injEq]
   simp[e]
  ·have e:=e.1 rfl;simp only[zA,lN,uF,wW,wX,zPt,aI.mk.injEq,aH.mk.injEq,aG.mk.injEq,aL.mk.injEq,aB.mk.injEq] at e ⊢;simp[e]
 ·rw[show((2:Int)==1)=false from rfl,show((2:Int)==2)=true from rfl,cond_false,cond_true,aa]
  refine T.ret ⟨⟨h1,h2,h3,by simp⟩,λe=>?_,λe _=>?_⟩
  ·simp only[zA,lN,uF,wW,wX,zPt,aI.mk.injEq,aK.mk.injEq,aH.mk.injEq,aG.mk.injEq,aL.mk.injEq,aB.mk.injEq] at e;refine⟨λh=>(by cases h),λ_=>?_,λh=>(by cases h),λh=>by cases h⟩
   simp only[zA,lN,uF,wW,wX,zPt,aI.mk.injEq,aK.mk.injEq,aH.mk.injEq,aG.mk.injEq,aL.mk.injEq,aB.mk.injEq]
   simp[e]
  ·have e:=e.2.1 rfl;simp only[zA,lN,uF,wW,wX,zPt,aI.mk.injEq,aK.mk.injEq,aH.mk.injEq,aG.mk.injEq,aL.mk.injEq,aB.mk.injEq] at e ⊢;simp[e]
 ·rw[show((3:Int)==1)=false from rfl,show((3:Int)==2)=false from rfl,show((3:Int)==3)=true from rfl,cond_false,cond_false,cond_true,aa]
  refine T.ret ⟨⟨h1,h2,h3,h4⟩,λe=>?_,λe _=>?_⟩
  ·simp only[zA,lN,uF,wW,wX,zPt,aI.mk.injEq,aK.mk.injEq,aH.mk.injEq,aG.mk.injEq,aL.mk.injEq,aB.mk.injEq] at e;refine⟨λh=>(by cases h),λh=>(by cases h),λ_=>?_,λh=>by cases h⟩
   simp only[zA,lN,uF,wW,wX,zPt,aI.mk.injEq,aK.mk.injEq,aH.mk.injEq,aG.mk.injEq,aL.mk.injEq,aB.mk.injEq]
   simp[e]
  ·have e:=e.2.2.1 rfl;simp only[zA,lN,uF,wW,wX,zPt,aI.mk.injEq,aK.mk.injEq,aH.mk.injEq,aG.mk.injEq,aL.mk.injEq,aB.mk.injEq] at e ⊢;simp[e]
 ·rw[show((4:Int)==1)=false from rfl,show((4:Int)==2)=false from rfl,show((4:Int)==3)=false from rfl,show((4:Int)==4)=true from rfl,cond_false,cond_false,cond_false,cond_true,aa]
  refine T.ret ⟨⟨h1,h2,h3,h4⟩,λe=>?_,λe _=>?_⟩
  ·simp only[zA,lN,uF,wW,wX,zPt,aI.mk.injEq,aK.mk.injEq,aH.mk.injEq,aG.mk.injEq,aL.mk.injEq,aB.mk.injEq] at e;refine⟨λh=>(by cases h),λh=>(by cases h),λh=>(by cases h),λ_=>?_⟩
   simp only[zA,lN,uF,wW,wX,zPt,aI.mk.injEq,aK.mk.injEq,aH.mk.injEq,aG.mk.injEq,aL.mk.injEq,aB.mk.injEq]
   simp[e]
  ·have e:=e.2.2.2 rfl;simp only[zA,lN,uF,wW,wX,zPt,aI.mk.injEq,aK.mk.injEq,aH.mk.injEq,aG.mk.injEq,aL.mk.injEq,aB.mk.injEq] at e ⊢;simp[e]
 ·rw[show(k==1)=false by simpa using n1,show(k==2)=false by simpa using n2,show(k==3)=false by simpa using n3,show(k==4)=false by simpa using n4,cond_false,cond_false,cond_false,cond_false,aa]
  refine T.ret ⟨⟨h1,h2,h3,h4⟩,λ_=>⟨λh=>absurd h n1,λh=>absurd h n2,λh=>absurd h n3,λh=>absurd h n4⟩,λ_ g=>?_⟩
  rcases g with ⟨g,_⟩ | ⟨g,_⟩ | ⟨g,_⟩ | ⟨g,_⟩
  ·exact absurd g n1
  ·exact absurd g n2
  ·exact absurd g n3
  ·exact absurd g n4
structure aDB(N:Nat)(a:aI):Prop where
 own0:lR N a=some 0
 own:aJe a
 clean:sJ a
 cap:((uT a).length:Int)<=xE a.gC
theorem aRB(N:Nat)(hN:1000 < N)(a:aI)(h:aB4 a):T (jG N a) (λc=>(c=0->aDB N a)/\(aDB N a->c=0)):=by
 unfold jG;obtain⟨r1,e1,h1⟩:=ownT N hN a h;rw[e1,aa]
 refine T.cond (λc=>T.ret ⟨λe=>?_,λg=>?_⟩) λc=>?_
 ·subst e;cases c
 ·have:=g.own0;rw[e1] at this;cases this;cases c
 ·have hr:r1=0:=by simpa using c
  subst hr;have hown:=h1 rfl;obtain⟨b,eb,hb1,hb2,hb3⟩:=aQN N a h;rw[eb,aa]
  obtain⟨r3,e3,h3⟩:=aQc N hN b (zA a.gC) hb1;rw[show rU N b (aI.mk a.gC (aK.mk [] [] []) (aH.mk 0 []) (aG.mk 0 (#v[0,0,0]) 0) (aL.mk 0 (#v[0,0,0]) (aB.mk 0 0 0) (aB.mk 0 0 0) (aB.mk 0 0 0)))=some r3 from e3,aa]
  refine T.cond (λc3=>T.ret ⟨λe=>(by cases e),λg=>?_⟩) λc3=>?_
  ·have:=h3.2 (hb3 g.clean g.own)
   rw[this] at c3;cases c3
  ·have hr3:r3=true:=by simpa using c3
   have hclean:=hb2 (h3.1 hr3)
   rw[assE N hN a hown e1,aa,capP,aa]
   refine T.letO λx hx=>?_;subst hx;refine T.cond (λc4=>T.ret ⟨λe=>(by cases e),λg=>?_⟩) λc4=>T.ret ⟨λ_=>⟨e1,hown,hclean,?_⟩,λ_=>rfl⟩
   ·have:=g.cap;have:=of_decide_eq_true c4;omega
   ·have:=of_decide_eq_false c4;omega
def RdQ{α:Type}(f:α->List Int)(P:α->Prop)(c:Nat)(b:List Int)(e:Int)(b':List Int)(e':Int)(x:α):Prop:=
 aR b'/\b'.length<=b.length/\((e'=0/\e=0/\b=f x++b'/\P x)\/(e'≠0/\(e=0->b.length < c)))
theorem aEF(N:Nat)(hN:20 < N)(w:Nat)(hw0:1<=w)(hw:w<=4)(b:List Int)(e:Int)(hb:aR b):T (aS N (w:Int) (aA.mk b e true)) (λr=>RdQ (leB w) (λx=>0<=x/\x < bO w) w b e r.1 r.2.1 r.2.2/\0<=r.2.2/\r.2.2 < bO w):=by
 unfold aS;refine T.bind (aCN N hN b e w hw0 (by omega) hb) λr h=>T.ret ?_;obtain⟨h1,h2,h3,h4,h5⟩:=h;have hp:bO w<=4294967296:=by
  have:∀i:Fin 5,bO i.val<=4294967296:=by decide
  exact this ⟨w,by omega⟩
 have e0:I64 r.2.2=r.2.2:=aU (by omega) (by omega)
 dsimp only;rw[e0]
 refine⟨⟨h1,h2,?_⟩,h3,h4⟩
 rcases h5 with ⟨g1,g2,g3⟩ | ⟨g1,g2,g3,g4,g5⟩
 ·exact .inl ⟨g1,g2,g3,h3,h4⟩
 ·exact .inr ⟨g1,λh=>(g4 h).2⟩
def ptR(p:aB):Prop:=(-32768<=p.gX/\p.gX < 32768)/\(-32768<=p.gY/\p.gY < 32768)/\(-32768<=p.gZ/\p.gZ < 32768)
theorem ptG.r{p:aB}(h:ptG p):ptR p:=by obtain⟨h1,h2,h3⟩:=h;exact⟨⟨by omega,by omega⟩,⟨by omega,by omega⟩,by omega,by omega⟩
theorem aNf(N:Nat)(hN:20 < N)(b:List Int)(e:Int)(hb:aR b):T (eN N (aA.mk b e true)) (λr=>RdQ ptB ptR 6 b e r.1 r.2.1 r.2.2.2/\r.2.2.1=true):=by
 unfold eN;refine T.bind (aLf N hN b e hb) λr1 h1=>?_;obtain⟨b1,e1,v1⟩:=r1;obtain⟨p1,l1,x0,x1,h1⟩:=h1;dsimp only at p1 l1 x0 x1 h1 ⊢;refine T.bind (aLf N hN b1 e1 p1) λr2 h2=>?_;obtain⟨b2,e2,v2⟩:=r2;obtain⟨p2,l2,y0,y1,h2⟩:=h2;dsimp only at p2 l2 y0 y1 h2 ⊢;refine T.bind (aLf N hN b2 e2 p2) λr3 h3=>?_;obtain⟨b3,e3,v3⟩:=r3;obtain⟨p3,l3,z0,z1,h3⟩:=h3;dsimp only at p3 l3 z0 z1 h3 ⊢;refine T.ret ⟨⟨p3,by dsimp only;omega,?_⟩,rfl⟩
 dsimp only;rcases h3 with ⟨q1,q2,q3⟩ | ⟨q1,_,q2,q3⟩
 ·subst q1 q2;rcases h2 with ⟨_,q4,q5⟩ | ⟨q4,_⟩
  ·subst q4;rcases h1 with ⟨_,q6,q7⟩ | ⟨q6,_⟩
   ·refine .inl ⟨rfl,q6,?_,⟨x0,x1⟩,⟨y0,y1⟩,z0,z1⟩
    unfold ptB;rw[q7,q5,q3]
    simp[am]
   ·exact absurd rfl q6
  ·exact absurd rfl q4
 ·refine .inr ⟨q1,λhe=>?_⟩
  rcases h1 with ⟨k1,_,k2⟩ | ⟨k1,_,k2,_⟩
  ·have hl:=congrArg dm k2;rw[ai,bN] at hl;rcases h2 with ⟨k3,_,k4⟩ | ⟨k3,_,k4,_⟩
   ·have hl2:=congrArg dm k4;rw[ai,bN] at hl2;have:=(q2 k3).2;omega
   ·have:=(k4 k1).2;omega
  ·have:=(k2 he).2;omega
theorem aQ8(N:Nat)(hN:20 < N)(b:List Int)(e:Int)(hb:aR b){Q:(List Int×Int×Int)×(List Int×Int×Int)->Prop}(hQ:∀r1 r2,RdQ uvB uvG 4 b e r2.1 r2.2.1 #v[r1.2.2,r2.2.2]->Q (r1,r2)):T (ae (aS N 2 (aA.mk b e true)) λr18=>ae (aS N 2 (aA.mk r18.1 r18.2.1 true)) λr19=>some (r18,r19)) Q:=by
 refine T.bind (aEF N hN 2 (by decide) (by decide) b e hb) λr1 h1=>?_;obtain⟨b1,e1,v1⟩:=r1;obtain⟨⟨p1,l1,h1⟩,x0,x1⟩:=h1;dsimp only at p1 l1 x0 x1 h1 ⊢;refine T.bind (aEF N hN 2 (by decide) (by decide) b1 e1 p1) λr2 h2=>T.ret (hQ _ _ ?_)
 obtain⟨b2,e2,v2⟩:=r2;obtain⟨⟨p2,l2,h2⟩,y0,y1⟩:=h2;dsimp only at p2 l2 y0 y1 h2 ⊢;refine⟨p2,by omega,?_⟩
 rcases h2 with ⟨q1,q2,q3,_⟩ | ⟨q1,q2⟩
 ·subst q1 q2;rcases h1 with ⟨_,q4,q5,_⟩ | ⟨q4,_⟩
  ·refine .inl ⟨rfl,q4,?_,⟨x0,x1⟩,y0,y1⟩
   unfold uvB;rw[q5,q3]
   simp[am]
  ·exact absurd rfl q4
 ·refine .inr ⟨q1,λhe=>?_⟩
  rcases h1 with ⟨k1,_,k2,_⟩ | ⟨_,k1⟩
  ·have hl:=congrArg dm k2;rw[ai,bN] at hl;have:=q2 k1;omega
  ·have:=k1 he;omega
theorem aQs(N:Nat)(hN:20 < N)(w:Nat)(hw0:1<=w)(hw:w<=4)(b:List Int)(e:Int)(hb:aR b){Q:(List Int×Int×Int)×(List Int×Int×Int)×(List Int×Int×Int)->Prop}(hQ:∀r1 r2 r3,RdQ (trB w) (trG (bO w)) (3*w) b e r3.1 r3.2.1 #v[r1.2.2,r2.2.2,r3.2.2]->Q (r1,r2,r3)):T (ae (aS N (w:Int) (aA.mk b e true)) λr1=>ae (aS N (w:Int) (aA.mk r1.1 r1.2.1 true)) λr2=>ae (aS N (w:Int) (aA.mk r2.1 r2.2.1 true)) λr3=>some (r1,r2,r3)) Q:=by
 refine T.bind (aEF N hN w hw0 hw b e hb) λr1 h1=>?_;obtain⟨b1,e1,v1⟩:=r1;obtain⟨⟨p1,l1,h1⟩,x0,x1⟩:=h1;dsimp only at p1 l1 x0 x1 h1 ⊢;refine T.bind (aEF N hN w hw0 hw b1 e1 p1) λr2 h2=>?_;obtain⟨b2,e2,v2⟩:=r2;obtain⟨⟨p2,l2,h2⟩,y0,y1⟩:=h2;dsimp only at p2 l2 y0 y1 h2 ⊢;refine T.bind (aEF N hN w hw0 hw b2 e2 p2) λr3 h3=>T.ret (hQ _ _ _ ?_)
 obtain⟨b3,e3,v3⟩:=r3;obtain⟨⟨p3,l3,h3⟩,z0,z1⟩:=h3;dsimp only at p3 l3 z0 z1 h3 ⊢;refine⟨p3,by omega,?_⟩
 rcases h3 with ⟨q1,q2,q3,_⟩ | ⟨q1,q2⟩
 ·subst q1 q2;rcases h2 with ⟨_,q4,q5,_⟩ | ⟨q4,_⟩
  ·subst q4;rcases h1 with ⟨_,q6,q7,_⟩ | ⟨q6,_⟩
   ·refine .inl ⟨rfl,q6,?_,⟨x0,x1⟩,⟨y0,y1⟩,z0,z1⟩
    unfold trB;rw[q7,q5,q3]
    simp[am]
   ·exact absurd rfl q6
  ·exact absurd rfl q4
 ·refine .inr ⟨q1,λhe=>?_⟩
  rcases h1 with ⟨k1,_,k2,_⟩ | ⟨_,k1⟩
  ·have hl:=congrArg dm k2;rw[ai,bN] at hl;rcases h2 with ⟨k3,_,k4,_⟩ | ⟨_,k3⟩
   ·have hl2:=congrArg dm k4;rw[ai,bN] at hl2;have:=q2 k3;omega
   ·have:=k3 k1;omega
  ·have:=k1 he;omega
theorem aH1{α:Type}(f:α->List Int)(P:α->Prop)(c:Nat)(hc:∀x,(f x).length=c)(n:Nat)(hn:n < 1000000){F:Nat->List α->List Int->Int->Bool->Int->Option (List α×List Int×Int×Bool)}
  (hstep:∀k s b e i,i < n->s.length<=i->aR b->∀Q,(∀b' e' x,RdQ f P c b e b' e' x->T (F k (s++[x]) b' e' true ((i+1:Nat):Int)) Q)->T (F (k+1) s b e true (i:Int)) Q) (hend:∀k s b e,F (k+1) s b e true (n:Int)=some (s,b,e,true)) :
  ∀(k i:Nat) (s:List α) (b:List Int) (e:Int),i<=n->s.length<=i->n - i < k->aR b->T (F k s b e true (i:Int)) (λr=>aR r.2.1/\r.2.1.length<=b.length/\r.2.2.2=true/\∃l,r.1=s++l/\l.length=n - i/\((r.2.2.1=0/\e=0/\b=l.flatMap f++r.2.1/\∀x∈l,P x)\/(r.2.2.1≠0/\(e=0->b.length < (n - i)*c))))
 | 0,i,_,_,_,_,_,h,_=>by omega
 | k+1,i,s,b,e,hi,hs,hk,hb=>by
  by_cases h:i < n
  ·refine hstep k s b e i h hs hb _ λb' e' x hx=>?_;obtain⟨x1,x2,x3⟩:=hx;refine T.mono (aH1 f P c hc n hn hstep hend k (i+1) (s++[x]) b' e' (by omega) (by simp;omega) (by omega) x1) λr hr=>?_;obtain⟨r1,r2,r3,l,r4,r5,r6⟩:=hr;refine⟨r1,by omega,r3,x :: l,by rw[r4];simp,by rw[cx];omega,?_⟩
   have hmul:(n - i)*c=(n - (i+1))*c+c:=by rw[show n - i=(n - (i+1))+1 by omega,iq];omega
   rcases r6 with ⟨g1,g2,g3,g4⟩ | ⟨g1,g2⟩
   ·subst g2;rcases x3 with ⟨_,q2,q3,q4⟩ | ⟨q1,_⟩
    ·refine .inl ⟨g1,q2,by rw[q3,g3,dp,am],λy hy=>?_⟩
     rcases fk.1 hy with rfl | hy
     ·exact q4
     ·exact g4 y hy
    ·exact absurd rfl q1
   ·refine .inr ⟨g1,λhe=>?_⟩
    rcases x3 with ⟨q1,_,q3,_⟩ | ⟨_,q1⟩
    ·have hl:=congrArg dm q3;rw[ai,hc] at hl;have:=g2 q1;omega
    ·have:=q1 he;omega
  ·obtain rfl:i=n:=by omega
   rw[hend]
   refine T.ret ⟨hb,cm _,rfl,[],by simp,by simp,?_⟩
   by_cases he:e=0
   ·exact .inl ⟨he,he,by simp,λx hx=>by cases hx⟩
   ·exact .inr ⟨he,λh=>absurd h he⟩
structure aFo(m:aK):Prop where
 nv:m.gG.length < 256
 nt:m.gJ.length < 256
 nu:m.gL.length=m.gG.length
 v:∀p∈m.gG,ptR p
 u:∀p∈m.gL,uvG p
 t:∀p∈m.gJ,trG 256 p
theorem aBt.r{m:aK}(g:aBt m):aFo m:=⟨by have:=g.nv;omega,by have:=g.nt;omega,g.nu,λp h=>(g.v p h).r,g.u,g.t⟩
theorem aBG{α:Type}{f:α->List Int}{c:Nat}{P:α->Prop}(hc:∀x,(f x).length=c)(hf:∀x y,P x->P y->f x=f y->x=y):∀(l l':List α) (r r':List Int),l.length=l'.length->(∀x∈l,P x)->(∀x∈l',P x)->l.flatMap f++r=l'.flatMap f++r'->l=l'/\r=r'
 | [],[],r,r',_,_,_,h=>⟨rfl,by simpa using h⟩
 | [],_ :: _,_,_,h,_,_,_=>by simp at h
 | _ :: _,[],_,_,h,_,_,_=>by simp at h
 | a :: l,b :: l',r,r',hl,h1,h2,h=>by
  rw[dp,dp,am,am] at h;obtain⟨e1,e2⟩:=ce h (by rw[hc,hc])
  obtain⟨e3,e4⟩:=aBG hc hf l l' r r' (by simpa using hl) (λx hx=>h1 x (by simp[hx])) (λx hx=>h2 x (by simp[hx])) e2;rw[hf a b (h1 a (by simp)) (h2 b (by simp)) e1,e3]
  exact⟨rfl,e4⟩
theorem aE2{p q:aB}(hp:ptR p)(hq:ptR q)(h:ptB p=ptB q):p=q:=by
 unfold ptB at h;obtain⟨h1,h⟩:=ce h (by simp[bN])
 obtain⟨h2,h3⟩:=ce h (by simp[bN])
 have e1:=lV (w:=2) (by decide) ⟨by omega,by rw[show bO 2=65536 from rfl];omega⟩ ⟨by omega,by rw[show bO 2=65536 from rfl];omega⟩ h1;have e2:=lV (w:=2) (by decide) ⟨by omega,by rw[show bO 2=65536 from rfl];omega⟩ ⟨by omega,by rw[show bO 2=65536 from rfl];omega⟩ h2;have e3:=lV (w:=2) (by decide) ⟨by omega,by rw[show bO 2=65536 from rfl];omega⟩ ⟨by omega,by rw[show bO 2=65536 from rfl];omega⟩ h3;obtain⟨a1,a2,a3⟩:=hp;obtain⟨b1,b2,b3⟩:=hq;cases p;cases q;dsimp only at *;rw[aB.mk.injEq]
 omega
theorem vext2{a b:Vector Int 2}(h0:a[0]=b[0])(h1:a[1]=b[1]):a=b:=by
 apply ni;intro i hi;have:i=0\/i=1:=by omega
 rcases this with rfl | rfl <;> assumption
theorem vext3{a b:Vector Int 3}(h0:a[0]=b[0])(h1:a[1]=b[1])(h2:a[2]=b[2]):a=b:=by
 apply ni;intro i hi;have:i=0\/i=1\/i=2:=by omega
 rcases this with rfl | rfl | rfl <;> assumption
theorem aPR{p q:Vector Int 2}(hp:uvG p)(hq:uvG q)(h:uvB p=uvB q):p=q:=by
 unfold uvB at h;obtain⟨h1,h2⟩:=ce h (by simp[bN])
 exact vext2 (lV (w:=2) (by decide) hp.1 hq.1 h1) (lV (w:=2) (by decide) hp.2 hq.2 h2)
theorem aE7{w:Nat}(hw:w<=8){p q:Vector Int 3}(hp:trG (bO w) p)(hq:trG (bO w) q)(h:trB w p=trB w q):p=q:=by
 unfold trB at h;obtain⟨h1,h⟩:=ce h (by simp[bN])
 obtain⟨h2,h3⟩:=ce h (by simp[bN])
 exact vext3 (lV hw hp.1 hq.1 h1) (lV hw hp.2.1 hq.2.1 h2) (lV hw hp.2.2 hq.2.2 h3)
theorem aDs{m m':aK}(r:aFo m)(r':aFo m'){x x':List Int}(h:uY m++x=uY m'++x'):m=m'/\x=x':=by
 unfold uY at h;simp only[am] at h;have:=r.nv;have:=r'.nv;have:=r.nt;have:=r'.nt;obtain⟨h1,h⟩:=ce h (by simp[bN])
 obtain⟨h2,h⟩:=ce h (by simp[bN])
 have n1:=lV (w:=1) (by decide) (x:=(m.gG.length:Int)) (y:=(m'.gG.length:Int)) ⟨by omega,by rw[show bO 1=256 from rfl];omega⟩ ⟨by omega,by rw[show bO 1=256 from rfl];omega⟩ h1;have n2:=lV (w:=1) (by decide) (x:=(m.gJ.length:Int)) (y:=(m'.gJ.length:Int)) ⟨by omega,by rw[show bO 1=256 from rfl];omega⟩ ⟨by omega,by rw[show bO 1=256 from rfl];omega⟩ h2;obtain⟨e1,h⟩:=aBG qS (λ_ _=>aE2) _ _ _ _ (by omega) r.v r'.v h;obtain⟨e2,h⟩:=aBG yQ (λ_ _=>aPR) _ _ _ _ (by rw[r.nu,r'.nu];omega) r.u r'.u h;obtain⟨e3,h⟩:=aBG (qC 1) (λ_ _=>aE7 (w:=1) (by decide)) _ _ _ _ (by omega) r.t r'.t h;refine⟨?_,h⟩
 cases m;cases m';dsimp only at *;rw[e1,e2,e3]
theorem aMs{m:aK}(r:aFo m):(uY m).length=2+10*m.gG.length+3*m.gJ.length:=by
 unfold uY;simp only[ai,bN,sW qS,sW yQ,sW (qC 1),r.nu]
 omega
theorem aIy(N:Nat)(hN:1000 < N)(b:List Int)(hb:aR b)(hl:b.length<=100000):T (rC N b) (λr=>(r.2=0/\b=uY r.1/\aBt r.1)\/(r.2≠0/\r.1=lN/\∀m,aFo m->b=uY m->fV N m≠some 0)):=by
 unfold rC;rw[aIx N b (by omega),aa]
 refine T.bind (aEF N (by omega) 1 (by decide) (by decide) b 0 hb) λr2 h2=>?_;obtain⟨b2,e2,v2⟩:=r2;obtain⟨⟨p2,l2,h2⟩,x0,x1⟩:=h2;dsimp only at p2 l2 x0 x1 h2 ⊢;refine T.bind (aEF N (by omega) 1 (by decide) (by decide) b2 e2 p2) λr3 h3=>?_;obtain⟨b3,e3,v3⟩:=r3;obtain⟨⟨p3,l3,h3⟩,y0,y1⟩:=h3;dsimp only at p3 l3 y0 y1 h3 ⊢;rw[show bO 1=256 from rfl] at x1 y1;obtain⟨nv,rfl⟩:=bp x0;obtain⟨nt,rfl⟩:=bp y0;refine T.bind (aH1 ptB ptR 6 qS nv (by omega) (F:=iB N (b2,e2,(nv:Int))) (λk s b e i hi hs hb Q hk=>?_) (λk s b e=>by rw[iB,df (by dsimp only;omega),cond_false]) N 0 [] b3 e3 (by omega) (by simp) (by omega) p3) λr4 h4=>?_
 ·rw[iB,dt (by dsimp only;omega),cond_true]
  refine T.bind (aNf N (by omega) b e hb) λr10 h10=>?_;obtain⟨h11,h12⟩:=h10;refine T.bind (T.app (by simp;omega)) λz hz=>?_;subst hz;rw[h12,cV (by omega)]
  exact hk _ _ _ h11
 obtain⟨vs,b4,e4,m4⟩:=r4;obtain⟨p4,l4,rfl,vl,rfl,hvl,h4⟩:=h4;dsimp only at p4 l4 h4 hvl ⊢;refine T.bind (aH1 uvB uvG 4 yQ nv (by omega) (F:=hU N (b2,e2,(nv:Int))) (λk s b e i hi hs hb Q hk=>?_) (λk s b e=>by rw[hU,df (by dsimp only;omega),cond_false]) N 0 [] b4 e4 (by omega) (by simp) (by omega) p4) λr12 h12=>?_
 ·rw[hU,dt (by dsimp only;omega),cond_true]
  have h:=aQ8 N (by omega) b e hb (Q:=λr=>RdQ uvB uvG 4 b e r.2.1 r.2.2.1 #v[r.1.2.2,r.2.2.2]) (λ_ _ h=>h)
  obtain⟨⟨r18,r19⟩,g1,g2⟩:=h;obtain⟨q18,k1,g1⟩:=xY g1;obtain⟨q19,k2,g1⟩:=xY g1;cases g1;rw[k1,aa]
  dsimp only;rw[k2,aa]
  refine T.bind (T.app (by simp;omega)) λz hz=>?_;subst hz;rw[cV (by omega)]
  exact hk _ _ _ g2
 obtain⟨us,b5,e5,m5⟩:=r12;obtain⟨p5,l5,rfl,ul,rfl,hul,h5⟩:=h12;dsimp only at p5 l5 h5 hul ⊢;refine T.bind (aH1 (trB 1) (trG 256) 3 (qC 1) nt (by omega) (F:=hP N (b3,e3,(nt:Int))) (λk s b e i hi hs hb Q hk=>?_) (λk s b e=>by rw[hP,df (by dsimp only;omega),cond_false]) N 0 [] b5 e5 (by omega) (by simp) (by omega) p5) λr21 h21=>?_
 ·rw[hP,dt (by dsimp only;omega),cond_true]
  have h:=aQs N (by omega) 1 (by decide) (by decide) b e hb (Q:=λr=>RdQ (trB 1) (trG 256) 3 b e r.2.2.1 r.2.2.2.1 #v[r.1.2.2,r.2.1.2.2,r.2.2.2.2]) (λ_ _ _ h=>h)
  obtain⟨⟨r27,r28,r29⟩,g1,g2⟩:=h;obtain⟨q27,k1,g1⟩:=xY g1;obtain⟨q28,k2,g1⟩:=xY g1;obtain⟨q29,k3,g1⟩:=xY g1;cases g1;rw[show aS N 1 (aA.mk b e true)=some r27 from k1,aa]
  dsimp only;rw[show aS N 1 (aA.mk r27.1 r27.2.1 true)=some r28 from k2,aa,show aS N 1 (aA.mk r28.1 r28.2.1 true)=some r29 from k3,aa]
  refine T.bind (T.app (by simp;omega)) λz hz=>?_;subst hz;rw[cV (by omega)]
  exact hk _ _ _ g2
 obtain⟨ts,b6,e6,m6⟩:=r21;obtain⟨p6,l6,rfl,tl,rfl,htl,h6⟩:=h21;dsimp only at p6 l6 h6 htl ⊢;rw[aGx,aa]
 rw[np] at hvl hul htl h4 h5 h6
 -- all that was read
 have all:e6=0->b=uY (aK.mk vs us ts)++b6/\aFo (aK.mk vs us ts):=by
  intro he;rcases h6 with ⟨_,q1,q2,q3⟩ | ⟨q,_⟩
  ·subst q1;rcases h5 with ⟨_,k1,k2,k3⟩ | ⟨q,_⟩
   ·subst k1;rcases h4 with ⟨_,i1,i2,i3⟩ | ⟨q,_⟩
    ·subst i1;rcases h3 with ⟨_,j1,j2,_⟩ | ⟨q,_⟩
     ·subst j1;rcases h2 with ⟨_,_,o2,_⟩ | ⟨q,_⟩
      ·refine⟨?_,by dsimp only;omega,by dsimp only;omega,by dsimp only;omega,i3,k3,q3⟩
       unfold uY;dsimp only;rw[o2,j2,i2,k2,q2,hvl,htl]
       simp[am]
      ·exact absurd rfl q
     ·exact absurd rfl q
    ·exact absurd rfl q
   ·exact absurd rfl q
  ·exact absurd he q
 have short:e6≠0->∀m,aFo m->b≠uY m:=by
  intro he m r hm;have hlen:=aMs r;rw[<- hm] at hlen;rcases h2 with ⟨a1,_,a2,_⟩ | ⟨_,a1⟩
  ·rcases h3 with ⟨c1,_,c2,_⟩ | ⟨_,c1⟩
   ·-- the numbers are the mesh's
    have hh:leB 1 (nv:Int)++(leB 1 (nt:Int)++b3)=uY m:=by rw[<- hm,a2,c2]
    unfold uY at hh;obtain⟨g1,g2⟩:=ce hh (by simp[bN])
    obtain⟨g3,g4⟩:=ce g2 (by simp[bN])
    have:=r.nv;have:=r.nt;have n1:=lV (w:=1) (by decide) (x:=(nv:Int)) (y:=(m.gG.length:Int)) ⟨by omega,by rw[show bO 1=256 from rfl];omega⟩ ⟨by omega,by rw[show bO 1=256 from rfl];omega⟩ g1;have n2:=lV (w:=1) (by decide) (x:=(nt:Int)) (y:=(m.gJ.length:Int)) ⟨by omega,by rw[show bO 1=256 from rfl];omega⟩ ⟨by omega,by rw[show bO 1=256 from rfl];omega⟩ g3;have hl3:b.length=2+b3.length:=by rw[a2,c2];simp[bN];omega
    rcases h4 with ⟨i1,_,i2,_⟩ | ⟨_,i1⟩
    ·have hl4:=congrArg dm i2;rw[ai,sW qS,hvl] at hl4;rcases h5 with ⟨k1,_,k2,_⟩ | ⟨_,k1⟩
     ·have hl5:=congrArg dm k2;rw[ai,sW yQ,hul] at hl5;rcases h6 with ⟨q1,_⟩ | ⟨_,q1⟩
      ·exact he q1
      ·have:=q1 k1;omega
     ·have:=k1 i1;omega
    ·have:=i1 c1;omega
   ·have hl2:b.length=1+b2.length:=by rw[a2];simp[bN]
    have:=c1 a1;omega
  ·have:=a1 rfl;omega
 by_cases he:e6=0
 ·obtain⟨g1,g2⟩:=all he;subst he;rw[show((0:Int) != 0)=false from rfl,cond_false]
  by_cases hr:0 < b6.length
  ·rw[dt hr,cond_true,show((5:Int) != 0)=true from rfl,cond_true]
   refine T.ret (.inr ⟨(show(5:Int)≠0 by decide),rfl,λm r hm=>?_⟩)
   exfalso;rw[g1] at hm;have:=(aDs (x:=b6) (x':=[]) g2 r (by rw[cg];exact hm)).2;rw[this] at hr;simp at hr
  ·have:b6=[]:=d9 (by omega)
   subst this;rw[df hr,cond_false,show((0:Int) != 0)=false from rfl,cond_false]
   rw[cg] at g1;refine T.bind (P:=λc=>(c=0->aBt (aK.mk vs us ts))/\fV N (aK.mk vs us ts)=some c) ?_ λc hc=>T.cond (λq=>T.ret ?_) λq=>T.ret ?_
   ·obtain⟨c,q1,q2⟩:=aQB N hN (aK.mk vs us ts) (by have:=g2.nv;omega) (by have:=g2.nv;have:=g2.nu;omega) (by have:=g2.nt;omega)
    exact⟨c,q1,q2,q1⟩
   ·have q:c≠0:=by simpa using q
    refine .inr ⟨q,rfl,λm r hm=>?_⟩
    have:=(aDs (x:=[]) (x':=[]) g2 r (by rw[cg,cg,<- g1];exact hm)).1;rw[<- this,hc.2]
    intro h;cases h;exact q rfl
   ·have q:c=0:=by simpa using q
    exact .inl ⟨rfl,g1,hc.1 q⟩
 ·rw[show(e6 != 0)=true by simpa using he,cond_true,show(e6 != 0)=true by simpa using he,cond_true]
  exact T.ret (.inr ⟨he,rfl,λm r hm=>absurd hm (short he m r)⟩)
structure aMa(t:aH):Prop where
 side:0<=t.gM/\t.gM < 256
 n:(t.gK.length:Int)=t.gM*t.gM
 t:∀p∈t.gK,trG 256 p
theorem aG3.r{t:aH}(g:aG3 t):aMa t:=⟨⟨by have:=g.side;omega,by have:=g.side;omega⟩,g.n,g.t⟩
theorem aCw{t t':aH}(r:aMa t)(r':aMa t'){x x':List Int}(h:aAQ t++x=aAQ t'++x'):t=t'/\x=x':=by
 unfold aAQ at h;simp only[am] at h;obtain⟨h1,h⟩:=ce h (by simp[bN])
 have n1:=lV (w:=1) (by decide) r.side r'.side h1;have n2:t.gK.length=t'.gK.length:=by
  have:=r.n;have:=r'.n;rw[n1] at *;omega
 obtain⟨e1,h⟩:=aBG (qC 1) (λ_ _=>aE7 (w:=1) (by decide)) _ _ _ _ n2 r.t r'.t h;refine⟨?_,h⟩
 cases t;cases t';dsimp only at *;rw[e1,n1]
theorem texL(N n:Nat)(hn:n < 100000):∀(k i:Nat) (s:List (Vector Int 3)) (b:List Int) (e:Int),i<=n->s.length<=i->b.length < k->aR b->T (cG N (n:Int) k s b e true (i:Int)) (λr=>r.2.2.2=true/\∃l,r.1=s++l/\l.length<=n - i/\l.length<=b.length/\((r.2.2.1=0/\e=0/\l.length=n - i/\b=l.flatMap (trB 1)++r.2.1/\∀x∈l,trG 256 x)\/(r.2.2.1≠0/\(e=0->b.length < (n - i)*3))))
 | 0,i,_,_,_,_,_,h,_=>by omega
 | k+1,i,s,b,e,hi,hs,hk,hb=>by
  rw[cG]
  by_cases h:i < n
  ·rw[dt (by omega),cond_true]
   refine T.bind (aNq N b e 3 hb) λr10 h10=>?_;obtain⟨b',e',out⟩:=r10;obtain⟨p1,p2,_,l1,h10⟩:=h10;dsimp only at p1 p2 l1 h10 ⊢;refine T.letO λx hx=>?_;subst hx;rcases h10 with ⟨rfl,rfl,q3,q4⟩ | ⟨q1,rfl,rfl,q4,q5⟩
   ·match out,q4 with
    | [x,y,z],_=>
     have bx:=p2 x (by simp)
     have by_:=p2 y (by simp)
     have bz:=p2 z (by simp)
     rw[show decide ((([x,y,z]:List Int).length:Int) < 3)=false from rfl,cond_false,show idx [x,y,z] 0=some x from rfl,show idx [x,y,z] 1=some y from rfl,show idx [x,y,z] 2=some z from rfl,aa,aa,aa,aU (x:=x) (by have:=bx.1;omega) (by have:=bx.2;omega),aU (x:=y) (by have:=by_.1;omega) (by have:=by_.2;omega),aU (x:=z) (by have:=bz.1;omega) (by have:=bz.2;omega)]
     refine T.bind (T.app (by simp;omega)) λw hw=>?_;subst hw;rw[cV (by omega)]
     have hlen:=congrArg dm q3;simp only[ai,cx,jg] at hlen;refine T.mono (texL N n hn k (i+1) _ b' 0 (by omega) (by simp;omega) (by omega) p1) λr hr=>?_;obtain⟨r1,l,r2,r3,r3b,r4⟩:=hr;refine⟨r1,#v[x,y,z] :: l,by rw[r2];simp,by rw[cx];omega,by rw[cx];omega,?_⟩
     have ht:trB 1 #v[x,y,z]=[x,y,z]:=by
      show leB 1 x++(leB 1 y++leB 1 z)=_;rw[yE bx,yE by_,yE bz]
      rfl
     rcases r4 with ⟨g1,_,g2,g3,g4⟩ | ⟨g1,g2⟩
     ·refine .inl ⟨g1,rfl,by rw[cx];omega,by rw[q3,g3,dp,ht,am],λv hv=>?_⟩
      rcases fk.1 hv with rfl | hv
      ·exact⟨bx,by_,bz⟩
      ·exact g4 v hv
     ·refine .inr ⟨g1,λ_=>?_⟩
      have:=g2 rfl;omega
   ·rw[show decide ((([]:List Int).length:Int) < 3)=true from rfl,cond_true]
    refine T.ret ⟨rfl,[],by simp,by simp,by simp,.inr ⟨q1,λhe=>?_⟩⟩
    have:=(q4 he).2;omega
  ·obtain rfl:i=n:=by omega
   rw[df (by omega),cond_false]
   refine T.ret ⟨rfl,[],by simp,by simp,by simp,?_⟩
   by_cases he:e=0
   ·exact .inl ⟨he,he,by simp,by simp,λx hx=>(by cases hx)⟩
   ·exact .inr ⟨he,λh=>absurd h he⟩
theorem aK9(N:Nat)(hN:10000 < N)(b:List Int)(hb:aR b)(hl:b.length<=5000):T (nF N b) (λr=>(r.2=0/\b=aAQ r.1/\aG3 r.1)\/(r.2≠0/\r.1=uF/\∀t,aMa t->t.gK.length<=500->b=aAQ t->cE N t≠some 0)):=by
 unfold nF;rw[aIx N b (by omega),aa]
 refine T.bind (aCN N (by omega) b 0 1 (by decide) (by decide) hb) λr2 h2=>?_;obtain⟨b2,e2,v2⟩:=r2;obtain⟨p2,l2,x0,x1,h2⟩:=h2;dsimp only at p2 l2 x0 x1 h2 ⊢;rw[show bO 1=256 from rfl] at x1;obtain⟨sd,rfl⟩:=bp x0;have hsd:sd*sd<=255*255:=Nat.mul_le_mul (by omega) (by omega)
 have f:I64 (I64 (sd:Int)*I64 (sd:Int))=((sd*sd:Nat):Int):=by
  have e0:I64 (sd:Int)=(sd:Int):=aU (by omega) (by omega)
  rw[e0,<- fx,aU (by omega) (by omega)]
 have f0:I64 (sd:Int)=(sd:Int):=aU (by omega) (by omega)
 rw[f,aC,f0]
 refine T.bind (texL N (sd*sd) (by omega) N 0 [] b2 e2 (by omega) (by simp) (by omega) p2) λr4 h4=>?_;obtain⟨ts,b3,e3,m3⟩:=r4;obtain⟨rfl,tl,htl,hn1,hn2,h4⟩:=h4;dsimp only at htl hn1 hn2 h4 ⊢;rw[fq] at htl;subst htl;rw[aGx,aa]
 have all:e3=0->b=aAQ (aH.mk (sd:Int) ts)++b3/\aMa (aH.mk (sd:Int) ts):=by
  intro he;rcases h4 with ⟨_,q1,q2,q3,q4⟩ | ⟨q,_⟩
  ·subst q1;rcases h2 with ⟨_,_,o2⟩ | ⟨q,_⟩
   ·refine⟨?_,⟨by dsimp only;omega,by dsimp only;omega⟩,by dsimp only;rw[q2,np];push_cast;rfl,q4⟩
    unfold aAQ;dsimp only;rw[o2,q3,am]
   ·exact absurd rfl q
  ·exact absurd he q
 have short:e3≠0->∀t,aMa t->b≠aAQ t:=by
  intro he t r ht;have hlen:(aAQ t).length=1+3*t.gK.length:=by unfold aAQ;rw[ai,bN,sW (qC 1)];omega
  rw[<- ht] at hlen;rcases h2 with ⟨a1,_,a2⟩ | ⟨_,_,_,a1,_⟩
  ·have hh:leB 1 (sd:Int)++b2=aAQ t:=by rw[<- ht,a2]
   unfold aAQ at hh;obtain⟨g1,g2⟩:=ce hh (by simp[bN])
   have n1:=lV (w:=1) (by decide) (x:=(sd:Int)) (y:=t.gM) ⟨by omega,by rw[show bO 1=256 from rfl];omega⟩ r.side g1;have n2:=r.n;rw[<- n1,<- fx] at n2;have hl3:b.length=1+b2.length:=by rw[a2,ai,bN]
   rcases h4 with ⟨i1,_⟩ | ⟨_,i1⟩
   ·exact he i1
   ·have:=i1 a1;omega
  ·have:=(a1 rfl).2;omega
 by_cases he:e3=0
 ·obtain⟨g1,g2⟩:=all he;subst he;rw[show((0:Int) != 0)=false from rfl,cond_false]
  by_cases hr:0 < b3.length
  ·rw[dt hr,cond_true,show((5:Int) != 0)=true from rfl,cond_true]
   refine T.ret (.inr ⟨(show(5:Int)≠0 by decide),rfl,λt r _ ht=>?_⟩)
   exfalso;rw[g1] at ht;have:=(aCw (x:=b3) (x':=[]) g2 r (by rw[cg];exact ht)).2;rw[this] at hr;simp at hr
  ·have:b3=[]:=d9 (by omega)
   subst this;rw[df hr,cond_false,show((0:Int) != 0)=false from rfl,cond_false]
   rw[cg] at g1;by_cases h500:ts.length<=500
   ·refine T.bind (P:=λc=>(c=0->aG3 (aH.mk (sd:Int) ts))/\cE N (aH.mk (sd:Int) ts)=some c) ?_ λc hc=>T.cond (λq=>T.ret ?_) λq=>T.ret ?_
    ·obtain⟨c,q1,q2⟩:=texT N (by omega) (aH.mk (sd:Int) ts) h500;exact⟨c,q1,q2,q1⟩
    ·have q:c≠0:=by simpa using q
     refine .inr ⟨q,rfl,λt r _ ht=>?_⟩
     have:=(aCw (x:=[]) (x':=[]) g2 r (by rw[cg,cg,<- g1];exact ht)).1;rw[<- this,hc.2]
     intro h;cases h;exact q rfl
    ·have q:c=0:=by simpa using q
     exact .inl ⟨rfl,g1,hc.1 q⟩
   ·-- too many: the side is none
    have hbig:T (cE N (aH.mk (sd:Int) ts)) (λc=>c≠0):=by
     unfold cE;obtain⟨r1,e1,h1⟩:=aHa N (by omega) [1,2,4,8,16] (by decide) (sd:Int)
     dsimp only;rw[e1,aa]
     have hr1:r1=false:=by
      cases r1 with
      | false=>rfl
      | true=>
       have hm:=h1 rfl;simp only[fk,jc,or_false] at hm;have n2:=g2.n;dsimp only at n2;have:(sd:Int)<=16:=by omega
       have h3:(sd:Int)*(sd:Int)<=16*16:=gq this this (by omega) (by decide)
       omega
     rw[hr1,aC,aC,aC]
     exact⟨5,rfl,by decide⟩
    refine T.bind hbig λc hc=>?_;rw[show(c != 0)=true by simpa using hc,cond_true]
    refine T.ret (.inr ⟨hc,rfl,λt r h5 ht=>?_⟩)
    have:=(aCw (x:=[]) (x':=[]) g2 r (by rw[cg,cg,<- g1];exact ht)).1;rw[<- this] at h5;exact absurd h5 h500
 ·rw[show(e3 != 0)=true by simpa using he,cond_true,show(e3 != 0)=true by simpa using he,cond_true]
  exact T.ret (.inr ⟨he,rfl,λt r _ ht=>absurd ht (short he t r)⟩)
def aNE(l:aL):Prop:=(0<=l.gC/\l.gC < 256)/\trG 4294967296 l.gF/\ptR l.gAt/\ptR l.gU/\ptR l.gV
theorem aKh.r{l:aL}(g:aKh l):aNE l:=⟨g.kind,g.color,g.at_.r,g.u.r,g.v.r⟩
theorem aJS{m m':aG}(r:aH3 m)(r':aH3 m'){x x':List Int}(h:aD9 m++x=aD9 m'++x'):m=m'/\x=x':=by
 unfold aD9 at h;simp only[am] at h;obtain⟨h1,h⟩:=ce h (by simp[bN])
 obtain⟨h2,h⟩:=ce h (by simp[qC])
 obtain⟨h3,h⟩:=ce h (by simp[bN])
 have n1:=lV (w:=1) (by decide) r.kind r'.kind h1;have n2:=aE7 (w:=2) (by decide) r.color r'.color h2;have n3:=lV (w:=2) (by decide) r.rough r'.rough h3;refine⟨?_,h⟩
 cases m;cases m';dsimp only at *;rw[n1,n2,n3]
theorem aJs{m m':aL}(r:aNE m)(r':aNE m'){x x':List Int}(h:aD2 m++x=aD2 m'++x'):m=m'/\x=x':=by
 unfold aD2 at h;simp only[am] at h;obtain⟨h1,h⟩:=ce h (by simp[bN])
 obtain⟨h2,h⟩:=ce h (by simp[qC])
 obtain⟨h3,h⟩:=ce h (by simp[qS])
 obtain⟨h4,h⟩:=ce h (by simp[qS])
 obtain⟨h5,h⟩:=ce h (by simp[qS])
 obtain⟨a1,a2,a3,a4,a5⟩:=r;obtain⟨b1,b2,b3,b4,b5⟩:=r';have n1:=lV (w:=1) (by decide) a1 b1 h1;have n2:=aE7 (w:=4) (by decide) a2 b2 h2;have n3:=aE2 a3 b3 h3;have n4:=aE2 a4 b4 h4;have n5:=aE2 a5 b5 h5;refine⟨?_,h⟩
 cases m;cases m';dsimp only at *;rw[n1,n2,n3,n4,n5]
theorem aOO(m:aG):(aD9 m).length=9:=by unfold aD9;simp[bN,qC]
theorem aOm(m:aL):(aD2 m).length=31:=by unfold aD2;simp[bN,qC,qS]
set_option maxHeartbeats 2000000
theorem aM9(N:Nat)(hN:20 < N)(w:Nat)(hw0:1<=w)(hw:w<=4)(b:List Int)(e:Int)(hb:aR b):T (bR N (w:Int) (aA.mk b e true)) (λr=>RdQ (trB w) (trG (bO w)) (3*w) b e r.1 r.2.1 r.2.2.2/\r.2.2.1=true):=by
 unfold bR;have h:=aQs N hN w hw0 hw b e hb (Q:=λr=>RdQ (trB w) (trG (bO w)) (3*w) b e r.2.2.1 r.2.2.2.1 #v[r.1.2.2,r.2.1.2.2,r.2.2.2.2]) (λ_ _ _ h=>h)
 obtain⟨⟨r1,r2,r3⟩,g1,g2⟩:=h;obtain⟨q1,k1,g1⟩:=xY g1;obtain⟨q2,k2,g1⟩:=xY g1;obtain⟨q3,k3,g1⟩:=xY g1;cases g1;rw[show aV N (w:Int) (aA.mk b e true)=some r1 from k1,aa]
 dsimp only;rw[show aV N (w:Int) (aA.mk r1.1 r1.2.1 true)=some r2 from k2,aa,show aV N (w:Int) (aA.mk r2.1 r2.2.1 true)=some r3 from k3,aa]
 exact T.ret ⟨g2,rfl⟩
theorem aN9(N:Nat)(hN:20 < N)(w:Nat)(hw0:1<=w)(hw:w<=4)(b:List Int)(e:Int)(hb:aR b):T (aV N (w:Int) (aA.mk b e true)) (λr=>RdQ (leB w) (λx=>0<=x/\x < bO w) w b e r.1 r.2.1 r.2.2/\0<=r.2.2/\r.2.2 < bO w):=aEF N hN w hw0 hw b e hb
theorem aKG(N:Nat)(hN:20 < N)(b:List Int)(e:Int)(hb:aR b):T (cK N (aA.mk b e true)) (λr=>RdQ ptB ptR 6 b e r.1 r.2.1 r.2.2.2/\r.2.2.1=true):=aNf N hN b e hb
theorem RdQ.seq{α β:Type}{f:α->List Int}{P:α->Prop}{c:Nat}{g:β->List Int}{Q:β->Prop}{d:Nat}{b b1 b2:List Int}{e e1 e2:Int}{x:α}{y:β}(hf:∀x,(f x).length=c)(h:RdQ f P c b e b1 e1 x)(k:RdQ g Q d b1 e1 b2 e2 y):RdQ (λp:α×β=>f p.1++g p.2) (λp=>P p.1/\Q p.2) (c+d) b e b2 e2 (x,y):=by
 obtain⟨h1,h2,h3⟩:=h;obtain⟨k1,k2,k3⟩:=k;refine⟨k1,by omega,?_⟩
 rcases k3 with ⟨q1,q2,q3,q4⟩ | ⟨q1,q2⟩
 ·subst q2;rcases h3 with ⟨_,i2,i3,i4⟩ | ⟨i1,_⟩
  ·exact .inl ⟨q1,i2,by rw[i3,q3,am],i4,q4⟩
  ·exact absurd rfl i1
 ·refine .inr ⟨q1,λhe=>?_⟩
  rcases h3 with ⟨i1,_,i3,_⟩ | ⟨_,i1⟩
  ·have hl:=congrArg dm i3;rw[ai,hf] at hl;have:=q2 i1;omega
  ·have:=i1 he;omega
theorem endQ(N:Nat){α:Type}{f:α->List Int}{P:α->Prop}{c:Nat}{b b':List Int}{e':Int}{x:α}(h:RdQ f P c b 0 b' e' x):T (cT N (aA.mk b' e' true)) (λr=>(r=0/\b=f x/\P x)\/(r≠0/\((b.length < c)\/(∃t,t≠[]/\b=f x++t/\P x)))):=by
 rw[aGx]
 obtain⟨h1,h2,⟨rfl,_,h4,h5⟩ | ⟨h3,h4⟩⟩:=h
 ·rw[show((0:Int) != 0)=false from rfl,cond_false]
  by_cases hr:0 < b'.length
  ·rw[dt hr]
   exact T.ret (.inr ⟨(show(5:Int)≠0 by decide),.inr ⟨b',by intro e;rw[e] at hr;simp at hr,h4,h5⟩⟩)
  ·rw[df hr]
   have:b'=[]:=d9 (by omega)
   subst this;exact T.ret (.inl ⟨rfl,by rw[h4,cg],h5⟩)
 ·rw[show(e' != 0)=true by simpa using h3,cond_true]
  exact T.ret (.inr ⟨h3,.inl (h4 rfl)⟩)
theorem aOw(N:Nat)(hN:10000 < N)(k:Int)(b:List Int)(hb:aR b)(hl:b.length<=5000):T (pJ N k b) (λr=>(r.2=0/\b=uT r.1/\aDB N r.1/\r.1.gC=k/\aB4 r.1)\/(r.2≠0/\r.1=zA 0/\∀a,aDB N a->a.gC=k->b≠uT a)):=by
 -- what stands behind: the check of what was read
 have fin:∀a:aI,aB4 a->a.gC=k->(aJe a->b=uT a)->(∀a',aDB N a'->a'.gC=k->b=uT a'->a'=a)->T (ae (jG N a) λr17=>cond (r17 != 0) (some (zA 0,r17)) (some (a,0))) (λr=>(r.2=0/\b=uT r.1/\aDB N r.1/\r.1.gC=k/\aB4 r.1)\/(r.2≠0/\r.1=zA 0/\∀a,aDB N a->a.gC=k->b≠uT a)):=by
  intro a hL hk h1 h2;refine T.bind (aRB N (by omega) a hL) λc hc=>T.cond (λq=>T.ret ?_) λq=>T.ret ?_
  ·have q:c≠0:=by simpa using q
   refine .inr ⟨q,rfl,λa' g hk' e=>?_⟩
   have:=h2 a' g hk' e;subst this;exact q (hc.2 g)
  ·have q:c=0:=by simpa using q
   have g:=hc.1 q;exact .inl ⟨rfl,h1 g.own,g,hk,hL⟩
 unfold pJ;rw[aIx N b (by omega),aa]
 have hk:k=1\/k=2\/k=3\/k=4\/(k≠1/\k≠2/\k≠3/\k≠4):=by omega
 rcases hk with rfl | rfl | rfl | rfl | ⟨n1,n2,n3,n4⟩
 ·rw[show((1:Int)==1)=true from rfl,cond_true]
  obtain⟨⟨m,e⟩,h0,h⟩:=aIy N (by omega) b hb (by omega)
  rw[h0,aa,aa]
  dsimp only at h ⊢;rw[aC]
  rcases h with ⟨rfl,h1,h2⟩ | ⟨h1,rfl,h3⟩
  ·rw[show((0:Int) != 0)=false from rfl,cond_false]
   refine fin (aI.mk 1 (aK.mk m.gG m.gL m.gJ) uF wW wX) ⟨by dsimp only;have:=h2.nv;omega,by dsimp only;have:=h2.nv;have:=h2.nu;omega,by dsimp only;have:=h2.nt;omega,by simp[uF]⟩ rfl (λ_=>?_) λa' g hk' e=>?_
   ·rw[h1];rfl
   ·have hc:=g.clean.1 hk';have ho:aBt a'.gP:=by
     rcases g.own with ⟨_,o⟩ | ⟨o,_⟩ | ⟨o,_⟩ | ⟨o,_⟩
     ·exact o
     ·rw[hk'] at o;cases o
     ·rw[hk'] at o;cases o
     ·rw[hk'] at o;cases o
    have he:uT a'=uY a'.gP:=by unfold uT;rw[if_pos hk']
    have:=(aDs (x:=[]) (x':=[]) h2.r ho.r (by rw[cg,cg,<- h1,e,he])).1;rw[hc,<- this]
  ·rw[show(e != 0)=true by simpa using h1,cond_true,aC]
   refine T.ret (.inr ⟨h1,rfl,λa' g hk' he=>?_⟩)
   have ho:aBt a'.gP:=by
    rcases g.own with ⟨_,o⟩ | ⟨o,_⟩ | ⟨o,_⟩ | ⟨o,_⟩
    ·exact o
    ·rw[hk'] at o;cases o
    ·rw[hk'] at o;cases o
    ·rw[hk'] at o;cases o
   have he':uT a'=uY a'.gP:=by unfold uT;rw[if_pos hk']
   refine h3 a'.gP ho.r (by rw[he,he']) ?_;have h9:=g.own0;unfold lR at h9;rw[hk',show((1:Int)==1)=true from rfl,cond_true] at h9;cases hc:fV N a'.gP with
   | none=>rw[hc] at h9;cases h9
   | some r=>rw[hc] at h9;exact h9
 ·rw[show((2:Int)==1)=false from rfl,show((2:Int)==2)=true from rfl,cond_false,cond_true]
  obtain⟨⟨m,e⟩,h0,h⟩:=aK9 N hN b hb hl;rw[h0,aa,aa]
  dsimp only at h ⊢;rw[aC]
  rcases h with ⟨rfl,h1,h2⟩ | ⟨h1,rfl,h3⟩
  ·rw[show((0:Int) != 0)=false from rfl,cond_false]
   have hn:m.gK.length<=500:=by
    have a1:=h2.side;have a2:=h2.n;have:m.gM*m.gM<=16*16:=gq a1.2 a1.2 (by omega) (by decide)
    omega
   refine fin (aI.mk 2 lN (aH.mk m.gM m.gK) wW wX) ⟨by simp[lN],by simp[lN],by simp[lN],hn⟩ rfl (λ_=>?_) λa' g hk' e=>?_
   ·rw[h1];rfl
   ·have hc:=g.clean.2.1 hk';have ho:aG3 a'.gQ:=by
     rcases g.own with ⟨o,_⟩ | ⟨_,o⟩ | ⟨o,_⟩ | ⟨o,_⟩
     ·rw[hk'] at o;cases o
     ·exact o
     ·rw[hk'] at o;cases o
     ·rw[hk'] at o;cases o
    have he:uT a'=aAQ a'.gQ:=by unfold uT;rw[if_neg (by omega),if_pos hk']
    have:=(aCw (x:=[]) (x':=[]) h2.r ho.r (by rw[cg,cg,<- h1,e,he])).1;rw[hc,<- this]
  ·rw[show(e != 0)=true by simpa using h1,cond_true,aC]
   refine T.ret (.inr ⟨h1,rfl,λa' g hk' he=>?_⟩)
   have ho:aG3 a'.gQ:=by
    rcases g.own with ⟨o,_⟩ | ⟨_,o⟩ | ⟨o,_⟩ | ⟨o,_⟩
    ·rw[hk'] at o;cases o
    ·exact o
    ·rw[hk'] at o;cases o
    ·rw[hk'] at o;cases o
   have hn:a'.gQ.gK.length<=500:=by
    have a1:=ho.side;have a2:=ho.n;have:a'.gQ.gM*a'.gQ.gM<=16*16:=gq a1.2 a1.2 (by omega) (by decide)
    omega
   have he':uT a'=aAQ a'.gQ:=by unfold uT;rw[if_neg (by omega),if_pos hk']
   refine h3 a'.gQ ho.r hn (by rw[he,he']) ?_;have h9:=g.own0;unfold lR at h9;rw[hk',show((2:Int)==1)=false from rfl,show((2:Int)==2)=true from rfl,cond_false,cond_true] at h9;cases hc:cE N a'.gQ with
   | none=>rw[hc] at h9;cases h9
   | some r=>rw[hc] at h9;exact h9
 ·rw[show((3:Int)==1)=false from rfl,show((3:Int)==2)=false from rfl,show((3:Int)==3)=true from rfl,cond_false,cond_false,cond_true]
  obtain⟨⟨b5,e5,v5⟩,k5,h5,_,_⟩:=aN9 N (by omega) 1 (by decide) (by decide) b 0 hb;rw[show aV N 1 (aA.mk b 0 true)=_ from k5,aa]
  dsimp only at h5 ⊢;obtain⟨⟨b6,e6,m6,v6⟩,k6,h6,hm6⟩:=aM9 N (by omega) 2 (by decide) (by decide) b5 e5 h5.1;rw[show bR N 2 (aA.mk b5 e5 true)=_ from k6,aa]
  dsimp only at h6 hm6 ⊢;subst hm6;obtain⟨⟨b7,e7,v7⟩,k7,h7,_,_⟩:=aN9 N (by omega) 2 (by decide) (by decide) b6 e6 h6.1;rw[show aV N 2 (aA.mk b6 e6 true)=_ from k7,aa]
  dsimp only at h7 ⊢;have hq:=(h5.seq (λx=>bN 1 x) h6).seq (c:=7) (λx=>by simp[bN,qC]) h7;obtain⟨c,k8,h8⟩:=endQ N hq;rw[k8,aa,aa]
  dsimp only;rw[aC]
  have eB:∀m:aG,m=aG.mk v5 v6 v7->(leB 1 v5++trB 2 v6)++leB 2 v7=aD9 m:=by rintro m rfl;unfold aD9;rw[am]
  rcases h8 with ⟨rfl,h1,⟨g1,g2⟩,g3⟩ | ⟨h1,h2⟩
  ·rw[show((0:Int) != 0)=false from rfl,cond_false]
   have G:aH3 (aG.mk v5 v6 v7):=⟨g1,g2,g3⟩
   refine fin (aI.mk 3 lN uF (aG.mk v5 v6 v7) wX) ⟨by simp[lN],by simp[lN],by simp[lN],by simp[uF]⟩ rfl (λ_=>?_) λa' g hk' e=>?_
   ·rw[h1];exact eB _ rfl
   ·have hc:=g.clean.2.2.1 hk';have ho:aH3 a'.gI:=by
     rcases g.own with ⟨o,_⟩ | ⟨o,_⟩ | ⟨_,o⟩ | ⟨o,_⟩
     ·rw[hk'] at o;cases o
     ·rw[hk'] at o;cases o
     ·exact o
     ·rw[hk'] at o;cases o
    have he:uT a'=aD9 a'.gI:=by unfold uT;rw[if_neg (by omega),if_neg (by omega),if_pos hk']
    have:=(aJS (x:=[]) (x':=[]) G ho (by rw[cg,cg,<- he,<- e,h1];exact(eB _ rfl).symm)).1;rw[hc,<- this]
  ·rw[show(c != 0)=true by simpa using h1,cond_true,aC]
   refine T.ret (.inr ⟨h1,rfl,λa' g hk' he=>?_⟩)
   have ho:aH3 a'.gI:=by
    rcases g.own with ⟨o,_⟩ | ⟨o,_⟩ | ⟨_,o⟩ | ⟨o,_⟩
    ·rw[hk'] at o;cases o
    ·rw[hk'] at o;cases o
    ·exact o
    ·rw[hk'] at o;cases o
   have he':uT a'=aD9 a'.gI:=by unfold uT;rw[if_neg (by omega),if_neg (by omega),if_pos hk']
   rw[he'] at he;rcases h2 with h2 | ⟨t,ht,h2,⟨g1,g2⟩,g3⟩
   ·rw[he,aOO] at h2;omega
   ·rw[he] at h2;have h2':aD9 a'.gI=(leB 1 v5++trB 2 v6)++leB 2 v7++t:=h2;rw[eB _ rfl] at h2';have:=(aJS (x:=[]) (x':=t) ho (show aH3 (aG.mk v5 v6 v7) from⟨g1,g2,g3⟩) (by rw[cg];exact h2')).2;exact ht this.symm
 ·rw[show((4:Int)==1)=false from rfl,show((4:Int)==2)=false from rfl,show((4:Int)==3)=false from rfl,show((4:Int)==4)=true from rfl,cond_false,cond_false,cond_false,cond_true]
  obtain⟨⟨b5,e5,v5⟩,k5,h5,_,_⟩:=aN9 N (by omega) 1 (by decide) (by decide) b 0 hb;rw[show aV N 1 (aA.mk b 0 true)=_ from k5,aa]
  dsimp only at h5 ⊢;obtain⟨⟨b6,e6,m6,v6⟩,k6,h6,hm6⟩:=aM9 N (by omega) 4 (by decide) (by decide) b5 e5 h5.1;rw[show bR N 4 (aA.mk b5 e5 true)=_ from k6,aa]
  dsimp only at h6 hm6 ⊢;subst hm6;obtain⟨⟨b7,e7,m7,v7⟩,k7,h7,hm7⟩:=aKG N (by omega) b6 e6 h6.1;rw[k7,aa]
  dsimp only at h7 hm7 ⊢;subst hm7;obtain⟨⟨b8,e8,m8,v8⟩,k8,h8,hm8⟩:=aKG N (by omega) b7 e7 h7.1;rw[k8,aa]
  dsimp only at h8 hm8 ⊢;subst hm8;obtain⟨⟨b9,e9,m9,v9⟩,k9,h9,hm9⟩:=aKG N (by omega) b8 e8 h8.1;rw[k9,aa]
  dsimp only at h9 hm9 ⊢;subst hm9;have hq:=(((h5.seq (λx=>bN 1 x) h6).seq (c:=13) (λx=>by simp[bN,qC]) h7).seq (c:=19) (λx=>by simp[bN,qC,qS]) h8).seq (c:=25) (λx=>by simp[bN,qC,qS]) h9;obtain⟨c,k10,h10⟩:=endQ N hq;rw[k10,aa,aa]
  dsimp only;rw[aC]
  have eB:∀m:aL,m=aL.mk v5 v6 v7 v8 v9->(((leB 1 v5++trB 4 v6)++ptB v7)++ptB v8)++ptB v9=aD2 m:=by rintro m rfl;unfold aD2;simp[am]
  rcases h10 with ⟨rfl,h1,⟨⟨⟨⟨g1,g2⟩,g3⟩,g4⟩,g5⟩⟩ | ⟨h1,h2⟩
  ·rw[show((0:Int) != 0)=false from rfl,cond_false]
   have G:aNE (aL.mk v5 v6 v7 v8 v9):=⟨g1,g2,g3,g4,g5⟩
   refine fin (aI.mk 4 lN uF wW (aL.mk v5 v6 v7 v8 v9)) ⟨by simp[lN],by simp[lN],by simp[lN],by simp[uF]⟩ rfl (λ_=>?_) λa' g hk' e=>?_
   ·rw[h1];exact eB _ rfl
   ·have hc:=g.clean.2.2.2 hk';have ho:aKh a'.gD:=by
     rcases g.own with ⟨o,_⟩ | ⟨o,_⟩ | ⟨o,_⟩ | ⟨_,o⟩
     ·rw[hk'] at o;cases o
     ·rw[hk'] at o;cases o
     ·rw[hk'] at o;cases o
     ·exact o
    have he:uT a'=aD2 a'.gD:=by unfold uT;rw[if_neg (by omega),if_neg (by omega),if_neg (by omega)]
    have:=(aJs (x:=[]) (x':=[]) G ho.r (by rw[cg,cg,<- he,<- e,h1];exact(eB _ rfl).symm)).1;rw[hc,<- this]
  ·rw[show(c != 0)=true by simpa using h1,cond_true,aC]
   refine T.ret (.inr ⟨h1,rfl,λa' g hk' he=>?_⟩)
   have ho:aKh a'.gD:=by
    rcases g.own with ⟨o,_⟩ | ⟨o,_⟩ | ⟨o,_⟩ | ⟨_,o⟩
    ·rw[hk'] at o;cases o
    ·rw[hk'] at o;cases o
    ·rw[hk'] at o;cases o
    ·exact o
   have he':uT a'=aD2 a'.gD:=by unfold uT;rw[if_neg (by omega),if_neg (by omega),if_neg (by omega)]
   rw[he'] at he;rcases h2 with h2 | ⟨t,ht,h2,⟨⟨⟨⟨g1,g2⟩,g3⟩,g4⟩,g5⟩⟩
   ·rw[he,aOm] at h2;omega
   ·rw[he] at h2;have h2':aD2 a'.gD=(((leB 1 v5++trB 4 v6)++ptB v7)++ptB v8)++ptB v9++t:=h2;rw[eB _ rfl] at h2';have:=(aJs (x:=[]) (x':=t) ho.r (show aNE (aL.mk v5 v6 v7 v8 v9) from⟨g1,g2,g3,g4,g5⟩) (by rw[cg];exact h2')).2;exact ht this.symm
 ·rw[show(k==1)=false by simpa using n1,show(k==2)=false by simpa using n2,show(k==3)=false by simpa using n3,show(k==4)=false by simpa using n4,cond_false,cond_false,cond_false,cond_false,aa]
  dsimp only;rw[aC,show((0:Int) != 0)=false from rfl,cond_false]
  have no:∀a:aI,a.gC=k->¬aJe a:=by
   intro a hk g;rcases g with ⟨g,_⟩ | ⟨g,_⟩ | ⟨g,_⟩ | ⟨g,_⟩ <;> omega
  exact fin (aI.mk k lN uF wW wX) ⟨by simp[lN],by simp[lN],by simp[lN],by simp[uF]⟩ rfl (λg=>absurd g (no _ rfl)) λa' g hk' e=>absurd g.own (no _ hk')
set_option maxHeartbeats 1000000
def xU(base:Vector Int 8)(m:aE):List Int:=[85,77,66,49]++(base.toList++aEw m)
theorem aDm(base:Vector Int 8)(m:aE):(xU base m).length=47:=by unfold xU;simp[aIr]
def aAv(N:Nat)(key:Vector Int 32)(base:Vector Int 8)(m:aE):List Int:=aET N key (aF6 N base 0) (xU base m) []
theorem aDl(N:Nat)(hN:70000<=N)(key:Vector Int 32)(base:Vector Int 8)(m:aE):(aAv N key base m).length=16:=by
 unfold aAv;rw[aMo N hN key _ _ (by simp)];rfl
def aBj(i n:Nat):List Int:=leB 2 (i:Int)++leB 2 (n:Int)
theorem zV(i n:Nat):(aBj i n).length=4:=by unfold aBj;simp[bN]
theorem aGM(i n:Nat):aR (aBj i n):=(aD5 _ _).app (aD5 _ _)
def nCh(n:Nat):Nat:=(n+255) / 256
theorem nCh_e(n:Nat):rV (n:Int)=(nCh n:Int):=by unfold rV nCh;split <;> omega
theorem aLE(k:Int):xE k<=2048:=by unfold xE;split;decide;split;decide;split;decide;split <;> decide
theorem aDB.len{N:Nat}{a:aI}(g:aDB N a):(uT a).length<=2048:=by have:=g.cap;have:=aLE a.gC;omega
theorem toB'{x:Int}(h:isB x):((UInt8.ofNat x.toNat).toNat:Int)=x:=by
 obtain⟨h0,h1⟩:=h;have e:(UInt8.ofNat x.toNat).toNat=x.toNat % 256:=UInt8.toNat_ofNat';rw[e];omega
theorem aIe : ∀{a b:List Int},aR a->aR b->(a.map λx=>UInt8.ofNat x.toNat)=(b.map λx=>UInt8.ofNat x.toNat)->a=b
 | [],[],_,_,_=>rfl
 | [],b :: l,_,_,h=>by simp at h
 | a :: l,[],_,_,h=>by simp at h
 | a :: l,b :: r,ha,hb,h=>by
  simp only[List.map_cons,List.cons.injEq] at h;have h1:=congrArg (λu:UInt8=>(u.toNat:Int)) h.1;rw[toB' (ha a (by simp)),toB' (hb b (by simp))] at h1;rw[h1,aIe (λx hx=>ha x (by simp[hx])) (λx hx=>hb x (by simp[hx])) h.2]
theorem aMt(N:Nat){a b:List Int}(ha:aR a)(hb:aR b):sB N a b=some (decide (a=b)):=by
 unfold sB;rw[aC]
 congr 1;rw[ByteArray.toList_eq,ByteArray.toList_eq,gg,beq_iff_eq,decide_eq_true_eq]
 unfold aIQ;dsimp only;exact⟨aIe ha hb,λh=>by rw[h]⟩
theorem aQU(N:Nat){a b:List Int}(ha:aR a)(hb:aR b):qT N a b=some (decide (a.take b.length=b)):=by
 unfold qT;rw[aC]
 by_cases h:b.length<=a.length
 ·rw[dt (by omega),cond_true,nS h,aa,aMt N (ha.take _) hb]
  rfl
 ·rw[df (by omega),cond_false]
  have:¬a.take b.length=b:=λe=>by have:=congrArg dm e;rw[bw] at this;omega
  rw[df this]
  rfl
theorem aMH{base base':Vector Int 8}{m m':aE}(r:aHn m)(r':aHn m')(h:xU base m=xU base' m'):base=base'/\m=m':=by
 unfold xU at h;have h:=List.append_cancel_left h;obtain⟨h1,h2⟩:=ce h (by simp)
 exact⟨dx.1 h1,aN3 r r' h2⟩
theorem aQR : aR [85,77,66,49]:=by
 intro x hx;simp only[fk,jc,or_false] at hx;rcases hx with rfl | rfl | rfl | rfl <;> exact⟨by decide,by decide⟩
theorem cut5(a b c d e:List Int)(ha:a.length=4)(hb:b.length=8)(hc:c.length=35)(hd:d.length=16) :
  (a++(b++(c++(d++e)))).take 4=a/\((a++(b++(c++(d++e)))).take 12).drop 4=b/\((a++(b++(c++(d++e)))).take 47).drop 12=c/\(a++(b++(c++(d++e)))).take 47=a++(b++c)/\((a++(b++(c++(d++e)))).take 63).drop 47=d/\(a++(b++(c++(d++e)))).drop 63=e:=by
 have ta:∀n,4<=n->a.take n=a:=λn h=>bj (by omega)
 have tb:∀n,8<=n->b.take n=b:=λn h=>bj (by omega)
 have tc:∀n,35<=n->c.take n=c:=λn h=>bj (by omega)
 have td:∀n,16<=n->d.take n=d:=λn h=>bj (by omega)
 have da:∀n,4<=n->a.drop n=[]:=λn h=>gc (by omega)
 have db:∀n,8<=n->b.drop n=[]:=λn h=>gc (by omega)
 have dc:∀n,35<=n->c.drop n=[]:=λn h=>gc (by omega)
 have dd:∀n,16<=n->d.drop n=[]:=λn h=>gc (by omega)
 refine⟨?_,?_,?_,?_,?_,?_⟩ <;> simp[List.take_append,List.drop_append,ha,hb,hc,hd,ta,tb,tc,td,da,db,dc,dd]
def aAp(N:Nat)(key:Vector Int 32)(base:Vector Int 8)(m:aE)(b:List Int):Prop:=
 jD base/\aHn m/\wT m=0/\b=xU base m++(aAv N key base m++b.drop 63)
theorem aAp.len{N:Nat}(hN:70000<=N){key:Vector Int 32}{base:Vector Int 8}{m:aE}{b:List Int}(h:aAp N key base m b):63<=b.length:=by
 have:=congrArg dm h.2.2.2;rw[ai,ai,aDm,aDl N hN] at this;omega
theorem aAp.parts{N:Nat}(hN:70000<=N){key:Vector Int 32}{base:Vector Int 8}{m:aE}{b:List Int}(h:aAp N key base m b) :
  b.take 4=[85,77,66,49]/\(b.take 12).drop 4=base.toList/\(b.take 47).drop 12=aEw m/\b.take 47=xU base m/\(b.take 63).drop 47=aAv N key base m:=by
 have c:=cut5 [85,77,66,49] base.toList (aEw m) (aAv N key base m) (b.drop 63) rfl (by simp) (aIr m) (aDl N hN key base m)
 have e:[85,77,66,49]++(base.toList++(aEw m++(aAv N key base m++b.drop 63)))=b:=by
  conv=>rhs;rw[h.2.2.2]
  unfold xU;simp only[am]
 rw[e] at c;exact⟨c.1,c.2.1,c.2.2.1,c.2.2.2.1,c.2.2.2.2.1⟩
theorem aAp.of{N:Nat}(hN:70000<=N)(key:Vector Int 32){base:Vector Int 8}{m:aE}(hb:jD base)(r:aHn m)(h0:wT m=0)(x:List Int):aAp N key base m (xU base m++(aAv N key base m++x))/\(xU base m++(aAv N key base m++x)).drop 63=x:=by
 have e:(xU base m++(aAv N key base m++x)).drop 63=x:=by
  rw[<- am,j3 (by rw[ai,aDm,aDl N hN])]
 exact⟨⟨hb,r,h0,by rw[e]⟩,e⟩
theorem aQP(N:Nat)(hN:70000<=N)(key:Vector Int 32)(b:List Int)(hb:aR b)(hl:b.length<=100000) :
  T (oV N key b) (λr=>(r.2=0/\∃base,aAp N key base r.1 b)\/(r.2≠0/\r.1=zM/\∀base m,¬aAp N key base m b)):=by
 unfold oV;rw[aC]
 refine T.cond (λc=>T.ret (.inr ⟨(show(4:Int)≠0 by decide),rfl,λbase m h=>?_⟩)) λc=>?_
 ·have:=h.len hN;have:=of_decide_eq_true c;omega
 have c:63<=b.length:=by have:=of_decide_eq_false c;omega
 rw[aQU N hb aQR,aa]
 refine T.cond (λc2=>T.ret (.inr ⟨(show(5:Int)≠0 by decide),rfl,λbase m h=>?_⟩)) λc2=>?_
 ·rw[show decide (b.take ([85,77,66,49]:List Int).length=[85,77,66,49])=true from decide_eq_true (h.parts hN).1] at c2;cases c2
 have c2:b.take 4=[85,77,66,49]:=by
  cases hd:decide (b.take ([85,77,66,49]:List Int).length=[85,77,66,49]) with
  | true=>exact of_decide_eq_true hd
  | false=>rw[hd] at c2;cases c2
 refine T.bind (T.slc (by decide) (by decide) (by omega)) λs3 h3=>T.bind (T.vec (by have:=h3.2;omega)) λv4 h4=>?_;rw[bj (by have:=h3.2;omega),h3.1,show(12:Int).toNat=12 from rfl,show(4:Int).toNat=4 from rfl] at h4;have hv4:jD v4:=by unfold jD;rw[h4];exact(hb.take _).drop _
 rw[aOk N (by omega),aa]
 refine T.bind (T.slc (by decide) (by decide) (by omega)) λs6 h6=>T.bind (T.slc (by decide) (by decide) (by omega)) λs7 h7=>?_;have e6:s6=b.take 47:=h6.1;have e7:s7=(b.take 63).drop 47:=h7.1;subst e6 e7;obtain⟨r8,e8,h8⟩:=aQM N hN key (aF6 N v4 0) (b.take 47) ((b.take 63).drop 47) ((hb.take _).drop _) (by simp;omega) (by simp;omega)
 rw[e8,aa]
 refine T.cond (λc8=>?_) λc8=>?_
 ·refine T.ret (.inr ⟨by simpa using c8,rfl,λbase m h=>?_⟩)
  obtain⟨q1,q2,q3,q4,q5⟩:=h.parts hN;have hbase:v4=base:=dx.1 (by rw[h4,q2])
  subst hbase;have e9:iZ N key (aF6 N v4 0) (b.take 47) ((b.take 63).drop 47)=some ([],0):=by
   rw[q4,q5]
   exact aOG N hN key (aF6 N v4 0) (xU v4 m) [] aBK (by rw[aDm];omega) (by simp)
  rw[e8] at e9;rw[Option.some.inj e9] at c8;cases c8
 ·have c8:r8.2=0:=by simpa using c8
  obtain⟨p,e⟩:=r8;dsimp only at c8;subst c8;rcases h8 with ⟨_,g1,g2,g3⟩ | ⟨_,g⟩
  rotate_left
  ·dsimp only at g;rcases g with g | g <;> cases g
  dsimp only at g1 g2 g3;have hp:p=[]:=d9 (by rw[br,bw] at g2;omega)
  subst hp;refine T.bind (T.slc (by decide) (by decide) (by omega)) λs9 h9=>?_;have e9:s9=(b.take 47).drop 12:=h9.1;subst e9;refine T.bind (aP6 N (by omega) _ ((hb.take _).drop _) (by simp;omega)) λr10 h10=>T.ret ?_;obtain⟨m,rm,hm,hr⟩:=h10;have hhead:b.take 47=xU v4 m:=by
   have e1:b.take 47=b.take 4++((b.take 12).drop 4++(b.take 47).drop 12):=by
    apply dr;intro i;by_cases h1:i < 4
    ·rw[cn (by simp;omega),fb (by omega),fb h1]
    ·rw[cr (by simp;omega),show(b.take 4).length=4 by simp;omega]
     by_cases h2:i < 12
     ·rw[cn (by simp;omega),eo,fb (by omega),fb (by omega)]
      congr 1;omega
     ·rw[cr (by simp;omega),show((b.take 12).drop 4).length=8 by simp;omega,eo]
      congr 1;omega
   rw[e1,c2,<- h4,<- hm];rfl
  have hb63:b=xU v4 m++(aAv N key v4 m++b.drop 63):=by
   unfold aAv;rw[<- hhead,<- g3,<- am]
   have:b.take 47++(b.take 63).drop 47=b.take 63:=by
    have:=eg 47 (b.take 63)
    rw[List.take_take] at this;exact this
   rw[this,eg]
  by_cases h0:wT m=0
  ·rw[if_pos h0] at hr;rw[hr]
   exact .inl ⟨rfl,v4,hv4,rm,h0,hb63⟩
  ·rw[if_neg h0] at hr;rw[hr]
   refine .inr ⟨h0,rfl,λbase m' h=>h0 ?_⟩
   obtain⟨q1,q2,q3,q4,q5⟩:=h.parts hN;obtain⟨_,rfl⟩:=aMH rm h.2.1 (by rw[<- hhead,q4])
   exact h.2.2.1
end Go.UK
