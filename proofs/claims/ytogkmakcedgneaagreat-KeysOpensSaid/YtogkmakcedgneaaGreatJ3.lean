/- A part of the proof: what the functions of the program compute. -/
import Derived.Test.YtogkmakcedgneaaGreatJ2
open BitVec renaming ofInt→au
open Bool renaming and_eq_true→bp,eq_iff_iff→j8,not_true→gf
open Int renaming emod_eq_of_lt→il,eq_ofNat_of_zero_le→br,mul_le_mul→gr,natCast_mul→fp,toNat_natCast→bo
open List renaming append_assoc→am,append_inj→cm,append_nil→cf,drop_eq_getElem_cons→cg,drop_eq_nil_of_le→hW,drop_left'→jl,drop_length→iw,eq_nil_of_length_eq_zero→dp,ext_getElem?→du,flatMap_cons→dm,flatMap_map→oc,getD_cons_succ→ne,getD_cons_zero→nd,getD_eq_getElem?_getD→ap,getElem?_append_left→cj,getElem?_append_right→ck,getElem?_drop→eo,getElem?_eq_getElem→af,getElem?_eq_none→ar,getElem?_take_of_lt→ek,getElem_mem→co,length→dr,length_append→ah,length_cons→cx,length_drop→bw,length_nil→j7,length_take→ca,mem_cons→d9,nil_append→ee,not_mem_nil→dy,range→ce,range_succ_eq_map→md,take→o6,take_append_drop→fe,take_left'→ma,take_length→oa,take_of_length_le→bf,take_succ→jg,take_zero→j3,zipWith→pb
open Nat renaming add_mul→jf,le_refl→ct,sub_self→ot,sub_zero→pi
open Option renaming bind→ae,bind_some→aa
open Vector renaming ext→od,replicate→ai,toList_inj→ez
namespace Go.UK
open Go Go.Proofs
set_option maxRecDepth 20000
set_option maxHeartbeats 1000000
set_option linter.all false
theorem T.vec{α:Type}{n:Nat}{l:List α}(h:n<=l.length):T (aHI n l) (λv=>v.toList=l.take n):=by
 unfold aHI;rw[dif_pos h]
 exact⟨_,rfl,by simp⟩
theorem T.app{α:Type}{b:Nat}{l r:List α}(h:(l.length+r.length)*b<=140737488355328:=by omega):T (fT b l r) (λx=>x=l++r):=⟨_,cK h,rfl⟩
theorem aIN(a b:Nat):nE (a:Int) (b:Int)=((min a b:Nat):Int):=by unfold nE;split <;> omega
theorem aWX(N:Nat)(hN:20 < N)(v:Vector Int 16):T (sR N v) (λ_=>True):=by
 unfold sR;refine T.bind (T.loop0 (n:=4) (by decide) (λ_ _=>True) (F:=kZ N) (λk s i hi _ Q hk=>?_) (λk s=>by rw[kZ,df,cond_false]) (by omega) trivial) λv _=>T.ret trivial;rw[kZ,dt,cond_true,show(4:Int)=((4:Nat):Int) from rfl,i4]
 have f3:I64 (((4*i:Nat):Int)+3)=((4*i+3:Nat):Int):=by rw[aP];omega
 rw[f3]
 refine T.bind (P:=λ_=>True) ?_ λ_ _=>by rw[cF];exact hk _ trivial
 refine T.letO λx hx=>?_;subst hx;refine T.bind (T.inRO) λ_ _=>T.bind (T.vget) λ_ _=>T.bind (T.inRO) λ_ _=>T.bind (T.vget) λ_ _=>?_;refine T.cond (λ_=>?_) (λ_=>T.ret trivial)
 exact T.bind (T.inRO) λ_ _=>T.bind (T.vget) λ_ _=>T.bind (T.inRO) λ_ _=>T.bind (T.vget) λ_ _=>T.ret trivial
theorem newT(N:Nat)(hN:20 < N)(key:Vector Int 32):T (xN N key) (λr=>isU r.1/\isU r.2.1/\isU r.2.2.1/\isU r.2.2.2):=by
 unfold xN;refine T.bind (T.slc) λs1 h1=>T.bind (T.vec (by have:=h1.2;omega)) λv2 _=>T.bind (aWX N hN v2) λr3 _=>?_;refine T.bind (T.slc) λs4 h4=>T.bind (aGx N hN s4 (by have:=h4.2;omega)) λr5 h5=>?_;refine T.bind (T.slc) λs6 h6=>T.bind (aGx N hN s6 (by have:=h6.2;omega)) λr7 h7=>?_;refine T.bind (T.slc) λs8 h8=>T.bind (aGx N hN s8 (by have:=h8.2;omega)) λr9 h9=>?_;refine T.bind (T.slc) λs10 h10=>T.bind (aGx N hN s10 (by have:=h10.2;omega)) λr11 h11=>?_;exact T.ret ⟨h5,h7,h9,h11⟩
theorem cpV17(s:List Int):∃v,cpV (ai 17 (0:Int)) s 0 16=some v:=by
 unfold cpV;rw[dif_pos (by decide)]
 exact⟨_,rfl⟩
theorem aOj(N:Nat):∀(k:Nat) (s:List (Vector Int 17)) (m:List Int),m.length < k->m.length<=65536->s.length<=1000000 - m.length->T (lN N k s m) (λr=>r.length=s.length+(m.length+15) / 16)
 | 0,_,_,h,_,_=>by omega
 | k+1,s,m,h,hm,hs=>by
  rw[lN]
  refine T.letO λx hx=>?_;subst hx;refine T.cond (λhc=>?_) (λhc=>?_)
  ·have hc:0 < m.length:=by simpa using hc
   refine T.bind (o:=aEB 17 0 16) ⟨(),rfl,trivial⟩ λ_ (_:True)=>?_;obtain⟨v,hv⟩:=cpV17 m;rw[hv,aa]
   refine T.letO λx hx=>?_;subst hx;refine T.bind (T.inRO) λ_ _=>T.bind (T.vget) λ_ _=>T.bind (T.app (by simp;omega)) λz hz=>?_;subst hz;refine T.bind (T.slc (by omega) (by omega) (by omega)) λs14 h14=>?_;have h15:=h14.2;refine T.mono (aOj N k _ s14 (by omega) (by omega) (by simp;omega)) λr hr=>?_;simp at hr;omega
  ·have hc:m.length=0:=by have:=of_decide_eq_false hc;omega
   exact T.ret (by omega)
theorem aOx(N:Nat)(m:List Int)(h:m.length < N:=by omega)(hm:m.length<=65536:=by omega):T (mA N m) (λr=>r.length=(m.length+15) / 16):=by
 unfold mA;refine T.letO λx hx=>?_;have hx:x=(m.length:Int):=by rw[hx];unfold nE;split <;> omega
 subst hx;refine T.bind (T.slc (by omega) (by omega) (by omega)) λs3 h3=>?_;have:=h3.2;refine T.bind (aOj N N [] s3 (by omega) (by omega) (by rw[j7];omega)) λr hr=>T.ret ?_;rw[j7] at hr;omega
theorem aVF(N:Nat)(ms:List (List Int))(hms:ms.length < 1000):∀(k i:Nat) (s:List Int) (n:Nat),i<=ms.length->ms.length - i < k->n<=65536->s.length<=n->T (fG N ms k s (n:Int) (i:Int)) (λr=>r.1.length<=65536)
 | 0,_,_,_,_,h,_,_=>by omega
 | k+1,i,s,n,hi,hk,hn,hs=>by
  rw[fG,aC]
  by_cases h:i < ms.length
  ·rw[dt,cond_true]
   refine T.bind (T.idx) λe6 h6=>?_;have f:I64 (65536 - (n:Int))=((65536 - n:Nat):Int):=by rw[aP];omega
   rw[f,aC,aIN]
   refine T.bind (T.slc (by omega) (by omega) (by omega)) λs9 h9=>?_;have h10:=h9.2;rw[aC]
   refine T.bind (T.app) λz hz=>?_;subst hz;have f2:I64 ((n:Int)+(s9.length:Int))=((n+s9.length:Nat):Int):=by rw[aP];omega
   rw[f2,cF]
   exact aVF N ms hms k (i+1) _ _ (by omega) (by omega) (by omega) (by rw[ah];omega)
  ·rw[df,cond_false]
   exact T.ret (by dsimp only;omega)
theorem aUX(N:Nat)(hN:20 < N):∀(k:Nat) (h:Vector Int 3) (made:Bool) (r0 r1 s0 s1:Int) (rest:List Int) (all:Int),vV h->rest.length < k->rest.length<=65536 ->
  T (fJ N k h made r0 r1 s0 s1 rest all) (λr=>vV r.1/\r.2.1=made/\r.2.2.1=r0/\r.2.2.2.1=r1/\r.2.2.2.2.1=s0/\r.2.2.2.2.2.1=s1/\r.2.2.2.2.2.2.1.length < 16)
 | 0,_,_,_,_,_,_,_,_,_,h,_=>by omega
 | k+1,h,made,r0,r1,s0,s1,rest,all,hh,hk,hl=>by
  rw[fJ]
  refine T.letO λx hx=>?_;subst hx;refine T.cond (λhc=>?_) (λhc=>?_)
  ·have hc:16<=rest.length:=by have:=of_decide_eq_true hc;omega
   refine T.bind (T.slc (by omega) (by omega) (by omega)) λs22 h22=>?_;have h23:=h22.2;refine T.bind (aOx N s22) λr23 hr=>T.bind (T.idx) λe24 _=>?_;refine T.bind (aLX N hN e24 r0 r1 _ hh) λr25 hr25=>?_;obtain⟨g1,g2⟩:=hr25;obtain⟨h',q⟩:=r25;dsimp only at g1 g2;subst g2;dsimp only;refine T.bind (T.slc (by omega) (by omega) (by omega)) λs26 h26=>?_;have:=h26.2;exact aUX N hN k h' made r0 r1 s0 s1 s26 all g1 (by omega) (by omega)
  ·have hc:rest.length < 16:=by have:=of_decide_eq_false hc;omega
   exact T.ret ⟨hh,rfl,rfl,rfl,rfl,rfl,hc⟩
theorem z16 : eD (ai 16 (0:Int)):=by unfold eD aN isB;decide
theorem endT(N:Nat)(hN:20 < N)(h:Vector Int 3)(hh:vV h)(s0 s1:Int)(h0:isU s0)(h1:isU s1):T (sC N (aO.mk h) s0 s1) eD:=by
 unfold sC;refine T.bind (T.loop0 (n:=2) (by decide) (λ_ (v:Vector Int 3)=>vV v) (F:=dZ N) (λk s i hi hs Q hk=>?_) (λk s=>by rw[dZ,df,cond_false]) (by omega) hh) λp1 hp=>?_
 ·rw[dZ,dt,cond_true,cF]
  refine T.bind (P:=vV) ?_ λv hv=>hk v hv;refine T.bind (T.inRO (by decide) (by decide)) λ_ _=>T.bind (T.vgetU hs) λe6 h6=>T.bind (T.add64 h6 aEi ⟨by decide,by decide⟩) λr7 h7=>?_;refine T.bind (T.inRO (by decide) (by decide)) λ_ _=>T.bind (T.vgetU hs) λe9 h9=>T.bind (T.add64 h9 aAI h7.2) λr10 h10=>?_;refine T.bind (T.inRO (by decide) (by decide)) λ_ _=>T.bind (T.vgetU hs) λe12 h12=>?_;refine T.letO λ_ _=>T.cond (λ_=>T.letO λ_ _=>T.ret (aG2 h7.1 h10.1 (tD _))) (λ_=>T.ret hs)
 refine T.bind (T.inRO (by decide) (by decide)) λ_ _=>T.bind (T.vgetU hp) λe17 h17=>T.bind (T.add64 h17 h0 ⟨by decide,by decide⟩) λr18 h18=>?_;refine T.bind (T.inRO (by decide) (by decide)) λ_ _=>T.bind (T.vgetU hp) λe20 h20=>T.bind (T.add64 h20 h1 h18.2) λr21 h21=>?_;refine T.bind (T.loop0 (n:=8) (by decide) (λ_ (v:Vector Int 16)=>eD v) (F:=fE N r18 r21) (λk s i hi hs Q hk=>?_) (λk s=>by rw[fE,df,cond_false]) (by omega) z16) λp22 h22=>T.ret h22;have vset:∀(v:Vector Int 16) (i:Nat) (x:Int),eD v->eD (v.setIfInBounds i (U8 x)):=by
  intro v i x hv y hy;have e:(v.setIfInBounds i (U8 x)).toList=v.toList.set i (U8 x):=by simp
  rw[e] at hy;rcases List.mem_or_eq_of_mem_set hy with h' | h'
  ·exact hv y h'
  ·rw[h'];exact aHl _
 rw[fE,dt,cond_true,show(8:Int)=((8:Nat):Int) from rfl,i4,ia,cF]
 rw[jB .u64,aa,jB .u64,aa]
 refine T.bind (T.inRO) λ_ _=>T.bind (T.vget) λ_ _=>T.bind (T.inRO) λ_ _=>T.bind (T.vget) λ_ _=>?_;exact hk _ (vset _ _ _ (vset _ _ _ hs))
theorem sumT(N:Nat)(hN:2000 < N)(m:aT)(hh:vV m.gA1.gh)(h0:isU m.gs0)(h1:isU m.gs1)(hr:m.gN.length<=100)(hm:m.gC=true):T (sB N m) eD:=by
 unfold sB;rw[hm,gf,cond_false]
 refine T.bind (aOx N m.gN) λr1 hr1=>?_;refine T.bind (T.loop0 (n:=r1.length) (by omega) (λ_ (v:Vector Int 3)=>vV v) (F:=kD N r1 m) (λk s i hi hs Q hk=>?_) (λk s=>by rw[kD,aC,df,cond_false]) (by omega) hh) λp2 hp2=>?_
 ·rw[kD,aC,dt,cond_true,cF]
  exact T.bind (T.idx) λe6 _=>T.bind (aJl N (by omega) e6 _ _ (aO.mk s) hs) λr7 h7=>hk r7 h7
 exact T.bind (endT N (by omega) p2 hp2 _ _ h0 h1) λr8 h8=>T.ret h8
theorem tagT(N:Nat)(hN:2000 < N)(key:Vector Int 32)(ms:List (List Int))(hms:ms.length < 1000)(hl:65536 < N):T (wG N key ms) eD:=by
 unfold wG;refine T.bind (newT N (by omega) key) λr1 h1=>?_;obtain⟨u1,u2,u3,u4⟩:=h1;refine T.bind (P:=λr=>vV r.2.1/\r.2.2.1=true/\r.2.2.2.2.2.1=r1.2.2.1/\r.2.2.2.2.2.2.1=r1.2.2.2/\r.2.2.2.2.2.2.2.1.length < 16) ?_ λr2 h2=>?_
 ·unfold uA;rw[gf,cond_false]
  refine T.bind (aVF N ms hms N 0 [] 0 (by omega) (by omega) (by omega) (by simp)) λp1 hp1=>?_;refine T.bind (aUX N (by omega) N _ true _ _ _ _ p1.1 p1.2 (aG2 aAI aAI aAI) (by omega) hp1) λp12 hp=>T.ret ?_;obtain⟨g1,g2,g3,g4,g5,g6,g7⟩:=hp;exact⟨g1,g2,g5,g6,g7⟩
 ·obtain⟨g1,g2,g5,g6,g7⟩:=h2;exact T.bind (sumT N hN _ g1 (by dsimp only;rw[g5];exact u3) (by dsimp only;rw[g6];exact u4) (by dsimp only;omega) g2) λr3 h3=>T.ret h3
theorem keyT(N:Nat)(hN:20 < N)(key:Vector Int 32)(n:Vector Int 12):T (xX N key n) (λ_=>True):=by
 unfold xX;exact T.bind (aNi N hN key 0 n) λr1 _=>T.bind (T.slc) λs3 h3=>T.bind (T.vec (by have:=h3.2;omega)) λ_ _=>T.ret trivial
theorem aUi(N:Nat)(l:List Int)(hl:l.length<=1000000):T (sP N l) (λr=>r.length<=16):=by
 unfold sP;refine T.letO λx hx=>T.letO λy hy=>?_;have hx1:x=((l.length % 16:Nat):Int):=by rw[hx];rfl
 have hy1:y=(((16 - l.length % 16) % 16:Nat):Int):=by
  have e:I64 (16 - x)=((16 - l.length % 16:Nat):Int):=by rw[hx1,aP];omega
  rw[hy,e];rfl
 subst hy1;rw[bo]
 refine T.bind (o:=mkO 1 _) (P:=λ_=>True) ⟨(),?_,trivial⟩ λ_ _=>T.bind (o:=aG7 _ _) (P:=λ_=>True) ⟨(),?_,trivial⟩ λ_ _=>T.ret ?_
 ·unfold mkO;rw[dt,dt,dt]
  rfl
 ·unfold aG7;rw[show((List.replicate ((16 - l.length % 16) % 16) (0:Int)).length.beq ((16 - l.length % 16) % 16))=true by simp]
  rfl
 ·simp;omega
theorem macT(N:Nat)(hN:70000<=N)(key:Vector Int 32)(n:Vector Int 12)(a c:List Int)(ha:a.length<=1000000)(hc:c.length<=1000000):T (sN N key n a c) eD:=by
 unfold sN;refine T.bind (T.loop0 (n:=8) (by decide) (λ_ _=>True) (F:=mB N a c) (λk s i hi _ Q hk=>?_) (λk s=>by rw[mB,df,cond_false]) (by omega) trivial) λp1 _=>?_
 ·rw[mB,dt,cond_true,show(8:Int)=((8:Nat):Int) from rfl,i4,ia,cF,jB .i64,aa,jB .i64,aa]
  exact T.bind (T.inRO) λ_ _=>T.bind (T.vget) λ_ _=>T.bind (T.inRO) λ_ _=>T.bind (T.vget) λ_ _=>hk _ trivial
 refine T.bind (keyT N (by omega) key n) λr10 _=>T.bind (aUi N a ha) λr11 _=>T.bind (aUi N c hc) λr12 _=>T.bind (T.slc) λs13 _=>?_;exact T.bind (tagT N (by omega) r10 _ (by simp) (by omega)) λr14 h14=>T.ret h14
theorem aO3(N:Nat)(hN:20 < N)(key:Vector Int 32)(n:Vector Int 12)(len:Nat)(hl:len<=65536):∀(k:Nat) (s:List Int) (c:Int),s.length<=len->len - s.length < k->T (lF N (len:Int) key n k s c) (λr=>r.length=len)
 | 0,_,_,_,h=>by omega
 | k+1,s,c,hs,hk=>by
  rw[lF,show nE (len:Int) 65536=(len:Int) by unfold nE;split <;> omega]
  refine T.letO λx hx=>?_;subst hx;refine T.cond (λhc=>?_) (λhc=>?_)
  ·have hc:s.length < len:=by have:=of_decide_eq_true hc;omega
   refine T.bind (aNi N hN key c n) λr5 _=>?_;have f:I64 ((len:Int) - (s.length:Int))=((len - s.length:Nat):Int):=by rw[aP];omega
   rw[f,aC,show(64:Int)=((64:Nat):Int) from rfl,aIN]
   refine T.bind (T.slc (by omega) (by omega) (by simp;omega)) λs9 h9=>?_;have h10:=h9.2;refine T.bind (T.app) λz hz=>?_;subst hz;exact aO3 N hN key n len hl k _ _ (by rw[ah];omega) (by rw[ah];omega)
  ·have hc:s.length=len:=by have:=of_decide_eq_false hc;omega
   exact T.ret hc
theorem aTc(N:Nat)(hN:70000<=N)(key:Vector Int 32)(c:Int)(n:Vector Int 12)(len:Nat)(hl:len<=65536):T (nD N key c n (len:Int)) (λr=>r.length=len):=by
 unfold nD;exact T.bind (aO3 N (by omega) key n len hl N [] c (by simp) (by simp;omega)) λp1 h=>T.ret h
def xP(d s:List Int):List Int:=pb (eT .u8) d s
theorem aEg{d s:List Int}(h:s.length=d.length):(xP d s).length=d.length:=by unfold xP;simp;omega
theorem aNH(d s:List Int):aN (xP d s):=by
 intro x hx;unfold xP at hx;rw[List.mem_iff_getElem?] at hx;obtain⟨i,hi⟩:=hx;rw[List.getElem?_zipWith] at hi;revert hi;cases d[i]? <;> cases s[i]? <;> intro hi <;> simp at hi;rw[<- hi];exact aRJ
theorem aM9{a:Int}(ha:isB a)(b:Int):eT .u8 (eT .u8 a b) b=a:=by
 have e:∀x y:Int,eT .u8 x y=((au 8 x ^^^ au 8 y).toNat:Int):=by
  intro x y;unfold eT;have:(au 8 x ^^^ au 8 y).toNat < 256:=(au 8 x ^^^ au 8 y).isLt;exact sG (by omega) (by show((au 8 x ^^^ au 8 y).toNat:Int) < 256;omega)
 rw[e,e,BitVec.ofInt_natCast,BitVec.ofNat_toNat,BitVec.setWidth_eq,BitVec.xor_assoc,BitVec.xor_self,BitVec.xor_zero,aIq ha]
 have:=ha.1;omega
theorem aHv : ∀{d s:List Int},aN d->s.length=d.length->xP (xP d s) s=d
 | [],s,_,_=>rfl
 | a :: d,[],_,h=>by simp at h
 | a :: d,b :: s,hd,h=>by
  have h1:=aM9 (hd a (by simp)) b;have h2:=aHv (d:=d) (s:=s) (λx hx=>hd x (by simp[hx])) (by simpa using h)
  unfold xP at *;simp[h1,h2]
theorem aUW(N:Nat)(d st:List Int)(hs:st.length=d.length)(hl:d.length<=65536):∀(k i:Nat),i<=d.length->d.length - i < k->qM N st k (xP (d.take i) (st.take i)++d.drop i) (i:Int)=some (xP d st)
 | 0,_,_,h=>by omega
 | k+1,i,hi,hk=>by
  rw[qM,aC]
  have hz:(xP (d.take i) (st.take i)).length=i:=by rw[aEg (by simp;omega)];simp;omega
  by_cases h:i < d.length
  ·have hcat:(xP (d.take i) (st.take i)++d.drop i).length=d.length:=by rw[ah,hz,bw];omega
   have hget:(xP (d.take i) (st.take i)++d.drop i)[i]? = some d[i]:=by
    rw[ck (by omega),hz,ot,eo,Nat.add_zero,af h]
   rw[dt,cond_true,cN,aa,bQ,aa,bo,hget,aa,aa]
   have hset:aQA (xP (d.take i) (st.take i)++d.drop i) i (eT .u8 d[i] st[i])=some (xP (d.take (i+1)) (st.take (i+1))++d.drop (i+1)):=by
    unfold aQA;rw[show Nat.blt i (xP (d.take i) (st.take i)++d.drop i).length=true by rw[hcat];exact Nat.ble_eq_true_of_le h,cond_true]
    congr 1;rw[List.set_append_right _ _ (by omega),hz,ot,cg h,List.set_cons_zero]
    have e1:xP (d.take (i+1)) (st.take (i+1))=xP (d.take i) (st.take i)++[eT .u8 d[i] st[i]]:=by
     unfold xP;rw[jg,jg,af h,af (show i < st.length by omega)]
     show pb _ (o6 i d++[d[i]]) (o6 i st++[st[i]])=_;rw[List.zipWith_append (by simp;omega)]
     rfl
    rw[e1]
    simp
   rw[hset,aa,cF]
   exact aUW N d st hs hl k (i+1) (by omega) (by omega)
  ·obtain rfl:i=d.length:=by omega
   rw[df,cond_false,oa,bf (by omega),iw,cf]
def stV(N:Nat)(key:Vector Int 32)(n:Vector Int 12)(len:Nat):List Int:=(nD N key 1 n (len:Int)).getD []
theorem aKS(N:Nat)(hN:70000<=N)(key:Vector Int 32)(n:Vector Int 12)(len:Nat)(hl:len<=65536):nD N key 1 n (len:Int)=some (stV N key n len)/\(stV N key n len).length=len:=by
 obtain⟨r,h1,h2⟩:=aTc N hN key 1 n len hl;unfold stV;rw[h1]
 exact⟨rfl,h2⟩
def aJp(N:Nat)(key:Vector Int 32)(n:Vector Int 12)(d:List Int):List Int:=xP d (stV N key n d.length)
theorem aIS(N:Nat)(hN:70000<=N)(key:Vector Int 32)(n:Vector Int 12){d:List Int}(hl:d.length<=65536:=by omega):(aJp N key n d).length=d.length:=aEg (aKS N hN key n _ hl).2
theorem aHg(N:Nat)(hN:70000<=N)(key:Vector Int 32)(n:Vector Int 12){d:List Int}(hd:aN d)(hl:d.length<=65536):aJp N key n (aJp N key n d)=d:=by
 have h:=(aKS N hN key n _ hl).2;unfold aJp;rw[aEg h]
 exact aHv hd h
theorem xorP(N:Nat)(hN:70000<=N)(key:Vector Int 32)(n:Vector Int 12)(d:List Int)(hl:d.length<=65536:=by omega):xC N key 1 n [d]=some (aJp N key n d):=by
 obtain⟨h1,h2⟩:=aKS N hN key n _ hl;unfold xC;have hL1:nB N [d] N [] 0=some d:=by
  obtain⟨m,rfl⟩:∃m,N=m+2:=⟨N - 2,by omega⟩
  rw[show nB (m+2) [d] (m+2) [] 0=nB (m+2) [d] (m+1+1) [] 0 from rfl,nB,aC,dt (by simp),cond_true,show idx [d] 0=some d from rfl,aa]
  have f:I64 (65536 - (([]:List Int).length:Int))=65536:=by decide
  rw[f,aC,aC,show nE (d.length:Int) 65536=(d.length:Int) by unfold nE;split <;> omega,qC,aa,bo,oa]
  have e:(List.drop (0:Int).toNat d)=d:=rfl;rw[e,cK (by simp;omega),aa,ee,nB,aC]
  rfl
 rw[hL1,aa,h1,aa]
 have:=aUW N d _ h2 hl N 0 (by omega) (by omega)
 rw[j3,j3,List.drop_zero] at this;rw[show qM N (stV N key n d.length) N d 0=some (xP d (stV N key n d.length)) from this]
 rfl
def aCD(N:Nat)(key:Vector Int 32)(n:Vector Int 12)(a c:List Int):Vector Int 16:=(sN N key n a c).getD (ai 16 0)
theorem macP(N:Nat)(hN:70000<=N)(key:Vector Int 32)(n:Vector Int 12)(a c:List Int)(ha:a.length<=1000000:=by omega)(hc:c.length<=1000000:=by omega):sN N key n a c=some (aCD N key n a c)/\eD (aCD N key n a c):=by
 obtain⟨r,h1,h2⟩:=macT N hN key n a c ha hc;unfold aCD;rw[h1]
 exact⟨rfl,h2⟩
def aGm(N:Nat)(key:Vector Int 32)(n:Vector Int 12)(a p:List Int):List Int:=aJp N key n p++(aCD N key n a (aJp N key n p)).toList
theorem aQM(N:Nat)(hN:70000<=N)(key:Vector Int 32)(n:Vector Int 12)(a:List Int){p:List Int}(hl:p.length<=65536):(aGm N key n a p).length=p.length+16:=by
 unfold aGm;rw[ah,aIS N hN key n hl]
 simp
theorem aOs(N:Nat)(a b:Vector Int 16)(ha:eD a)(hb:eD b):∀(k i:Nat) (s:Int),isB s->i<=16->16 - i < k->∃t,uO N a b k s (i:Int)=some t/\isB t/\(t=0↔s=0/\∀j,i<=j->j < 16->a.toList.getD j 0=b.toList.getD j 0)
 | 0,_,_,_,_,h=>by omega
 | k+1,i,s,hs,hi,hk=>by
  rw[uO]
  by_cases h:i < 16
  ·have b1:isB (eT .u8 (a.toList.getD i 0) (b.toList.getD i 0)):=aRJ;obtain⟨c1,c2⟩:=bor8 hs b1;rw[dt,cond_true,sK (by simp;omega),aa,sK (by simp;omega),aa,aC,cF]
   obtain⟨t,h1,h2,h3⟩:=aOs N a b ha hb k (i+1) _ c1 (by omega) (by omega)
   refine⟨t,h1,h2,?_⟩
   rw[h3,c2,bxor8 (ha.getD i) (hb.getD i)]
   constructor
   ·rintro⟨⟨h4,h5⟩,h6⟩
    refine⟨h4,λj hj hj2=>?_⟩
    rcases Nat.lt_or_ge i j with h7 | h7
    ·exact h6 j h7 hj2
    ·obtain rfl:j=i:=by omega
     exact h5
   ·rintro⟨h4,h5⟩
    exact⟨⟨h4,h5 i (ct _) h⟩,λj hj hj2=>h5 j (by omega) hj2⟩
  ·refine⟨s,by rw[df,cond_false],hs,?_⟩
   constructor
   ·intro h0;exact⟨h0,λj hj hj2=>by omega⟩
   ·intro h0;exact h0.1
theorem aXC(N:Nat)(hN:32 < N)(a b:Vector Int 16)(ha:eD a)(hb:eD b):aAz N a b=some (decide (a=b)):=by
 unfold aAz;obtain⟨t,h1,h2,h3⟩:=aOs N a b ha hb N 0 0 ⟨by decide,by decide⟩ (by omega) (by omega)
 rw[show((0:Nat):Int)=0 from rfl] at h1;rw[h1,aa]
 congr 1;rw[j8,beq_iff_eq,decide_eq_true_eq,h3]
 constructor
 ·rintro⟨_,h⟩
  exact vext (λj hj=>h j (by omega) hj)
 ·rintro rfl;exact⟨rfl,λ_ _ _=>rfl⟩
def aG3(N:Nat)(key:Vector Int 32)(n:Vector Int 12)(a c t:List Int):List Int×Int:=cond (decide ((aCD N key n a c).toList=t)) (aJp N key n c,0) ([],6)
theorem aLw(N:Nat)(hN:70000<=N)(key:Vector Int 32)(n:Vector Int 12)(a c t:List Int)(ht:aN t)(ht16:t.length=16)(ha:a.length<=16384)(hc:c.length<=16384:=by omega):kG N key n a (c++t)=some (aG3 N key n a c t):=by
 unfold kG;have f:I64 (((c++t).length:Int) - 16)=(c.length:Int):=by rw[ah,ht16,aP];omega
 rw[f,aC,df,cond_false,aC,df,cond_false,aC,df,cond_false,nQ (by simp),aa,ma,(macP N hN key n a c).1,aa,aBT (by simp),aa]
 ·rw[jl rfl]
  obtain⟨v,h1,h2⟩:=T.vec (n:=16) (l:=t) (by omega)
  rw[bf (by omega)] at h2;rw[h1,aa,aXC N (by omega) _ _ (macP N hN key n a c).2 (by unfold eD;rw[h2];exact ht),aa]
  unfold aG3;have e:decide ((aCD N key n a c).toList=t)=decide (aCD N key n a c=v):=by
   rw[j8,decide_eq_true_eq,decide_eq_true_eq,<- h2,ez]
  rw[e]
  cases decide (aCD N key n a c=v) with
  | true=>rw[gf,cond_false,cond_true,xorP N hN key n c,aa]
  | false=>rfl
 ·rfl
theorem aFy(N:Nat)(key:Vector Int 32)(n:Vector Int 12)(a s:List Int)(h:s.length < 16):kG N key n a s=some ([],4):=by
 unfold kG;have f:I64 ((s.length:Int) - 16)=(s.length:Int) - 16:=by rw[aP]
 rw[f,aC,dt,cond_true]
theorem aSM(N:Nat)(hN:70000<=N)(key:Vector Int 32)(n:Vector Int 12)(a p:List Int)(hp:aN p)(ha:a.length<=16384)(hl:p.length<=16384):kG N key n a (aGm N key n a p)=some (p,0):=by
 have hx:=aIS N hN key n (d:=p)
 have hm:=(macP N hN key n a (aJp N key n p)).2;unfold aGm;rw[aLw N hN key n a _ _ hm (by simp) ha]
 unfold aG3;rw[dt rfl,cond_true,aHg N hN key n hp (by omega)]
theorem aRL(N:Nat)(hN:70000<=N)(key:Vector Int 32)(n:Vector Int 12)(a s p:List Int)(hs:aN s)(ha:a.length<=16384)(hl:s.length<=16384)(h:kG N key n a s=some (p,0)):s=aGm N key n a p/\aN p/\s.length=p.length+16:=by
 by_cases h16:s.length < 16
 ·rw[aFy N key n a s h16] at h;simp at h
 ·have e:s=s.take (s.length - 16)++s.drop (s.length - 16):=(fe _ _).symm;rw[e,aLw N hN key n a _ _ (hs.drop _) (by simp;omega) ha (by simp;omega)] at h;unfold aG3 at h;cases hd:decide ((aCD N key n a (s.take (s.length - 16))).toList=s.drop (s.length - 16)) with
  | false=>rw[hd,cond_false] at h;simp at h
  | true=>
   rw[hd,cond_true] at h;have h:=(Prod.mk.inj (Option.some.inj h)).1;have hd:=of_decide_eq_true hd;subst h;have hb:aN (s.take (s.length - 16)):=hs.take _;refine⟨?_,aNH _ _,?_⟩
   ·unfold aGm;rw[aHg N hN key n hb (by simp;omega),hd]
    exact e
   ·rw[aIS N hN key n (by simp;omega)]
    simp;omega
theorem aVL(N:Nat)(hN:70000<=N)(key:Vector Int 32)(n:Vector Int 12)(a s:List Int)(hs:aN s)(ha:a.length<=16384)(hl:s.length<=16384):T (kG N key n a s) (λr=>(r.2=0/\aN r.1/\s.length=r.1.length+16/\s=aGm N key n a r.1)\/(r.1=[]/\(r.2=4\/r.2=6))):=by
 by_cases h16:s.length < 16
 ·exact T.of (aFy N key n a s h16) (.inr ⟨rfl,.inl rfl⟩)
 ·have e:s=s.take (s.length - 16)++s.drop (s.length - 16):=(fe _ _).symm;have h:kG N key n a s=some (aG3 N key n a (s.take (s.length - 16)) (s.drop (s.length - 16))):=by
   conv=>lhs;rw[e]
   exact aLw N hN key n a _ _ (hs.drop _) (by simp;omega) ha (by simp;omega)
  refine T.of h ?_;unfold aG3 at h ⊢;cases hd:decide ((aCD N key n a (s.take (s.length - 16))).toList=s.drop (s.length - 16)) with
  | false=>exact .inr ⟨rfl,.inr rfl⟩
  | true=>
   rw[hd,cond_true] at h;obtain⟨g1,g2,g3⟩:=aRL N hN key n a s _ hs ha hl h;exact .inl ⟨rfl,g2,g3,g1⟩
theorem aWs(N:Nat)(hN:20 < N)(base:Vector Int 8)(i:Int):T (iS N base i) (λ_=>True):=by
 unfold iS;refine T.bind (o:=aEB 12 0 12) (P:=λ_=>True) ⟨(),rfl,trivial⟩ λ_ _=>T.bind (T.slc) λs2 _=>?_;refine T.bind (P:=λ_=>True) ?_ λv3 _=>?_
 ·unfold cpV;rw[dif_pos (by decide)]
  exact⟨_,rfl,trivial⟩
 refine T.bind (T.loop0 (n:=4) (by decide) (λ_ _=>True) (F:=iJ N i) (λk s j hj _ Q hk=>?_) (λk s=>by rw[iJ,df,cond_false]) (by omega) trivial) λp1 _=>T.ret trivial;rw[iJ,dt,cond_true,show(8:Int)=((8:Nat):Int) from rfl,i4,ia,cF,jB .i64,aa]
 exact T.bind (T.inRO) λ_ _=>T.bind (T.vget) λ_ _=>hk _ trivial
def aHt(N:Nat)(base:Vector Int 8)(i:Int):Vector Int 12:=(iS N base i).getD (ai 12 0)
theorem aRk(N:Nat)(hN:20 < N)(base:Vector Int 8)(i:Int):iS N base i=some (aHt N base i):=by
 obtain⟨r,h,_⟩:=aWs N hN base i;unfold aHt;rw[h]
 rfl
theorem aPG(N:Nat)(b:List Int)(e:Int):nI N (aB.mk b e true)=some false:=rfl
theorem aFx(N:Nat)(b:List Int)(n:Nat)(h:n<=b.length):bC N (n:Int) (aB.mk b 0 true)=some (b.drop n,0,b.take n):=by
 unfold bC;rw[aPG,aa,cond_false,aC]
 dsimp only;rw[show((0:Int) != 0)=false from rfl,cond_false,df,cond_false,aC,df,cond_false,aRa h,aa,aBT h,aa]
theorem aBU(N:Nat)(b:List Int)(n:Nat)(h:¬n<=b.length):bC N (n:Int) (aB.mk b 0 true)=some (b,4,[]):=by
 unfold bC;rw[aPG,aa,cond_false,aC]
 dsimp only;rw[show((0:Int) != 0)=false from rfl,cond_false,df,cond_false,aC,dt,cond_true]
theorem aPL(N:Nat)(b:List Int)(n:Nat){e:Int}(h:e≠0):bC N (n:Int) (aB.mk b e true)=some (b,e,[]):=by
 unfold bC;rw[aPG,aa,cond_false,aC]
 dsimp only;rw[show(e != 0)=true by simpa using h,cond_true]
theorem aBK : aN []:=by intro x hx;cases hx
theorem aRy(N:Nat)(b:List Int)(e:Int)(n:Nat)(hb:aN b):T (bC N (n:Int) (aB.mk b e true)) (λr=>aN r.1/\aN r.2.2/\r.2.2.length<=n/\r.1.length<=b.length/\((r.2.1=0/\e=0/\b=r.2.2++r.1/\r.2.2.length=n)\/(r.2.1≠0/\r.2.2=[]/\r.1=b/\(e=0->r.2.1=4/\b.length < n)/\(e≠0->r.2.1=e)))):=by
 by_cases he:e=0
 ·subst he;by_cases h:n<=b.length
  ·refine T.of (aFx N b n h) ⟨hb.drop _,hb.take _,by simp;omega,by simp,.inl ⟨rfl,rfl,(fe _ _).symm,by simp;omega⟩⟩
  ·exact T.of (aBU N b n h) ⟨hb,aBK,by simp,ct _,.inr ⟨(show(4:Int)≠0 by decide),rfl,rfl,λ_=>⟨rfl,by omega⟩,λh=>absurd rfl h⟩⟩
 ·exact T.of (aPL N b n he) ⟨hb,aBK,by simp,ct _,.inr ⟨he,rfl,rfl,λh=>absurd h he,λ_=>rfl⟩⟩
theorem aKO : ∀(x:List Int),aN x->x.length<=8->leB x.length (oB x)=x:=by
 intro x hx hl;have hlen:∀i,i < x.length->(leB x.length (oB x))[i]? = x[i]? := by
  intro i hi;unfold leB;rw[List.getElem?_map,List.getElem?_range hi,Option.map_some,af hi,aKi _ _,aBu]
  congr 1
  -- the i-th byte
  have key:∀(l:List Int),aN l->∀i (h:i < l.length),oB l / bL i % 256=l[i]:=by
   intro l
   induction l with
   | nil=>intro _ i h;simp at h
   | cons a l ih=>
    intro hl i h;have ha:=hl a (by simp)
    have e:oB (a :: l)=a+256*oB l:=rfl;cases i with
    | zero=>
     rw[e,show bL 0=1 from rfl]
     have:=ha.1;have:=ha.2;simp only[List.getElem_cons_zero]
     omega
    | succ i=>
     rw[show bL (i+1)=256*bL i by rw[aEC,Int.mul_comm],<- Int.ediv_ediv_of_nonneg (by decide),e]
     have h1:(a+256*oB l) / 256=oB l:=by have:=ha.1;have:=ha.2;omega
     rw[h1]
     simpa using ih (λx hx=>hl x (by simp[hx])) i (by simpa using h)
  exact key x hx i hi
 apply du;intro i;by_cases hi:i < x.length
 ·exact hlen i hi
 ·rw[ar (by rw[bM];omega),ar (by omega)]
theorem aEA(N:Nat)(hN:20 < N)(b:List Int)(e:Int)(w:Nat)(hw0:1<=w)(hw:w<=8)(hb:aN b):T (bD N (w:Int) (aB.mk b e true)) (λr=>aN r.1/\r.1.length<=b.length/\0<=r.2.2/\r.2.2 < bL w/\((r.2.1=0/\e=0/\b=leB w r.2.2++r.1)\/(r.2.1≠0/\r.2.2=0/\r.1=b/\(e=0->r.2.1=4/\b.length < w)/\(e≠0->r.2.1=e)))):=by
 unfold bD;rw[df (show ¬(w:Int) < 1 by omega),df (show ¬(w:Int) > 8 by omega),cond_false,aC,cond_false,aa]
 refine T.bind (aRy N b e w hb) λr3 h3=>?_;obtain⟨h1,h2,h4,h4b,h5⟩:=h3;have n1:=numL N r3.2.2 r3 rfl h2 (by omega) N 0 (by omega) (by omega)
 rw[j3] at n1;rw[show cZ N r3 N 0 0=some (oB r3.2.2) from n1,aa]
 have hlt:=aAF _ h2;refine T.ret ⟨h1,h4b,hlt.1,?_,?_⟩
 ·rcases h5 with ⟨_,_,_,h5⟩ | ⟨_,h5,_⟩
  ·dsimp only;rw[<- h5];exact hlt.2
  ·dsimp only;rw[h5];exact wT w
 ·rcases h5 with ⟨g1,g2,g3,g4⟩ | ⟨g1,g2,g3,g4,g5⟩
  ·refine .inl ⟨g1,g2,?_⟩
   dsimp only;rw[<- g4,aKO _ h2 (by omega)]
   exact g3
  ·exact .inr ⟨g1,by dsimp only;rw[g2];rfl,g3,g4,g5⟩
theorem aOR(N:Nat)(hN:20 < N)(w:Nat)(hw0:1<=w)(hw:w<=8)(v:Int)(rest:List Int)(hv:0<=v)(hv2:v < bL w)(hr:aN rest):bD N (w:Int) (aB.mk (leB w v++rest) 0 true)=some (rest,0,v):=by
 unfold bD;rw[df (show ¬(w:Int) < 1 by omega),df (show ¬(w:Int) > 8 by omega),cond_false,aC,cond_false,aa,aFx N _ w (by rw[ah,bM];omega),aa]
 have hl:=bM w v;have e1:(leB w v++rest).take w=leB w v:=ma hl;have e2:(leB w v++rest).drop w=rest:=jl hl;have n1:=numL N (leB w v) (rest,0,leB w v) rfl (aBE w v) (by omega) N 0 (by omega) (by omega)
 rw[j3] at n1;rw[e1,e2,show cZ N (rest,0,leB w v) N 0 0=some (oB (leB w v)) from n1,aa,aOL v w hw,il hv hv2]
theorem aOW(N:Nat)(hN:20 < N)(b:List Int)(e:Int)(hb:aN b):T (bY N 2 (aB.mk b e true)) (λr=>aN r.1/\r.1.length<=b.length /\ -32768<=r.2.2/\r.2.2 < 32768/\((r.2.1=0/\e=0/\b=leB 2 (r.2.2 % 65536)++r.1)\/(r.2.1≠0/\r.1=b/\(e=0->r.2.1=4/\b.length < 2)/\(e≠0->r.2.1=e)))):=by
 unfold bY;refine T.bind (aEA N hN b e 2 (by decide) (by decide) hb) λr h=>?_;obtain⟨h1,h1b,h2,h3,h4⟩:=h;rw[show bL 2=65536 from rfl] at h3;rw[show decide ((2:Int) < 1)=false from rfl,show decide ((2:Int) > 8)=false from rfl,cond_false,aC,cond_false,show I64 (64 - I64 (8*2))=((48:Nat):Int) by decide,aC,tU .i64,aa,aC,jB .i64,aa]
 have hI:I64 r.2.2=r.2.2:=aP;have hv:shr .i64 (shl .i64 (I64 r.2.2) ((48:Nat):Int)) ((48:Nat):Int)=if r.2.2 < 32768 then r.2.2 else r.2.2 - 65536:=by
  rw[hI,zC .i64 _ _ 48 rfl,aPo _ _ (by decide),aPD,show(2:Int) ^ 48=281474976710656 from rfl]
  split <;> omega
 rw[hv]
 refine T.ret ⟨h1,h1b,by dsimp only;split <;> omega,by dsimp only;split <;> omega,?_⟩
 rcases h4 with ⟨g1,g2,g3⟩ | ⟨g1,g2,g3,g4,g5⟩
 ·refine .inl ⟨g1,g2,?_⟩
  dsimp only;have:(if r.2.2 < 32768 then r.2.2 else r.2.2 - 65536) % 65536=r.2.2:=by split <;> omega
  rw[this]
  exact g3
 ·exact .inr ⟨g1,g3,g4,g5⟩
theorem aJo(N:Nat)(b:List Int)(e:Int):dC N (aB.mk b e true)=some (cond (e != 0) e (cond (decide (0 < b.length)) 5 0)):=by
 unfold dC nZ;rw[aPG,aa,cond_false,aa]
 dsimp only;cases e != 0 with
 | true=>rfl
 | false=>
  rw[cond_false,cond_false,aC]
  by_cases h:0 < b.length
  ·rw[dt,dt h];rfl
  ·rw[df,df h];rfl
theorem aKa(N:Nat)(b:List Int)(h:b.length<=100000000000000:=by omega):qP N b=some b:=by
 unfold qP;rw[aQX N b h,aa]
def aAJ(k:Int):Int:=if k=1 then 2048 else if k=2 then 1024 else if k=3 then 64 else if k=4 then 64 else 0
theorem capP(N:Nat)(k:Int):uW N k=some (aAJ k):=by
 unfold uW aAJ;rw[aC]
 by_cases h:k < 0\/5<=k
 ·rw[show cond (decide (k < 0)) true (decide (k>=5))=true by rcases h with h | h;rw[dt h];rfl;rw[df (show ¬k < 0 by omega),dt (show k>=5 by omega)];rfl,cond_true]
  rw[if_neg (by omega),if_neg (by omega),if_neg (by omega),if_neg (by omega)]
 ·rw[df (show ¬k < 0 by omega),df (show ¬k>=5 by omega),cond_false,cond_false,bQ,aa]
  have:k=0\/k=1\/k=2\/k=3\/k=4:=by omega
  rcases this with rfl | rfl | rfl | rfl | rfl <;> rfl
def sM(s:Int):Int:=if s < 1 then 0 else(s - 1) / 256+1
theorem aT6(N:Nat){s:Int}(h:aEw s):qV N s=some (sM s):=by
 unfold qV sM;obtain⟨h0,h1⟩:=h;by_cases hs:s < 1
 ·rw[dt hs,cond_true,if_pos hs]
 ·have e:Int.tdiv (s - 1) 256=(s - 1) / 256:=Int.tdiv_eq_ediv_of_nonneg (by omega)
  rw[df hs,cond_false,if_neg hs,aP (x:=s - 1),e,aP (x:=(s - 1) / 256),aC,aP]
def zQ(m:aE):Int:=if aAJ m.gA=0 then 12 else if (m.gA2.toList.any λe=>decide (e > 15))=true then 5 else if m.gQ > m.gTo\/m.gT < 1 then 5 else if m.gT > aAJ m.gA then 9 else if m.gA0≠sM m.gT then 5 else 0
theorem mchkP(N:Nat)(hN:20 < N)(m:aE)(hs:aEw m.gT):rT N m=some (zQ m):=by
 unfold rT zQ;rw[capP,aa]
 by_cases h0:aAJ m.gA=0
 ·rw[if_pos h0,h0];rfl
 ·rw[if_neg h0,show(aAJ m.gA==0)=false by simpa using h0,cond_false]
  have hl:jZ N m N 0=some (cond (m.gA2.toList.any λe=>decide (e > 15)) (Sum.inr 5) (Sum.inl ())):=by
   refine sD m.gA2.toList (λe=>decide (e > 15)) (5:Int) (jZ N m) (by simp) (λk i h=>?_) (λk=>?_) (by simp;omega)
   ·have h8:i < 8:=by simpa using h
    rw[jZ,dt,cond_true,cN h,aa]
   ·rw[jZ,df (by simp),cond_false]
  rw[hl,aa]
  cases ha:(m.gA2.toList.any λe=>decide (e > 15)) with
  | true=>rw[if_pos rfl,cond_true];rfl
  | false=>
   rw[if_neg (by decide),cond_false]
   show(aM (decide (m.gQ > m.gTo)) λx5=>_)=_;rw[aC,aC]
   by_cases h1:m.gQ > m.gTo\/m.gT < 1
   ·rw[if_pos h1]
    rw[show cond (decide (m.gQ > m.gTo)) true (decide (m.gT < 1))=true by rcases h1 with h | h;rw[dt h];rfl;rw[dt h];cases decide (m.gQ > m.gTo) <;> rfl,aC,cond_true]
   ·rw[if_neg h1,df (show ¬m.gQ > m.gTo by omega),df (show ¬m.gT < 1 by omega),cond_false,aC,cond_false]
    by_cases h2:m.gT > aAJ m.gA
    ·rw[dt h2,cond_true,if_pos h2]
    ·rw[df h2,cond_false,if_neg h2,aT6 N hs,aa]
     by_cases h3:m.gA0=sM m.gT
     ·rw[if_neg (by simpa using h3),show(m.gA0 != sM m.gT)=false by simpa using h3,cond_false]
     ·rw[if_pos h3,show(m.gA0 != sM m.gT)=true by simpa using h3,cond_true]
structure aLE(m:aE):Prop where
 id:isU m.gId
 kind:0<=m.gA/\m.gA < 256
 label:isW m.gA3
 masks:eD m.gA2
 fr:isW m.gQ
 to:isW m.gTo
 size:0<=m.gT/\m.gT < 4294967296
 chunks:0<=m.gA0/\m.gA0 < 65536
structure ManT(m:aE):Prop where
 id:isU m.gId
 kind:aEw m.gA
 label:isW m.gA3
 masks:eD m.gA2
 fr:isW m.gQ
 to:isW m.gTo
 size:aEw m.gT
 chunks:aEw m.gA0
theorem aTo{k:Int}(h:aAJ k≠0):1<=k/\k<=4/\aAJ k<=2048/\64<=aAJ k:=by
 unfold aAJ at *;split at h
 ·rename_i e;subst e;exact⟨by decide,by decide,by decide,by decide⟩
 ·split at h
  ·rename_i e;subst e;exact⟨by decide,by decide,by decide,by decide⟩
  ·split at h
   ·rename_i e;subst e;exact⟨by decide,by decide,by decide,by decide⟩
   ·split at h
    ·rename_i e;subst e;exact⟨by decide,by decide,by decide,by decide⟩
    ·exact absurd rfl h
theorem aUb{m:aE}(h:zQ m=0):aAJ m.gA≠0/\1<=m.gT/\m.gT<=aAJ m.gA/\m.gA0=sM m.gT:=by
 unfold zQ at h;split at h
 ·cases h
 ·rename_i h0;split at h
  ·cases h
  ·split at h
   ·cases h
   ·split at h
    ·cases h
    ·split at h
     ·cases h
     ·exact⟨h0,by omega,by omega,by omega⟩
theorem ManT.r{m:aE}(t:ManT m)(h:zQ m=0):aLE m:=by
 obtain⟨h0,h1,h2,h3⟩:=aUb h;obtain⟨k1,k2,k3,_⟩:=aTo h0;refine⟨t.id,⟨by omega,by omega⟩,t.label,t.masks,t.fr,t.to,⟨by omega,by omega⟩,?_⟩
 rw[h3]
 unfold sM;rw[if_neg (by omega)]
 omega
def aHA(m:aE):List Int:=leB 8 m.gId++(leB 1 m.gA++(leB 4 m.gA3++(m.gA2.toList++(leB 4 m.gQ++(leB 4 m.gTo++(leB 4 m.gT++leB 2 m.gA0))))))
theorem aMa(m:aE):(aHA m).length=35:=by unfold aHA;simp[bM]
theorem put1(N:Nat)(hN:20 < N)(b:List Int)(w:Nat)(hw0:1<=w)(hw:w<=8)(x:Int)(hx:0<=x)(hx2:x < bL w)(hb:b.length<=1000000:=by omega):bW N b (w:Int) [x]=some (b++leB w x,0):=by
 have h8:=aFY hw;rw[aQI N b w hw0 hw [x] (by intro y hy;simp at hy;subst hy;exact⟨hx,by omega⟩) (by omega) (by simp) (by omega) (by simp;omega)]
 unfold aJw;have:([x].any (big w))=false:=by simp[big];omega
 rw[this,cond_false]
 simp
theorem put3(N:Nat)(hN:20 < N)(b:List Int)(w:Nat)(hw0:1<=w)(hw:w<=8)(x y z:Int)(hx:0<=x/\x < bL w)(hy:0<=y/\y < bL w)(hz:0<=z/\z < bL w)(hb:b.length<=1000000):bW N b (w:Int) [x,y,z]=some (b++(leB w x++(leB w y++leB w z)),0):=by
 have h8:=aFY hw;rw[aQI N b w hw0 hw [x,y,z] (by intro q hq;simp at hq;rcases hq with rfl | rfl | rfl <;> omega) (by omega) (by simp) (by omega) (by simp;omega)]
 unfold aJw;have:([x,y,z].any (big w))=false:=by simp[big];omega
 rw[this,cond_false]
 simp
theorem put2(N:Nat)(hN:20 < N)(b:List Int)(w:Nat)(hw0:1<=w)(hw:w<=8)(x y:Int)(hx:0<=x/\x < bL w)(hy:0<=y/\y < bL w)(hb:b.length<=1000000:=by simp):bW N b (w:Int) [x,y]=some (b++(leB w x++leB w y),0):=by
 have h8:=aFY hw;rw[aQI N b w hw0 hw [x,y] (by intro q hq;simp at hq;rcases hq with rfl | rfl <;> omega) (by omega) (by simp) (by omega) (by simp;omega)]
 unfold aJw;have:([x,y].any (big w))=false:=by simp[big];omega
 rw[this,cond_false]
 simp
theorem lX{w:Nat}(hw:w<=8){x y:Int}(hx:0<=x/\x < bL w)(hy:0<=y/\y < bL w)(h:leB w x=leB w y):x=y:=by
 have:=congrArg oB h;rw[aOL x w hw,aOL y w hw,il hx.1 hx.2,il hy.1 hy.2] at this;exact this
theorem aRu{m m':aE}(r:aLE m)(r':aLE m')(h:aHA m=aHA m'):m=m':=by
 unfold aHA at h;obtain⟨h1,h⟩:=cm h (by simp[bM])
 obtain⟨h2,h⟩:=cm h (by simp[bM])
 obtain⟨h3,h⟩:=cm h (by simp[bM])
 obtain⟨h4,h⟩:=cm h (by simp)
 obtain⟨h5,h⟩:=cm h (by simp[bM])
 obtain⟨h6,h⟩:=cm h (by simp[bM])
 obtain⟨h7,h8⟩:=cm h (by simp[bM])
 have q1:=lX (w:=8) (by decide) r.id r'.id h1;have q2:=lX (w:=1) (by decide) r.kind r'.kind h2;have q3:=lX (w:=4) (by decide) r.label r'.label h3;have q4:=ez.1 h4;have q5:=lX (w:=4) (by decide) r.fr r'.fr h5;have q6:=lX (w:=4) (by decide) r.to r'.to h6;have q7:=lX (w:=4) (by decide) r.size r'.size h7;have q8:=lX (w:=2) (by decide) r.chunks r'.chunks h8;cases m;cases m';dsimp only at *;subst q1 q2 q3 q4 q5 q6 q7 q8;rfl
theorem cpVm{m:Nat}(d:List Int)(h:d.length=m):∃v,cpV (ai m (0:Int)) d 0 m=some v/\v.toList=d:=by
 unfold cpV;rw[dif_pos (by omega)]
 refine⟨_,rfl,?_⟩
 subst h;simp[cpy]
def zM : aE:=aE.mk 0 0 0 (ai 8 0) 0 0 0 0
theorem aUI(N:Nat)(hN:20 < N)(b:List Int)(hb:aN b)(h35:b.length=35):T (qR N b) (λr=>∃m,aLE m/\aHA m=b/\r=if zQ m=0 then(m,0) else(zM,zQ m)):=by
 unfold qR;rw[aKa N b,aa]
 refine T.bind (aEA N hN b 0 8 (by decide) (by decide) hb) λr2 h2=>?_;obtain⟨b2,e2,v2⟩:=r2;obtain⟨p2,l2,q2,q2',⟨rfl,_,c2⟩ | ⟨_,_,_,c2,_⟩⟩:=h2
 rotate_left
 ·have:=(c2 rfl).2;omega
 dsimp only at p2 l2 q2 q2' c2 ⊢;have hl2:=congrArg dr c2;rw[ah,bM] at hl2;unfold iG;refine T.bind (P:=λr=>aN r.1/\r.2.1=0/\0<=r.2.2/\r.2.2 < 256/\b2=leB 1 r.2.2++r.1) (T.bind (aEA N hN b2 0 1 (by decide) (by decide) p2) λr h=>T.ret ?_) λr3 h3=>?_
 ·obtain⟨p,l,q,q',⟨e,_,c⟩ | ⟨_,_,_,c,_⟩⟩:=h
  ·rw[show bL 1=256 from rfl] at q';have:I64 r.2.2=r.2.2:=aP;dsimp only;rw[this]
   exact⟨p,e,q,q',c⟩
  ·have:=(c rfl).2;omega
 obtain⟨b3,e3,v3⟩:=r3;obtain⟨p3,rfl,q3,q3',c3⟩:=h3;dsimp only at p3 q3 q3' c3 ⊢;have hl3:=congrArg dr c3;rw[ah,bM] at hl3;refine T.bind (aEA N hN b3 0 4 (by decide) (by decide) p3) λr4 h4=>?_;obtain⟨b4,e4,v4⟩:=r4;obtain⟨p4,l4,q4,q4',⟨rfl,_,c4⟩ | ⟨_,_,_,c4,_⟩⟩:=h4
 rotate_left
 ·have:=(c4 rfl).2;omega
 dsimp only at p4 l4 q4 q4' c4 ⊢;have hl4:=congrArg dr c4;rw[ah,bM] at hl4;refine T.bind (o:=aEB 8 0 8) (P:=λ_=>True) ⟨(),rfl,trivial⟩ λ_ _=>?_;refine T.bind (aRy N b4 0 8 p4) λr6 h6=>?_;obtain⟨b6,e6,v6⟩:=r6;obtain⟨p6,pv6,_,_,⟨rfl,_,c6,l6⟩ | ⟨_,_,_,c6,_⟩⟩:=h6
 rotate_left
 ·have:=(c6 rfl).2;omega
 dsimp only at p6 pv6 c6 l6 ⊢;have hl6:=congrArg dr c6;rw[ah,l6] at hl6;obtain⟨v7,e7,c7⟩:=cpVm v6 l6;rw[e7,aa]
 refine T.bind (aEA N hN b6 0 4 (by decide) (by decide) p6) λr8 h8=>?_;obtain⟨b8,e8,v8⟩:=r8;obtain⟨p8,l8,q8,q8',⟨rfl,_,c8⟩ | ⟨_,_,_,c8,_⟩⟩:=h8
 rotate_left
 ·have:=(c8 rfl).2;omega
 dsimp only at p8 l8 q8 q8' c8 ⊢;have hl8:=congrArg dr c8;rw[ah,bM] at hl8;refine T.bind (aEA N hN b8 0 4 (by decide) (by decide) p8) λr9 h9=>?_;obtain⟨b9,e9,v9⟩:=r9;obtain⟨p9,l9,q9,q9',⟨rfl,_,c9⟩ | ⟨_,_,_,c9,_⟩⟩:=h9
 rotate_left
 ·have:=(c9 rfl).2;omega
 dsimp only at p9 l9 q9 q9' c9 ⊢;have hl9:=congrArg dr c9;rw[ah,bM] at hl9;refine T.bind (P:=λr=>aN r.1/\r.2.1=0/\0<=r.2.2/\r.2.2 < 4294967296/\b9=leB 4 r.2.2++r.1) (T.bind (aEA N hN b9 0 4 (by decide) (by decide) p9) λr h=>T.ret ?_) λr10 h10=>?_
 ·obtain⟨p,l,q,q',⟨e,_,c⟩ | ⟨_,_,_,c,_⟩⟩:=h
  ·rw[show bL 4=4294967296 from rfl] at q';have:I64 r.2.2=r.2.2:=aP;dsimp only;rw[this]
   exact⟨p,e,q,q',c⟩
  ·have:=(c rfl).2;omega
 obtain⟨b10,e10,v10⟩:=r10;obtain⟨p10,rfl,q10,q10',c10⟩:=h10;dsimp only at p10 q10 q10' c10 ⊢;have hl10:=congrArg dr c10;rw[ah,bM] at hl10;refine T.bind (P:=λr=>aN r.1/\r.2.1=0/\0<=r.2.2/\r.2.2 < 65536/\b10=leB 2 r.2.2++r.1) (T.bind (aEA N hN b10 0 2 (by decide) (by decide) p10) λr h=>T.ret ?_) λr11 h11=>?_
 ·obtain⟨p,l,q,q',⟨e,_,c⟩ | ⟨_,_,_,c,_⟩⟩:=h
  ·rw[show bL 2=65536 from rfl] at q';have:I64 r.2.2=r.2.2:=aP;dsimp only;rw[this]
   exact⟨p,e,q,q',c⟩
  ·have:=(c rfl).2;omega
 obtain⟨b11,e11,v11⟩:=r11;obtain⟨p11,rfl,q11,q11',c11⟩:=h11;dsimp only at p11 q11 q11' c11 ⊢;have hl11:=congrArg dr c11;rw[ah,bM] at hl11;have h0:b11=[]:=dp (by omega)
 subst h0;rw[aJo,aa,show((0:Int) != 0)=false from rfl,cond_false,show decide (0 < ([]:List Int).length)=false from rfl,cond_false,show((0:Int) != 0)=false from rfl,cond_false]
 rw[show bL 8=18446744073709551616 from rfl] at q2';rw[show bL 4=4294967296 from rfl] at q4' q8' q9';have u4:=xL q4 q4';have u8:=xL q8 q8';have u9:=xL q9 q9';rw[u4,u8,u9]
 have R:aLE (aE.mk v2 v3 v4 v7 v8 v9 v10 v11):=⟨⟨q2,q2'⟩,⟨q3,q3'⟩,⟨q4,q4'⟩,by unfold eD;rw[show(aE.mk v2 v3 v4 v7 v8 v9 v10 v11).gA2=v7 from rfl,c7];exact pv6,⟨q8,q8'⟩,⟨q9,q9'⟩,⟨q10,q10'⟩,⟨q11,q11'⟩⟩
 rw[mchkP N hN _ ⟨by dsimp only;omega,by dsimp only;omega⟩,aa]
 have hB:aHA (aE.mk v2 v3 v4 v7 v8 v9 v10 v11)=b:=by
  unfold aHA;dsimp only;rw[c2,c3,c4,c6,c8,c9,c10,c11,c7,cf]
 by_cases hc:zQ (aE.mk v2 v3 v4 v7 v8 v9 v10 v11)=0
 ·rw[hc,show((0:Int) != 0)=false from rfl,cond_false]
  exact T.ret ⟨_,R,hB,by rw[if_pos hc]⟩
 ·rw[show(zQ (aE.mk v2 v3 v4 v7 v8 v9 v10 v11) != 0)=true by simpa using hc,cond_true]
  exact T.ret ⟨_,R,hB,by rw[if_neg hc];rfl⟩
theorem aUM{α:Type}(l:List α)(hl:l.length < 9223372036854775807)(bad:α->Prop){F:Nat->Int->Option (Sum Unit Int)}
  (hstep:∀k i (h:i < l.length),∃c,(c=false->¬bad l[i])/\F (k+1) (i:Int)=cond c (some (Sum.inr (i:Int))) (F k (I64 ((i:Int)+1)))) (hend:∀k,F (k+1) (l.length:Int)=some (Sum.inl ())) :
  ∀(k i:Nat),i<=l.length->l.length - i < k->T (ae (ae (F k (i:Int)) λo=>mZ o (λp1=>some (-1)) (λr=>some r)) λr1:Int=>some (decide (r1>=0))) (λr=>r=false->∀x∈l.drop i,¬bad x)
 | 0,i,_,h=>by omega
 | k+1,i,hi,hk=>by
  by_cases h:i < l.length
  ·obtain⟨c,h1,h2⟩:=hstep k i h;rw[h2]
   cases c with
   | true=>
    refine⟨true,?_,λe=>by cases e⟩
    show some (decide ((i:Int)>=0))=some true;rw[dt]
   | false=>
    rw[cond_false,cF]
    refine T.mono (aUM l hl bad hstep hend k (i+1) (by omega) (by omega)) λr hr e x hx=>?_;rw[cg h] at hx;rcases d9.1 hx with rfl | hx
    ·exact h1 rfl
    ·exact hr e x hx
  ·obtain rfl:i=l.length:=by omega
   rw[hend,iw]
   exact⟨false,rfl,λ_ x hx=>by cases hx⟩
theorem aKl{α:Type}(l:List α)(hl:l.length < 9223372036854775807)(bad:α->Prop){F:Nat->Int->Option (Sum Unit Int)}
  (hstep:∀k i (h:i < l.length),∃c,(c=false->¬bad l[i])/\F (k+1) (i:Int)=cond c (some (Sum.inr (i:Int))) (F k (I64 ((i:Int)+1)))) (hend:∀k,F (k+1) (l.length:Int)=some (Sum.inl ())) {N:Nat} (hN:l.length < N:=by omega) :
  T (ae (ae (F N 0) λo=>mZ o (λp1=>some (-1)) (λr=>some r)) λr1:Int=>some (decide (r1>=0))) (λr=>r=false->∀x∈l,¬bad x):=
 T.mono (aUM l hl bad hstep hend N 0 (by omega) (by omega)) λr hr e x hx=>hr e x (by simpa using hx)
theorem aRo{a b c m:Int}(h:¬uK (uK a b) c > m):a<=m/\b<=m/\c<=m:=by unfold uK at h;split at h <;> split at h <;> omega
theorem aR4{a b c m:Int}(h:¬nE (nE a b) c < m):m<=a/\m<=b/\m<=c:=by unfold nE at h;split at h <;> split at h <;> omega
theorem imax2{a b m:Int}(h:¬uK a b > m):a<=m/\b<=m:=by unfold uK at h;split at h <;> omega
theorem imin2{a b m:Int}(h:¬nE a b < m):m<=a/\m<=b:=by unfold nE at h;split at h <;> omega
def ptG(p:aA):Prop:=(-4096<=p.gX/\p.gX<=4096)/\(-4096<=p.gY/\p.gY<=4096)/\(-4096<=p.gZ/\p.gZ<=4096)
theorem aUx(N:Nat)(p:aA):T (sA N p) (λc=>c=false->ptG p):=by
 unfold sA;refine T.bind (P:=λc=>c=false->ptG p) ?_ λc hc=>T.ret hc;refine T.letO λx hx=>T.cond (λ_=>T.ret λh=>by cases h) λh1=>T.letO λy hy=>T.ret λh2=>?_;subst hx hy;have h1:=aRo (of_decide_eq_false h1)
 have h2:=aR4 (of_decide_eq_false h2)
 exact⟨⟨h2.1,h1.1⟩,⟨h2.2.1,h1.2.1⟩,h2.2.2,h1.2.2⟩
theorem aRj(N:Nat)(p:aA):T (qN N p) (λc=>c=false->ptG p):=aUx N p
def uvG(v:Vector Int 2):Prop:=(0<=v[0]/\v[0] < 65536)/\(0<=v[1]/\v[1] < 65536)
theorem aRH(v:Vector Int 2):idx v.toList 0=some v[0]:=by have:=kX v.toList 0;rw[oV v 0] at this;exact this
theorem aRr(v:Vector Int 2):idx v.toList 1=some v[1]:=by have:=kX v.toList 1;rw[oV v 1] at this;exact this
theorem aJe(v:Vector Int 3):idx v.toList 0=some v[0]:=by have:=kX v.toList 0;rw[oV v 0] at this;exact this
theorem aJi(v:Vector Int 3):idx v.toList 1=some v[1]:=by have:=kX v.toList 1;rw[oV v 1] at this;exact this
theorem aJR(v:Vector Int 3):idx v.toList 2=some v[2]:=by have:=kX v.toList 2;rw[oV v 2] at this;exact this
theorem pairT(N:Nat)(v:Vector Int 2):T (rV N v) (λc=>c=false->uvG v):=by
 unfold rV;refine T.bind (P:=λc=>c=false->uvG v) ?_ λc hc=>T.ret hc;rw[aRH,aRr,aa,aa]
 refine T.letO λx hx=>T.cond (λ_=>T.ret λh=>by cases h) λh1=>?_;rw[aa,aa]
 refine T.letO λy hy=>T.ret λh2=>?_;subst hx hy;have h1:=imin2 (of_decide_eq_false h1)
 have h2:=imax2 (of_decide_eq_false h2)
 exact⟨⟨h1.1,by omega⟩,h1.2,by omega⟩
def trG(n:Int)(v:Vector Int 3):Prop:=(0<=v[0]/\v[0] < n)/\(0<=v[1]/\v[1] < n)/\(0<=v[2]/\v[2] < n)
theorem triT(N:Nat)(v:Vector Int 3)(m:aK):T (oJ N v m) (λc=>c=false->trG (m.gG.length:Int) v):=by
 unfold oJ;refine T.bind (P:=λc=>c=false->trG (m.gG.length:Int) v) ?_ λc hc=>T.ret hc;simp only[aJe,aJi,aJR,aa]
 refine T.letO λx hx=>T.cond (λ_=>T.ret λh=>by cases h) λh1=>T.letO λn hn=>T.letO λy hy=>T.cond (λ_=>T.ret λh=>by cases h) λh2=>?_;subst hx hy hn;have h1:=aR4 (of_decide_eq_false h1)
 have h2:¬uK (uK v[0] v[1]) v[2] > (m.gG.length:Int) - 1:=by have:=of_decide_eq_false h2;omega
 have h2:=aRo h2;have g:trG (m.gG.length:Int) v:=⟨⟨h1.1,by omega⟩,⟨h1.2.1,by omega⟩,h1.2.2,by omega⟩
 exact T.cond (λ_=>T.ret λ_=>g) λ_=>T.cond (λ_=>T.ret λ_=>g) λ_=>T.ret λ_=>g
structure aDq(m:aK):Prop where
 nv:m.gG.length<=64
 nt:m.gJ.length<=64
 nu:m.gL.length=m.gG.length
 v:∀p∈m.gG,ptG p
 u:∀p∈m.gL,uvG p
 t:∀p∈m.gJ,trG 256 p
theorem aU0(N:Nat)(hN:1000 < N)(m:aK)(hv:m.gG.length<=500)(hu:m.gL.length<=500)(ht:m.gJ.length<=500):T (iI N m) (λc=>c=0->aDq m):=by
 unfold iI;refine T.letO λx1 e1=>T.letO λx2 e2=>T.letO λx3 e3=>?_;subst e1 e2 e3;refine T.cond (λ_=>T.ret λh=>by cases h) λh1=>?_;refine T.letO λx1 e1=>T.letO λx2 e2=>T.letO λx3 e3=>T.letO λx4 e4=>T.letO λx5 e5=>?_;subst e1 e2 e3 e4 e5;refine T.cond (λ_=>T.ret λh=>by cases h) λh2=>?_;have a1:m.gG.length<=64/\m.gJ.length<=64:=by
  cases ha:decide ((m.gG.length:Int) > 64) with
  | true=>rw[ha] at h1;cases h1
  | false=>rw[ha,cond_false] at h1;have:=of_decide_eq_false ha;have:=of_decide_eq_false h1;omega
 have a2:m.gL.length=m.gG.length:=by
  revert h2;cases cond ((m.gG.length:Int)==0) true ((m.gJ.length:Int)==0) with
  | true=>intro h;cases h
  | false=>
   intro h;rw[cond_false] at h;have:(m.gL.length:Int)=(m.gG.length:Int):=by simpa using h
   omega
 refine T.bind (P:=λr=>r=false->∀p∈m.gG,¬ ¬ptG p) ?_ λr9 h9=>T.cond (λ_=>T.ret λh=>by cases h) λc9=>?_
 ·unfold cG cP;refine aKl m.gG (by omega) (λp=>¬ptG p) (F:=aY N m.gG) (λk i h=>?_) (λk=>by rw[aY,aC,df,cond_false])
  obtain⟨c,e,hc⟩:=aUx N m.gG[i]
  exact⟨c,λh=>Classical.not_not.2 (hc h),by rw[aY,aC,dt,cond_true,cN h,aa,e,aa]⟩
 refine T.bind (P:=λr=>r=false->(∀p∈m.gL,uvG p)/\∀p∈m.gJ,trG (m.gG.length:Int) p) ?_ λr10 h10=>T.cond (λ_=>T.ret λh=>by cases h) λc10=>T.ret λ_=>?_
 ·refine T.bind (P:=λr=>r=false->∀p∈m.gL,¬ ¬uvG p) ?_ λr11 h11=>T.cond (λ_=>T.ret λh=>by cases h) λc11=>?_
  ·unfold dF dU;refine aKl m.gL (by omega) (λp=>¬uvG p) (F:=bG N m.gL) (λk i h=>?_) (λk=>by rw[bG,aC,df,cond_false])
   obtain⟨c,e,hc⟩:=pairT N m.gL[i]
   exact⟨c,λh=>Classical.not_not.2 (hc h),by rw[bG,aC,dt,cond_true,cN h,aa,e,aa]⟩
  ·refine T.bind (P:=λr=>r=false->∀p∈m.gJ,¬ ¬trG (m.gG.length:Int) p) ?_ λr12 h12=>T.ret λc12=>⟨λp hp=>Classical.not_not.1 (h11 c11 p hp),λp hp=>Classical.not_not.1 (h12 c12 p hp)⟩
   unfold dE dY;refine aKl m.gJ (by omega) (λp=>¬trG (m.gG.length:Int) p) (F:=bH N m.gJ m) (λk i h=>?_) (λk=>by rw[bH,aC,df,cond_false])
   obtain⟨c,e,hc⟩:=triT N m.gJ[i] m;exact⟨c,λh=>Classical.not_not.2 (hc h),by rw[bH,aC,dt,cond_true,cN h,aa,e,aa]⟩
 obtain⟨g1,g2⟩:=h10 c10;exact⟨a1.1,a1.2,a2,λp hp=>Classical.not_not.1 (h9 c9 p hp),g1,λp hp=>by obtain⟨q1,q2,q3⟩:=g2 p hp;exact⟨⟨q1.1,by omega⟩,⟨q2.1,by omega⟩,q3.1,by omega⟩⟩
structure aJO(t:aJ):Prop where
 side:1<=t.gM/\t.gM<=16
 n:(t.gK.length:Int)=t.gM*t.gM
 t:∀p∈t.gK,trG 256 p
theorem aKA(N:Nat)(hN:1000 < N)(l:List Int)(hl:l.length<=500)(x:Int):T (jT N l x) (λr=>r=true->x∈l):=by
 unfold jT oZ;have key:∀(k i:Nat),i<=l.length->l.length - i < k->T (cU N l x k (i:Int)) (λo=>(o=Sum.inl ())\/(∃j,o=Sum.inr j/\x∈l)):=by
  intro k
  induction k with
  | zero=>intro i _ h;omega
  | succ k ih=>
   intro i hi hk;rw[cU,aC]
   by_cases h:i < l.length
   ·rw[dt,cond_true,cN h,aa,cF]
    refine T.cond (λhc=>T.ret (.inr ⟨_,rfl,?_⟩)) λ_=>ih (i+1) (by omega) (by omega)
    have:x=l[i]:=by simpa using hc
    rw[this]
    exact co h
   ·rw[df,cond_false]
    exact T.ret (.inl rfl)
 refine T.bind (P:=λr:Int=>0<=r->x∈l) ?_ λr hr=>T.ret λh=>hr (by have:=of_decide_eq_true h;omega)
 refine T.bind (key N 0 (by omega) (by omega)) λo ho=>?_;rcases ho with rfl | ⟨j,rfl,hm⟩
 ·exact T.ret λh=>by omega
 ·exact T.ret λ_=>hm
theorem texT(N:Nat)(hN:1000 < N)(t:aJ)(ht:t.gK.length<=500):T (cH N t) (λc=>c=0->aJO t):=by
 unfold cH;refine T.bind (aKA N hN [1,2,4,8,16] (by decide) t.gM) λr1 h1=>?_;refine T.letO λx2 e2=>T.letO λx3 e3=>T.letO λx4 e4=>?_;subst e2 e3 e4;refine T.cond (λ_=>T.ret λh=>by cases h) λh2=>?_;have hr:r1=true:=by cases r1 with | true=>rfl | false=>cases h2
 subst hr;have hm:=h1 rfl;have hs:1<=t.gM/\t.gM<=16:=by
  simp only[d9,dy,or_false] at hm;omega
 have hn:(t.gK.length:Int)=t.gM*t.gM:=by
  rw[gf,cond_false] at h2;have h3:(t.gK.length:Int)=I64 (t.gM*t.gM):=by simpa using h2
  have:t.gM*t.gM<=16*16:=gr hs.2 hs.2 (by omega) (by decide)
  have:0<=t.gM*t.gM:=Int.mul_nonneg (by omega) (by omega)
  rw[h3,aP]
 refine T.letO λx5 e5=>?_;subst e5;have key:∀(k i:Nat),i<=t.gK.length->t.gK.length - i < k->T (iP N (t.gK.length:Int) t k (i:Int)) (λo=>o=Sum.inr 5\/(o=Sum.inl ()/\∀p∈t.gK.drop i,trG 256 p)):=by
  intro k
  induction k with
  | zero=>intro i _ h;omega
  | succ k ih=>
   intro i hi hk;rw[iP]
   by_cases h:i < t.gK.length
   ·rw[dt,cond_true,cN h,aa,cF]
    have g0:(t.gK[i].toList[((0:Int).toNat)]?)=some t.gK[i][0]:=oV _ 0;have g1:(t.gK[i].toList[((1:Int).toNat)]?)=some t.gK[i][1]:=oV _ 1;have g2:(t.gK[i].toList[((2:Int).toNat)]?)=some t.gK[i][2]:=oV _ 2;have i0:aS 0 3=some ():=rfl;have i1:aS 1 3=some ():=rfl;have i2:aS 2 3=some ():=rfl;simp only[i0,i1,i2,g0,g1,g2,aa]
    refine T.bind (P:=λc=>c=false->trG 256 t.gK[i]) ?_ λc hc=>T.cond (λ_=>T.ret (.inl rfl)) λh0=>?_
    ·refine T.letO λx hx=>T.cond (λ_=>T.ret λh=>by cases h) λh1=>T.letO λy hy=>T.ret λh2=>?_;subst hx hy;have h1:=aR4 (of_decide_eq_false h1)
     have h2:=aRo (of_decide_eq_false h2)
     exact⟨⟨h1.1,by omega⟩,⟨h1.2.1,by omega⟩,h1.2.2,by omega⟩
    ·refine T.mono (ih (i+1) (by omega) (by omega)) λo ho=>?_;rcases ho with ho | ⟨ho,hp⟩
     ·exact .inl ho
     ·refine .inr ⟨ho,λp hp'=>?_⟩
      rw[cg h] at hp';rcases d9.1 hp' with rfl | hp'
      ·exact hc h0
      ·exact hp p hp'
   ·obtain rfl:i=t.gK.length:=by omega
    rw[df,cond_false]
    exact T.ret (.inr ⟨rfl,λp hp=>by rw[iw] at hp;cases hp⟩)
 refine T.bind (key N 0 (by omega) (by omega)) λo ho=>?_;rcases ho with rfl | ⟨rfl,hp⟩
 ·exact T.ret λh=>by cases h
 ·exact T.ret λ_=>⟨hs,hn,λp h=>hp p (by simpa using h)⟩
theorem outT(N:Nat)(hN:1000 < N)(most:Int)(l:List Int)(hl:l.length<=500:=by simp):T (lB N most l) (λr=>r=false->∀x∈l,0<=x/\x<=most):=by
 unfold lB;refine T.bind (P:=λr=>r=false->∀x∈l,¬ ¬(0<=x/\x<=most)) ?_ λr hr=>T.ret λh x hx=>Classical.not_not.1 (hr h x hx)
 unfold dO eU;refine aKl l (by omega) (λx=>¬(0<=x/\x<=most)) (F:=bK N l most) (λk i h=>?_) (λk=>by rw[bK,aC,df,cond_false])
 refine⟨cond (decide (l[i] < 0)) true (decide (l[i] > most)),λhc=>?_,?_⟩
 ·have:¬l[i] < 0/\¬l[i] > most:=by
   cases ha:decide (l[i] < 0) with
   | true=>rw[ha] at hc;cases hc
   | false=>rw[ha,cond_false] at hc;exact⟨of_decide_eq_false ha,of_decide_eq_false hc⟩
  exact Classical.not_not.2 ⟨by omega,by omega⟩
 ·rw[bK,aC,dt,cond_true,cN h,aa]
  rfl
structure aLP(m:aG):Prop where
 kind:0<=m.gA/\m.gA < 256
 color:trG 65536 m.gF
 rough:0<=m.gW/\m.gW < 65536
theorem matT(N:Nat)(hN:1000 < N)(m:aG):T (pJ N m) (λc=>c=0->aLP m):=by
 unfold pJ;refine T.bind (P:=λc=>c=false->aLP m) ?_ λc hc=>T.cond (λ_=>T.ret λh=>by cases h) λh=>T.ret λ_=>hc h;refine T.bind (outT N hN 4 [m.gA]) λr2 h2=>T.cond (λ_=>T.ret λh=>by cases h) λc2=>?_;rw[aJe,aJi,aJR,aa,aa,aa]
 refine T.bind (outT N hN 65535 [m.gF[0],m.gF[1],m.gF[2],m.gW]) λr6 h6=>T.ret λc6=>?_;have a:=h2 c2 m.gA (by simp)
 have b0:=h6 c6 m.gF[0] (by simp)
 have b1:=h6 c6 m.gF[1] (by simp)
 have b2:=h6 c6 m.gF[2] (by simp)
 have b3:=h6 c6 m.gW (by simp)
 exact⟨⟨a.1,by omega⟩,⟨⟨b0.1,by omega⟩,⟨b1.1,by omega⟩,b2.1,by omega⟩,b3.1,by omega⟩
structure aN0(l:aL):Prop where
 kind:0<=l.gA/\l.gA < 256
 color:trG 4294967296 l.gF
 at_:ptG l.gAt
 u:ptG l.gU
 v:ptG l.gV
theorem ligT(N:Nat)(hN:1000 < N)(l:aL):T (tI N l) (λc=>c=0->aN0 l):=by
 unfold tI;refine T.bind (P:=λc=>c=false->(0<=l.gA/\l.gA < 256)/\trG 4294967296 l.gF) ?_ λc hc=>T.cond (λ_=>T.ret λh=>by cases h) λh=>?_
 ·refine T.bind (outT N hN 2 [l.gA]) λr2 h2=>T.cond (λ_=>T.ret λh=>by cases h) λc2=>?_;rw[show cR l.gF.toList 0 3=some l.gF.toList from aP2 (m:=3) _,aa]
  refine T.bind (outT N hN 1048576 l.gF.toList) λr4 h4=>T.ret λc4=>?_;have a:=h2 c2 l.gA (by simp)
  have b0:=h4 c4 l.gF[0] (aSS _)
  have b1:=h4 c4 l.gF[1] (aSS _)
  have b2:=h4 c4 l.gF[2] (aSS _)
  exact⟨⟨a.1,by omega⟩,⟨b0.1,by omega⟩,⟨b1.1,by omega⟩,b2.1,by omega⟩
 obtain⟨hk,hcol⟩:=hc h;refine T.bind (P:=λc=>c=false->ptG l.gAt/\ptG l.gU/\ptG l.gV) ?_ λc hc=>T.cond (λ_=>T.ret λh=>by cases h) λh=>?_
 ·exact T.bind (aRj N l.gAt) λr6 h6=>T.cond (λ_=>T.ret λh=>by cases h) λc6=>T.bind (aRj N l.gU) λr7 h7=>T.cond (λ_=>T.ret λh=>by cases h) λc7=>T.bind (aRj N l.gV) λr8 h8=>T.ret λc8=>⟨h6 c6,h7 c7,h8 c8⟩
 obtain⟨p1,p2,p3⟩:=hc h;have g:aN0 l:=⟨hk,hcol,p1,p2,p3⟩
 refine T.bind (P:=λ_=>True) ?_ λo _=>?_
 ·refine T.cond (λ_=>T.cond (λ_=>T.ret trivial) λ_=>T.bind (P:=λ_=>True) ?_ λ_ _=>T.cond (λ_=>T.ret trivial) λ_=>T.ret trivial) λ_=>T.cond (λ_=>T.bind (P:=λ_=>True) ?_ λ_ _=>T.cond (λ_=>T.ret trivial) λ_=>T.ret trivial) λ_=>T.ret trivial
  ·exact T.letO λ_ _=>T.cond (λ_=>T.ret trivial) λ_=>T.ret trivial
  ·exact T.letO λ_ _=>T.cond (λ_=>T.ret trivial) λ_=>T.ret trivial
 ·cases o with
  | inl _=>exact T.ret λ_=>g
  | inr c=>exact T.ret λ_=>g
theorem aQZ(a b:aA):aA.eq a b=true↔a=b:=by
 unfold aA.eq;simp only[bp,beq_iff_eq,and_true]
 constructor
 ·rintro⟨h1,h2,h3⟩
  cases a;cases b;dsimp only at *;subst h1 h2 h3;rfl
 ·rintro rfl;exact⟨rfl,rfl,rfl⟩
theorem aKf(a b:aG):aG.eq a b=true↔a=b:=by
 unfold aG.eq;simp only[bp,aFX,beq_iff_eq,and_true]
 constructor
 ·rintro⟨h1,h2,h3⟩
  cases a;cases b;dsimp only at *;subst h1 h2 h3;rfl
 ·rintro rfl;exact⟨rfl,rfl,rfl⟩
theorem aKM(a b:aL):aL.eq a b=true↔a=b:=by
 unfold aL.eq;simp only[bp,aFX,beq_iff_eq,and_true,aQZ]
 constructor
 ·rintro⟨h1,h2,h3,h4,h5⟩
  cases a;cases b;dsimp only at *;subst h1 h2 h3 h4 h5;rfl
 ·rintro rfl;exact⟨rfl,rfl,rfl,rfl,rfl⟩
theorem aM8{α:Type}(eq:α->α->Bool)(heq:∀x y,eq x y=true↔x=y)(a b:List α)(hl:a.length<=100000){F:Nat->Int->Option (Sum Unit Bool)}
  (hstep:∀k i (h:i < a.length) (h':i < b.length),F (k+1) (i:Int)=cond (!eq a[i] b[i]) (some (Sum.inr false)) (F k (I64 ((i:Int)+1)))) (hend:∀k,F (k+1) (a.length:Int)=some (Sum.inl ())) {N:Nat} (hN:a.length < N) :
  T (aM ((a.length:Int) != (b.length:Int)) λx1=>cond x1 (some false) (ae (F N 0) λo=>mZ o (λp2=>some true) (λr=>some r))) (λr=>r=true↔a=b):=by
 refine T.letO λx hx=>?_;subst hx;refine T.cond (λh=>T.ret ?_) λh=>?_
 ·have h:¬(a.length:Int)=(b.length:Int):=by simpa using h
  constructor
  ·intro e;cases e
  ·rintro rfl;exact absurd rfl h
 ·have h:(a.length:Int)=(b.length:Int):=by simpa using h
  have key:∀(k i:Nat),i<=a.length->a.length - i < k->T (ae (F k (i:Int)) λo=>mZ o (λp2=>some true) (λr=>some r)) (λr=>r=true↔a.drop i=b.drop i):=by
   intro k
   induction k with
   | zero=>intro i _ h;omega
   | succ k ih=>
    intro i hi hk;by_cases h1:i < a.length
    ·rw[hstep k i h1 (by omega),cg h1,cg (show i < b.length by omega)]
     cases he:eq a[i] b[i] with
     | false=>
      refine⟨false,rfl,?_⟩
      constructor
      ·intro e;cases e
      ·intro e;have:=(List.cons.inj e).1;rw[(heq _ _).2 this] at he;cases he
     | true=>
      rw[gf,cond_false,cF]
      refine T.mono (ih (i+1) (by omega) (by omega)) λr hr=>?_;rw[hr,(heq _ _).1 he]
      constructor
      ·intro e;rw[e]
      ·intro e;exact(List.cons.inj e).2
    ·obtain rfl:i=a.length:=by omega
     rw[hend,iw,List.drop_of_length_le (by omega)]
     exact⟨true,rfl,by simp⟩
  exact T.mono (key N 0 (by omega) (by omega)) λr hr=>by simpa using hr
theorem aVv(N:Nat)(a b:List aA)(hl:a.length<=100000)(hN:a.length < N):T (oG N a b) (λr=>r=true↔a=b):=by
 unfold oG;exact aM8 aA.eq aQZ a b hl (F:=eZ N a b) (λk i h h'=>by rw[eZ,aC,dt,cond_true,cN h,aa,cN h',aa]) (λk=>by rw[eZ,aC,df,cond_false]) hN
theorem aVm(N:Nat)(a b:List (Vector Int 2))(hl:a.length<=100000)(hN:a.length < N):T (rR N a b) (λr=>r=true↔a=b):=by
 unfold rR;exact aM8 (eqV (λa b=>a==b)) aFX a b hl (F:=jP N a b) (λk i h h'=>by rw[jP,aC,dt,cond_true,cN h,aa,cN h',aa]) (λk=>by rw[jP,aC,df,cond_false]) hN
theorem aSb(N:Nat)(a b:List (Vector Int 3))(hl:a.length<=100000)(hN:a.length < N):T (oT N a b) (λr=>r=true↔a=b):=by
 unfold oT;exact aM8 (eqV (λa b=>a==b)) aFX a b hl (F:=jI N a b) (λk i h h'=>by rw[jI,aC,dt,cond_true,cN h,aa,cN h',aa]) (λk=>by rw[jI,aC,df,cond_false]) hN
structure aEU(a:aI):Prop where
 v:a.gP.gG.length<=500
 u:a.gP.gL.length<=500
 t:a.gP.gJ.length<=500
 x:a.gR.gK.length<=500
theorem aVN(N:Nat)(hN:1000 < N)(a b:aI)(h:aEU a):T (vG N a b) (λr=>r=true↔a=b):=by
 unfold vG;refine T.bind (P:=λr=>r=false↔(a.gA=b.gA/\a.gI=b.gI/\a.gD=b.gD/\a.gR.gM=b.gR.gM)) ?_ λp1 h1=>T.cond (λc=>T.ret ?_) λc=>?_
 ·refine T.cond (λc=>T.ret ?_) λc=>?_
  ·have c:¬a.gA=b.gA:=by simpa using c
   constructor
   ·intro e;cases e
   ·intro e;exact absurd e.1 c
  ·have c:a.gA=b.gA:=by simpa using c
   refine T.letO λx2 e2=>T.cond (λc2=>T.ret ?_) λc2=>T.letO λx3 e3=>T.letO λx4 e4=>T.ret ?_
   ·subst e2;constructor
    ·intro e;cases e
    ·intro e;rw[(aKf _ _).2 e.2.1] at c2;cases c2
   ·subst e2 e3 e4;have hm:aG.eq a.gI b.gI=true:=by simpa using c2
    have hm:=(aKf _ _).1 hm;constructor
    ·intro e;cases hl:aL.eq a.gD b.gD with
     | false=>rw[hl] at e;cases e
     | true=>
      rw[hl,gf,cond_false] at e;exact⟨c,hm,(aKM _ _).1 hl,by simpa using e⟩
    ·rintro⟨_,_,e1,e2⟩
     rw[(aKM _ _).2 e1,e2]
     simp
 ·constructor
  ·intro e;cases e
  ·rintro rfl;have:=h1.2 ⟨rfl,rfl,rfl,rfl⟩
   rw[this] at c;cases c
 ·obtain⟨g1,g2,g3,g4⟩:=h1.1 c;refine T.bind (P:=λr=>r=true↔(a.gP.gG=b.gP.gG/\a.gP.gL=b.gP.gL/\a.gP.gJ=b.gP.gJ/\a.gR.gK=b.gR.gK)) ?_ λr hr=>T.ret ?_
  ·refine T.bind (aVv N _ _ (by have:=h.v;omega) (by have:=h.v;omega)) λr6 h6=>T.cond (λc6=>?_) λc6=>T.ret ?_
   ·refine T.bind (aVm N _ _ (by have:=h.u;omega) (by have:=h.u;omega)) λr7 h7=>T.cond (λc7=>?_) λc7=>T.ret ?_
    ·refine T.bind (aSb N _ _ (by have:=h.t;omega) (by have:=h.t;omega)) λr8 h8=>T.cond (λc8=>?_) λc8=>T.ret ?_
     ·refine T.bind (aSb N _ _ (by have:=h.x;omega) (by have:=h.x;omega)) λr9 h9=>T.ret ?_;exact⟨λe=>⟨h6.1 c6,h7.1 c7,h8.1 c8,h9.1 e⟩,λe=>h9.2 e.2.2.2⟩
     ·exact⟨λe=>(by cases e),λe=>by rw[h8.2 e.2.2.1] at c8;cases c8⟩
    ·exact⟨λe=>(by cases e),λe=>by rw[h7.2 e.2.1] at c7;cases c7⟩
   ·exact⟨λe=>(by cases e),λe=>by rw[h6.2 e.1] at c6;cases c6⟩
  ·rw[hr]
   constructor
   ·rintro⟨q1,q2,q3,q4⟩
    obtain⟨k,⟨v,u,t⟩,⟨s,x⟩,m,l⟩:=a;obtain⟨k',⟨v',u',t'⟩,⟨s',x'⟩,m',l'⟩:=b;dsimp only at *;subst g1 g2 g3 g4 q1 q2 q3 q4;rfl
   ·rintro rfl;exact⟨rfl,rfl,rfl,rfl⟩
def ptB(p:aA):List Int:=leB 2 (p.gX % 65536)++(leB 2 (p.gY % 65536)++leB 2 (p.gZ % 65536))
def uvB(v:Vector Int 2):List Int:=leB 2 v[0]++leB 2 v[1]
def trB(w:Nat)(t:Vector Int 3):List Int:=leB w t[0]++(leB w t[1]++leB w t[2])
theorem qX(p:aA):(ptB p).length=6:=by unfold ptB;simp[bM]
theorem aAv(p:Vector Int 2):(uvB p).length=4:=by unfold uvB;simp[bM]
theorem qE(w:Nat)(p:Vector Int 3):(trB w p).length=3*w:=by unfold trB;simp[bM];omega
theorem vA{α:Type}{f:α->List Int}{c:Nat}(h:∀x,(f x).length=c):∀(l:List α),(l.flatMap f).length=l.length*c
 | []=>by simp
 | a :: l=>by rw[dm,ah,h,vA h l,cx,jf];omega
theorem aAf{x:Int}(h:0<=x/\x < 256):leB 1 x=[x]:=by
 unfold leB;show [U8 (shr .u64 x ((8*0:Nat):Int))]=_;rw[aKi x 0 (by decide),show bL 0=1 from rfl,Int.ediv_one,sG h.1 h.2]
def wX(m:aK):List Int:=leB 1 (m.gG.length:Int)++(leB 1 (m.gJ.length:Int)++(m.gG.flatMap ptB++(m.gL.flatMap uvB++m.gJ.flatMap (trB 1))))
def aBg(t:aJ):List Int:=leB 1 t.gM++t.gK.flatMap (trB 1)
def aFr(m:aG):List Int:=leB 1 m.gA++(trB 2 m.gF++leB 2 m.gW)
def aFl(l:aL):List Int:=leB 1 l.gA++(trB 4 l.gF++(ptB l.gAt++(ptB l.gU++ptB l.gV)))
theorem sgn3(N:Nat)(hN:20 < N)(b:List Int)(p:aA)(h:ptG p)(hb:b.length<=1000000:=by omega):oA N b 2 [p.gX,p.gY,p.gZ]=some (b++ptB p,0):=by
 obtain⟨hx,hy,hz⟩:=h;have:=sgnP N b 2 (by decide) (by decide) [p.gX,p.gY,p.gZ] (by intro q hq;simp at hq;unfold aEw;rcases hq with rfl | rfl | rfl <;> omega) (by omega) (by simp) (by omega) (by simp;omega)
 rw[show oA N b 2 [p.gX,p.gY,p.gZ]=_ from this]
 unfold aRN;have e:([p.gX,p.gY,p.gZ].any (aFJ 2))=false:=by
  simp[aFJ,show bL 2 / 2=32768 from rfl]
  omega
 rw[e,cond_false]
 unfold aJw;have e2:(([p.gX,p.gY,p.gZ].map (λx=>x % bL 2)).any (big 2))=false:=by
  simp[big,show bL 2=65536 from rfl]
  omega
 rw[e2,cond_false]
 unfold ptB;simp[show bL 2=65536 from rfl]
theorem meshE(N:Nat)(hN:1000 < N)(m:aK)(g:aDq m)(h0:iI N m=some 0):yF N m=some (wX m,0):=by
 unfold yF;have nv:=g.nv;have nt:=g.nt;have nu:=g.nu;rw[h0,aa,show((0:Int) != 0)=false from rfl,cond_false,aC,aC,aC,sG (x:=(m.gG.length:Int)),sG (x:=(m.gJ.length:Int))]
 have l1:=oI m.gG.length (by omega) (λi=>ptB (m.gG.getD i ⟨0,0,0⟩)) (λs i=>s.length<=100+6*i) (pM N (m.gG.length:Int) m) (by intro s i hi hs;simp[qX];omega) (λk s i hi hs=>by
  have hp:=g.v _ (co hi)
  rw[pM,dt,cond_true,cN hi,aa,sgn3 N (by omega) s _ hp,aa]
  rw[ap,af hi]
  rfl) (λk s=>by rw[pM,df,cond_false]) (N:=N) (by omega) (s:=[(m.gG.length:Int),(m.gJ.length:Int)])
 rw[l1,aa]
 have hflat:∀{α:Type} (l:List α) (d:α) (f:α->List Int),(ce l.length).flatMap (λi=>f (l.getD i d))=l.flatMap f:=by
  intro α l d f
  induction l with
  | nil=>rfl
  | cons a l ih=>
   rw[cx,md,dm,oc]
   simp only[nd,ne,dm]
   rw[ih]
 rw[hflat m.gG ⟨0,0,0⟩ ptB]
 have hlen1:=vA qX m.gG;have l2:=oI m.gL.length (by omega) (λi=>uvB (m.gL.getD i #v[0,0])) (λs i=>s.length<=1000+4*i) (pI N m) (by intro s i hi hs;simp[aAv];omega) (λk s i hi hs=>by
  have hp:=g.u _ (co hi)
  rw[pI,aC,dt,cond_true,cN hi,aa,show aS 0 2=some () from rfl,aa,show m.gL[i].toList[((0:Int).toNat)]? = some m.gL[i][0] from oV _ 0,aa,show aS 1 2=some () from rfl,aa,show m.gL[i].toList[((1:Int).toNat)]? = some m.gL[i][1] from oV _ 1,aa,jW hp.1.1 (by have:=hp.1.2;omega),jW hp.2.1 (by have:=hp.2.2;omega)]
  have e:=put2 N (by omega) s 2 (by decide) (by decide) m.gL[i][0] m.gL[i][1] ⟨hp.1.1,hp.1.2⟩ ⟨hp.2.1,hp.2.2⟩ (by omega)
  rw[show bW N s 2 [m.gL[i][0],m.gL[i][1]]=_ from e,aa,ap,af hi]
  rfl) (λk s=>by rw[pI,aC,df,cond_false]) (N:=N) (by omega) (s:=[(m.gG.length:Int),(m.gJ.length:Int)]++m.gG.flatMap ptB) (by simp at hlen1 ⊢;omega)
 rw[l2,aa,hflat m.gL #v[0,0] uvB,aC]
 have hlen2:=vA aAv m.gL;have l3:=oI m.gJ.length (by omega) (λi=>trB 1 (m.gJ.getD i #v[0,0,0])) (λs i=>s.length<=2000+3*i) (lQ N (m.gJ.length:Int) m) (by intro s i hi hs;simp[qE];omega) (λk s i hi hs=>by
  have hp:=g.t _ (co hi)
  obtain⟨q0,q1,q2⟩:=hp;rw[lQ,dt,cond_true,cN hi,aa,show aS 0 3=some () from rfl,aa,show m.gJ[i].toList[((0:Int).toNat)]? = some m.gJ[i][0] from oV _ 0,aa,show aS 1 3=some () from rfl,aa,show m.gJ[i].toList[((1:Int).toNat)]? = some m.gJ[i][1] from oV _ 1,aa,show aS 2 3=some () from rfl,aa,show m.gJ[i].toList[((2:Int).toNat)]? = some m.gJ[i][2] from oV _ 2,aa,sG q0.1 q0.2,sG q1.1 q1.2,sG q2.1 q2.2,xG,aa,ap,af hi]
  show lQ N _ m k (s++[m.gJ[i][0],m.gJ[i][1],m.gJ[i][2]]) _=lQ N _ m k (s++trB 1 m.gJ[i]) _;unfold trB;rw[aAf q0,aAf q1,aAf q2]
  rfl) (λk s=>by rw[lQ,df,cond_false]) (N:=N) (by omega) (s:=[(m.gG.length:Int),(m.gJ.length:Int)]++m.gG.flatMap ptB++m.gL.flatMap uvB) (by simp at hlen1 hlen2 ⊢;omega)
 rw[l3,aa,hflat m.gJ #v[0,0,0] (trB 1)]
 unfold wX;rw[aAf (x:=(m.gG.length:Int)) ⟨by omega,by omega⟩,aAf (x:=(m.gJ.length:Int)) ⟨by omega,by omega⟩]
 simp[am]
theorem hflat{α:Type}(l:List α)(d:α)(f:α->List Int):(ce l.length).flatMap (λi=>f (l.getD i d))=l.flatMap f:=by
 induction l with
 | nil=>rfl
 | cons a l ih=>
  rw[cx,md,dm,oc]
  simp only[nd,ne,dm]
  rw[ih]
theorem texE(N:Nat)(hN:1000 < N)(t:aJ)(g:aJO t)(h0:cH N t=some 0):vM N t=some (aBg t,0):=by
 unfold vM;have n1:=g.side;have n2:=g.n;have n3:t.gM*t.gM<=16*16:=gr n1.2 n1.2 (by omega) (by decide)
 rw[h0,aa,show((0:Int) != 0)=false from rfl,cond_false,aC,sG (x:=t.gM)]
 have l3:=oI t.gK.length (by omega) (λi=>trB 1 (t.gK.getD i #v[0,0,0])) (λs i=>s.length<=2000+3*i) (hJ N (t.gK.length:Int) t) (by intro s i hi hs;simp[qE];omega) (λk s i hi hs=>by
  have hp:=g.t _ (co hi)
  obtain⟨q0,q1,q2⟩:=hp;rw[hJ,dt,cond_true,cN hi,aa,show aS 0 3=some () from rfl,aa,show t.gK[i].toList[((0:Int).toNat)]? = some t.gK[i][0] from oV _ 0,aa,show aS 1 3=some () from rfl,aa,show t.gK[i].toList[((1:Int).toNat)]? = some t.gK[i][1] from oV _ 1,aa,show aS 2 3=some () from rfl,aa,show t.gK[i].toList[((2:Int).toNat)]? = some t.gK[i][2] from oV _ 2,aa,sG q0.1 q0.2,sG q1.1 q1.2,sG q2.1 q2.2,xG,aa,ap,af hi]
  show hJ N _ t k (s++[t.gK[i][0],t.gK[i][1],t.gK[i][2]]) _=hJ N _ t k (s++trB 1 t.gK[i]) _;unfold trB;rw[aAf q0,aAf q1,aAf q2]
  rfl) (λk s=>by rw[hJ,df,cond_false]) (N:=N) (by omega) (s:=[t.gM])
 rw[l3,aa,hflat t.gK #v[0,0,0] (trB 1)]
 unfold aBg;rw[aAf (x:=t.gM) ⟨by omega,by omega⟩]
def aLe(a:aI):Prop:=(a.gA=1/\aDq a.gP)\/(a.gA=2/\aJO a.gR)\/(a.gA=3/\aLP a.gI)\/(a.gA=4/\aN0 a.gD)
def xB(a:aI):List Int:=if a.gA=1 then wX a.gP else if a.gA=2 then aBg a.gR else if a.gA=3 then aFr a.gI else aFl a.gD
theorem ownT(N:Nat)(hN:1000 < N)(a:aI)(h:aEU a):T (nC N a) (λc=>c=0->aLe a):=by
 unfold nC;refine T.cond (λc=>?_) λ_=>T.cond (λc=>?_) λ_=>T.cond (λc=>?_) λ_=>T.cond (λc=>?_) λ_=>T.ret λe=>by cases e
 ·exact T.bind (aU0 N hN _ h.v h.u h.t) λr hr=>T.ret λe => .inl ⟨by simpa using c,hr e⟩
 ·exact T.bind (texT N hN _ h.x) λr hr=>T.ret λe => .inr (.inl ⟨by simpa using c,hr e⟩)
 ·exact T.bind (matT N hN _) λr hr=>T.ret λe => .inr (.inr (.inl ⟨by simpa using c,hr e⟩))
 ·exact T.bind (ligT N hN _) λr hr=>T.ret λe => .inr (.inr (.inr ⟨by simpa using c,hr e⟩))
theorem assE(N:Nat)(hN:1000 < N)(a:aI)(g:aLe a)(h0:nC N a=some 0):uS N a=some (xB a):=by
 unfold uS xB;unfold nC at h0;rcases g with ⟨k,g⟩ | ⟨k,g⟩ | ⟨k,g⟩ | ⟨k,g⟩
 ·rw[k] at h0 ⊢;rw[show((1:Int)==1)=true from rfl,cond_true] at h0 ⊢;have h1:iI N a.gP=some 0:=by
   cases hc:iI N a.gP with
   | none=>rw[hc] at h0;cases h0
   | some r=>rw[hc] at h0;exact h0
  rw[meshE N hN _ g h1,if_pos rfl]
  rfl
 ·rw[k] at h0 ⊢;rw[show((2:Int)==1)=false from rfl,show((2:Int)==2)=true from rfl,cond_false,cond_true] at h0 ⊢;have h1:cH N a.gR=some 0:=by
   cases hc:cH N a.gR with
   | none=>rw[hc] at h0;cases h0
   | some r=>rw[hc] at h0;exact h0
  rw[texE N hN _ g h1,if_neg (by decide),if_pos rfl]
  rfl
 ·rw[k,show((3:Int)==1)=false from rfl,show((3:Int)==2)=false from rfl,show((3:Int)==3)=true from rfl,cond_false,cond_false,cond_true,if_neg (by decide),if_neg (by decide),if_pos rfl]
  obtain⟨g1,⟨g2,g3,g4⟩,g5⟩:=g;rw[show aS 0 3=some () from rfl,aa,show a.gI.gF.toList[((0:Int).toNat)]? = some a.gI.gF[0] from oV _ 0,aa,show aS 1 3=some () from rfl,aa,show a.gI.gF.toList[((1:Int).toNat)]? = some a.gI.gF[1] from oV _ 1,aa,show aS 2 3=some () from rfl,aa,show a.gI.gF.toList[((2:Int).toNat)]? = some a.gI.gF[2] from oV _ 2,aa,sG g1.1 g1.2]
  have l:=oI 4 (by decide) (λi=>leB 2 ([a.gI.gF[0],a.gI.gF[1],a.gI.gF[2],a.gI.gW].getD i 0)) (λs i=>s.length<=100+2*i) (oF N a.gI.gF[0] a.gI.gF[1] a.gI.gF[2] a) (by intro s i hi hs;simp[bM];omega) (λk s i hi hs=>by
   rw[oF,dt,cond_true,sK (by simp;omega),aa]
   have hx:0<=[a.gI.gF[0],a.gI.gF[1],a.gI.gF[2],a.gI.gW].getD i 0/\[a.gI.gF[0],a.gI.gF[1],a.gI.gF[2],a.gI.gW].getD i 0 < 65536:=by
    have:i=0\/i=1\/i=2\/i=3:=by omega
    rcases this with rfl | rfl | rfl | rfl
    ·exact g2
    ·exact g3
    ·exact g4
    ·exact g5
   rw[jW hx.1]
   have e:=put1 N (by omega) s 2 (by decide) (by decide) _ hx.1 hx.2;rw[show bW N s 2 _=_ from e,aa]) (λk s=>by rw[oF,df,cond_false]) (N:=N) (by omega) (s:=[a.gI.gA])
  rw[l,aa]
  unfold aFr trB;rw[aAf g1]
  rfl
 ·rw[k,show((4:Int)==1)=false from rfl,show((4:Int)==2)=false from rfl,show((4:Int)==3)=false from rfl,cond_false,cond_false,cond_false,if_neg (by decide),if_neg (by decide),if_neg (by decide)]
  obtain⟨g1,⟨g2,g3,g4⟩,g5,g6,g7⟩:=g;rw[show aS 0 3=some () from rfl,aa,show a.gD.gF.toList[((0:Int).toNat)]? = some a.gD.gF[0] from oV _ 0,aa,show aS 1 3=some () from rfl,aa,show a.gD.gF.toList[((1:Int).toNat)]? = some a.gD.gF[1] from oV _ 1,aa,show aS 2 3=some () from rfl,aa,show a.gD.gF.toList[((2:Int).toNat)]? = some a.gD.gF[2] from oV _ 2,aa,sG g1.1 g1.2]
  rw[jW g2.1,jW g3.1,jW g4.1]
  have e:=put3 N (by omega) [a.gD.gA] 4 (by decide) (by decide) a.gD.gF[0] a.gD.gF[1] a.gD.gF[2] g2 g3 g4 (by simp)
  rw[show bW N [a.gD.gA] 4 [a.gD.gF[0],a.gD.gF[1],a.gD.gF[2]]=_ from e,aa]
  have l:=oI 3 (by decide) (λi=>ptB ([a.gD.gAt,a.gD.gU,a.gD.gV].getD i ⟨0,0,0⟩)) (λs i=>s.length<=100+6*i) (oE N a) (by intro s i hi hs;simp[qX];omega) (λk s i hi hs=>by
   rw[oE,dt,cond_true,cN (by simp;omega),aa]
   have hx:ptG ([a.gD.gAt,a.gD.gU,a.gD.gV][i]'(by simp;omega)):=by
    have:i=0\/i=1\/i=2:=by omega
    rcases this with rfl | rfl | rfl
    ·exact g5
    ·exact g6
    ·exact g7
   rw[sgn3 N (by omega) s _ hx,aa]
   rw[ap,af (by simp;omega)]
   rfl) (λk s=>by rw[oE,df,cond_false]) (N:=N) (by omega) (s:=[a.gD.gA]++(leB 4 a.gD.gF[0]++(leB 4 a.gD.gF[1]++leB 4 a.gD.gF[2]))) (by simp[bM])
  rw[l,aa]
  unfold aFl trB;rw[aAf g1]
  show some (_++(ce 3).flatMap _)=_;rw[show(ce 3).flatMap (λi=>ptB ([a.gD.gAt,a.gD.gU,a.gD.gV].getD i ⟨0,0,0⟩))=ptB a.gD.gAt++(ptB a.gD.gU++ptB a.gD.gV) by
   simp[List.range_succ,dm]]
  simp[am]
def lV : aK:=aK.mk [] [] []
def wI : aJ:=aJ.mk 0 []
def zW : aG:=aG.mk 0 (#v[0,0,0]) 0
def zPt : aA:=aA.mk 0 0 0
def aAA : aL:=aL.mk 0 (#v[0,0,0]) zPt zPt zPt
def zA(k:Int):aI:=aI.mk k lV wI zW aAA
def tQ(a:aI):Prop:=(a.gA=1->a=aI.mk 1 a.gP wI zW aAA)/\(a.gA=2->a=aI.mk 2 lV a.gR zW aAA)/\(a.gA=3->a=aI.mk 3 lV wI a.gI aAA)/\(a.gA=4->a=aI.mk 4 lV wI zW a.gD)
theorem aUZ(N:Nat)(a:aI)(h:aEU a):T (aAK N a) (λb=>aEU b/\(b=zA a.gA->tQ a)/\(tQ a->aLe a->b=zA a.gA)):=by
 obtain⟨k,⟨v,u,t⟩,⟨s,x⟩,⟨mk,mc,mr⟩,⟨lk,lc,⟨ax,ay,az⟩,⟨ux,uy,uz⟩,⟨vx,vy,vz⟩⟩⟩:=a;obtain⟨h1,h2,h3,h4⟩:=h;unfold aAK;dsimp only at h1 h2 h3 h4 ⊢;have hk:k=1\/k=2\/k=3\/k=4\/(k≠1/\k≠2/\k≠3/\k≠4):=by omega
 rcases hk with rfl | rfl | rfl | rfl | ⟨n1,n2,n3,n4⟩
 ·rw[show((1:Int)==1)=true from rfl,cond_true,aa]
  refine T.ret ⟨⟨by simp,by simp,by simp,h4⟩,λe=>?_,λe _=>?_⟩
  ·simp only[zA,lV,wI,zW,aAA,zPt,aI.mk.injEq,aJ.mk.injEq,aG.mk.injEq,aL.mk.injEq,aA.mk.injEq] at e;refine⟨λ_=>?_,λh=>(by cases h),λh=>(by cases h),λh=>by cases h⟩
   simp only[zA,lV,wI,zW,aAA,zPt,aI.mk.injEq,aJ.mk.injEq,aG.mk.injEq,aL.mk.injEq,aA.mk.injEq]
   simp[e]
  ·have e:=e.1 rfl;simp only[zA,lV,wI,zW,aAA,zPt,aI.mk.injEq,aJ.mk.injEq,aG.mk.injEq,aL.mk.injEq,aA.mk.injEq] at e ⊢;simp[e]
 ·rw[show((2:Int)==1)=false from rfl,show((2:Int)==2)=true from rfl,cond_false,cond_true,aa]
  refine T.ret ⟨⟨h1,h2,h3,by simp⟩,λe=>?_,λe _=>?_⟩
  ·simp only[zA,lV,wI,zW,aAA,zPt,aI.mk.injEq,aK.mk.injEq,aJ.mk.injEq,aG.mk.injEq,aL.mk.injEq,aA.mk.injEq] at e;refine⟨λh=>(by cases h),λ_=>?_,λh=>(by cases h),λh=>by cases h⟩
   simp only[zA,lV,wI,zW,aAA,zPt,aI.mk.injEq,aK.mk.injEq,aJ.mk.injEq,aG.mk.injEq,aL.mk.injEq,aA.mk.injEq]
   simp[e]
  ·have e:=e.2.1 rfl;simp only[zA,lV,wI,zW,aAA,zPt,aI.mk.injEq,aK.mk.injEq,aJ.mk.injEq,aG.mk.injEq,aL.mk.injEq,aA.mk.injEq] at e ⊢;simp[e]
 ·rw[show((3:Int)==1)=false from rfl,show((3:Int)==2)=false from rfl,show((3:Int)==3)=true from rfl,cond_false,cond_false,cond_true,aa]
  refine T.ret ⟨⟨h1,h2,h3,h4⟩,λe=>?_,λe _=>?_⟩
  ·simp only[zA,lV,wI,zW,aAA,zPt,aI.mk.injEq,aK.mk.injEq,aJ.mk.injEq,aG.mk.injEq,aL.mk.injEq,aA.mk.injEq] at e;refine⟨λh=>(by cases h),λh=>(by cases h),λ_=>?_,λh=>by cases h⟩
   simp only[zA,lV,wI,zW,aAA,zPt,aI.mk.injEq,aK.mk.injEq,aJ.mk.injEq,aG.mk.injEq,aL.mk.injEq,aA.mk.injEq]
   simp[e]
  ·have e:=e.2.2.1 rfl;simp only[zA,lV,wI,zW,aAA,zPt,aI.mk.injEq,aK.mk.injEq,aJ.mk.injEq,aG.mk.injEq,aL.mk.injEq,aA.mk.injEq] at e ⊢;simp[e]
 ·rw[show((4:Int)==1)=false from rfl,show((4:Int)==2)=false from rfl,show((4:Int)==3)=false from rfl,show((4:Int)==4)=true from rfl,cond_false,cond_false,cond_false,cond_true,aa]
  refine T.ret ⟨⟨h1,h2,h3,h4⟩,λe=>?_,λe _=>?_⟩
  ·simp only[zA,lV,wI,zW,aAA,zPt,aI.mk.injEq,aK.mk.injEq,aJ.mk.injEq,aG.mk.injEq,aL.mk.injEq,aA.mk.injEq] at e;refine⟨λh=>(by cases h),λh=>(by cases h),λh=>(by cases h),λ_=>?_⟩
   simp only[zA,lV,wI,zW,aAA,zPt,aI.mk.injEq,aK.mk.injEq,aJ.mk.injEq,aG.mk.injEq,aL.mk.injEq,aA.mk.injEq]
   simp[e]
  ·have e:=e.2.2.2 rfl;simp only[zA,lV,wI,zW,aAA,zPt,aI.mk.injEq,aK.mk.injEq,aJ.mk.injEq,aG.mk.injEq,aL.mk.injEq,aA.mk.injEq] at e ⊢;simp[e]
 ·rw[show(k==1)=false by simpa using n1,show(k==2)=false by simpa using n2,show(k==3)=false by simpa using n3,show(k==4)=false by simpa using n4,cond_false,cond_false,cond_false,cond_false,aa]
  refine T.ret ⟨⟨h1,h2,h3,h4⟩,λ_=>⟨λh=>absurd h n1,λh=>absurd h n2,λh=>absurd h n3,λh=>absurd h n4⟩,λ_ g=>?_⟩
  rcases g with ⟨g,_⟩ | ⟨g,_⟩ | ⟨g,_⟩ | ⟨g,_⟩
  ·exact absurd g n1
  ·exact absurd g n2
  ·exact absurd g n3
  ·exact absurd g n4
structure aFi(N:Nat)(a:aI):Prop where
 own0:nC N a=some 0
 own:aLe a
 clean:tQ a
 cap:((xB a).length:Int)<=aAJ a.gA
theorem aWW(N:Nat)(hN:1000 < N)(a:aI)(h:aEU a):T (kU N a) (λc=>(c=0->aFi N a)/\(aFi N a->c=0)):=by
 unfold kU;obtain⟨r1,e1,h1⟩:=ownT N hN a h;rw[e1,aa]
 refine T.cond (λc=>T.ret ⟨λe=>?_,λg=>?_⟩) λc=>?_
 ·subst e;cases c
 ·have:=g.own0;rw[e1] at this;cases this;cases c
 ·have hr:r1=0:=by simpa using c
  subst hr;have hown:=h1 rfl;obtain⟨b,eb,hb1,hb2,hb3⟩:=aUZ N a h;rw[eb,aa]
  obtain⟨r3,e3,h3⟩:=aVN N hN b (zA a.gA) hb1;rw[show vG N b (aI.mk a.gA (aK.mk [] [] []) (aJ.mk 0 []) (aG.mk 0 (#v[0,0,0]) 0) (aL.mk 0 (#v[0,0,0]) (aA.mk 0 0 0) (aA.mk 0 0 0) (aA.mk 0 0 0)))=some r3 from e3,aa]
  refine T.cond (λc3=>T.ret ⟨λe=>(by cases e),λg=>?_⟩) λc3=>?_
  ·have:=h3.2 (hb3 g.clean g.own)
   rw[this] at c3;cases c3
  ·have hr3:r3=true:=by simpa using c3
   have hclean:=hb2 (h3.1 hr3)
   rw[assE N hN a hown e1,aa,capP,aa]
   refine T.letO λx hx=>?_;subst hx;refine T.cond (λc4=>T.ret ⟨λe=>(by cases e),λg=>?_⟩) λc4=>T.ret ⟨λ_=>⟨e1,hown,hclean,?_⟩,λ_=>rfl⟩
   ·have:=g.cap;have:=of_decide_eq_true c4;omega
   ·have:=of_decide_eq_false c4;omega
def RdQ{α:Type}(f:α->List Int)(P:α->Prop)(c:Nat)(b:List Int)(e:Int)(b':List Int)(e':Int)(x:α):Prop:=
 aN b'/\b'.length<=b.length/\((e'=0/\e=0/\b=f x++b'/\P x)\/(e'≠0/\(e=0->b.length < c)))
theorem aGU(N:Nat)(hN:20 < N)(w:Nat)(hw0:1<=w)(hw:w<=4)(b:List Int)(e:Int)(hb:aN b):T (aU N (w:Int) (aB.mk b e true)) (λr=>RdQ (leB w) (λx=>0<=x/\x < bL w) w b e r.1 r.2.1 r.2.2/\0<=r.2.2/\r.2.2 < bL w):=by
 unfold aU;refine T.bind (aEA N hN b e w hw0 (by omega) hb) λr h=>T.ret ?_;obtain⟨h1,h2,h3,h4,h5⟩:=h;have hp:bL w<=4294967296:=by
  have:∀i:Fin 5,bL i.val<=4294967296:=by decide
  exact this ⟨w,by omega⟩
 have e0:I64 r.2.2=r.2.2:=aP;dsimp only;rw[e0]
 refine⟨⟨h1,h2,?_⟩,h3,h4⟩
 rcases h5 with ⟨g1,g2,g3⟩ | ⟨g1,g2,g3,g4,g5⟩
 ·exact .inl ⟨g1,g2,g3,h3,h4⟩
 ·exact .inr ⟨g1,λh=>(g4 h).2⟩
def ptR(p:aA):Prop:=(-32768<=p.gX/\p.gX < 32768)/\(-32768<=p.gY/\p.gY < 32768)/\(-32768<=p.gZ/\p.gZ < 32768)
theorem ptG.r{p:aA}(h:ptG p):ptR p:=by obtain⟨h1,h2,h3⟩:=h;exact⟨⟨by omega,by omega⟩,⟨by omega,by omega⟩,by omega,by omega⟩
theorem aSH(N:Nat)(hN:20 < N)(b:List Int)(e:Int)(hb:aN b):T (fW N (aB.mk b e true)) (λr=>RdQ ptB ptR 6 b e r.1 r.2.1 r.2.2.2/\r.2.2.1=true):=by
 unfold fW;refine T.bind (aOW N hN b e hb) λr1 h1=>?_;obtain⟨b1,e1,v1⟩:=r1;obtain⟨p1,l1,x0,x1,h1⟩:=h1;dsimp only at p1 l1 x0 x1 h1 ⊢;refine T.bind (aOW N hN b1 e1 p1) λr2 h2=>?_;obtain⟨b2,e2,v2⟩:=r2;obtain⟨p2,l2,y0,y1,h2⟩:=h2;dsimp only at p2 l2 y0 y1 h2 ⊢;refine T.bind (aOW N hN b2 e2 p2) λr3 h3=>?_;obtain⟨b3,e3,v3⟩:=r3;obtain⟨p3,l3,z0,z1,h3⟩:=h3;dsimp only at p3 l3 z0 z1 h3 ⊢;refine T.ret ⟨⟨p3,by dsimp only;omega,?_⟩,rfl⟩
 dsimp only;rcases h3 with ⟨q1,q2,q3⟩ | ⟨q1,_,q2,q3⟩
 ·subst q1 q2;rcases h2 with ⟨_,q4,q5⟩ | ⟨q4,_⟩
  ·subst q4;rcases h1 with ⟨_,q6,q7⟩ | ⟨q6,_⟩
   ·refine .inl ⟨rfl,q6,?_,⟨x0,x1⟩,⟨y0,y1⟩,z0,z1⟩
    unfold ptB;rw[q7,q5,q3]
    simp[am]
   ·exact absurd rfl q6
  ·exact absurd rfl q4
 ·refine .inr ⟨q1,λhe=>?_⟩
  rcases h1 with ⟨k1,_,k2⟩ | ⟨k1,_,k2,_⟩
  ·have hl:=congrArg dr k2;rw[ah,bM] at hl;rcases h2 with ⟨k3,_,k4⟩ | ⟨k3,_,k4,_⟩
   ·have hl2:=congrArg dr k4;rw[ah,bM] at hl2;have:=(q2 k3).2;omega
   ·have:=(k4 k1).2;omega
  ·have:=(k2 he).2;omega
theorem aWg(N:Nat)(hN:20 < N)(b:List Int)(e:Int)(hb:aN b){Q:(List Int×Int×Int)×(List Int×Int×Int)->Prop}(hQ:∀r1 r2,RdQ uvB uvG 4 b e r2.1 r2.2.1 #v[r1.2.2,r2.2.2]->Q (r1,r2)):T (ae (aU N 2 (aB.mk b e true)) λr18=>ae (aU N 2 (aB.mk r18.1 r18.2.1 true)) λr19=>some (r18,r19)) Q:=by
 refine T.bind (aGU N hN 2 (by decide) (by decide) b e hb) λr1 h1=>?_;obtain⟨b1,e1,v1⟩:=r1;obtain⟨⟨p1,l1,h1⟩,x0,x1⟩:=h1;dsimp only at p1 l1 x0 x1 h1 ⊢;refine T.bind (aGU N hN 2 (by decide) (by decide) b1 e1 p1) λr2 h2=>T.ret (hQ _ _ ?_)
 obtain⟨b2,e2,v2⟩:=r2;obtain⟨⟨p2,l2,h2⟩,y0,y1⟩:=h2;dsimp only at p2 l2 y0 y1 h2 ⊢;refine⟨p2,by omega,?_⟩
 rcases h2 with ⟨q1,q2,q3,_⟩ | ⟨q1,q2⟩
 ·subst q1 q2;rcases h1 with ⟨_,q4,q5,_⟩ | ⟨q4,_⟩
  ·refine .inl ⟨rfl,q4,?_,⟨x0,x1⟩,y0,y1⟩
   unfold uvB;rw[q5,q3]
   simp[am]
  ·exact absurd rfl q4
 ·refine .inr ⟨q1,λhe=>?_⟩
  rcases h1 with ⟨k1,_,k2,_⟩ | ⟨_,k1⟩
  ·have hl:=congrArg dr k2;rw[ah,bM] at hl;have:=q2 k1;omega
  ·have:=k1 he;omega
theorem aUh(N:Nat)(hN:20 < N)(w:Nat)(hw0:1<=w)(hw:w<=4)(b:List Int)(e:Int)(hb:aN b){Q:(List Int×Int×Int)×(List Int×Int×Int)×(List Int×Int×Int)->Prop}(hQ:∀r1 r2 r3,RdQ (trB w) (trG (bL w)) (3*w) b e r3.1 r3.2.1 #v[r1.2.2,r2.2.2,r3.2.2]->Q (r1,r2,r3)):T (ae (aU N (w:Int) (aB.mk b e true)) λr1=>ae (aU N (w:Int) (aB.mk r1.1 r1.2.1 true)) λr2=>ae (aU N (w:Int) (aB.mk r2.1 r2.2.1 true)) λr3=>some (r1,r2,r3)) Q:=by
 refine T.bind (aGU N hN w hw0 hw b e hb) λr1 h1=>?_;obtain⟨b1,e1,v1⟩:=r1;obtain⟨⟨p1,l1,h1⟩,x0,x1⟩:=h1;dsimp only at p1 l1 x0 x1 h1 ⊢;refine T.bind (aGU N hN w hw0 hw b1 e1 p1) λr2 h2=>?_;obtain⟨b2,e2,v2⟩:=r2;obtain⟨⟨p2,l2,h2⟩,y0,y1⟩:=h2;dsimp only at p2 l2 y0 y1 h2 ⊢;refine T.bind (aGU N hN w hw0 hw b2 e2 p2) λr3 h3=>T.ret (hQ _ _ _ ?_)
 obtain⟨b3,e3,v3⟩:=r3;obtain⟨⟨p3,l3,h3⟩,z0,z1⟩:=h3;dsimp only at p3 l3 z0 z1 h3 ⊢;refine⟨p3,by omega,?_⟩
 rcases h3 with ⟨q1,q2,q3,_⟩ | ⟨q1,q2⟩
 ·subst q1 q2;rcases h2 with ⟨_,q4,q5,_⟩ | ⟨q4,_⟩
  ·subst q4;rcases h1 with ⟨_,q6,q7,_⟩ | ⟨q6,_⟩
   ·refine .inl ⟨rfl,q6,?_,⟨x0,x1⟩,⟨y0,y1⟩,z0,z1⟩
    unfold trB;rw[q7,q5,q3]
    simp[am]
   ·exact absurd rfl q6
  ·exact absurd rfl q4
 ·refine .inr ⟨q1,λhe=>?_⟩
  rcases h1 with ⟨k1,_,k2,_⟩ | ⟨_,k1⟩
  ·have hl:=congrArg dr k2;rw[ah,bM] at hl;rcases h2 with ⟨k3,_,k4,_⟩ | ⟨_,k3⟩
   ·have hl2:=congrArg dr k4;rw[ah,bM] at hl2;have:=q2 k3;omega
   ·have:=k3 k1;omega
  ·have:=k1 he;omega
theorem aLQ{α:Type}(f:α->List Int)(P:α->Prop)(c:Nat)(hc:∀x,(f x).length=c)(n:Nat)(hn:n < 1000000){F:Nat->List α->List Int->Int->Bool->Int->Option (List α×List Int×Int×Bool)}
  (hstep:∀k s b e i,i < n->s.length<=i->aN b->∀Q,(∀b' e' x,RdQ f P c b e b' e' x->T (F k (s++[x]) b' e' true ((i+1:Nat):Int)) Q)->T (F (k+1) s b e true (i:Int)) Q) (hend:∀k s b e,F (k+1) s b e true (n:Int)=some (s,b,e,true)) :
  ∀(k i:Nat) (s:List α) (b:List Int) (e:Int),i<=n->s.length<=i->n - i < k->aN b->T (F k s b e true (i:Int)) (λr=>aN r.2.1/\r.2.1.length<=b.length/\r.2.2.2=true/\∃l,r.1=s++l/\l.length=n - i/\((r.2.2.1=0/\e=0/\b=l.flatMap f++r.2.1/\∀x∈l,P x)\/(r.2.2.1≠0/\(e=0->b.length < (n - i)*c))))
 | 0,i,_,_,_,_,_,h,_=>by omega
 | k+1,i,s,b,e,hi,hs,hk,hb=>by
  by_cases h:i < n
  ·refine hstep k s b e i h hs hb _ λb' e' x hx=>?_;obtain⟨x1,x2,x3⟩:=hx;refine T.mono (aLQ f P c hc n hn hstep hend k (i+1) (s++[x]) b' e' (by omega) (by simp;omega) (by omega) x1) λr hr=>?_;obtain⟨r1,r2,r3,l,r4,r5,r6⟩:=hr;refine⟨r1,by omega,r3,x :: l,by rw[r4];simp,by rw[cx];omega,?_⟩
   have hmul:(n - i)*c=(n - (i+1))*c+c:=by rw[show n - i=(n - (i+1))+1 by omega,jf];omega
   rcases r6 with ⟨g1,g2,g3,g4⟩ | ⟨g1,g2⟩
   ·subst g2;rcases x3 with ⟨_,q2,q3,q4⟩ | ⟨q1,_⟩
    ·refine .inl ⟨g1,q2,by rw[q3,g3,dm,am],λy hy=>?_⟩
     rcases d9.1 hy with rfl | hy
     ·exact q4
     ·exact g4 y hy
    ·exact absurd rfl q1
   ·refine .inr ⟨g1,λhe=>?_⟩
    rcases x3 with ⟨q1,_,q3,_⟩ | ⟨_,q1⟩
    ·have hl:=congrArg dr q3;rw[ah,hc] at hl;have:=g2 q1;omega
    ·have:=q1 he;omega
  ·obtain rfl:i=n:=by omega
   rw[hend]
   refine T.ret ⟨hb,ct _,rfl,[],by simp,by simp,?_⟩
   by_cases he:e=0
   ·exact .inl ⟨he,he,by simp,λx hx=>by cases hx⟩
   ·exact .inr ⟨he,λh=>absurd h he⟩
structure aJE(m:aK):Prop where
 nv:m.gG.length < 256
 nt:m.gJ.length < 256
 nu:m.gL.length=m.gG.length
 v:∀p∈m.gG,ptR p
 u:∀p∈m.gL,uvG p
 t:∀p∈m.gJ,trG 256 p
theorem aDq.r{m:aK}(g:aDq m):aJE m:=⟨by have:=g.nv;omega,by have:=g.nt;omega,g.nu,λp h=>(g.v p h).r,g.u,g.t⟩
theorem aCu{α:Type}{f:α->List Int}{c:Nat}{P:α->Prop}(hc:∀x,(f x).length=c)(hf:∀x y,P x->P y->f x=f y->x=y):∀(l l':List α) (r r':List Int),l.length=l'.length->(∀x∈l,P x)->(∀x∈l',P x)->l.flatMap f++r=l'.flatMap f++r'->l=l'/\r=r'
 | [],[],r,r',_,_,_,h=>⟨rfl,by simpa using h⟩
 | [],_ :: _,_,_,h,_,_,_=>by simp at h
 | _ :: _,[],_,_,h,_,_,_=>by simp at h
 | a :: l,b :: l',r,r',hl,h1,h2,h=>by
  rw[dm,dm,am,am] at h;obtain⟨e1,e2⟩:=cm h (by rw[hc,hc])
  obtain⟨e3,e4⟩:=aCu hc hf l l' r r' (by simpa using hl) (λx hx=>h1 x (by simp[hx])) (λx hx=>h2 x (by simp[hx])) e2;rw[hf a b (h1 a (by simp)) (h2 b (by simp)) e1,e3]
  exact⟨rfl,e4⟩
theorem aHa{p q:aA}(hp:ptR p)(hq:ptR q)(h:ptB p=ptB q):p=q:=by
 unfold ptB at h;obtain⟨h1,h⟩:=cm h (by simp[bM])
 obtain⟨h2,h3⟩:=cm h (by simp[bM])
 have e1:=lX (w:=2) (by decide) ⟨by omega,by rw[show bL 2=65536 from rfl];omega⟩ ⟨by omega,by rw[show bL 2=65536 from rfl];omega⟩ h1;have e2:=lX (w:=2) (by decide) ⟨by omega,by rw[show bL 2=65536 from rfl];omega⟩ ⟨by omega,by rw[show bL 2=65536 from rfl];omega⟩ h2;have e3:=lX (w:=2) (by decide) ⟨by omega,by rw[show bL 2=65536 from rfl];omega⟩ ⟨by omega,by rw[show bL 2=65536 from rfl];omega⟩ h3;obtain⟨a1,a2,a3⟩:=hp;obtain⟨b1,b2,b3⟩:=hq;cases p;cases q;dsimp only at *;rw[aA.mk.injEq]
 omega
theorem vext2{a b:Vector Int 2}(h0:a[0]=b[0])(h1:a[1]=b[1]):a=b:=by
 apply od;intro i hi;have:i=0\/i=1:=by omega
 rcases this with rfl | rfl <;> assumption
theorem vext3{a b:Vector Int 3}(h0:a[0]=b[0])(h1:a[1]=b[1])(h2:a[2]=b[2]):a=b:=by
 apply od;intro i hi;have:i=0\/i=1\/i=2:=by omega
 rcases this with rfl | rfl | rfl <;> assumption
theorem aSr{p q:Vector Int 2}(hp:uvG p)(hq:uvG q)(h:uvB p=uvB q):p=q:=by
 unfold uvB at h;obtain⟨h1,h2⟩:=cm h (by simp[bM])
 exact vext2 (lX (w:=2) (by decide) hp.1 hq.1 h1) (lX (w:=2) (by decide) hp.2 hq.2 h2)
theorem aHY{w:Nat}(hw:w<=8){p q:Vector Int 3}(hp:trG (bL w) p)(hq:trG (bL w) q)(h:trB w p=trB w q):p=q:=by
 unfold trB at h;obtain⟨h1,h⟩:=cm h (by simp[bM])
 obtain⟨h2,h3⟩:=cm h (by simp[bM])
 exact vext3 (lX hw hp.1 hq.1 h1) (lX hw hp.2.1 hq.2.1 h2) (lX hw hp.2.2 hq.2.2 h3)
theorem aFs{m m':aK}(r:aJE m)(r':aJE m'){x x':List Int}(h:wX m++x=wX m'++x'):m=m'/\x=x':=by
 unfold wX at h;simp only[am] at h;have:=r.nv;have:=r'.nv;have:=r.nt;have:=r'.nt;obtain⟨h1,h⟩:=cm h (by simp[bM])
 obtain⟨h2,h⟩:=cm h (by simp[bM])
 have n1:=lX (w:=1) (by decide) (x:=(m.gG.length:Int)) (y:=(m'.gG.length:Int)) ⟨by omega,by rw[show bL 1=256 from rfl];omega⟩ ⟨by omega,by rw[show bL 1=256 from rfl];omega⟩ h1;have n2:=lX (w:=1) (by decide) (x:=(m.gJ.length:Int)) (y:=(m'.gJ.length:Int)) ⟨by omega,by rw[show bL 1=256 from rfl];omega⟩ ⟨by omega,by rw[show bL 1=256 from rfl];omega⟩ h2;obtain⟨e1,h⟩:=aCu qX (λ_ _=>aHa) _ _ _ _ (by omega) r.v r'.v h;obtain⟨e2,h⟩:=aCu aAv (λ_ _=>aSr) _ _ _ _ (by rw[r.nu,r'.nu];omega) r.u r'.u h;obtain⟨e3,h⟩:=aCu (qE 1) (λ_ _=>aHY (w:=1) (by decide)) _ _ _ _ (by omega) r.t r'.t h;refine⟨?_,h⟩
 cases m;cases m';dsimp only at *;rw[e1,e2,e3]
theorem aQP{m:aK}(r:aJE m):(wX m).length=2+10*m.gG.length+3*m.gJ.length:=by
 unfold wX;simp only[ah,bM,vA qX,vA aAv,vA (qE 1),r.nu]
 omega
theorem aMb(N:Nat)(hN:1000 < N)(b:List Int)(hb:aN b)(hl:b.length<=100000:=by omega):T (tL N b) (λr=>(r.2=0/\b=wX r.1/\aDq r.1)\/(r.2≠0/\r.1=lV/\∀m,aJE m->b=wX m->iI N m≠some 0)):=by
 unfold tL;rw[aKa N b,aa]
 refine T.bind (aGU N (by omega) 1 (by decide) (by decide) b 0 hb) λr2 h2=>?_;obtain⟨b2,e2,v2⟩:=r2;obtain⟨⟨p2,l2,h2⟩,x0,x1⟩:=h2;dsimp only at p2 l2 x0 x1 h2 ⊢;refine T.bind (aGU N (by omega) 1 (by decide) (by decide) b2 e2 p2) λr3 h3=>?_;obtain⟨b3,e3,v3⟩:=r3;obtain⟨⟨p3,l3,h3⟩,y0,y1⟩:=h3;dsimp only at p3 l3 y0 y1 h3 ⊢;rw[show bL 1=256 from rfl] at x1 y1;obtain⟨nv,rfl⟩:=br x0;obtain⟨nt,rfl⟩:=br y0;refine T.bind (aLQ ptB ptR 6 qX nv (by omega) (F:=fX N (b2,e2,(nv:Int))) (λk s b e i hi hs hb Q hk=>?_) (λk s b e=>by rw[fX,df (by dsimp only;omega),cond_false]) N 0 [] b3 e3 (by omega) (by simp) (by omega) p3) λr4 h4=>?_
 ·rw[fX,dt (by dsimp only;omega),cond_true]
  refine T.bind (aSH N (by omega) b e hb) λr10 h10=>?_;obtain⟨h11,h12⟩:=h10;refine T.bind (T.app (by simp;omega)) λz hz=>?_;subst hz;rw[h12,cF]
  exact hk _ _ _ h11
 obtain⟨vs,b4,e4,m4⟩:=r4;obtain⟨p4,l4,rfl,vl,rfl,hvl,h4⟩:=h4;dsimp only at p4 l4 h4 hvl ⊢;refine T.bind (aLQ uvB uvG 4 aAv nv (by omega) (F:=fV N (b2,e2,(nv:Int))) (λk s b e i hi hs hb Q hk=>?_) (λk s b e=>by rw[fV,df (by dsimp only;omega),cond_false]) N 0 [] b4 e4 (by omega) (by simp) (by omega) p4) λr12 h12=>?_
 ·rw[fV,dt (by dsimp only;omega),cond_true]
  have h:=aWg N (by omega) b e hb (Q:=λr=>RdQ uvB uvG 4 b e r.2.1 r.2.2.1 #v[r.1.2.2,r.2.2.2]) (λ_ _ h=>h)
  obtain⟨⟨r18,r19⟩,g1,g2⟩:=h;obtain⟨q18,k1,g1⟩:=wR g1;obtain⟨q19,k2,g1⟩:=wR g1;cases g1;rw[k1,aa]
  dsimp only;rw[k2,aa]
  refine T.bind (T.app (by simp;omega)) λz hz=>?_;subst hz;rw[cF]
  exact hk _ _ _ g2
 obtain⟨us,b5,e5,m5⟩:=r12;obtain⟨p5,l5,rfl,ul,rfl,hul,h5⟩:=h12;dsimp only at p5 l5 h5 hul ⊢;refine T.bind (aLQ (trB 1) (trG 256) 3 (qE 1) nt (by omega) (F:=fY N (b3,e3,(nt:Int))) (λk s b e i hi hs hb Q hk=>?_) (λk s b e=>by rw[fY,df (by dsimp only;omega),cond_false]) N 0 [] b5 e5 (by omega) (by simp) (by omega) p5) λr21 h21=>?_
 ·rw[fY,dt (by dsimp only;omega),cond_true]
  have h:=aUh N (by omega) 1 (by decide) (by decide) b e hb (Q:=λr=>RdQ (trB 1) (trG 256) 3 b e r.2.2.1 r.2.2.2.1 #v[r.1.2.2,r.2.1.2.2,r.2.2.2.2]) (λ_ _ _ h=>h)
  obtain⟨⟨r27,r28,r29⟩,g1,g2⟩:=h;obtain⟨q27,k1,g1⟩:=wR g1;obtain⟨q28,k2,g1⟩:=wR g1;obtain⟨q29,k3,g1⟩:=wR g1;cases g1;rw[show aU N 1 (aB.mk b e true)=some r27 from k1,aa]
  dsimp only;rw[show aU N 1 (aB.mk r27.1 r27.2.1 true)=some r28 from k2,aa,show aU N 1 (aB.mk r28.1 r28.2.1 true)=some r29 from k3,aa]
  refine T.bind (T.app (by simp;omega)) λz hz=>?_;subst hz;rw[cF]
  exact hk _ _ _ g2
 obtain⟨ts,b6,e6,m6⟩:=r21;obtain⟨p6,l6,rfl,tl,rfl,htl,h6⟩:=h21;dsimp only at p6 l6 h6 htl ⊢;rw[aJo,aa]
 rw[pi] at hvl hul htl h4 h5 h6
 -- all that was read
 have all:e6=0->b=wX (aK.mk vs us ts)++b6/\aJE (aK.mk vs us ts):=by
  intro he;rcases h6 with ⟨_,q1,q2,q3⟩ | ⟨q,_⟩
  ·subst q1;rcases h5 with ⟨_,k1,k2,k3⟩ | ⟨q,_⟩
   ·subst k1;rcases h4 with ⟨_,i1,i2,i3⟩ | ⟨q,_⟩
    ·subst i1;rcases h3 with ⟨_,j1,j2,_⟩ | ⟨q,_⟩
     ·subst j1;rcases h2 with ⟨_,_,o2,_⟩ | ⟨q,_⟩
      ·refine⟨?_,by dsimp only;omega,by dsimp only;omega,by dsimp only;omega,i3,k3,q3⟩
       unfold wX;dsimp only;rw[o2,j2,i2,k2,q2,hvl,htl]
       simp[am]
      ·exact absurd rfl q
     ·exact absurd rfl q
    ·exact absurd rfl q
   ·exact absurd rfl q
  ·exact absurd he q
 have short:e6≠0->∀m,aJE m->b≠wX m:=by
  intro he m r hm;have hlen:=aQP r;rw[<- hm] at hlen;rcases h2 with ⟨a1,_,a2,_⟩ | ⟨_,a1⟩
  ·rcases h3 with ⟨c1,_,c2,_⟩ | ⟨_,c1⟩
   ·-- the numbers are the mesh's
    have hh:leB 1 (nv:Int)++(leB 1 (nt:Int)++b3)=wX m:=by rw[<- hm,a2,c2]
    unfold wX at hh;obtain⟨g1,g2⟩:=cm hh (by simp[bM])
    obtain⟨g3,g4⟩:=cm g2 (by simp[bM])
    have:=r.nv;have:=r.nt;have n1:=lX (w:=1) (by decide) (x:=(nv:Int)) (y:=(m.gG.length:Int)) ⟨by omega,by rw[show bL 1=256 from rfl];omega⟩ ⟨by omega,by rw[show bL 1=256 from rfl];omega⟩ g1;have n2:=lX (w:=1) (by decide) (x:=(nt:Int)) (y:=(m.gJ.length:Int)) ⟨by omega,by rw[show bL 1=256 from rfl];omega⟩ ⟨by omega,by rw[show bL 1=256 from rfl];omega⟩ g3;have hl3:b.length=2+b3.length:=by rw[a2,c2];simp[bM];omega
    rcases h4 with ⟨i1,_,i2,_⟩ | ⟨_,i1⟩
    ·have hl4:=congrArg dr i2;rw[ah,vA qX,hvl] at hl4;rcases h5 with ⟨k1,_,k2,_⟩ | ⟨_,k1⟩
     ·have hl5:=congrArg dr k2;rw[ah,vA aAv,hul] at hl5;rcases h6 with ⟨q1,_⟩ | ⟨_,q1⟩
      ·exact he q1
      ·have:=q1 k1;omega
     ·have:=k1 i1;omega
    ·have:=i1 c1;omega
   ·have hl2:b.length=1+b2.length:=by rw[a2];simp[bM]
    have:=c1 a1;omega
  ·have:=a1 rfl;omega
 by_cases he:e6=0
 ·obtain⟨g1,g2⟩:=all he;subst he;rw[show((0:Int) != 0)=false from rfl,cond_false]
  by_cases hr:0 < b6.length
  ·rw[dt hr,cond_true,show((5:Int) != 0)=true from rfl,cond_true]
   refine T.ret (.inr ⟨(show(5:Int)≠0 by decide),rfl,λm r hm=>?_⟩)
   exfalso;rw[g1] at hm;have:=(aFs (x:=b6) (x':=[]) g2 r (by rw[cf];exact hm)).2;rw[this] at hr;simp at hr
  ·have:b6=[]:=dp (by omega)
   subst this;rw[df hr,cond_false,show((0:Int) != 0)=false from rfl,cond_false]
   rw[cf] at g1;refine T.bind (P:=λc=>(c=0->aDq (aK.mk vs us ts))/\iI N (aK.mk vs us ts)=some c) ?_ λc hc=>T.cond (λq=>T.ret ?_) λq=>T.ret ?_
   ·obtain⟨c,q1,q2⟩:=aU0 N hN (aK.mk vs us ts) (by have:=g2.nv;omega) (by have:=g2.nv;have:=g2.nu;omega) (by have:=g2.nt;omega)
    exact⟨c,q1,q2,q1⟩
   ·have q:c≠0:=by simpa using q
    refine .inr ⟨q,rfl,λm r hm=>?_⟩
    have:=(aFs (x:=[]) (x':=[]) g2 r (by rw[cf,cf,<- g1];exact hm)).1;rw[<- this,hc.2]
    intro h;cases h;exact q rfl
   ·have q:c=0:=by simpa using q
    exact .inl ⟨rfl,g1,hc.1 q⟩
 ·rw[show(e6 != 0)=true by simpa using he,cond_true,show(e6 != 0)=true by simpa using he,cond_true]
  exact T.ret (.inr ⟨he,rfl,λm r hm=>absurd hm (short he m r)⟩)
structure aQK(t:aJ):Prop where
 side:0<=t.gM/\t.gM < 256
 n:(t.gK.length:Int)=t.gM*t.gM
 t:∀p∈t.gK,trG 256 p
theorem aJO.r{t:aJ}(g:aJO t):aQK t:=⟨⟨by have:=g.side;omega,by have:=g.side;omega⟩,g.n,g.t⟩
theorem aE5{t t':aJ}(r:aQK t)(r':aQK t'){x x':List Int}(h:aBg t++x=aBg t'++x'):t=t'/\x=x':=by
 unfold aBg at h;simp only[am] at h;obtain⟨h1,h⟩:=cm h (by simp[bM])
 have n1:=lX (w:=1) (by decide) r.side r'.side h1;have n2:t.gK.length=t'.gK.length:=by
  have:=r.n;have:=r'.n;rw[n1] at *;omega
 obtain⟨e1,h⟩:=aCu (qE 1) (λ_ _=>aHY (w:=1) (by decide)) _ _ _ _ n2 r.t r'.t h;refine⟨?_,h⟩
 cases t;cases t';dsimp only at *;rw[e1,n1]
theorem texL(N n:Nat)(hn:n < 100000):∀(k i:Nat) (s:List (Vector Int 3)) (b:List Int) (e:Int),i<=n->s.length<=i->b.length < k->aN b->T (cE N (n:Int) k s b e true (i:Int)) (λr=>r.2.2.2=true/\∃l,r.1=s++l/\l.length<=n - i/\l.length<=b.length/\((r.2.2.1=0/\e=0/\l.length=n - i/\b=l.flatMap (trB 1)++r.2.1/\∀x∈l,trG 256 x)\/(r.2.2.1≠0/\(e=0->b.length < (n - i)*3))))
 | 0,i,_,_,_,_,_,h,_=>by omega
 | k+1,i,s,b,e,hi,hs,hk,hb=>by
  rw[cE]
  by_cases h:i < n
  ·rw[dt,cond_true]
   refine T.bind (aRy N b e 3 hb) λr10 h10=>?_;obtain⟨b',e',out⟩:=r10;obtain⟨p1,p2,_,l1,h10⟩:=h10;dsimp only at p1 p2 l1 h10 ⊢;refine T.letO λx hx=>?_;subst hx;rcases h10 with ⟨rfl,rfl,q3,q4⟩ | ⟨q1,rfl,rfl,q4,q5⟩
   ·match out,q4 with
    | [x,y,z],_=>
     have bx:=p2 x (by simp)
     have by_:=p2 y (by simp)
     have bz:=p2 z (by simp)
     rw[show decide ((([x,y,z]:List Int).length:Int) < 3)=false from rfl,cond_false,show idx [x,y,z] 0=some x from rfl,show idx [x,y,z] 1=some y from rfl,show idx [x,y,z] 2=some z from rfl,aa,aa,aa,aP (x:=x) (by have:=bx.1;omega) (by have:=bx.2;omega),aP (x:=y) (by have:=by_.1;omega) (by have:=by_.2;omega),aP (x:=z) (by have:=bz.1;omega) (by have:=bz.2;omega)]
     refine T.bind (T.app (by simp;omega)) λw hw=>?_;subst hw;rw[cF]
     have hlen:=congrArg dr q3;simp only[ah,cx,j7] at hlen;refine T.mono (texL N n hn k (i+1) _ b' 0 (by omega) (by simp;omega) (by omega) p1) λr hr=>?_;obtain⟨r1,l,r2,r3,r3b,r4⟩:=hr;refine⟨r1,#v[x,y,z] :: l,by rw[r2];simp,by rw[cx];omega,by rw[cx];omega,?_⟩
     have ht:trB 1 #v[x,y,z]=[x,y,z]:=by
      show leB 1 x++(leB 1 y++leB 1 z)=_;rw[aAf bx,aAf by_,aAf bz]
      rfl
     rcases r4 with ⟨g1,_,g2,g3,g4⟩ | ⟨g1,g2⟩
     ·refine .inl ⟨g1,rfl,by rw[cx];omega,by rw[q3,g3,dm,ht,am],λv hv=>?_⟩
      rcases d9.1 hv with rfl | hv
      ·exact⟨bx,by_,bz⟩
      ·exact g4 v hv
     ·refine .inr ⟨g1,λ_=>?_⟩
      have:=g2 rfl;omega
   ·rw[show decide ((([]:List Int).length:Int) < 3)=true from rfl,cond_true]
    refine T.ret ⟨rfl,[],by simp,by simp,by simp,.inr ⟨q1,λhe=>?_⟩⟩
    have:=(q4 he).2;omega
  ·obtain rfl:i=n:=by omega
   rw[df,cond_false]
   refine T.ret ⟨rfl,[],by simp,by simp,by simp,?_⟩
   by_cases he:e=0
   ·exact .inl ⟨he,he,by simp,by simp,λx hx=>(by cases hx)⟩
   ·exact .inr ⟨he,λh=>absurd h he⟩
theorem aOO(N:Nat)(hN:10000 < N)(b:List Int)(hb:aN b)(hl:b.length<=5000):T (pK N b) (λr=>(r.2=0/\b=aBg r.1/\aJO r.1)\/(r.2≠0/\r.1=wI/\∀t,aQK t->t.gK.length<=500->b=aBg t->cH N t≠some 0)):=by
 unfold pK;rw[aKa N b,aa]
 refine T.bind (aEA N (by omega) b 0 1 (by decide) (by decide) hb) λr2 h2=>?_;obtain⟨b2,e2,v2⟩:=r2;obtain⟨p2,l2,x0,x1,h2⟩:=h2;dsimp only at p2 l2 x0 x1 h2 ⊢;rw[show bL 1=256 from rfl] at x1;obtain⟨sd,rfl⟩:=br x0;have hsd:sd*sd<=255*255:=Nat.mul_le_mul (by omega) (by omega)
 have f:I64 (I64 (sd:Int)*I64 (sd:Int))=((sd*sd:Nat):Int):=by
  have e0:I64 (sd:Int)=(sd:Int):=aP;rw[e0,<- fp,aP]
 have f0:I64 (sd:Int)=(sd:Int):=aP;rw[f,aC,f0]
 refine T.bind (texL N (sd*sd) (by omega) N 0 [] b2 e2 (by omega) (by simp) (by omega) p2) λr4 h4=>?_;obtain⟨ts,b3,e3,m3⟩:=r4;obtain⟨rfl,tl,htl,hn1,hn2,h4⟩:=h4;dsimp only at htl hn1 hn2 h4 ⊢;rw[ee] at htl;subst htl;rw[aJo,aa]
 have all:e3=0->b=aBg (aJ.mk (sd:Int) ts)++b3/\aQK (aJ.mk (sd:Int) ts):=by
  intro he;rcases h4 with ⟨_,q1,q2,q3,q4⟩ | ⟨q,_⟩
  ·subst q1;rcases h2 with ⟨_,_,o2⟩ | ⟨q,_⟩
   ·refine⟨?_,⟨by dsimp only;omega,by dsimp only;omega⟩,by dsimp only;rw[q2,pi];push_cast;rfl,q4⟩
    unfold aBg;dsimp only;rw[o2,q3,am]
   ·exact absurd rfl q
  ·exact absurd he q
 have short:e3≠0->∀t,aQK t->b≠aBg t:=by
  intro he t r ht;have hlen:(aBg t).length=1+3*t.gK.length:=by unfold aBg;rw[ah,bM,vA (qE 1)];omega
  rw[<- ht] at hlen;rcases h2 with ⟨a1,_,a2⟩ | ⟨_,_,_,a1,_⟩
  ·have hh:leB 1 (sd:Int)++b2=aBg t:=by rw[<- ht,a2]
   unfold aBg at hh;obtain⟨g1,g2⟩:=cm hh (by simp[bM])
   have n1:=lX (w:=1) (by decide) (x:=(sd:Int)) (y:=t.gM) ⟨by omega,by rw[show bL 1=256 from rfl];omega⟩ r.side g1;have n2:=r.n;rw[<- n1,<- fp] at n2;have hl3:b.length=1+b2.length:=by rw[a2,ah,bM]
   rcases h4 with ⟨i1,_⟩ | ⟨_,i1⟩
   ·exact he i1
   ·have:=i1 a1;omega
  ·have:=(a1 rfl).2;omega
 by_cases he:e3=0
 ·obtain⟨g1,g2⟩:=all he;subst he;rw[show((0:Int) != 0)=false from rfl,cond_false]
  by_cases hr:0 < b3.length
  ·rw[dt hr,cond_true,show((5:Int) != 0)=true from rfl,cond_true]
   refine T.ret (.inr ⟨(show(5:Int)≠0 by decide),rfl,λt r _ ht=>?_⟩)
   exfalso;rw[g1] at ht;have:=(aE5 (x:=b3) (x':=[]) g2 r (by rw[cf];exact ht)).2;rw[this] at hr;simp at hr
  ·have:b3=[]:=dp (by omega)
   subst this;rw[df hr,cond_false,show((0:Int) != 0)=false from rfl,cond_false]
   rw[cf] at g1;by_cases h500:ts.length<=500
   ·refine T.bind (P:=λc=>(c=0->aJO (aJ.mk (sd:Int) ts))/\cH N (aJ.mk (sd:Int) ts)=some c) ?_ λc hc=>T.cond (λq=>T.ret ?_) λq=>T.ret ?_
    ·obtain⟨c,q1,q2⟩:=texT N (by omega) (aJ.mk (sd:Int) ts) h500;exact⟨c,q1,q2,q1⟩
    ·have q:c≠0:=by simpa using q
     refine .inr ⟨q,rfl,λt r _ ht=>?_⟩
     have:=(aE5 (x:=[]) (x':=[]) g2 r (by rw[cf,cf,<- g1];exact ht)).1;rw[<- this,hc.2]
     intro h;cases h;exact q rfl
    ·have q:c=0:=by simpa using q
     exact .inl ⟨rfl,g1,hc.1 q⟩
   ·-- too many: the side is none
    have hbig:T (cH N (aJ.mk (sd:Int) ts)) (λc=>c≠0):=by
     unfold cH;obtain⟨r1,e1,h1⟩:=aKA N (by omega) [1,2,4,8,16] (by decide) (sd:Int)
     dsimp only;rw[e1,aa]
     have hr1:r1=false:=by
      cases r1 with
      | false=>rfl
      | true=>
       have hm:=h1 rfl;simp only[d9,dy,or_false] at hm;have n2:=g2.n;dsimp only at n2;have:(sd:Int)<=16:=by omega
       have h3:(sd:Int)*(sd:Int)<=16*16:=gr this this (by omega) (by decide)
       omega
     rw[hr1,aC,aC,aC]
     exact⟨5,rfl,by decide⟩
    refine T.bind hbig λc hc=>?_;rw[show(c != 0)=true by simpa using hc,cond_true]
    refine T.ret (.inr ⟨hc,rfl,λt r h5 ht=>?_⟩)
    have:=(aE5 (x:=[]) (x':=[]) g2 r (by rw[cf,cf,<- g1];exact ht)).1;rw[<- this] at h5;exact absurd h5 h500
 ·rw[show(e3 != 0)=true by simpa using he,cond_true,show(e3 != 0)=true by simpa using he,cond_true]
  exact T.ret (.inr ⟨he,rfl,λt r _ ht=>absurd ht (short he t r)⟩)
def aRK(l:aL):Prop:=(0<=l.gA/\l.gA < 256)/\trG 4294967296 l.gF/\ptR l.gAt/\ptR l.gU/\ptR l.gV
theorem aN0.r{l:aL}(g:aN0 l):aRK l:=⟨g.kind,g.color,g.at_.r,g.u.r,g.v.r⟩
theorem aMn{m m':aG}(r:aLP m)(r':aLP m'){x x':List Int}(h:aFr m++x=aFr m'++x'):m=m'/\x=x':=by
 unfold aFr at h;simp only[am] at h;obtain⟨h1,h⟩:=cm h (by simp[bM])
 obtain⟨h2,h⟩:=cm h (by simp[qE])
 obtain⟨h3,h⟩:=cm h (by simp[bM])
 have n1:=lX (w:=1) (by decide) r.kind r'.kind h1;have n2:=aHY (w:=2) (by decide) r.color r'.color h2;have n3:=lX (w:=2) (by decide) r.rough r'.rough h3;refine⟨?_,h⟩
 cases m;cases m';dsimp only at *;rw[n1,n2,n3]
theorem aMT{m m':aL}(r:aRK m)(r':aRK m'){x x':List Int}(h:aFl m++x=aFl m'++x'):m=m'/\x=x':=by
 unfold aFl at h;simp only[am] at h;obtain⟨h1,h⟩:=cm h (by simp[bM])
 obtain⟨h2,h⟩:=cm h (by simp[qE])
 obtain⟨h3,h⟩:=cm h (by simp[qX])
 obtain⟨h4,h⟩:=cm h (by simp[qX])
 obtain⟨h5,h⟩:=cm h (by simp[qX])
 obtain⟨a1,a2,a3,a4,a5⟩:=r;obtain⟨b1,b2,b3,b4,b5⟩:=r';have n1:=lX (w:=1) (by decide) a1 b1 h1;have n2:=aHY (w:=4) (by decide) a2 b2 h2;have n3:=aHa a3 b3 h3;have n4:=aHa a4 b4 h4;have n5:=aHa a5 b5 h5;refine⟨?_,h⟩
 cases m;cases m';dsimp only at *;rw[n1,n2,n3,n4,n5]
theorem aRt(m:aG):(aFr m).length=9:=by unfold aFr;simp[bM,qE]
theorem aRg(m:aL):(aFl m).length=31:=by unfold aFl;simp[bM,qE,qX]
set_option maxHeartbeats 2000000
theorem aQ1(N:Nat)(hN:20 < N)(w:Nat)(hw0:1<=w)(hw:w<=4)(b:List Int)(e:Int)(hb:aN b):T (bS N (w:Int) (aB.mk b e true)) (λr=>RdQ (trB w) (trG (bL w)) (3*w) b e r.1 r.2.1 r.2.2.2/\r.2.2.1=true):=by
 unfold bS;have h:=aUh N hN w hw0 hw b e hb (Q:=λr=>RdQ (trB w) (trG (bL w)) (3*w) b e r.2.2.1 r.2.2.2.1 #v[r.1.2.2,r.2.1.2.2,r.2.2.2.2]) (λ_ _ _ h=>h)
 obtain⟨⟨r1,r2,r3⟩,g1,g2⟩:=h;obtain⟨q1,k1,g1⟩:=wR g1;obtain⟨q2,k2,g1⟩:=wR g1;obtain⟨q3,k3,g1⟩:=wR g1;cases g1;rw[show aX N (w:Int) (aB.mk b e true)=some r1 from k1,aa]
 dsimp only;rw[show aX N (w:Int) (aB.mk r1.1 r1.2.1 true)=some r2 from k2,aa,show aX N (w:Int) (aB.mk r2.1 r2.2.1 true)=some r3 from k3,aa]
 exact T.ret ⟨g2,rfl⟩
theorem aSF(N:Nat)(hN:20 < N)(w:Nat)(hw0:1<=w)(hw:w<=4)(b:List Int)(e:Int)(hb:aN b):T (aX N (w:Int) (aB.mk b e true)) (λr=>RdQ (leB w) (λx=>0<=x/\x < bL w) w b e r.1 r.2.1 r.2.2/\0<=r.2.2/\r.2.2 < bL w):=aGU N hN w hw0 hw b e hb
theorem aNZ(N:Nat)(hN:20 < N)(b:List Int)(e:Int)(hb:aN b):T (cV N (aB.mk b e true)) (λr=>RdQ ptB ptR 6 b e r.1 r.2.1 r.2.2.2/\r.2.2.1=true):=aSH N hN b e hb
theorem RdQ.seq{α β:Type}{f:α->List Int}{P:α->Prop}{c:Nat}{g:β->List Int}{Q:β->Prop}{d:Nat}{b b1 b2:List Int}{e e1 e2:Int}{x:α}{y:β}(hf:∀x,(f x).length=c)(h:RdQ f P c b e b1 e1 x)(k:RdQ g Q d b1 e1 b2 e2 y):RdQ (λp:α×β=>f p.1++g p.2) (λp=>P p.1/\Q p.2) (c+d) b e b2 e2 (x,y):=by
 obtain⟨h1,h2,h3⟩:=h;obtain⟨k1,k2,k3⟩:=k;refine⟨k1,by omega,?_⟩
 rcases k3 with ⟨q1,q2,q3,q4⟩ | ⟨q1,q2⟩
 ·subst q2;rcases h3 with ⟨_,i2,i3,i4⟩ | ⟨i1,_⟩
  ·exact .inl ⟨q1,i2,by rw[i3,q3,am],i4,q4⟩
  ·exact absurd rfl i1
 ·refine .inr ⟨q1,λhe=>?_⟩
  rcases h3 with ⟨i1,_,i3,_⟩ | ⟨_,i1⟩
  ·have hl:=congrArg dr i3;rw[ah,hf] at hl;have:=q2 i1;omega
  ·have:=i1 he;omega
theorem endQ(N:Nat){α:Type}{f:α->List Int}{P:α->Prop}{c:Nat}{b b':List Int}{e':Int}{x:α}(h:RdQ f P c b 0 b' e' x):T (dC N (aB.mk b' e' true)) (λr=>(r=0/\b=f x/\P x)\/(r≠0/\((b.length < c)\/(∃t,t≠[]/\b=f x++t/\P x)))):=by
 rw[aJo]
 obtain⟨h1,h2,⟨rfl,_,h4,h5⟩ | ⟨h3,h4⟩⟩:=h
 ·rw[show((0:Int) != 0)=false from rfl,cond_false]
  by_cases hr:0 < b'.length
  ·rw[dt hr]
   exact T.ret (.inr ⟨(show(5:Int)≠0 by decide),.inr ⟨b',by intro e;rw[e] at hr;simp at hr,h4,h5⟩⟩)
  ·rw[df hr]
   have:b'=[]:=dp (by omega)
   subst this;exact T.ret (.inl ⟨rfl,by rw[h4,cf],h5⟩)
 ·rw[show(e' != 0)=true by simpa using h3,cond_true]
  exact T.ret (.inr ⟨h3,.inl (h4 rfl)⟩)
theorem aTI(N:Nat)(hN:10000 < N)(k:Int)(b:List Int)(hb:aN b)(hl:b.length<=5000):T (rY N k b) (λr=>(r.2=0/\b=xB r.1/\aFi N r.1/\r.1.gA=k/\aEU r.1)\/(r.2≠0/\r.1=zA 0/\∀a,aFi N a->a.gA=k->b≠xB a)):=by
 -- what stands behind: the check of what was read
 have fin:∀a:aI,aEU a->a.gA=k->(aLe a->b=xB a)->(∀a',aFi N a'->a'.gA=k->b=xB a'->a'=a)->T (ae (kU N a) λr17=>cond (r17 != 0) (some (zA 0,r17)) (some (a,0))) (λr=>(r.2=0/\b=xB r.1/\aFi N r.1/\r.1.gA=k/\aEU r.1)\/(r.2≠0/\r.1=zA 0/\∀a,aFi N a->a.gA=k->b≠xB a)):=by
  intro a hL hk h1 h2;refine T.bind (aWW N (by omega) a hL) λc hc=>T.cond (λq=>T.ret ?_) λq=>T.ret ?_
  ·have q:c≠0:=by simpa using q
   refine .inr ⟨q,rfl,λa' g hk' e=>?_⟩
   have:=h2 a' g hk' e;subst this;exact q (hc.2 g)
  ·have q:c=0:=by simpa using q
   have g:=hc.1 q;exact .inl ⟨rfl,h1 g.own,g,hk,hL⟩
 unfold rY;rw[aKa N b,aa]
 have hk:k=1\/k=2\/k=3\/k=4\/(k≠1/\k≠2/\k≠3/\k≠4):=by omega
 rcases hk with rfl | rfl | rfl | rfl | ⟨n1,n2,n3,n4⟩
 ·rw[show((1:Int)==1)=true from rfl,cond_true]
  obtain⟨⟨m,e⟩,h0,h⟩:=aMb N (by omega) b hb;rw[h0,aa,aa]
  dsimp only at h ⊢;rw[aC]
  rcases h with ⟨rfl,h1,h2⟩ | ⟨h1,rfl,h3⟩
  ·rw[show((0:Int) != 0)=false from rfl,cond_false]
   refine fin (aI.mk 1 (aK.mk m.gG m.gL m.gJ) wI zW aAA) ⟨by dsimp only;have:=h2.nv;omega,by dsimp only;have:=h2.nv;have:=h2.nu;omega,by dsimp only;have:=h2.nt;omega,by simp[wI]⟩ rfl (λ_=>?_) λa' g hk' e=>?_
   ·rw[h1];rfl
   ·have hc:=g.clean.1 hk';have ho:aDq a'.gP:=by
     rcases g.own with ⟨_,o⟩ | ⟨o,_⟩ | ⟨o,_⟩ | ⟨o,_⟩
     ·exact o
     ·rw[hk'] at o;cases o
     ·rw[hk'] at o;cases o
     ·rw[hk'] at o;cases o
    have he:xB a'=wX a'.gP:=by unfold xB;rw[if_pos hk']
    have:=(aFs (x:=[]) (x':=[]) h2.r ho.r (by rw[cf,cf,<- h1,e,he])).1;rw[hc,<- this]
  ·rw[show(e != 0)=true by simpa using h1,cond_true,aC]
   refine T.ret (.inr ⟨h1,rfl,λa' g hk' he=>?_⟩)
   have ho:aDq a'.gP:=by
    rcases g.own with ⟨_,o⟩ | ⟨o,_⟩ | ⟨o,_⟩ | ⟨o,_⟩
    ·exact o
    ·rw[hk'] at o;cases o
    ·rw[hk'] at o;cases o
    ·rw[hk'] at o;cases o
   have he':xB a'=wX a'.gP:=by unfold xB;rw[if_pos hk']
   refine h3 a'.gP ho.r (by rw[he,he']) ?_;have h9:=g.own0;unfold nC at h9;rw[hk',show((1:Int)==1)=true from rfl,cond_true] at h9;cases hc:iI N a'.gP with
   | none=>rw[hc] at h9;cases h9
   | some r=>rw[hc] at h9;exact h9
 ·rw[show((2:Int)==1)=false from rfl,show((2:Int)==2)=true from rfl,cond_false,cond_true]
  obtain⟨⟨m,e⟩,h0,h⟩:=aOO N hN b hb hl;rw[h0,aa,aa]
  dsimp only at h ⊢;rw[aC]
  rcases h with ⟨rfl,h1,h2⟩ | ⟨h1,rfl,h3⟩
  ·rw[show((0:Int) != 0)=false from rfl,cond_false]
   have hn:m.gK.length<=500:=by
    have a1:=h2.side;have a2:=h2.n;have:m.gM*m.gM<=16*16:=gr a1.2 a1.2 (by omega) (by decide)
    omega
   refine fin (aI.mk 2 lV (aJ.mk m.gM m.gK) zW aAA) ⟨by simp[lV],by simp[lV],by simp[lV],hn⟩ rfl (λ_=>?_) λa' g hk' e=>?_
   ·rw[h1];rfl
   ·have hc:=g.clean.2.1 hk';have ho:aJO a'.gR:=by
     rcases g.own with ⟨o,_⟩ | ⟨_,o⟩ | ⟨o,_⟩ | ⟨o,_⟩
     ·rw[hk'] at o;cases o
     ·exact o
     ·rw[hk'] at o;cases o
     ·rw[hk'] at o;cases o
    have he:xB a'=aBg a'.gR:=by unfold xB;rw[if_neg (by omega),if_pos hk']
    have:=(aE5 (x:=[]) (x':=[]) h2.r ho.r (by rw[cf,cf,<- h1,e,he])).1;rw[hc,<- this]
  ·rw[show(e != 0)=true by simpa using h1,cond_true,aC]
   refine T.ret (.inr ⟨h1,rfl,λa' g hk' he=>?_⟩)
   have ho:aJO a'.gR:=by
    rcases g.own with ⟨o,_⟩ | ⟨_,o⟩ | ⟨o,_⟩ | ⟨o,_⟩
    ·rw[hk'] at o;cases o
    ·exact o
    ·rw[hk'] at o;cases o
    ·rw[hk'] at o;cases o
   have hn:a'.gR.gK.length<=500:=by
    have a1:=ho.side;have a2:=ho.n;have:a'.gR.gM*a'.gR.gM<=16*16:=gr a1.2 a1.2 (by omega) (by decide)
    omega
   have he':xB a'=aBg a'.gR:=by unfold xB;rw[if_neg (by omega),if_pos hk']
   refine h3 a'.gR ho.r hn (by rw[he,he']) ?_;have h9:=g.own0;unfold nC at h9;rw[hk',show((2:Int)==1)=false from rfl,show((2:Int)==2)=true from rfl,cond_false,cond_true] at h9;cases hc:cH N a'.gR with
   | none=>rw[hc] at h9;cases h9
   | some r=>rw[hc] at h9;exact h9
 ·rw[show((3:Int)==1)=false from rfl,show((3:Int)==2)=false from rfl,show((3:Int)==3)=true from rfl,cond_false,cond_false,cond_true]
  obtain⟨⟨b5,e5,v5⟩,k5,h5,_,_⟩:=aSF N (by omega) 1 (by decide) (by decide) b 0 hb;rw[show aX N 1 (aB.mk b 0 true)=_ from k5,aa]
  dsimp only at h5 ⊢;obtain⟨⟨b6,e6,m6,v6⟩,k6,h6,hm6⟩:=aQ1 N (by omega) 2 (by decide) (by decide) b5 e5 h5.1;rw[show bS N 2 (aB.mk b5 e5 true)=_ from k6,aa]
  dsimp only at h6 hm6 ⊢;subst hm6;obtain⟨⟨b7,e7,v7⟩,k7,h7,_,_⟩:=aSF N (by omega) 2 (by decide) (by decide) b6 e6 h6.1;rw[show aX N 2 (aB.mk b6 e6 true)=_ from k7,aa]
  dsimp only at h7 ⊢;have hq:=(h5.seq (λx=>bM 1 x) h6).seq (c:=7) (λx=>by simp[bM,qE]) h7;obtain⟨c,k8,h8⟩:=endQ N hq;rw[k8,aa,aa]
  dsimp only;rw[aC]
  have eB:∀m:aG,m=aG.mk v5 v6 v7->(leB 1 v5++trB 2 v6)++leB 2 v7=aFr m:=by rintro m rfl;unfold aFr;rw[am]
  rcases h8 with ⟨rfl,h1,⟨g1,g2⟩,g3⟩ | ⟨h1,h2⟩
  ·rw[show((0:Int) != 0)=false from rfl,cond_false]
   have G:aLP (aG.mk v5 v6 v7):=⟨g1,g2,g3⟩
   refine fin (aI.mk 3 lV wI (aG.mk v5 v6 v7) aAA) ⟨by simp[lV],by simp[lV],by simp[lV],by simp[wI]⟩ rfl (λ_=>?_) λa' g hk' e=>?_
   ·rw[h1];exact eB _ rfl
   ·have hc:=g.clean.2.2.1 hk';have ho:aLP a'.gI:=by
     rcases g.own with ⟨o,_⟩ | ⟨o,_⟩ | ⟨_,o⟩ | ⟨o,_⟩
     ·rw[hk'] at o;cases o
     ·rw[hk'] at o;cases o
     ·exact o
     ·rw[hk'] at o;cases o
    have he:xB a'=aFr a'.gI:=by unfold xB;rw[if_neg (by omega),if_neg (by omega),if_pos hk']
    have:=(aMn (x:=[]) (x':=[]) G ho (by rw[cf,cf,<- he,<- e,h1];exact(eB _ rfl).symm)).1;rw[hc,<- this]
  ·rw[show(c != 0)=true by simpa using h1,cond_true,aC]
   refine T.ret (.inr ⟨h1,rfl,λa' g hk' he=>?_⟩)
   have ho:aLP a'.gI:=by
    rcases g.own with ⟨o,_⟩ | ⟨o,_⟩ | ⟨_,o⟩ | ⟨o,_⟩
    ·rw[hk'] at o;cases o
    ·rw[hk'] at o;cases o
    ·exact o
    ·rw[hk'] at o;cases o
   have he':xB a'=aFr a'.gI:=by unfold xB;rw[if_neg (by omega),if_neg (by omega),if_pos hk']
   rw[he'] at he;rcases h2 with h2 | ⟨t,ht,h2,⟨g1,g2⟩,g3⟩
   ·rw[he,aRt] at h2;omega
   ·rw[he] at h2;have h2':aFr a'.gI=(leB 1 v5++trB 2 v6)++leB 2 v7++t:=h2;rw[eB _ rfl] at h2';have:=(aMn (x:=[]) (x':=t) ho (show aLP (aG.mk v5 v6 v7) from⟨g1,g2,g3⟩) (by rw[cf];exact h2')).2;exact ht this.symm
 ·rw[show((4:Int)==1)=false from rfl,show((4:Int)==2)=false from rfl,show((4:Int)==3)=false from rfl,show((4:Int)==4)=true from rfl,cond_false,cond_false,cond_false,cond_true]
  obtain⟨⟨b5,e5,v5⟩,k5,h5,_,_⟩:=aSF N (by omega) 1 (by decide) (by decide) b 0 hb;rw[show aX N 1 (aB.mk b 0 true)=_ from k5,aa]
  dsimp only at h5 ⊢;obtain⟨⟨b6,e6,m6,v6⟩,k6,h6,hm6⟩:=aQ1 N (by omega) 4 (by decide) (by decide) b5 e5 h5.1;rw[show bS N 4 (aB.mk b5 e5 true)=_ from k6,aa]
  dsimp only at h6 hm6 ⊢;subst hm6;obtain⟨⟨b7,e7,m7,v7⟩,k7,h7,hm7⟩:=aNZ N (by omega) b6 e6 h6.1;rw[k7,aa]
  dsimp only at h7 hm7 ⊢;subst hm7;obtain⟨⟨b8,e8,m8,v8⟩,k8,h8,hm8⟩:=aNZ N (by omega) b7 e7 h7.1;rw[k8,aa]
  dsimp only at h8 hm8 ⊢;subst hm8;obtain⟨⟨b9,e9,m9,v9⟩,k9,h9,hm9⟩:=aNZ N (by omega) b8 e8 h8.1;rw[k9,aa]
  dsimp only at h9 hm9 ⊢;subst hm9;have hq:=(((h5.seq (λx=>bM 1 x) h6).seq (c:=13) (λx=>by simp[bM,qE]) h7).seq (c:=19) (λx=>by simp[bM,qE,qX]) h8).seq (c:=25) (λx=>by simp[bM,qE,qX]) h9;obtain⟨c,k10,h10⟩:=endQ N hq;rw[k10,aa,aa]
  dsimp only;rw[aC]
  have eB:∀m:aL,m=aL.mk v5 v6 v7 v8 v9->(((leB 1 v5++trB 4 v6)++ptB v7)++ptB v8)++ptB v9=aFl m:=by rintro m rfl;unfold aFl;simp[am]
  rcases h10 with ⟨rfl,h1,⟨⟨⟨⟨g1,g2⟩,g3⟩,g4⟩,g5⟩⟩ | ⟨h1,h2⟩
  ·rw[show((0:Int) != 0)=false from rfl,cond_false]
   have G:aRK (aL.mk v5 v6 v7 v8 v9):=⟨g1,g2,g3,g4,g5⟩
   refine fin (aI.mk 4 lV wI zW (aL.mk v5 v6 v7 v8 v9)) ⟨by simp[lV],by simp[lV],by simp[lV],by simp[wI]⟩ rfl (λ_=>?_) λa' g hk' e=>?_
   ·rw[h1];exact eB _ rfl
   ·have hc:=g.clean.2.2.2 hk';have ho:aN0 a'.gD:=by
     rcases g.own with ⟨o,_⟩ | ⟨o,_⟩ | ⟨o,_⟩ | ⟨_,o⟩
     ·rw[hk'] at o;cases o
     ·rw[hk'] at o;cases o
     ·rw[hk'] at o;cases o
     ·exact o
    have he:xB a'=aFl a'.gD:=by unfold xB;rw[if_neg (by omega),if_neg (by omega),if_neg (by omega)]
    have:=(aMT (x:=[]) (x':=[]) G ho.r (by rw[cf,cf,<- he,<- e,h1];exact(eB _ rfl).symm)).1;rw[hc,<- this]
  ·rw[show(c != 0)=true by simpa using h1,cond_true,aC]
   refine T.ret (.inr ⟨h1,rfl,λa' g hk' he=>?_⟩)
   have ho:aN0 a'.gD:=by
    rcases g.own with ⟨o,_⟩ | ⟨o,_⟩ | ⟨o,_⟩ | ⟨_,o⟩
    ·rw[hk'] at o;cases o
    ·rw[hk'] at o;cases o
    ·rw[hk'] at o;cases o
    ·exact o
   have he':xB a'=aFl a'.gD:=by unfold xB;rw[if_neg (by omega),if_neg (by omega),if_neg (by omega)]
   rw[he'] at he;rcases h2 with h2 | ⟨t,ht,h2,⟨⟨⟨⟨g1,g2⟩,g3⟩,g4⟩,g5⟩⟩
   ·rw[he,aRg] at h2;omega
   ·rw[he] at h2;have h2':aFl a'.gD=(((leB 1 v5++trB 4 v6)++ptB v7)++ptB v8)++ptB v9++t:=h2;rw[eB _ rfl] at h2';have:=(aMT (x:=[]) (x':=t) ho.r (show aRK (aL.mk v5 v6 v7 v8 v9) from⟨g1,g2,g3,g4,g5⟩) (by rw[cf];exact h2')).2;exact ht this.symm
 ·rw[show(k==1)=false by simpa using n1,show(k==2)=false by simpa using n2,show(k==3)=false by simpa using n3,show(k==4)=false by simpa using n4,cond_false,cond_false,cond_false,cond_false,aa]
  dsimp only;rw[aC,show((0:Int) != 0)=false from rfl,cond_false]
  have no:∀a:aI,a.gA=k->¬aLe a:=by
   intro a hk g;rcases g with ⟨g,_⟩ | ⟨g,_⟩ | ⟨g,_⟩ | ⟨g,_⟩ <;> omega
  exact fin (aI.mk k lV wI zW aAA) ⟨by simp[lV],by simp[lV],by simp[lV],by simp[wI]⟩ rfl (λg=>absurd g (no _ rfl)) λa' g hk' e=>absurd g.own (no _ hk')
set_option maxHeartbeats 1000000
def aAc(base:Vector Int 8)(m:aE):List Int:=[85,77,66,49]++(base.toList++aHA m)
theorem aGQ(base:Vector Int 8)(m:aE):(aAc base m).length=47:=by unfold aAc;simp[aMa]
def aCI(N:Nat)(key:Vector Int 32)(base:Vector Int 8)(m:aE):List Int:=aGm N key (aHt N base 0) (aAc base m) []
theorem aF4(N:Nat)(hN:70000<=N)(key:Vector Int 32)(base:Vector Int 8)(m:aE):(aCI N key base m).length=16:=by
 unfold aCI;rw[aQM N hN key _ _ (by simp)];rfl
def aDU(i n:Nat):List Int:=leB 2 (i:Int)++leB 2 (n:Int)
theorem aBb(i n:Nat):(aDU i n).length=4:=by unfold aDU;simp[bM]
theorem aIC(i n:Nat):aN (aDU i n):=(aBE _ _).app (aBE _ _)
def nCh(n:Nat):Nat:=(n+255) / 256
theorem nCh_e(n:Nat):sM (n:Int)=(nCh n:Int):=by unfold sM nCh;split <;> omega
theorem aOF(k:Int):aAJ k<=2048:=by unfold aAJ;split;decide;split;decide;split;decide;split <;> decide
theorem aFi.len{N:Nat}{a:aI}(g:aFi N a):(xB a).length<=2048:=by have:=g.cap;have:=aOF a.gA;omega
theorem toB'{x:Int}(h:isB x):((UInt8.ofNat x.toNat).toNat:Int)=x:=by
 obtain⟨h0,h1⟩:=h;have e:(UInt8.ofNat x.toNat).toNat=x.toNat % 256:=UInt8.toNat_ofNat';rw[e];omega
theorem aMj : ∀{a b:List Int},aN a->aN b->(a.map λx=>UInt8.ofNat x.toNat)=(b.map λx=>UInt8.ofNat x.toNat)->a=b
 | [],[],_,_,_=>rfl
 | [],b :: l,_,_,h=>by simp at h
 | a :: l,[],_,_,h=>by simp at h
 | a :: l,b :: r,ha,hb,h=>by
  simp only[List.map_cons,List.cons.injEq] at h;have h1:=congrArg (λu:UInt8=>(u.toNat:Int)) h.1;rw[toB' (ha a (by simp)),toB' (hb b (by simp))] at h1;rw[h1,aMj (λx hx=>ha x (by simp[hx])) (λx hx=>hb x (by simp[hx])) h.2]
theorem aNB(N:Nat){a b:List Int}(ha:aN a)(hb:aN b):tM N a b=some (decide (a=b)):=by
 unfold tM;rw[aC]
 congr 1;rw[ByteArray.toList_eq,ByteArray.toList_eq,j8,beq_iff_eq,decide_eq_true_eq]
 unfold aIi;dsimp only;exact⟨aMj ha hb,λh=>by rw[h]⟩
theorem aUf(N:Nat){a b:List Int}(ha:aN a)(hb:aN b):tT N a b=some (decide (a.take b.length=b)):=by
 unfold tT;rw[aC]
 by_cases h:b.length<=a.length
 ·rw[dt,cond_true,nQ h,aa,aNB N (ha.take _) hb]
  rfl
 ·rw[df,cond_false]
  have:¬a.take b.length=b:=λe=>by have:=congrArg dr e;rw[ca] at this;omega
  rw[df this]
  rfl
theorem aPz{base base':Vector Int 8}{m m':aE}(r:aLE m)(r':aLE m')(h:aAc base m=aAc base' m'):base=base'/\m=m':=by
 unfold aAc at h;have h:=List.append_cancel_left h;obtain⟨h1,h2⟩:=cm h (by simp)
 exact⟨ez.1 h1,aRu r r' h2⟩
theorem aUd : aN [85,77,66,49]:=by
 intro x hx;simp only[d9,dy,or_false] at hx;rcases hx with rfl | rfl | rfl | rfl <;> exact⟨by decide,by decide⟩
theorem cut5(a b c d e:List Int)(ha:a.length=4)(hb:b.length=8)(hc:c.length=35)(hd:d.length=16) :
  (a++(b++(c++(d++e)))).take 4=a/\((a++(b++(c++(d++e)))).take 12).drop 4=b/\((a++(b++(c++(d++e)))).take 47).drop 12=c/\(a++(b++(c++(d++e)))).take 47=a++(b++c)/\((a++(b++(c++(d++e)))).take 63).drop 47=d/\(a++(b++(c++(d++e)))).drop 63=e:=by
 have ta:∀n,4<=n->a.take n=a:=λn h=>bf (by omega)
 have tb:∀n,8<=n->b.take n=b:=λn h=>bf (by omega)
 have tc:∀n,35<=n->c.take n=c:=λn h=>bf (by omega)
 have td:∀n,16<=n->d.take n=d:=λn h=>bf (by omega)
 have da:∀n,4<=n->a.drop n=[]:=λn h=>hW (by omega)
 have db:∀n,8<=n->b.drop n=[]:=λn h=>hW (by omega)
 have dc:∀n,35<=n->c.drop n=[]:=λn h=>hW (by omega)
 have dd:∀n,16<=n->d.drop n=[]:=λn h=>hW (by omega)
 refine⟨?_,?_,?_,?_,?_,?_⟩ <;> simp[List.take_append,List.drop_append,ha,hb,hc,hd,ta,tb,tc,td,da,db,dc,dd]
def aCT(N:Nat)(key:Vector Int 32)(base:Vector Int 8)(m:aE)(b:List Int):Prop:=
 eD base/\aLE m/\zQ m=0/\b=aAc base m++(aCI N key base m++b.drop 63)
theorem aCT.len{N:Nat}(hN:70000<=N){key:Vector Int 32}{base:Vector Int 8}{m:aE}{b:List Int}(h:aCT N key base m b):63<=b.length:=by
 have:=congrArg dr h.2.2.2;rw[ah,ah,aGQ,aF4 N hN] at this;omega
theorem aCT.parts{N:Nat}(hN:70000<=N){key:Vector Int 32}{base:Vector Int 8}{m:aE}{b:List Int}(h:aCT N key base m b) :
  b.take 4=[85,77,66,49]/\(b.take 12).drop 4=base.toList/\(b.take 47).drop 12=aHA m/\b.take 47=aAc base m/\(b.take 63).drop 47=aCI N key base m:=by
 have c:=cut5 [85,77,66,49] base.toList (aHA m) (aCI N key base m) (b.drop 63) rfl (by simp) (aMa m) (aF4 N hN key base m)
 have e:[85,77,66,49]++(base.toList++(aHA m++(aCI N key base m++b.drop 63)))=b:=by
  conv=>rhs;rw[h.2.2.2]
  unfold aAc;simp only[am]
 rw[e] at c;exact⟨c.1,c.2.1,c.2.2.1,c.2.2.2.1,c.2.2.2.2.1⟩
theorem aCT.of{N:Nat}(hN:70000<=N)(key:Vector Int 32){base:Vector Int 8}{m:aE}(hb:eD base)(r:aLE m)(h0:zQ m=0)(x:List Int):aCT N key base m (aAc base m++(aCI N key base m++x))/\(aAc base m++(aCI N key base m++x)).drop 63=x:=by
 have e:(aAc base m++(aCI N key base m++x)).drop 63=x:=by
  rw[<- am,jl (by rw[ah,aGQ,aF4 N hN])]
 exact⟨⟨hb,r,h0,by rw[e]⟩,e⟩
theorem peekT(N:Nat)(hN:70000<=N)(key:Vector Int 32)(b:List Int)(hb:aN b)(hl:b.length<=100000) :
  T (tF N key b) (λr=>(r.2=0/\∃base,aCT N key base r.1 b)\/(r.2≠0/\r.1=zM/\∀base m,¬aCT N key base m b)):=by
 unfold tF;rw[aC]
 refine T.cond (λc=>T.ret (.inr ⟨(show(4:Int)≠0 by decide),rfl,λbase m h=>?_⟩)) λc=>?_
 ·have:=h.len hN;have:=of_decide_eq_true c;omega
 have c:63<=b.length:=by have:=of_decide_eq_false c;omega
 rw[aUf N hb aUd,aa]
 refine T.cond (λc2=>T.ret (.inr ⟨(show(5:Int)≠0 by decide),rfl,λbase m h=>?_⟩)) λc2=>?_
 ·rw[show decide (b.take ([85,77,66,49]:List Int).length=[85,77,66,49])=true from decide_eq_true (h.parts hN).1] at c2;cases c2
 have c2:b.take 4=[85,77,66,49]:=by
  cases hd:decide (b.take ([85,77,66,49]:List Int).length=[85,77,66,49]) with
  | true=>exact of_decide_eq_true hd
  | false=>rw[hd] at c2;cases c2
 refine T.bind (T.slc (by decide) (by decide) (by omega)) λs3 h3=>T.bind (T.vec (by have:=h3.2;omega)) λv4 h4=>?_;rw[bf (by have:=h3.2;omega),h3.1,show(12:Int).toNat=12 from rfl,show(4:Int).toNat=4 from rfl] at h4;have hv4:eD v4:=by unfold eD;rw[h4];exact(hb.take _).drop _
 rw[aRk N (by omega),aa]
 refine T.bind (T.slc (by decide) (by decide) (by omega)) λs6 h6=>T.bind (T.slc (by decide) (by decide) (by omega)) λs7 h7=>?_;have e6:s6=b.take 47:=h6.1;have e7:s7=(b.take 63).drop 47:=h7.1;subst e6 e7;obtain⟨r8,e8,h8⟩:=aVL N hN key (aHt N v4 0) (b.take 47) ((b.take 63).drop 47) ((hb.take _).drop _) (by simp;omega) (by simp;omega)
 rw[e8,aa]
 refine T.cond (λc8=>?_) λc8=>?_
 ·refine T.ret (.inr ⟨by simpa using c8,rfl,λbase m h=>?_⟩)
  obtain⟨q1,q2,q3,q4,q5⟩:=h.parts hN;have hbase:v4=base:=ez.1 (by rw[h4,q2])
  subst hbase;have e9:kG N key (aHt N v4 0) (b.take 47) ((b.take 63).drop 47)=some ([],0):=by
   rw[q4,q5]
   exact aSM N hN key (aHt N v4 0) (aAc v4 m) [] aBK (by rw[aGQ];omega) (by simp)
  rw[e8] at e9;rw[Option.some.inj e9] at c8;cases c8
 ·have c8:r8.2=0:=by simpa using c8
  obtain⟨p,e⟩:=r8;dsimp only at c8;subst c8;rcases h8 with ⟨_,g1,g2,g3⟩ | ⟨_,g⟩
  rotate_left
  ·dsimp only at g;rcases g with g | g <;> cases g
  dsimp only at g1 g2 g3;have hp:p=[]:=dp (by rw[bw,ca] at g2;omega)
  subst hp;refine T.bind (T.slc (by decide) (by decide) (by omega)) λs9 h9=>?_;have e9:s9=(b.take 47).drop 12:=h9.1;subst e9;refine T.bind (aUI N (by omega) _ ((hb.take _).drop _) (by simp;omega)) λr10 h10=>T.ret ?_;obtain⟨m,rm,hm,hr⟩:=h10;have hhead:b.take 47=aAc v4 m:=by
   have e1:b.take 47=b.take 4++((b.take 12).drop 4++(b.take 47).drop 12):=by
    apply du;intro i;by_cases h1:i < 4
    ·rw[cj (by simp;omega),ek (by omega),ek h1]
    ·rw[ck (by simp;omega),show(b.take 4).length=4 by simp;omega]
     by_cases h2:i < 12
     ·rw[cj (by simp;omega),eo,ek (by omega),ek (by omega)]
      congr 1;omega
     ·rw[ck (by simp;omega),show((b.take 12).drop 4).length=8 by simp;omega,eo]
      congr 1;omega
   rw[e1,c2,<- h4,<- hm];rfl
  have hb63:b=aAc v4 m++(aCI N key v4 m++b.drop 63):=by
   unfold aCI;rw[<- hhead,<- g3,<- am]
   have:b.take 47++(b.take 63).drop 47=b.take 63:=by
    have:=fe 47 (b.take 63)
    rw[List.take_take] at this;exact this
   rw[this,fe]
  by_cases h0:zQ m=0
  ·rw[if_pos h0] at hr;rw[hr]
   exact .inl ⟨rfl,v4,hv4,rm,h0,hb63⟩
  ·rw[if_neg h0] at hr;rw[hr]
   refine .inr ⟨h0,rfl,λbase m' h=>h0 ?_⟩
   obtain⟨q1,q2,q3,q4,q5⟩:=h.parts hN;obtain⟨_,rfl⟩:=aPz rm h.2.1 (by rw[<- hhead,q4])
   exact h.2.2.1
end Go.UK
