/- A part of the proof: what the functions of the program compute. -/
import Derived.Test.YtbfieohdmihfpaaGreatDoorJ2
open Bool renaming and_eq_true→b9,not_true→gc
open Int renaming mul_le_mul→jb,toNat_natCast→bu
open List renaming append_assoc→an,append_nil→dp,drop_eq_getElem_cons→co,drop_length→fj,flatMap_cons→d8,flatMap_map→mq,getD_cons_succ→lf,getD_cons_zero→l9,getD_eq_getElem?_getD→ap,getElem?_eq_getElem→af,getElem_mem→cm,length→md,length_append→ai,length_cons→dc,length_drop→cd,length_nil→n8,mem_cons→cx,nil_append→dn,not_mem_nil→dk,range→bq,range_succ_eq_map→ke,take→mh,take_length→ja,take_of_length_le→aq,take_succ→ik,take_zero→j2,zipWith→nk
open Option renaming bind→ae,bind_some→aa
open Vector renaming replicate→ah
namespace Go.UK
open Go Go.Proofs
set_option maxRecDepth 20000
set_option maxHeartbeats 1000000
set_option linter.all false
theorem T.vec{α:Type}{n:Nat}{l:List α}(h:n<=l.length):T (aGW n l) (λv=>v.toList=l.take n):=by
 unfold aGW;rw[dif_pos h]
 exact⟨_,rfl,by simp⟩
theorem T.app{α:Type}{b:Nat}{l r:List α}(h:(l.length+r.length)*b<=140737488355328:=by omega):T (fL b l r) (λx=>x=l++r):=⟨_,dG h,rfl⟩
theorem aDc(a b:Nat):lH (a:Int) (b:Int)=((min a b:Nat):Int):=by unfold lH;split <;> omega
theorem aU7(N:Nat)(hN:20 < N)(v:Vector Int 16):T (qJ N v) (λ_=>True):=by
 unfold qJ;refine T.bind (T.loop0 (n:=4) (by decide) (λ_ _=>True) (F:=jE N) (λk s i hi _ Q hk=>?_) (λk s=>by rw[jE,df,cond_false]) (by omega) trivial) λv _=>T.ret trivial;rw[jE,dt,cond_true,show(4:Int)=((4:Nat):Int) from rfl,i4]
 have f3:I64 (((4*i:Nat):Int)+3)=((4*i+3:Nat):Int):=by rw[aT];omega
 rw[f3]
 refine T.bind (P:=λ_=>True) ?_ λ_ _=>by rw[cI];exact hk _ trivial
 refine T.letO λx hx=>?_;subst hx;refine T.bind (T.inRO) λ_ _=>T.bind (T.vget) λ_ _=>T.bind (T.inRO) λ_ _=>T.bind (T.vget) λ_ _=>?_;refine T.cond (λ_=>?_) (λ_=>T.ret trivial)
 exact T.bind (T.inRO) λ_ _=>T.bind (T.vget) λ_ _=>T.bind (T.inRO) λ_ _=>T.bind (T.vget) λ_ _=>T.ret trivial
theorem newT(N:Nat)(hN:20 < N)(key:Vector Int 32):T (uZ N key) (λr=>isU r.1/\isU r.2.1/\isU r.2.2.1/\isU r.2.2.2):=by
 unfold uZ;refine T.bind (T.slc) λs1 h1=>T.bind (T.vec (by have:=h1.2;omega)) λv2 _=>T.bind (aU7 N hN v2) λr3 _=>?_;refine T.bind (T.slc) λs4 h4=>T.bind (aFS N hN s4 (by have:=h4.2;omega)) λr5 h5=>?_;refine T.bind (T.slc) λs6 h6=>T.bind (aFS N hN s6 (by have:=h6.2;omega)) λr7 h7=>?_;refine T.bind (T.slc) λs8 h8=>T.bind (aFS N hN s8 (by have:=h8.2;omega)) λr9 h9=>?_;refine T.bind (T.slc) λs10 h10=>T.bind (aFS N hN s10 (by have:=h10.2;omega)) λr11 h11=>?_;exact T.ret ⟨h5,h7,h9,h11⟩
theorem cpV17(s:List Int):∃v,cpV (ah 17 (0:Int)) s 0 16=some v:=by
 unfold cpV;rw[dif_pos (by decide)]
 exact⟨_,rfl⟩
theorem aN2(N:Nat):∀(k:Nat) (s:List (Vector Int 17)) (m:List Int),m.length < k->m.length<=65536->s.length<=1000000 - m.length->T (jR N k s m) (λr=>r.length=s.length+(m.length+15) / 16)
 | 0,_,_,h,_,_=>by omega
 | k+1,s,m,h,hm,hs=>by
  rw[jR]
  refine T.letO λx hx=>?_;subst hx;refine T.cond (λhc=>?_) (λhc=>?_)
  ·have hc:0 < m.length:=by simpa using hc
   refine T.bind (o:=aE7 17 0 16) ⟨(),rfl,trivial⟩ λ_ (_:True)=>?_;obtain⟨v,hv⟩:=cpV17 m;rw[hv,aa]
   refine T.letO λx hx=>?_;subst hx;refine T.bind (T.inRO) λ_ _=>T.bind (T.vget) λ_ _=>T.bind (T.app (by simp;omega)) λz hz=>?_;subst hz;refine T.bind (T.slc (by omega) (by omega) (by omega)) λs14 h14=>?_;have h15:=h14.2;refine T.mono (aN2 N k _ s14 (by omega) (by omega) (by simp;omega)) λr hr=>?_;simp at hr;omega
  ·have hc:m.length=0:=by have:=of_decide_eq_false hc;omega
   exact T.ret (by omega)
theorem aNm(N:Nat)(m:List Int)(h:m.length < N:=by omega)(hm:m.length<=65536:=by omega):T (jU N m) (λr=>r.length=(m.length+15) / 16):=by
 unfold jU;refine T.letO λx hx=>?_;have hx:x=(m.length:Int):=by rw[hx];unfold lH;split <;> omega
 subst hx;refine T.bind (T.slc (by omega) (by omega) (by omega)) λs3 h3=>?_;have:=h3.2;refine T.bind (aN2 N N [] s3 (by omega) (by omega) (by rw[n8];omega)) λr hr=>T.ret ?_;rw[n8] at hr;omega
theorem aUc(N:Nat)(ms:List (List Int))(hms:ms.length < 1000):∀(k i:Nat) (s:List Int) (n:Nat),i<=ms.length->ms.length - i < k->n<=65536->s.length<=n->T (eG N ms k s (n:Int) (i:Int)) (λr=>r.1.length<=65536)
 | 0,_,_,_,_,h,_,_=>by omega
 | k+1,i,s,n,hi,hk,hn,hs=>by
  rw[eG,aB]
  by_cases h:i < ms.length
  ·rw[dt,cond_true]
   refine T.bind (T.idx) λe6 h6=>?_;have f:I64 (65536 - (n:Int))=((65536 - n:Nat):Int):=by rw[aT];omega
   rw[f,aB,aDc]
   refine T.bind (T.slc (by omega) (by omega) (by omega)) λs9 h9=>?_;have h10:=h9.2;rw[aB]
   refine T.bind (T.app) λz hz=>?_;subst hz;have f2:I64 ((n:Int)+(s9.length:Int))=((n+s9.length:Nat):Int):=by rw[aT];omega
   rw[f2,cI]
   exact aUc N ms hms k (i+1) _ _ (by omega) (by omega) (by omega) (by rw[ai];omega)
  ·rw[df,cond_false]
   exact T.ret (by dsimp only;omega)
theorem aT6(N:Nat)(hN:20 < N):∀(k:Nat) (h:Vector Int 3) (made:Bool) (r0 r1 s0 s1:Int) (rest:List Int) (all:Int),sZ h->rest.length < k->rest.length<=65536 ->
  T (eH N k h made r0 r1 s0 s1 rest all) (λr=>sZ r.1/\r.2.1=made/\r.2.2.1=r0/\r.2.2.2.1=r1/\r.2.2.2.2.1=s0/\r.2.2.2.2.2.1=s1/\r.2.2.2.2.2.2.1.length < 16)
 | 0,_,_,_,_,_,_,_,_,_,h,_=>by omega
 | k+1,h,made,r0,r1,s0,s1,rest,all,hh,hk,hl=>by
  rw[eH]
  refine T.letO λx hx=>?_;subst hx;refine T.cond (λhc=>?_) (λhc=>?_)
  ·have hc:16<=rest.length:=by have:=of_decide_eq_true hc;omega
   refine T.bind (T.slc (by omega) (by omega) (by omega)) λs22 h22=>?_;have h23:=h22.2;refine T.bind (aNm N s22) λr23 hr=>T.bind (T.idx) λe24 _=>?_;refine T.bind (aK7 N hN e24 r0 r1 _ hh) λr25 hr25=>?_;obtain⟨g1,g2⟩:=hr25;obtain⟨h',q⟩:=r25;dsimp only at g1 g2;subst g2;dsimp only;refine T.bind (T.slc (by omega) (by omega) (by omega)) λs26 h26=>?_;have:=h26.2;exact aT6 N hN k h' made r0 r1 s0 s1 s26 all g1 (by omega) (by omega)
  ·have hc:rest.length < 16:=by have:=of_decide_eq_false hc;omega
   exact T.ret ⟨hh,rfl,rfl,rfl,rfl,rfl,hc⟩
theorem z16 : fJ (ah 16 (0:Int)):=by unfold fJ aS isB;decide
theorem endT(N:Nat)(hN:20 < N)(h:Vector Int 3)(hh:sZ h)(s0 s1:Int)(h0:isU s0)(h1:isU s1):T (pL N (aG.mk h) s0 s1) fJ:=by
 unfold pL;refine T.bind (T.loop0 (n:=2) (by decide) (λ_ (v:Vector Int 3)=>sZ v) (F:=dB N) (λk s i hi hs Q hk=>?_) (λk s=>by rw[dB,df,cond_false]) (by omega) hh) λp1 hp=>?_
 ·rw[dB,dt,cond_true,cI]
  refine T.bind (P:=sZ) ?_ λv hv=>hk v hv;refine T.bind (T.inRO (by decide) (by decide)) λ_ _=>T.bind (T.vgetU hs) λe6 h6=>T.bind (T.add64 h6 aDt ⟨by decide,by decide⟩) λr7 h7=>?_;refine T.bind (T.inRO (by decide) (by decide)) λ_ _=>T.bind (T.vgetU hs) λe9 h9=>T.bind (T.add64 h9 xQ h7.2) λr10 h10=>?_;refine T.bind (T.inRO (by decide) (by decide)) λ_ _=>T.bind (T.vgetU hs) λe12 h12=>?_;refine T.letO λ_ _=>T.cond (λ_=>T.letO λ_ _=>T.ret (aFW h7.1 h10.1 (qS _))) (λ_=>T.ret hs)
 refine T.bind (T.inRO (by decide) (by decide)) λ_ _=>T.bind (T.vgetU hp) λe17 h17=>T.bind (T.add64 h17 h0 ⟨by decide,by decide⟩) λr18 h18=>?_;refine T.bind (T.inRO (by decide) (by decide)) λ_ _=>T.bind (T.vgetU hp) λe20 h20=>T.bind (T.add64 h20 h1 h18.2) λr21 h21=>?_;refine T.bind (T.loop0 (n:=8) (by decide) (λ_ (v:Vector Int 16)=>fJ v) (F:=eE N r18 r21) (λk s i hi hs Q hk=>?_) (λk s=>by rw[eE,df,cond_false]) (by omega) z16) λp22 h22=>T.ret h22;have vset:∀(v:Vector Int 16) (i:Nat) (x:Int),fJ v->fJ (v.setIfInBounds i (U8 x)):=by
  intro v i x hv y hy;have e:(v.setIfInBounds i (U8 x)).toList=v.toList.set i (U8 x):=by simp
  rw[e] at hy;rcases List.mem_or_eq_of_mem_set hy with h' | h'
  ·exact hv y h'
  ·rw[h'];exact aId _
 rw[eE,dt,cond_true,show(8:Int)=((8:Nat):Int) from rfl,i4,ia,cI]
 rw[jH .u64,aa,jH .u64,aa]
 refine T.bind (T.inRO) λ_ _=>T.bind (T.vget) λ_ _=>T.bind (T.inRO) λ_ _=>T.bind (T.vget) λ_ _=>?_;exact hk _ (vset _ _ _ (vset _ _ _ hs))
theorem sumT(N:Nat)(hN:2000 < N)(m:aM)(hh:sZ m.gA7.gh)(h0:isU m.gs0)(h1:isU m.gs1)(hr:m.gQ.length<=100)(hm:m.gP=true):T (pZ N m) fJ:=by
 unfold pZ;rw[hm,gc,cond_false]
 refine T.bind (aNm N m.gQ) λr1 hr1=>?_;refine T.bind (T.loop0 (n:=r1.length) (by omega) (λ_ (v:Vector Int 3)=>sZ v) (F:=iS N r1 m) (λk s i hi hs Q hk=>?_) (λk s=>by rw[iS,aB,df,cond_false]) (by omega) hh) λp2 hp2=>?_
 ·rw[iS,aB,dt,cond_true,cI]
  exact T.bind (T.idx) λe6 _=>T.bind (aIL N (by omega) e6 _ _ (aG.mk s) hs) λr7 h7=>hk r7 h7
 exact T.bind (endT N (by omega) p2 hp2 _ _ h0 h1) λr8 h8=>T.ret h8
theorem tagT(N:Nat)(hN:2000 < N)(key:Vector Int 32)(ms:List (List Int))(hms:ms.length < 1000)(hl:65536 < N):T (tT N key ms) fJ:=by
 unfold tT;refine T.bind (newT N (by omega) key) λr1 h1=>?_;obtain⟨u1,u2,u3,u4⟩:=h1;refine T.bind (P:=λr=>sZ r.2.1/\r.2.2.1=true/\r.2.2.2.2.2.1=r1.2.2.1/\r.2.2.2.2.2.2.1=r1.2.2.2/\r.2.2.2.2.2.2.2.1.length < 16) ?_ λr2 h2=>?_
 ·unfold rI;rw[gc,cond_false]
  refine T.bind (aUc N ms hms N 0 [] 0 (by omega) (by omega) (by omega) (by simp)) λp1 hp1=>?_;refine T.bind (aT6 N (by omega) N _ true _ _ _ _ p1.1 p1.2 (aFW xQ xQ xQ) (by omega) hp1) λp12 hp=>T.ret ?_;obtain⟨g1,g2,g3,g4,g5,g6,g7⟩:=hp;exact⟨g1,g2,g5,g6,g7⟩
 ·obtain⟨g1,g2,g5,g6,g7⟩:=h2;exact T.bind (sumT N hN _ g1 (by dsimp only;rw[g5];exact u3) (by dsimp only;rw[g6];exact u4) (by dsimp only;omega) g2) λr3 h3=>T.ret h3
theorem keyT(N:Nat)(hN:20 < N)(key:Vector Int 32)(n:Vector Int 12):T (vF N key n) (λ_=>True):=by
 unfold vF;exact T.bind (aLw N hN key 0 n) λr1 _=>T.bind (T.slc) λs3 h3=>T.bind (T.vec (by have:=h3.2;omega)) λ_ _=>T.ret trivial
theorem aUR(N:Nat)(l:List Int)(hl:l.length<=1000000):T (qQ N l) (λr=>r.length<=16):=by
 unfold qQ;refine T.letO λx hx=>T.letO λy hy=>?_;have hx1:x=((l.length % 16:Nat):Int):=by rw[hx];rfl
 have hy1:y=(((16 - l.length % 16) % 16:Nat):Int):=by
  have e:I64 (16 - x)=((16 - l.length % 16:Nat):Int):=by rw[hx1,aT];omega
  rw[hy,e];rfl
 subst hy1;rw[bu]
 refine T.bind (o:=mkO 1 _) (P:=λ_=>True) ⟨(),?_,trivial⟩ λ_ _=>T.bind (o:=aF7 _ _) (P:=λ_=>True) ⟨(),?_,trivial⟩ λ_ _=>T.ret ?_
 ·unfold mkO;rw[dt,dt,dt]
  rfl
 ·unfold aF7;rw[show((List.replicate ((16 - l.length % 16) % 16) (0:Int)).length.beq ((16 - l.length % 16) % 16))=true by simp]
  rfl
 ·simp;omega
theorem macT(N:Nat)(hN:70000<=N)(key:Vector Int 32)(n:Vector Int 12)(a c:List Int)(ha:a.length<=1000000)(hc:c.length<=1000000):T (rY N key n a c) fJ:=by
 unfold rY;refine T.bind (T.loop0 (n:=8) (by decide) (λ_ _=>True) (F:=jV N a c) (λk s i hi _ Q hk=>?_) (λk s=>by rw[jV,df,cond_false]) (by omega) trivial) λp1 _=>?_
 ·rw[jV,dt,cond_true,show(8:Int)=((8:Nat):Int) from rfl,i4,ia,cI,jH .i64,aa,jH .i64,aa]
  exact T.bind (T.inRO) λ_ _=>T.bind (T.vget) λ_ _=>T.bind (T.inRO) λ_ _=>T.bind (T.vget) λ_ _=>hk _ trivial
 refine T.bind (keyT N (by omega) key n) λr10 _=>T.bind (aUR N a ha) λr11 _=>T.bind (aUR N c hc) λr12 _=>T.bind (T.slc) λs13 _=>?_;exact T.bind (tagT N (by omega) r10 _ (by simp) (by omega)) λr14 h14=>T.ret h14
theorem aND(N:Nat)(hN:20 < N)(key:Vector Int 32)(n:Vector Int 12)(len:Nat)(hl:len<=65536):∀(k:Nat) (s:List Int) (c:Int),s.length<=len->len - s.length < k->T (jO N (len:Int) key n k s c) (λr=>r.length=len)
 | 0,_,_,_,h=>by omega
 | k+1,s,c,hs,hk=>by
  rw[jO,show lH (len:Int) 65536=(len:Int) by unfold lH;split <;> omega]
  refine T.letO λx hx=>?_;subst hx;refine T.cond (λhc=>?_) (λhc=>?_)
  ·have hc:s.length < len:=by have:=of_decide_eq_true hc;omega
   refine T.bind (aLw N hN key c n) λr5 _=>?_;have f:I64 ((len:Int) - (s.length:Int))=((len - s.length:Nat):Int):=by rw[aT];omega
   rw[f,aB,show(64:Int)=((64:Nat):Int) from rfl,aDc]
   refine T.bind (T.slc (by omega) (by omega) (by simp;omega)) λs9 h9=>?_;have h10:=h9.2;refine T.bind (T.app) λz hz=>?_;subst hz;exact aND N hN key n len hl k _ _ (by rw[ai];omega) (by rw[ai];omega)
  ·have hc:s.length=len:=by have:=of_decide_eq_false hc;omega
   exact T.ret hc
theorem aSm(N:Nat)(hN:70000<=N)(key:Vector Int 32)(c:Int)(n:Vector Int 12)(len:Nat)(hl:len<=65536):T (kZ N key c n (len:Int)) (λr=>r.length=len):=by
 unfold kZ;exact T.bind (aND N (by omega) key n len hl N [] c (by simp) (by simp;omega)) λp1 h=>T.ret h
def xT(d s:List Int):List Int:=nk (fG .u8) d s
theorem aHl{d s:List Int}(h:s.length=d.length):(xT d s).length=d.length:=by unfold xT;simp;omega
theorem aH3(d s:List Int):aS (xT d s):=by
 intro x hx;unfold xT at hx;rw[List.mem_iff_getElem?] at hx;obtain⟨i,hi⟩:=hx;rw[List.getElem?_zipWith] at hi;revert hi;cases d[i]? <;> cases s[i]? <;> intro hi <;> simp at hi;rw[<- hi];exact aVX
theorem aTz(N:Nat)(d st:List Int)(hs:st.length=d.length)(hl:d.length<=65536):∀(k i:Nat),i<=d.length->d.length - i < k->oD N st k (xT (d.take i) (st.take i)++d.drop i) (i:Int)=some (xT d st)
 | 0,_,_,h=>by omega
 | k+1,i,hi,hk=>by
  rw[oD,aB]
  have hz:(xT (d.take i) (st.take i)).length=i:=by rw[aHl (by simp;omega)];simp;omega
  by_cases h:i < d.length
  ·have hcat:(xT (d.take i) (st.take i)++d.drop i).length=d.length:=by rw[ai,hz,cd];omega
   have hget:(xT (d.take i) (st.take i)++d.drop i)[i]? = some d[i]:=by
    rw[List.getElem?_append_right (by omega),hz,Nat.sub_self,List.getElem?_drop,Nat.add_zero,af h]
   rw[dt,cond_true,cQ,aa,bR,aa,bu,hget,aa,aa]
   have hset:aOj (xT (d.take i) (st.take i)++d.drop i) i (fG .u8 d[i] st[i])=some (xT (d.take (i+1)) (st.take (i+1))++d.drop (i+1)):=by
    unfold aOj;rw[show Nat.blt i (xT (d.take i) (st.take i)++d.drop i).length=true by rw[hcat];exact Nat.ble_eq_true_of_le h,cond_true]
    congr 1;rw[List.set_append_right _ _ (by omega),hz,Nat.sub_self,co h,List.set_cons_zero]
    have e1:xT (d.take (i+1)) (st.take (i+1))=xT (d.take i) (st.take i)++[fG .u8 d[i] st[i]]:=by
     unfold xT;rw[ik,ik,af h,af (show i < st.length by omega)]
     show nk _ (mh i d++[d[i]]) (mh i st++[st[i]])=_;rw[List.zipWith_append (by simp;omega)]
     rfl
    rw[e1]
    simp
   rw[hset,aa,cI]
   exact aTz N d st hs hl k (i+1) (by omega) (by omega)
  ·obtain rfl:i=d.length:=by omega
   rw[df,cond_false,ja,aq (by omega),fj,dp]
def stV(N:Nat)(key:Vector Int 32)(n:Vector Int 12)(len:Nat):List Int:=(kZ N key 1 n (len:Int)).getD []
theorem aMp(N:Nat)(hN:70000<=N)(key:Vector Int 32)(n:Vector Int 12)(len:Nat)(hl:len<=65536):kZ N key 1 n (len:Int)=some (stV N key n len)/\(stV N key n len).length=len:=by
 obtain⟨r,h1,h2⟩:=aSm N hN key 1 n len hl;unfold stV;rw[h1]
 exact⟨rfl,h2⟩
def aBE(N:Nat)(key:Vector Int 32)(n:Vector Int 12)(d:List Int):List Int:=xT d (stV N key n d.length)
theorem aEJ(N:Nat)(hN:70000<=N)(key:Vector Int 32)(n:Vector Int 12){d:List Int}(hl:d.length<=65536:=by omega):(aBE N key n d).length=d.length:=aHl (aMp N hN key n _ hl).2
theorem xorP(N:Nat)(hN:70000<=N)(key:Vector Int 32)(n:Vector Int 12)(d:List Int)(hl:d.length<=65536):xU N key 1 n [d]=some (aBE N key n d):=by
 obtain⟨h1,h2⟩:=aMp N hN key n _ hl;unfold xU;have hL1:lA N [d] N [] 0=some d:=by
  obtain⟨m,rfl⟩:∃m,N=m+2:=⟨N - 2,by omega⟩
  rw[show lA (m+2) [d] (m+2) [] 0=lA (m+2) [d] (m+1+1) [] 0 from rfl,lA,aB,dt (by simp),cond_true,show idx [d] 0=some d from rfl,aa]
  have f:I64 (65536 - (([]:List Int).length:Int))=65536:=by decide
  rw[f,aB,aB,show lH (d.length:Int) 65536=(d.length:Int) by unfold lH;split <;> omega,pE,aa,bu,ja]
  have e:(List.drop (0:Int).toNat d)=d:=rfl;rw[e,dG (by simp;omega),aa,dn,lA,aB]
  rfl
 rw[hL1,aa,h1,aa]
 have:=aTz N d _ h2 hl N 0 (by omega) (by omega)
 rw[j2,j2,List.drop_zero] at this;rw[show oD N (stV N key n d.length) N d 0=some (xT d (stV N key n d.length)) from this]
 rfl
def aF0(N:Nat)(key:Vector Int 32)(n:Vector Int 12)(a c:List Int):Vector Int 16:=(rY N key n a c).getD (ah 16 0)
theorem macP(N:Nat)(hN:70000<=N)(key:Vector Int 32)(n:Vector Int 12)(a c:List Int)(ha:a.length<=1000000:=by omega)(hc:c.length<=1000000:=by omega):rY N key n a c=some (aF0 N key n a c)/\fJ (aF0 N key n a c):=by
 obtain⟨r,h1,h2⟩:=macT N hN key n a c ha hc;unfold aF0;rw[h1]
 exact⟨rfl,h2⟩
def aA6(N:Nat)(key:Vector Int 32)(n:Vector Int 12)(a p:List Int):List Int:=aBE N key n p++(aF0 N key n a (aBE N key n p)).toList
theorem aB4(N:Nat)(hN:70000<=N)(key:Vector Int 32)(n:Vector Int 12)(a:List Int){p:List Int}(hl:p.length<=65536:=by omega):(aA6 N key n a p).length=p.length+16:=by
 unfold aA6;rw[ai,aEJ N hN key n hl]
 simp
theorem aFD(N:Nat)(hN:70000<=N)(key:Vector Int 32)(n:Vector Int 12)(a:List Int){p:List Int}(ha:a.length<=1000000)(hl:p.length<=65536):aS (aA6 N key n a p):=
 (aH3 _ _).app (macP N hN key n a _ ha (by rw[aEJ N hN key n hl];omega)).2
theorem aUi(N:Nat)(hN:70000<=N)(key:Vector Int 32)(n:Vector Int 12)(a p:List Int)(ha:a.length<=16384)(hp:p.length<=16384):wA N key n a p=some (aA6 N key n a p,0):=by
 unfold wA;have hx:=aEJ N hN key n (d:=p)
 rw[aB,aB,df,df,cond_false,cond_false,xorP N hN key n p (by omega),aa,(macP N hN key n a _).1,aa]
 have hs:dM (aF0 N key n a (aBE N key n p)).toList 0 16=some (aF0 N key n a (aBE N key n p)).toList:=aKA (m:=16) _;rw[hs,aa,aQM N [aBE N key n p,(aF0 N key n a (aBE N key n p)).toList] (by simp) (by show 2 < N;omega) (by intro l hl;simp only[cx,dk,or_false] at hl;rcases hl with rfl | rfl;omega;simp),aa]
 congr 2;simp[aA6]
theorem aWY(N:Nat)(hN:20 < N)(base:Vector Int 8)(i:Int):T (jY N base i) (λ_=>True):=by
 unfold jY;refine T.bind (o:=aE7 12 0 12) (P:=λ_=>True) ⟨(),rfl,trivial⟩ λ_ _=>T.bind (T.slc) λs2 _=>?_;refine T.bind (P:=λ_=>True) ?_ λv3 _=>?_
 ·unfold cpV;rw[dif_pos (by decide)]
  exact⟨_,rfl,trivial⟩
 refine T.bind (T.loop0 (n:=4) (by decide) (λ_ _=>True) (F:=fI N i) (λk s j hj _ Q hk=>?_) (λk s=>by rw[fI,df,cond_false]) (by omega) trivial) λp1 _=>T.ret trivial;rw[fI,dt,cond_true,show(8:Int)=((8:Nat):Int) from rfl,i4,ia,cI,jH .i64,aa]
 exact T.bind (T.inRO) λ_ _=>T.bind (T.vget) λ_ _=>hk _ trivial
def aJ1(N:Nat)(base:Vector Int 8)(i:Int):Vector Int 12:=(jY N base i).getD (ah 12 0)
theorem nonP(N:Nat)(hN:20 < N)(base:Vector Int 8)(i:Int):jY N base i=some (aJ1 N base i):=by
 obtain⟨r,h,_⟩:=aWY N hN base i;unfold aJ1;rw[h]
 rfl
theorem aIk : aS []:=by intro x hx;cases hx
def xM(k:Int):Int:=if k=1 then 2048 else if k=2 then 1024 else if k=3 then 64 else if k=4 then 64 else 0
theorem capP(N:Nat)(k:Int):rX N k=some (xM k):=by
 unfold rX xM;rw[aB]
 by_cases h:k < 0\/5<=k
 ·rw[show cond (decide (k < 0)) true (decide (k>=5))=true by rcases h with h | h;rw[dt h];rfl;rw[df (show ¬k < 0 by omega),dt (show k>=5 by omega)];rfl,cond_true]
  rw[if_neg (by omega),if_neg (by omega),if_neg (by omega),if_neg (by omega)]
 ·rw[df (show ¬k < 0 by omega),df (show ¬k>=5 by omega),cond_false,cond_false,bR,aa]
  have:k=0\/k=1\/k=2\/k=3\/k=4:=by omega
  rcases this with rfl | rfl | rfl | rfl | rfl <;> rfl
def qE(s:Int):Int:=if s < 1 then 0 else(s - 1) / 256+1
theorem aJO(N:Nat){s:Int}(h:aDG s):oH N s=some (qE s):=by
 unfold oH qE;obtain⟨h0,h1⟩:=h;by_cases hs:s < 1
 ·rw[dt hs,cond_true,if_pos hs]
 ·have e:Int.tdiv (s - 1) 256=(s - 1) / 256:=Int.tdiv_eq_ediv_of_nonneg (by omega)
  rw[df hs,cond_false,if_neg hs,aT (x:=s - 1),e,aT (x:=(s - 1) / 256),aB,aT]
def rP(m:aF):Int:=if xM m.gC=0 then 12 else if (m.gA3.toList.any λe=>decide (e > 15))=true then 5 else if m.gA4 > m.gTo\/m.gA1 < 1 then 5 else if m.gA1 > xM m.gC then 9 else if m.gA8≠qE m.gA1 then 5 else 0
theorem mchkP(N:Nat)(hN:20 < N)(m:aF)(hs:aDG m.gA1):sQ N m=some (rP m):=by
 unfold sQ rP;rw[capP,aa]
 by_cases h0:xM m.gC=0
 ·rw[if_pos h0,h0];rfl
 ·rw[if_neg h0,show(xM m.gC==0)=false by simpa using h0,cond_false]
  have hl:iM N m N 0=some (cond (m.gA3.toList.any λe=>decide (e > 15)) (Sum.inr 5) (Sum.inl ())):=by
   refine yQ m.gA3.toList (λe=>decide (e > 15)) (5:Int) (iM N m) (by simp) (λk i h=>?_) (λk=>?_) (by simp;omega)
   ·have h8:i < 8:=by simpa using h
    rw[iM,dt,cond_true,cQ h,aa]
   ·rw[iM,df (by simp),cond_false]
  rw[hl,aa]
  cases ha:(m.gA3.toList.any λe=>decide (e > 15)) with
  | true=>rw[if_pos rfl,cond_true];rfl
  | false=>
   rw[if_neg (by decide),cond_false]
   show(aN (decide (m.gA4 > m.gTo)) λx5=>_)=_;rw[aB,aB]
   by_cases h1:m.gA4 > m.gTo\/m.gA1 < 1
   ·rw[if_pos h1]
    rw[show cond (decide (m.gA4 > m.gTo)) true (decide (m.gA1 < 1))=true by rcases h1 with h | h;rw[dt h];rfl;rw[dt h];cases decide (m.gA4 > m.gTo) <;> rfl,aB,cond_true]
   ·rw[if_neg h1,df (show ¬m.gA4 > m.gTo by omega),df (show ¬m.gA1 < 1 by omega),cond_false,aB,cond_false]
    by_cases h2:m.gA1 > xM m.gC
    ·rw[dt h2,cond_true,if_pos h2]
    ·rw[df h2,cond_false,if_neg h2,aJO N hs,aa]
     by_cases h3:m.gA8=qE m.gA1
     ·rw[if_neg (by simpa using h3),show(m.gA8 != qE m.gA1)=false by simpa using h3,cond_false]
     ·rw[if_pos h3,show(m.gA8 != qE m.gA1)=true by simpa using h3,cond_true]
structure aO0(m:aF):Prop where
 id:isU m.gId
 kind:0<=m.gC/\m.gC < 256
 label:isW m.gA6
 masks:fJ m.gA3
 fr:isW m.gA4
 to:isW m.gTo
 size:0<=m.gA1/\m.gA1 < 4294967296
 chunks:0<=m.gA8/\m.gA8 < 65536
structure aHD(m:aF):Prop where
 id:isU m.gId
 kind:aDG m.gC
 label:isW m.gA6
 masks:fJ m.gA3
 fr:isW m.gA4
 to:isW m.gTo
 size:aDG m.gA1
 chunks:aDG m.gA8
theorem aSA{k:Int}(h:xM k≠0):1<=k/\k<=4/\xM k<=2048/\64<=xM k:=by
 unfold xM at *;split at h
 ·rename_i e;subst e;exact⟨by decide,by decide,by decide,by decide⟩
 ·split at h
  ·rename_i e;subst e;exact⟨by decide,by decide,by decide,by decide⟩
  ·split at h
   ·rename_i e;subst e;exact⟨by decide,by decide,by decide,by decide⟩
   ·split at h
    ·rename_i e;subst e;exact⟨by decide,by decide,by decide,by decide⟩
    ·exact absurd rfl h
theorem mchk0{m:aF}(h:rP m=0):xM m.gC≠0/\1<=m.gA1/\m.gA1<=xM m.gC/\m.gA8=qE m.gA1:=by
 unfold rP at h;split at h
 ·cases h
 ·rename_i h0;split at h
  ·cases h
  ·split at h
   ·cases h
   ·split at h
    ·cases h
    ·split at h
     ·cases h
     ·exact⟨h0,by omega,by omega,by omega⟩
theorem aHD.r{m:aF}(t:aHD m)(h:rP m=0):aO0 m:=by
 obtain⟨h0,h1,h2,h3⟩:=mchk0 h;obtain⟨k1,k2,k3,_⟩:=aSA h0;refine⟨t.id,⟨by omega,by omega⟩,t.label,t.masks,t.fr,t.to,⟨by omega,by omega⟩,?_⟩
 rw[h3]
 unfold qE;rw[if_neg (by omega)]
 omega
def aF6(m:aF):List Int:=leB 8 m.gId++(leB 1 m.gC++(leB 4 m.gA6++(m.gA3.toList++(leB 4 m.gA4++(leB 4 m.gTo++(leB 4 m.gA1++leB 2 m.gA8))))))
theorem aHz(m:aF):(aF6 m).length=35:=by unfold aF6;simp[iT]
theorem aL6{m:aF}(h:fJ m.gA3):aS (aF6 m):=(sN _ _).app ((sN _ _).app ((sN _ _).app (h.app ((sN _ _).app ((sN _ _).app ((sN _ _).app (sN _ _)))))))
theorem aM5(N:Nat)(hN:20 < N)(b:List Int)(w:Nat)(hw0:1<=w)(hw:w<=8)(x:Int)(hx:0<=x)(hx2:x < cE w)(hb:b.length<=1000000:=by omega):bT N b (w:Int) [x]=some (b++leB w x,0):=by
 have h8:=aJk hw;rw[aQ9 N b w hw0 hw [x] (by intro y hy;simp at hy;subst hy;exact⟨hx,by omega⟩) (by omega) (by simp) (by omega) (by simp;omega)]
 unfold aKN;have:([x].any (big w))=false:=by simp[big];omega
 rw[this,cond_false]
 simp
theorem put3(N:Nat)(hN:20 < N)(b:List Int)(w:Nat)(hw0:1<=w)(hw:w<=8)(x y z:Int)(hx:0<=x/\x < cE w)(hy:0<=y/\y < cE w)(hz:0<=z/\z < cE w)(hb:b.length<=1000000):bT N b (w:Int) [x,y,z]=some (b++(leB w x++(leB w y++leB w z)),0):=by
 have h8:=aJk hw;rw[aQ9 N b w hw0 hw [x,y,z] (by intro q hq;simp at hq;rcases hq with rfl | rfl | rfl <;> omega) (by omega) (by simp) (by omega) (by simp;omega)]
 unfold aKN;have:([x,y,z].any (big w))=false:=by simp[big];omega
 rw[this,cond_false]
 simp
theorem put2(N:Nat)(hN:20 < N)(b:List Int)(w:Nat)(hw0:1<=w)(hw:w<=8)(x y:Int)(hx:0<=x/\x < cE w)(hy:0<=y/\y < cE w)(hb:b.length<=1000000):bT N b (w:Int) [x,y]=some (b++(leB w x++leB w y),0):=by
 have h8:=aJk hw;rw[aQ9 N b w hw0 hw [x,y] (by intro q hq;simp at hq;rcases hq with rfl | rfl <;> omega) (by omega) (by simp) (by omega) (by simp;omega)]
 unfold aKN;have:([x,y].any (big w))=false:=by simp[big];omega
 rw[this,cond_false]
 simp
theorem aUa(N:Nat)(hN:20 < N)(m:aF)(t:aHD m):mA N m=some (if rP m=0 then(aF6 m,0) else([],rP m)):=by
 unfold mA;rw[mchkP N hN m t.size,aa]
 by_cases h:rP m=0
 ·have r:=t.r h;rw[if_pos h,h,show((0:Int) != 0)=false from rfl,cond_false]
  have k1:=r.kind;have k2:=r.size;have k3:=r.chunks;have k4:=r.label;have k5:=r.fr;have k6:=r.to;have e1:=aM5 N hN [] 8 (by decide) (by decide) m.gId r.id.1 r.id.2 (by simp)
  rw[show bT N [] 8 [m.gId]=_ from e1,aa,eF (x:=m.gC),eF (x:=m.gA6) k4.1 (by have:=k4.2;omega),eF (x:=m.gA4) k5.1 (by have:=k5.2;omega),eF (x:=m.gTo) k6.1 (by have:=k6.2;omega),eF (x:=m.gA1),eF (x:=m.gA8)]
  have e2:=aM5 N hN ([]++leB 8 m.gId) 1 (by decide) (by decide) m.gC k1.1 k1.2 (by simp[iT])
  rw[show bT N ([]++leB 8 m.gId) 1 [m.gC]=_ from e2,aa]
  have e3:=aM5 N hN ([]++leB 8 m.gId++leB 1 m.gC) 4 (by decide) (by decide) m.gA6 k4.1 k4.2 (by simp[iT])
  rw[show bT N ([]++leB 8 m.gId++leB 1 m.gC) 4 [m.gA6]=_ from e3,aa]
  rw[show dM m.gA3.toList 0 8=some m.gA3.toList from aKA (m:=8) _,aa,oY (by simp[iT]),aa]
  have e4:=put3 N hN ([]++leB 8 m.gId++leB 1 m.gC++leB 4 m.gA6++m.gA3.toList) 4 (by decide) (by decide) m.gA4 m.gTo m.gA1 ⟨k5.1,k5.2⟩ ⟨k6.1,k6.2⟩ k2 (by simp[iT])
  rw[show bT N ([]++leB 8 m.gId++leB 1 m.gC++leB 4 m.gA6++m.gA3.toList) 4 [m.gA4,m.gTo,m.gA1]=_ from e4,aa]
  have e5:=aM5 N hN ([]++leB 8 m.gId++leB 1 m.gC++leB 4 m.gA6++m.gA3.toList++(leB 4 m.gA4++(leB 4 m.gTo++leB 4 m.gA1))) 2 (by decide) (by decide) m.gA8 k3.1 k3.2 (by simp[iT])
  rw[show bT N ([]++leB 8 m.gId++leB 1 m.gC++leB 4 m.gA6++m.gA3.toList++(leB 4 m.gA4++(leB 4 m.gTo++leB 4 m.gA1))) 2 [m.gA8]=_ from e5,aa]
  congr 2;unfold aF6;simp[an]
 ·rw[if_neg h,show(rP m != 0)=true by simpa using h,cond_true]
theorem aUQ{α:Type}(l:List α)(hl:l.length < 9223372036854775807)(bad:α->Prop){F:Nat->Int->Option (Sum Unit Int)}
  (hstep:∀k i (h:i < l.length),∃c,(c=false->¬bad l[i])/\F (k+1) (i:Int)=cond c (some (Sum.inr (i:Int))) (F k (I64 ((i:Int)+1)))) (hend:∀k,F (k+1) (l.length:Int)=some (Sum.inl ())) :
  ∀(k i:Nat),i<=l.length->l.length - i < k->T (ae (ae (F k (i:Int)) λo=>mW o (λp1=>some (-1)) (λr=>some r)) λr1:Int=>some (decide (r1>=0))) (λr=>r=false->∀x∈l.drop i,¬bad x)
 | 0,i,_,h=>by omega
 | k+1,i,hi,hk=>by
  by_cases h:i < l.length
  ·obtain⟨c,h1,h2⟩:=hstep k i h;rw[h2]
   cases c with
   | true=>
    refine⟨true,?_,λe=>by cases e⟩
    show some (decide ((i:Int)>=0))=some true;rw[dt]
   | false=>
    rw[cond_false,cI]
    refine T.mono (aUQ l hl bad hstep hend k (i+1) (by omega) (by omega)) λr hr e x hx=>?_;rw[co h] at hx;rcases cx.1 hx with rfl | hx
    ·exact h1 rfl
    ·exact hr e x hx
  ·obtain rfl:i=l.length:=by omega
   rw[hend,fj]
   exact⟨false,rfl,λ_ x hx=>by cases hx⟩
theorem aKM{α:Type}(l:List α)(hl:l.length < 9223372036854775807)(bad:α->Prop){F:Nat->Int->Option (Sum Unit Int)}
  (hstep:∀k i (h:i < l.length),∃c,(c=false->¬bad l[i])/\F (k+1) (i:Int)=cond c (some (Sum.inr (i:Int))) (F k (I64 ((i:Int)+1)))) (hend:∀k,F (k+1) (l.length:Int)=some (Sum.inl ())) {N:Nat} (hN:l.length < N:=by omega) :
  T (ae (ae (F N 0) λo=>mW o (λp1=>some (-1)) (λr=>some r)) λr1:Int=>some (decide (r1>=0))) (λr=>r=false->∀x∈l,¬bad x):=
 T.mono (aUQ l hl bad hstep hend N 0 (by omega) (by omega)) λr hr e x hx=>hr e x (by simpa using hx)
theorem aR1{a b c m:Int}(h:¬tA (tA a b) c > m):a<=m/\b<=m/\c<=m:=by unfold tA at h;split at h <;> split at h <;> omega
theorem aQQ{a b c m:Int}(h:¬lH (lH a b) c < m):m<=a/\m<=b/\m<=c:=by unfold lH at h;split at h <;> split at h <;> omega
theorem imax2{a b m:Int}(h:¬tA a b > m):a<=m/\b<=m:=by unfold tA at h;split at h <;> omega
theorem imin2{a b m:Int}(h:¬lH a b < m):m<=a/\m<=b:=by unfold lH at h;split at h <;> omega
def ptG(p:aA):Prop:=(-4096<=p.gX/\p.gX<=4096)/\(-4096<=p.gY/\p.gY<=4096)/\(-4096<=p.gZ/\p.gZ<=4096)
theorem aT9(N:Nat)(p:aA):T (pU N p) (λc=>c=false->ptG p):=by
 unfold pU;refine T.bind (P:=λc=>c=false->ptG p) ?_ λc hc=>T.ret hc;refine T.letO λx hx=>T.cond (λ_=>T.ret λh=>by cases h) λh1=>T.letO λy hy=>T.ret λh2=>?_;subst hx hy;have h1:=aR1 (of_decide_eq_false h1)
 have h2:=aQQ (of_decide_eq_false h2)
 exact⟨⟨h2.1,h1.1⟩,⟨h2.2.1,h1.2.1⟩,h2.2.2,h1.2.2⟩
theorem aPh(N:Nat)(p:aA):T (oE N p) (λc=>c=false->ptG p):=aT9 N p
def uvG(v:Vector Int 2):Prop:=(0<=v[0]/\v[0] < 65536)/\(0<=v[1]/\v[1] < 65536)
theorem aQg(v:Vector Int 2):idx v.toList 0=some v[0]:=by have:=lE v.toList 0;rw[mG v 0] at this;exact this
theorem aRo(v:Vector Int 2):idx v.toList 1=some v[1]:=by have:=lE v.toList 1;rw[mG v 1] at this;exact this
theorem aIC(v:Vector Int 3):idx v.toList 0=some v[0]:=by have:=lE v.toList 0;rw[mG v 0] at this;exact this
theorem aIJ(v:Vector Int 3):idx v.toList 1=some v[1]:=by have:=lE v.toList 1;rw[mG v 1] at this;exact this
theorem aIR(v:Vector Int 3):idx v.toList 2=some v[2]:=by have:=lE v.toList 2;rw[mG v 2] at this;exact this
theorem pairT(N:Nat)(v:Vector Int 2):T (qB N v) (λc=>c=false->uvG v):=by
 unfold qB;refine T.bind (P:=λc=>c=false->uvG v) ?_ λc hc=>T.ret hc;rw[aQg,aRo,aa,aa]
 refine T.letO λx hx=>T.cond (λ_=>T.ret λh=>by cases h) λh1=>?_;rw[aa,aa]
 refine T.letO λy hy=>T.ret λh2=>?_;subst hx hy;have h1:=imin2 (of_decide_eq_false h1)
 have h2:=imax2 (of_decide_eq_false h2)
 exact⟨⟨h1.1,by omega⟩,h1.2,by omega⟩
def trG(n:Int)(v:Vector Int 3):Prop:=(0<=v[0]/\v[0] < n)/\(0<=v[1]/\v[1] < n)/\(0<=v[2]/\v[2] < n)
theorem triT(N:Nat)(v:Vector Int 3)(m:aP):T (lZ N v m) (λc=>c=false->trG (m.gF.length:Int) v):=by
 unfold lZ;refine T.bind (P:=λc=>c=false->trG (m.gF.length:Int) v) ?_ λc hc=>T.ret hc;simp only[aIC,aIJ,aIR,aa]
 refine T.letO λx hx=>T.cond (λ_=>T.ret λh=>by cases h) λh1=>T.letO λn hn=>T.letO λy hy=>T.cond (λ_=>T.ret λh=>by cases h) λh2=>?_;subst hx hy hn;have h1:=aQQ (of_decide_eq_false h1)
 have h2:¬tA (tA v[0] v[1]) v[2] > (m.gF.length:Int) - 1:=by have:=of_decide_eq_false h2;omega
 have h2:=aR1 h2;have g:trG (m.gF.length:Int) v:=⟨⟨h1.1,by omega⟩,⟨h1.2.1,by omega⟩,h1.2.2,by omega⟩
 exact T.cond (λ_=>T.ret λ_=>g) λ_=>T.cond (λ_=>T.ret λ_=>g) λ_=>T.ret λ_=>g
structure aIp(m:aP):Prop where
 nv:m.gF.length<=64
 nt:m.gJ.length<=64
 nu:m.gL.length=m.gF.length
 v:∀p∈m.gF,ptG p
 u:∀p∈m.gL,uvG p
 t:∀p∈m.gJ,trG 256 p
theorem meshT(N:Nat)(hN:1000 < N)(m:aP)(hv:m.gF.length<=500)(hu:m.gL.length<=500)(ht:m.gJ.length<=500):T (lN N m) (λc=>c=0->aIp m):=by
 unfold lN;refine T.letO λx1 e1=>T.letO λx2 e2=>T.letO λx3 e3=>?_;subst e1 e2 e3;refine T.cond (λ_=>T.ret λh=>by cases h) λh1=>?_;refine T.letO λx1 e1=>T.letO λx2 e2=>T.letO λx3 e3=>T.letO λx4 e4=>T.letO λx5 e5=>?_;subst e1 e2 e3 e4 e5;refine T.cond (λ_=>T.ret λh=>by cases h) λh2=>?_;have a1:m.gF.length<=64/\m.gJ.length<=64:=by
  cases ha:decide ((m.gF.length:Int) > 64) with
  | true=>rw[ha] at h1;cases h1
  | false=>rw[ha,cond_false] at h1;have:=of_decide_eq_false ha;have:=of_decide_eq_false h1;omega
 have a2:m.gL.length=m.gF.length:=by
  revert h2;cases cond ((m.gF.length:Int)==0) true ((m.gJ.length:Int)==0) with
  | true=>intro h;cases h
  | false=>
   intro h;rw[cond_false] at h;have:(m.gL.length:Int)=(m.gF.length:Int):=by simpa using h
   omega
 refine T.bind (P:=λr=>r=false->∀p∈m.gF,¬ ¬ptG p) ?_ λr9 h9=>T.cond (λ_=>T.ret λh=>by cases h) λc9=>?_
 ·unfold cA cD;refine aKM m.gF (by omega) (λp=>¬ptG p) (F:=aU N m.gF) (λk i h=>?_) (λk=>by rw[aU,aB,df,cond_false])
  obtain⟨c,e,hc⟩:=aT9 N m.gF[i]
  exact⟨c,λh=>Classical.not_not.2 (hc h),by rw[aU,aB,dt,cond_true,cQ h,aa,e,aa]⟩
 refine T.bind (P:=λr=>r=false->(∀p∈m.gL,uvG p)/\∀p∈m.gJ,trG (m.gF.length:Int) p) ?_ λr10 h10=>T.cond (λ_=>T.ret λh=>by cases h) λc10=>T.ret λ_=>?_
 ·refine T.bind (P:=λr=>r=false->∀p∈m.gL,¬ ¬uvG p) ?_ λr11 h11=>T.cond (λ_=>T.ret λh=>by cases h) λc11=>?_
  ·unfold cR dE;refine aKM m.gL (by omega) (λp=>¬uvG p) (F:=bC N m.gL) (λk i h=>?_) (λk=>by rw[bC,aB,df,cond_false])
   obtain⟨c,e,hc⟩:=pairT N m.gL[i]
   exact⟨c,λh=>Classical.not_not.2 (hc h),by rw[bC,aB,dt,cond_true,cQ h,aa,e,aa]⟩
  ·refine T.bind (P:=λr=>r=false->∀p∈m.gJ,¬ ¬trG (m.gF.length:Int) p) ?_ λr12 h12=>T.ret λc12=>⟨λp hp=>Classical.not_not.1 (h11 c11 p hp),λp hp=>Classical.not_not.1 (h12 c12 p hp)⟩
   unfold cS dI;refine aKM m.gJ (by omega) (λp=>¬trG (m.gF.length:Int) p) (F:=bB N m.gJ m) (λk i h=>?_) (λk=>by rw[bB,aB,df,cond_false])
   obtain⟨c,e,hc⟩:=triT N m.gJ[i] m;exact⟨c,λh=>Classical.not_not.2 (hc h),by rw[bB,aB,dt,cond_true,cQ h,aa,e,aa]⟩
 obtain⟨g1,g2⟩:=h10 c10;exact⟨a1.1,a1.2,a2,λp hp=>Classical.not_not.1 (h9 c9 p hp),g1,λp hp=>by obtain⟨q1,q2,q3⟩:=g2 p hp;exact⟨⟨q1.1,by omega⟩,⟨q2.1,by omega⟩,q3.1,by omega⟩⟩
structure aO7(t:aK):Prop where
 side:1<=t.gO/\t.gO<=16
 n:(t.gK.length:Int)=t.gO*t.gO
 t:∀p∈t.gK,trG 256 p
theorem aOt(N:Nat)(hN:1000 < N)(l:List Int)(hl:l.length<=500)(x:Int):T (iH N l x) (λr=>r=true->x∈l):=by
 unfold iH mU;have key:∀(k i:Nat),i<=l.length->l.length - i < k->T (cJ N l x k (i:Int)) (λo=>(o=Sum.inl ())\/(∃j,o=Sum.inr j/\x∈l)):=by
  intro k
  induction k with
  | zero=>intro i _ h;omega
  | succ k ih=>
   intro i hi hk;rw[cJ,aB]
   by_cases h:i < l.length
   ·rw[dt,cond_true,cQ h,aa,cI]
    refine T.cond (λhc=>T.ret (.inr ⟨_,rfl,?_⟩)) λ_=>ih (i+1) (by omega) (by omega)
    have:x=l[i]:=by simpa using hc
    rw[this]
    exact cm h
   ·rw[df,cond_false]
    exact T.ret (.inl rfl)
 refine T.bind (P:=λr:Int=>0<=r->x∈l) ?_ λr hr=>T.ret λh=>hr (by have:=of_decide_eq_true h;omega)
 refine T.bind (key N 0 (by omega) (by omega)) λo ho=>?_;rcases ho with rfl | ⟨j,rfl,hm⟩
 ·exact T.ret λh=>by omega
 ·exact T.ret λ_=>hm
theorem texT(N:Nat)(hN:1000 < N)(t:aK)(ht:t.gK.length<=500):T (eU N t) (λc=>c=0->aO7 t):=by
 unfold eU;refine T.bind (aOt N hN [1,2,4,8,16] (by decide) t.gO) λr1 h1=>?_;refine T.letO λx2 e2=>T.letO λx3 e3=>T.letO λx4 e4=>?_;subst e2 e3 e4;refine T.cond (λ_=>T.ret λh=>by cases h) λh2=>?_;have hr:r1=true:=by cases r1 with | true=>rfl | false=>cases h2
 subst hr;have hm:=h1 rfl;have hs:1<=t.gO/\t.gO<=16:=by
  simp only[cx,dk,or_false] at hm;omega
 have hn:(t.gK.length:Int)=t.gO*t.gO:=by
  rw[gc,cond_false] at h2;have h3:(t.gK.length:Int)=I64 (t.gO*t.gO):=by simpa using h2
  have:t.gO*t.gO<=16*16:=jb hs.2 hs.2 (by omega) (by decide)
  have:0<=t.gO*t.gO:=Int.mul_nonneg (by omega) (by omega)
  rw[h3,aT]
 refine T.letO λx5 e5=>?_;subst e5;have key:∀(k i:Nat),i<=t.gK.length->t.gK.length - i < k->T (fP N (t.gK.length:Int) t k (i:Int)) (λo=>o=Sum.inr 5\/(o=Sum.inl ()/\∀p∈t.gK.drop i,trG 256 p)):=by
  intro k
  induction k with
  | zero=>intro i _ h;omega
  | succ k ih=>
   intro i hi hk;rw[fP]
   by_cases h:i < t.gK.length
   ·rw[dt,cond_true,cQ h,aa,cI]
    have g0:(t.gK[i].toList[((0:Int).toNat)]?)=some t.gK[i][0]:=mG _ 0;have g1:(t.gK[i].toList[((1:Int).toNat)]?)=some t.gK[i][1]:=mG _ 1;have g2:(t.gK[i].toList[((2:Int).toNat)]?)=some t.gK[i][2]:=mG _ 2;have i0:aO 0 3=some ():=rfl;have i1:aO 1 3=some ():=rfl;have i2:aO 2 3=some ():=rfl;simp only[i0,i1,i2,g0,g1,g2,aa]
    refine T.bind (P:=λc=>c=false->trG 256 t.gK[i]) ?_ λc hc=>T.cond (λ_=>T.ret (.inl rfl)) λh0=>?_
    ·refine T.letO λx hx=>T.cond (λ_=>T.ret λh=>by cases h) λh1=>T.letO λy hy=>T.ret λh2=>?_;subst hx hy;have h1:=aQQ (of_decide_eq_false h1)
     have h2:=aR1 (of_decide_eq_false h2)
     exact⟨⟨h1.1,by omega⟩,⟨h1.2.1,by omega⟩,h1.2.2,by omega⟩
    ·refine T.mono (ih (i+1) (by omega) (by omega)) λo ho=>?_;rcases ho with ho | ⟨ho,hp⟩
     ·exact .inl ho
     ·refine .inr ⟨ho,λp hp'=>?_⟩
      rw[co h] at hp';rcases cx.1 hp' with rfl | hp'
      ·exact hc h0
      ·exact hp p hp'
   ·obtain rfl:i=t.gK.length:=by omega
    rw[df,cond_false]
    exact T.ret (.inr ⟨rfl,λp hp=>by rw[fj] at hp;cases hp⟩)
 refine T.bind (key N 0 (by omega) (by omega)) λo ho=>?_;rcases ho with rfl | ⟨rfl,hp⟩
 ·exact T.ret λh=>by cases h
 ·exact T.ret λ_=>⟨hs,hn,λp h=>hp p (by simpa using h)⟩
theorem outT(N:Nat)(hN:1000 < N)(most:Int)(l:List Int)(hl:l.length<=500:=by simp):T (jF N most l) (λr=>r=false->∀x∈l,0<=x/\x<=most):=by
 unfold jF;refine T.bind (P:=λr=>r=false->∀x∈l,¬ ¬(0<=x/\x<=most)) ?_ λr hr=>T.ret λh x hx=>Classical.not_not.1 (hr h x hx)
 unfold cX dU;refine aKM l (by omega) (λx=>¬(0<=x/\x<=most)) (F:=bF N l most) (λk i h=>?_) (λk=>by rw[bF,aB,df,cond_false])
 refine⟨cond (decide (l[i] < 0)) true (decide (l[i] > most)),λhc=>?_,?_⟩
 ·have:¬l[i] < 0/\¬l[i] > most:=by
   cases ha:decide (l[i] < 0) with
   | true=>rw[ha] at hc;cases hc
   | false=>rw[ha,cond_false] at hc;exact⟨of_decide_eq_false ha,of_decide_eq_false hc⟩
  exact Classical.not_not.2 ⟨by omega,by omega⟩
 ·rw[bF,aB,dt,cond_true,cQ h,aa]
  rfl
structure MatG(m:aD):Prop where
 kind:0<=m.gC/\m.gC < 256
 color:trG 65536 m.gE
 rough:0<=m.gA5/\m.gA5 < 65536
theorem matT(N:Nat)(hN:1000 < N)(m:aD):T (nH N m) (λc=>c=0->MatG m):=by
 unfold nH;refine T.bind (P:=λc=>c=false->MatG m) ?_ λc hc=>T.cond (λ_=>T.ret λh=>by cases h) λh=>T.ret λ_=>hc h;refine T.bind (outT N hN 4 [m.gC]) λr2 h2=>T.cond (λ_=>T.ret λh=>by cases h) λc2=>?_;rw[aIC,aIJ,aIR,aa,aa,aa]
 refine T.bind (outT N hN 65535 [m.gE[0],m.gE[1],m.gE[2],m.gA5]) λr6 h6=>T.ret λc6=>?_;have a:=h2 c2 m.gC (by simp)
 have b0:=h6 c6 m.gE[0] (by simp)
 have b1:=h6 c6 m.gE[1] (by simp)
 have b2:=h6 c6 m.gE[2] (by simp)
 have b3:=h6 c6 m.gA5 (by simp)
 exact⟨⟨a.1,by omega⟩,⟨⟨b0.1,by omega⟩,⟨b1.1,by omega⟩,b2.1,by omega⟩,b3.1,by omega⟩
structure aRP(l:aJ):Prop where
 kind:0<=l.gC/\l.gC < 256
 color:trG 4294967296 l.gE
 at_:ptG l.gAt
 u:ptG l.gU
 v:ptG l.gV
theorem ligT(N:Nat)(hN:1000 < N)(l:aJ):T (qV N l) (λc=>c=0->aRP l):=by
 unfold qV;refine T.bind (P:=λc=>c=false->(0<=l.gC/\l.gC < 256)/\trG 4294967296 l.gE) ?_ λc hc=>T.cond (λ_=>T.ret λh=>by cases h) λh=>?_
 ·refine T.bind (outT N hN 2 [l.gC]) λr2 h2=>T.cond (λ_=>T.ret λh=>by cases h) λc2=>?_;rw[show dM l.gE.toList 0 3=some l.gE.toList from aKA (m:=3) _,aa]
  refine T.bind (outT N hN 1048576 l.gE.toList) λr4 h4=>T.ret λc4=>?_;have a:=h2 c2 l.gC (by simp)
  have b0:=h4 c4 l.gE[0] (aQd _)
  have b1:=h4 c4 l.gE[1] (aQd _)
  have b2:=h4 c4 l.gE[2] (aQd _)
  exact⟨⟨a.1,by omega⟩,⟨b0.1,by omega⟩,⟨b1.1,by omega⟩,b2.1,by omega⟩
 obtain⟨hk,hcol⟩:=hc h;refine T.bind (P:=λc=>c=false->ptG l.gAt/\ptG l.gU/\ptG l.gV) ?_ λc hc=>T.cond (λ_=>T.ret λh=>by cases h) λh=>?_
 ·exact T.bind (aPh N l.gAt) λr6 h6=>T.cond (λ_=>T.ret λh=>by cases h) λc6=>T.bind (aPh N l.gU) λr7 h7=>T.cond (λ_=>T.ret λh=>by cases h) λc7=>T.bind (aPh N l.gV) λr8 h8=>T.ret λc8=>⟨h6 c6,h7 c7,h8 c8⟩
 obtain⟨p1,p2,p3⟩:=hc h;have g:aRP l:=⟨hk,hcol,p1,p2,p3⟩
 refine T.bind (P:=λ_=>True) ?_ λo _=>?_
 ·refine T.cond (λ_=>T.cond (λ_=>T.ret trivial) λ_=>T.bind (P:=λ_=>True) ?_ λ_ _=>T.cond (λ_=>T.ret trivial) λ_=>T.ret trivial) λ_=>T.cond (λ_=>T.bind (P:=λ_=>True) ?_ λ_ _=>T.cond (λ_=>T.ret trivial) λ_=>T.ret trivial) λ_=>T.ret trivial
  ·exact T.letO λ_ _=>T.cond (λ_=>T.ret trivial) λ_=>T.ret trivial
  ·exact T.letO λ_ _=>T.cond (λ_=>T.ret trivial) λ_=>T.ret trivial
 ·cases o with
  | inl _=>exact T.ret λ_=>g
  | inr c=>exact T.ret λ_=>g
theorem aT7(a b:aA):aA.eq a b=true↔a=b:=by
 unfold aA.eq;simp only[b9,beq_iff_eq,and_true]
 constructor
 ·rintro⟨h1,h2,h3⟩
  cases a;cases b;dsimp only at *;subst h1 h2 h3;rfl
 ·rintro rfl;exact⟨rfl,rfl,rfl⟩
theorem aMm(a b:aD):aD.eq a b=true↔a=b:=by
 unfold aD.eq;simp only[b9,aGO,beq_iff_eq,and_true]
 constructor
 ·rintro⟨h1,h2,h3⟩
  cases a;cases b;dsimp only at *;subst h1 h2 h3;rfl
 ·rintro rfl;exact⟨rfl,rfl,rfl⟩
theorem aLu(a b:aJ):aJ.eq a b=true↔a=b:=by
 unfold aJ.eq;simp only[b9,aGO,beq_iff_eq,and_true,aT7]
 constructor
 ·rintro⟨h1,h2,h3,h4,h5⟩
  cases a;cases b;dsimp only at *;subst h1 h2 h3 h4 h5;rfl
 ·rintro rfl;exact⟨rfl,rfl,rfl,rfl,rfl⟩
theorem aLr{α:Type}(eq:α->α->Bool)(heq:∀x y,eq x y=true↔x=y)(a b:List α)(hl:a.length<=100000){F:Nat->Int->Option (Sum Unit Bool)}
  (hstep:∀k i (h:i < a.length) (h':i < b.length),F (k+1) (i:Int)=cond (!eq a[i] b[i]) (some (Sum.inr false)) (F k (I64 ((i:Int)+1)))) (hend:∀k,F (k+1) (a.length:Int)=some (Sum.inl ())) {N:Nat} (hN:a.length < N) :
  T (aN ((a.length:Int) != (b.length:Int)) λx1=>cond x1 (some false) (ae (F N 0) λo=>mW o (λp2=>some true) (λr=>some r))) (λr=>r=true↔a=b):=by
 refine T.letO λx hx=>?_;subst hx;refine T.cond (λh=>T.ret ?_) λh=>?_
 ·have h:¬(a.length:Int)=(b.length:Int):=by simpa using h
  constructor
  ·intro e;cases e
  ·rintro rfl;exact absurd rfl h
 ·have h:(a.length:Int)=(b.length:Int):=by simpa using h
  have key:∀(k i:Nat),i<=a.length->a.length - i < k->T (ae (F k (i:Int)) λo=>mW o (λp2=>some true) (λr=>some r)) (λr=>r=true↔a.drop i=b.drop i):=by
   intro k
   induction k with
   | zero=>intro i _ h;omega
   | succ k ih=>
    intro i hi hk;by_cases h1:i < a.length
    ·rw[hstep k i h1 (by omega),co h1,co (show i < b.length by omega)]
     cases he:eq a[i] b[i] with
     | false=>
      refine⟨false,rfl,?_⟩
      constructor
      ·intro e;cases e
      ·intro e;have:=(List.cons.inj e).1;rw[(heq _ _).2 this] at he;cases he
     | true=>
      rw[gc,cond_false,cI]
      refine T.mono (ih (i+1) (by omega) (by omega)) λr hr=>?_;rw[hr,(heq _ _).1 he]
      constructor
      ·intro e;rw[e]
      ·intro e;exact(List.cons.inj e).2
    ·obtain rfl:i=a.length:=by omega
     rw[hend,fj,List.drop_of_length_le (by omega)]
     exact⟨true,rfl,by simp⟩
  exact T.mono (key N 0 (by omega) (by omega)) λr hr=>by simpa using hr
theorem aU8(N:Nat)(a b:List aA)(hl:a.length<=100000)(hN:a.length < N):T (lX N a b) (λr=>r=true↔a=b):=by
 unfold lX;exact aLr aA.eq aT7 a b hl (F:=dY N a b) (λk i h h'=>by rw[dY,aB,dt,cond_true,cQ h,aa,cQ h',aa]) (λk=>by rw[dY,aB,df,cond_false]) hN
theorem aWv(N:Nat)(a b:List (Vector Int 2))(hl:a.length<=100000)(hN:a.length < N):T (pH N a b) (λr=>r=true↔a=b):=by
 unfold pH;exact aLr (eqV (λa b=>a==b)) aGO a b hl (F:=hQ N a b) (λk i h h'=>by rw[hQ,aB,dt,cond_true,cQ h,aa,cQ h',aa]) (λk=>by rw[hQ,aB,df,cond_false]) hN
theorem aPo(N:Nat)(a b:List (Vector Int 3))(hl:a.length<=100000)(hN:a.length < N):T (mN N a b) (λr=>r=true↔a=b):=by
 unfold mN;exact aLr (eqV (λa b=>a==b)) aGO a b hl (F:=hJ N a b) (λk i h h'=>by rw[hJ,aB,dt,cond_true,cQ h,aa,cQ h',aa]) (λk=>by rw[hJ,aB,df,cond_false]) hN
structure aEk(a:aE):Prop where
 v:a.gA0.gF.length<=500
 u:a.gA0.gL.length<=500
 t:a.gA0.gJ.length<=500
 x:a.gA2.gK.length<=500
theorem aUV(N:Nat)(hN:1000 < N)(a b:aE)(h:aEk a):T (sP N a b) (λr=>r=true↔a=b):=by
 unfold sP;refine T.bind (P:=λr=>r=false↔(a.gC=b.gC/\a.gG=b.gG/\a.gD=b.gD/\a.gA2.gO=b.gA2.gO)) ?_ λp1 h1=>T.cond (λc=>T.ret ?_) λc=>?_
 ·refine T.cond (λc=>T.ret ?_) λc=>?_
  ·have c:¬a.gC=b.gC:=by simpa using c
   constructor
   ·intro e;cases e
   ·intro e;exact absurd e.1 c
  ·have c:a.gC=b.gC:=by simpa using c
   refine T.letO λx2 e2=>T.cond (λc2=>T.ret ?_) λc2=>T.letO λx3 e3=>T.letO λx4 e4=>T.ret ?_
   ·subst e2;constructor
    ·intro e;cases e
    ·intro e;rw[(aMm _ _).2 e.2.1] at c2;cases c2
   ·subst e2 e3 e4;have hm:aD.eq a.gG b.gG=true:=by simpa using c2
    have hm:=(aMm _ _).1 hm;constructor
    ·intro e;cases hl:aJ.eq a.gD b.gD with
     | false=>rw[hl] at e;cases e
     | true=>
      rw[hl,gc,cond_false] at e;exact⟨c,hm,(aLu _ _).1 hl,by simpa using e⟩
    ·rintro⟨_,_,e1,e2⟩
     rw[(aLu _ _).2 e1,e2]
     simp
 ·constructor
  ·intro e;cases e
  ·rintro rfl;have:=h1.2 ⟨rfl,rfl,rfl,rfl⟩
   rw[this] at c;cases c
 ·obtain⟨g1,g2,g3,g4⟩:=h1.1 c;refine T.bind (P:=λr=>r=true↔(a.gA0.gF=b.gA0.gF/\a.gA0.gL=b.gA0.gL/\a.gA0.gJ=b.gA0.gJ/\a.gA2.gK=b.gA2.gK)) ?_ λr hr=>T.ret ?_
  ·refine T.bind (aU8 N _ _ (by have:=h.v;omega) (by have:=h.v;omega)) λr6 h6=>T.cond (λc6=>?_) λc6=>T.ret ?_
   ·refine T.bind (aWv N _ _ (by have:=h.u;omega) (by have:=h.u;omega)) λr7 h7=>T.cond (λc7=>?_) λc7=>T.ret ?_
    ·refine T.bind (aPo N _ _ (by have:=h.t;omega) (by have:=h.t;omega)) λr8 h8=>T.cond (λc8=>?_) λc8=>T.ret ?_
     ·refine T.bind (aPo N _ _ (by have:=h.x;omega) (by have:=h.x;omega)) λr9 h9=>T.ret ?_;exact⟨λe=>⟨h6.1 c6,h7.1 c7,h8.1 c8,h9.1 e⟩,λe=>h9.2 e.2.2.2⟩
     ·exact⟨λe=>(by cases e),λe=>by rw[h8.2 e.2.2.1] at c8;cases c8⟩
    ·exact⟨λe=>(by cases e),λe=>by rw[h7.2 e.2.1] at c7;cases c7⟩
   ·exact⟨λe=>(by cases e),λe=>by rw[h6.2 e.1] at c6;cases c6⟩
  ·rw[hr]
   constructor
   ·rintro⟨q1,q2,q3,q4⟩
    obtain⟨k,⟨v,u,t⟩,⟨s,x⟩,m,l⟩:=a;obtain⟨k',⟨v',u',t'⟩,⟨s',x'⟩,m',l'⟩:=b;dsimp only at *;subst g1 g2 g3 g4 q1 q2 q3 q4;rfl
   ·rintro rfl;exact⟨rfl,rfl,rfl,rfl⟩
def ptB(p:aA):List Int:=leB 2 (p.gX % 65536)++(leB 2 (p.gY % 65536)++leB 2 (p.gZ % 65536))
def uvB(v:Vector Int 2):List Int:=leB 2 v[0]++leB 2 v[1]
def trB(w:Nat)(t:Vector Int 3):List Int:=leB w t[0]++(leB w t[1]++leB w t[2])
theorem aAl(p:aA):(ptB p).length=6:=by unfold ptB;simp[iT]
theorem aGF(p:Vector Int 2):(uvB p).length=4:=by unfold uvB;simp[iT]
theorem aDW(w:Nat)(p:Vector Int 3):(trB w p).length=3*w:=by unfold trB;simp[iT];omega
theorem aBK{α:Type}{f:α->List Int}{c:Nat}(h:∀x,(f x).length=c):∀(l:List α),(l.flatMap f).length=l.length*c
 | []=>by simp
 | a :: l=>by rw[d8,ai,h,aBK h l,dc,Nat.add_mul];omega
theorem aAt{x:Int}(h:0<=x/\x < 256):leB 1 x=[x]:=by
 unfold leB;show [U8 (shr .u64 x ((8*0:Nat):Int))]=_;rw[aL0 x 0 (by decide),show cE 0=1 from rfl,Int.ediv_one,rF h.1 h.2]
def aK4(m:aP):List Int:=leB 1 (m.gF.length:Int)++(leB 1 (m.gJ.length:Int)++(m.gF.flatMap ptB++(m.gL.flatMap uvB++m.gJ.flatMap (trB 1))))
def aRq(t:aK):List Int:=leB 1 t.gO++t.gK.flatMap (trB 1)
def matB(m:aD):List Int:=leB 1 m.gC++(trB 2 m.gE++leB 2 m.gA5)
def ligB(l:aJ):List Int:=leB 1 l.gC++(trB 4 l.gE++(ptB l.gAt++(ptB l.gU++ptB l.gV)))
theorem sgn3(N:Nat)(hN:20 < N)(b:List Int)(p:aA)(h:ptG p)(hb:b.length<=1000000:=by omega):kB N b 2 [p.gX,p.gY,p.gZ]=some (b++ptB p,0):=by
 obtain⟨hx,hy,hz⟩:=h;have:=sgnP N b 2 (by decide) (by decide) [p.gX,p.gY,p.gZ] (by intro q hq;simp at hq;unfold aDG;rcases hq with rfl | rfl | rfl <;> omega) (by omega) (by simp) (by omega) (by simp;omega)
 rw[show kB N b 2 [p.gX,p.gY,p.gZ]=_ from this]
 unfold aP5;have e:([p.gX,p.gY,p.gZ].any (aEL 2))=false:=by
  simp[aEL,show cE 2 / 2=32768 from rfl]
  omega
 rw[e,cond_false]
 unfold aKN;have e2:(([p.gX,p.gY,p.gZ].map (λx=>x % cE 2)).any (big 2))=false:=by
  simp[big,show cE 2=65536 from rfl]
  omega
 rw[e2,cond_false]
 unfold ptB;simp[show cE 2=65536 from rfl]
theorem meshE(N:Nat)(hN:1000 < N)(m:aP)(g:aIp m)(h0:lN N m=some 0):vK N m=some (aK4 m,0):=by
 unfold vK;have nv:=g.nv;have nt:=g.nt;have nu:=g.nu;rw[h0,aa,show((0:Int) != 0)=false from rfl,cond_false,aB,aB,aB,rF (x:=(m.gF.length:Int)),rF (x:=(m.gJ.length:Int))]
 have l1:=kU m.gF.length (by omega) (λi=>ptB (m.gF.getD i ⟨0,0,0⟩)) (λs i=>s.length<=100+6*i) (nF N (m.gF.length:Int) m) (by intro s i hi hs;simp[aAl];omega) (λk s i hi hs=>by
  have hp:=g.v _ (cm hi)
  rw[nF,dt,cond_true,cQ hi,aa,sgn3 N (by omega) s _ hp,aa]
  rw[ap,af hi]
  rfl) (λk s=>by rw[nF,df,cond_false]) (N:=N) (by omega) (s:=[(m.gF.length:Int),(m.gJ.length:Int)])
 rw[l1,aa]
 have hflat:∀{α:Type} (l:List α) (d:α) (f:α->List Int),(bq l.length).flatMap (λi=>f (l.getD i d))=l.flatMap f:=by
  intro α l d f
  induction l with
  | nil=>rfl
  | cons a l ih=>
   rw[dc,ke,d8,mq]
   simp only[l9,lf,d8]
   rw[ih]
 rw[hflat m.gF ⟨0,0,0⟩ ptB]
 have hlen1:=aBK aAl m.gF;have l2:=kU m.gL.length (by omega) (λi=>uvB (m.gL.getD i #v[0,0])) (λs i=>s.length<=1000+4*i) (nG N m) (by intro s i hi hs;simp[aGF];omega) (λk s i hi hs=>by
  have hp:=g.u _ (cm hi)
  rw[nG,aB,dt,cond_true,cQ hi,aa,show aO 0 2=some () from rfl,aa,show m.gL[i].toList[((0:Int).toNat)]? = some m.gL[i][0] from mG _ 0,aa,show aO 1 2=some () from rfl,aa,show m.gL[i].toList[((1:Int).toNat)]? = some m.gL[i][1] from mG _ 1,aa,eF hp.1.1 (by have:=hp.1.2;omega),eF hp.2.1 (by have:=hp.2.2;omega)]
  have e:=put2 N (by omega) s 2 (by decide) (by decide) m.gL[i][0] m.gL[i][1] ⟨hp.1.1,hp.1.2⟩ ⟨hp.2.1,hp.2.2⟩ (by omega)
  rw[show bT N s 2 [m.gL[i][0],m.gL[i][1]]=_ from e,aa,ap,af hi]
  rfl) (λk s=>by rw[nG,aB,df,cond_false]) (N:=N) (by omega) (s:=[(m.gF.length:Int),(m.gJ.length:Int)]++m.gF.flatMap ptB) (by simp at hlen1 ⊢;omega)
 rw[l2,aa,hflat m.gL #v[0,0] uvB,aB]
 have hlen2:=aBK aGF m.gL;have l3:=kU m.gJ.length (by omega) (λi=>trB 1 (m.gJ.getD i #v[0,0,0])) (λs i=>s.length<=2000+3*i) (jP N (m.gJ.length:Int) m) (by intro s i hi hs;simp[aDW];omega) (λk s i hi hs=>by
  have hp:=g.t _ (cm hi)
  obtain⟨q0,q1,q2⟩:=hp;rw[jP,dt,cond_true,cQ hi,aa,show aO 0 3=some () from rfl,aa,show m.gJ[i].toList[((0:Int).toNat)]? = some m.gJ[i][0] from mG _ 0,aa,show aO 1 3=some () from rfl,aa,show m.gJ[i].toList[((1:Int).toNat)]? = some m.gJ[i][1] from mG _ 1,aa,show aO 2 3=some () from rfl,aa,show m.gJ[i].toList[((2:Int).toNat)]? = some m.gJ[i][2] from mG _ 2,aa,rF q0.1 q0.2,rF q1.1 q1.2,rF q2.1 q2.2,oY,aa,ap,af hi]
  show jP N _ m k (s++[m.gJ[i][0],m.gJ[i][1],m.gJ[i][2]]) _=jP N _ m k (s++trB 1 m.gJ[i]) _;unfold trB;rw[aAt q0,aAt q1,aAt q2]
  rfl) (λk s=>by rw[jP,df,cond_false]) (N:=N) (by omega) (s:=[(m.gF.length:Int),(m.gJ.length:Int)]++m.gF.flatMap ptB++m.gL.flatMap uvB) (by simp at hlen1 hlen2 ⊢;omega)
 rw[l3,aa,hflat m.gJ #v[0,0,0] (trB 1)]
 unfold aK4;rw[aAt (x:=(m.gF.length:Int)) ⟨by omega,by omega⟩,aAt (x:=(m.gJ.length:Int)) ⟨by omega,by omega⟩]
 simp[an]
theorem hflat{α:Type}(l:List α)(d:α)(f:α->List Int):(bq l.length).flatMap (λi=>f (l.getD i d))=l.flatMap f:=by
 induction l with
 | nil=>rfl
 | cons a l ih=>
  rw[dc,ke,d8,mq]
  simp only[l9,lf,d8]
  rw[ih]
theorem texE(N:Nat)(hN:1000 < N)(t:aK)(g:aO7 t)(h0:eU N t=some 0):sS N t=some (aRq t,0):=by
 unfold sS;have n1:=g.side;have n2:=g.n;have n3:t.gO*t.gO<=16*16:=jb n1.2 n1.2 (by omega) (by decide)
 rw[h0,aa,show((0:Int) != 0)=false from rfl,cond_false,aB,rF (x:=t.gO)]
 have l3:=kU t.gK.length (by omega) (λi=>trB 1 (t.gK.getD i #v[0,0,0])) (λs i=>s.length<=2000+3*i) (eZ N (t.gK.length:Int) t) (by intro s i hi hs;simp[aDW];omega) (λk s i hi hs=>by
  have hp:=g.t _ (cm hi)
  obtain⟨q0,q1,q2⟩:=hp;rw[eZ,dt,cond_true,cQ hi,aa,show aO 0 3=some () from rfl,aa,show t.gK[i].toList[((0:Int).toNat)]? = some t.gK[i][0] from mG _ 0,aa,show aO 1 3=some () from rfl,aa,show t.gK[i].toList[((1:Int).toNat)]? = some t.gK[i][1] from mG _ 1,aa,show aO 2 3=some () from rfl,aa,show t.gK[i].toList[((2:Int).toNat)]? = some t.gK[i][2] from mG _ 2,aa,rF q0.1 q0.2,rF q1.1 q1.2,rF q2.1 q2.2,oY,aa,ap,af hi]
  show eZ N _ t k (s++[t.gK[i][0],t.gK[i][1],t.gK[i][2]]) _=eZ N _ t k (s++trB 1 t.gK[i]) _;unfold trB;rw[aAt q0,aAt q1,aAt q2]
  rfl) (λk s=>by rw[eZ,df,cond_false]) (N:=N) (by omega) (s:=[t.gO])
 rw[l3,aa,hflat t.gK #v[0,0,0] (trB 1)]
 unfold aRq;rw[aAt (x:=t.gO) ⟨by omega,by omega⟩]
def aOl(a:aE):Prop:=(a.gC=1/\aIp a.gA0)\/(a.gC=2/\aO7 a.gA2)\/(a.gC=3/\MatG a.gG)\/(a.gC=4/\aRP a.gD)
def rA(a:aE):List Int:=if a.gC=1 then aK4 a.gA0 else if a.gC=2 then aRq a.gA2 else if a.gC=3 then matB a.gG else ligB a.gD
theorem ownT(N:Nat)(hN:1000 < N)(a:aE)(h:aEk a):T (mY N a) (λc=>c=0->aOl a):=by
 unfold mY;refine T.cond (λc=>?_) λ_=>T.cond (λc=>?_) λ_=>T.cond (λc=>?_) λ_=>T.cond (λc=>?_) λ_=>T.ret λe=>by cases e
 ·exact T.bind (meshT N hN _ h.v h.u h.t) λr hr=>T.ret λe => .inl ⟨by simpa using c,hr e⟩
 ·exact T.bind (texT N hN _ h.x) λr hr=>T.ret λe => .inr (.inl ⟨by simpa using c,hr e⟩)
 ·exact T.bind (matT N hN _) λr hr=>T.ret λe => .inr (.inr (.inl ⟨by simpa using c,hr e⟩))
 ·exact T.bind (ligT N hN _) λr hr=>T.ret λe => .inr (.inr (.inr ⟨by simpa using c,hr e⟩))
theorem assE(N:Nat)(hN:1000 < N)(a:aE)(g:aOl a)(h0:mY N a=some 0):sA N a=some (rA a):=by
 unfold sA rA;unfold mY at h0;rcases g with ⟨k,g⟩ | ⟨k,g⟩ | ⟨k,g⟩ | ⟨k,g⟩
 ·rw[k] at h0 ⊢;rw[show((1:Int)==1)=true from rfl,cond_true] at h0 ⊢;have h1:lN N a.gA0=some 0:=by
   cases hc:lN N a.gA0 with
   | none=>rw[hc] at h0;cases h0
   | some r=>rw[hc] at h0;exact h0
  rw[meshE N hN _ g h1,if_pos rfl]
  rfl
 ·rw[k] at h0 ⊢;rw[show((2:Int)==1)=false from rfl,show((2:Int)==2)=true from rfl,cond_false,cond_true] at h0 ⊢;have h1:eU N a.gA2=some 0:=by
   cases hc:eU N a.gA2 with
   | none=>rw[hc] at h0;cases h0
   | some r=>rw[hc] at h0;exact h0
  rw[texE N hN _ g h1,if_neg (by decide),if_pos rfl]
  rfl
 ·rw[k,show((3:Int)==1)=false from rfl,show((3:Int)==2)=false from rfl,show((3:Int)==3)=true from rfl,cond_false,cond_false,cond_true,if_neg (by decide),if_neg (by decide),if_pos rfl]
  obtain⟨g1,⟨g2,g3,g4⟩,g5⟩:=g;rw[show aO 0 3=some () from rfl,aa,show a.gG.gE.toList[((0:Int).toNat)]? = some a.gG.gE[0] from mG _ 0,aa,show aO 1 3=some () from rfl,aa,show a.gG.gE.toList[((1:Int).toNat)]? = some a.gG.gE[1] from mG _ 1,aa,show aO 2 3=some () from rfl,aa,show a.gG.gE.toList[((2:Int).toNat)]? = some a.gG.gE[2] from mG _ 2,aa,rF g1.1 g1.2]
  have l:=kU 4 (by decide) (λi=>leB 2 ([a.gG.gE[0],a.gG.gE[1],a.gG.gE[2],a.gG.gA5].getD i 0)) (λs i=>s.length<=100+2*i) (lY N a.gG.gE[0] a.gG.gE[1] a.gG.gE[2] a) (by intro s i hi hs;simp[iT];omega) (λk s i hi hs=>by
   rw[lY,dt,cond_true,rS (by simp;omega),aa]
   have hx:0<=[a.gG.gE[0],a.gG.gE[1],a.gG.gE[2],a.gG.gA5].getD i 0/\[a.gG.gE[0],a.gG.gE[1],a.gG.gE[2],a.gG.gA5].getD i 0 < 65536:=by
    have:i=0\/i=1\/i=2\/i=3:=by omega
    rcases this with rfl | rfl | rfl | rfl
    ·exact g2
    ·exact g3
    ·exact g4
    ·exact g5
   rw[eF hx.1]
   have e:=aM5 N (by omega) s 2 (by decide) (by decide) _ hx.1 hx.2;rw[show bT N s 2 _=_ from e,aa]) (λk s=>by rw[lY,df,cond_false]) (N:=N) (by omega) (s:=[a.gG.gC])
  rw[l,aa]
  unfold matB trB;rw[aAt g1]
  rfl
 ·rw[k,show((4:Int)==1)=false from rfl,show((4:Int)==2)=false from rfl,show((4:Int)==3)=false from rfl,cond_false,cond_false,cond_false,if_neg (by decide),if_neg (by decide),if_neg (by decide)]
  obtain⟨g1,⟨g2,g3,g4⟩,g5,g6,g7⟩:=g;rw[show aO 0 3=some () from rfl,aa,show a.gD.gE.toList[((0:Int).toNat)]? = some a.gD.gE[0] from mG _ 0,aa,show aO 1 3=some () from rfl,aa,show a.gD.gE.toList[((1:Int).toNat)]? = some a.gD.gE[1] from mG _ 1,aa,show aO 2 3=some () from rfl,aa,show a.gD.gE.toList[((2:Int).toNat)]? = some a.gD.gE[2] from mG _ 2,aa,rF g1.1 g1.2]
  rw[eF g2.1,eF g3.1,eF g4.1]
  have e:=put3 N (by omega) [a.gD.gC] 4 (by decide) (by decide) a.gD.gE[0] a.gD.gE[1] a.gD.gE[2] g2 g3 g4 (by simp)
  rw[show bT N [a.gD.gC] 4 [a.gD.gE[0],a.gD.gE[1],a.gD.gE[2]]=_ from e,aa]
  have l:=kU 3 (by decide) (λi=>ptB ([a.gD.gAt,a.gD.gU,a.gD.gV].getD i ⟨0,0,0⟩)) (λs i=>s.length<=100+6*i) (mC N a) (by intro s i hi hs;simp[aAl];omega) (λk s i hi hs=>by
   rw[mC,dt,cond_true,cQ (by simp;omega),aa]
   have hx:ptG ([a.gD.gAt,a.gD.gU,a.gD.gV][i]'(by simp;omega)):=by
    have:i=0\/i=1\/i=2:=by omega
    rcases this with rfl | rfl | rfl
    ·exact g5
    ·exact g6
    ·exact g7
   rw[sgn3 N (by omega) s _ hx,aa]
   rw[ap,af (by simp;omega)]
   rfl) (λk s=>by rw[mC,df,cond_false]) (N:=N) (by omega) (s:=[a.gD.gC]++(leB 4 a.gD.gE[0]++(leB 4 a.gD.gE[1]++leB 4 a.gD.gE[2]))) (by simp[iT])
  rw[l,aa]
  unfold ligB trB;rw[aAt g1]
  show some (_++(bq 3).flatMap _)=_;rw[show(bq 3).flatMap (λi=>ptB ([a.gD.gAt,a.gD.gU,a.gD.gV].getD i ⟨0,0,0⟩))=ptB a.gD.gAt++(ptB a.gD.gU++ptB a.gD.gV) by
   simp[List.range_succ,d8]]
  simp[an]
def tE : aP:=aP.mk [] [] []
def zZ : aK:=aK.mk 0 []
def aAK : aD:=aD.mk 0 (#v[0,0,0]) 0
def zPt : aA:=aA.mk 0 0 0
def aAH : aJ:=aJ.mk 0 (#v[0,0,0]) zPt zPt zPt
def zA(k:Int):aE:=aE.mk k tE zZ aAK aAH
def qY(a:aE):Prop:=(a.gC=1->a=aE.mk 1 a.gA0 zZ aAK aAH)/\(a.gC=2->a=aE.mk 2 tE a.gA2 aAK aAH)/\(a.gC=3->a=aE.mk 3 tE zZ a.gG aAH)/\(a.gC=4->a=aE.mk 4 tE zZ aAK a.gD)
theorem aUu(N:Nat)(a:aE)(h:aEk a):T (xO N a) (λb=>aEk b/\(b=zA a.gC->qY a)/\(qY a->aOl a->b=zA a.gC)):=by
 obtain⟨k,⟨v,u,t⟩,⟨s,x⟩,⟨mk,mc,mr⟩,⟨lk,lc,⟨ax,ay,az⟩,⟨ux,uy,uz⟩,⟨vx,vy,vz⟩⟩⟩:=a;obtain⟨h1,h2,h3,h4⟩:=h;unfold xO;dsimp only at h1 h2 h3 h4 ⊢;have hk:k=1\/k=2\/k=3\/k=4\/(k≠1/\k≠2/\k≠3/\k≠4):=by omega
 rcases hk with rfl | rfl | rfl | rfl | ⟨n1,n2,n3,n4⟩
 ·rw[show((1:Int)==1)=true from rfl,cond_true,aa]
  refine T.ret ⟨⟨by simp,by simp,by simp,h4⟩,λe=>?_,λe _=>?_⟩
  ·simp only[zA,tE,zZ,aAK,aAH,zPt,aE.mk.injEq,aK.mk.injEq,aD.mk.injEq,aJ.mk.injEq,aA.mk.injEq] at e;refine⟨λ_=>?_,λh=>(by cases h),λh=>(by cases h),λh=>by cases h⟩
   simp only[zA,tE,zZ,aAK,aAH,zPt,aE.mk.injEq,aK.mk.injEq,aD.mk.injEq,aJ.mk.injEq,aA.mk.injEq]
   simp[e]
  ·have e:=e.1 rfl;simp only[zA,tE,zZ,aAK,aAH,zPt,aE.mk.injEq,aK.mk.injEq,aD.mk.injEq,aJ.mk.injEq,aA.mk.injEq] at e ⊢;simp[e]
 ·rw[show((2:Int)==1)=false from rfl,show((2:Int)==2)=true from rfl,cond_false,cond_true,aa]
  refine T.ret ⟨⟨h1,h2,h3,by simp⟩,λe=>?_,λe _=>?_⟩
  ·simp only[zA,tE,zZ,aAK,aAH,zPt,aE.mk.injEq,aP.mk.injEq,aK.mk.injEq,aD.mk.injEq,aJ.mk.injEq,aA.mk.injEq] at e;refine⟨λh=>(by cases h),λ_=>?_,λh=>(by cases h),λh=>by cases h⟩
   simp only[zA,tE,zZ,aAK,aAH,zPt,aE.mk.injEq,aP.mk.injEq,aK.mk.injEq,aD.mk.injEq,aJ.mk.injEq,aA.mk.injEq]
   simp[e]
  ·have e:=e.2.1 rfl;simp only[zA,tE,zZ,aAK,aAH,zPt,aE.mk.injEq,aP.mk.injEq,aK.mk.injEq,aD.mk.injEq,aJ.mk.injEq,aA.mk.injEq] at e ⊢;simp[e]
 ·rw[show((3:Int)==1)=false from rfl,show((3:Int)==2)=false from rfl,show((3:Int)==3)=true from rfl,cond_false,cond_false,cond_true,aa]
  refine T.ret ⟨⟨h1,h2,h3,h4⟩,λe=>?_,λe _=>?_⟩
  ·simp only[zA,tE,zZ,aAK,aAH,zPt,aE.mk.injEq,aP.mk.injEq,aK.mk.injEq,aD.mk.injEq,aJ.mk.injEq,aA.mk.injEq] at e;refine⟨λh=>(by cases h),λh=>(by cases h),λ_=>?_,λh=>by cases h⟩
   simp only[zA,tE,zZ,aAK,aAH,zPt,aE.mk.injEq,aP.mk.injEq,aK.mk.injEq,aD.mk.injEq,aJ.mk.injEq,aA.mk.injEq]
   simp[e]
  ·have e:=e.2.2.1 rfl;simp only[zA,tE,zZ,aAK,aAH,zPt,aE.mk.injEq,aP.mk.injEq,aK.mk.injEq,aD.mk.injEq,aJ.mk.injEq,aA.mk.injEq] at e ⊢;simp[e]
 ·rw[show((4:Int)==1)=false from rfl,show((4:Int)==2)=false from rfl,show((4:Int)==3)=false from rfl,show((4:Int)==4)=true from rfl,cond_false,cond_false,cond_false,cond_true,aa]
  refine T.ret ⟨⟨h1,h2,h3,h4⟩,λe=>?_,λe _=>?_⟩
  ·simp only[zA,tE,zZ,aAK,aAH,zPt,aE.mk.injEq,aP.mk.injEq,aK.mk.injEq,aD.mk.injEq,aJ.mk.injEq,aA.mk.injEq] at e;refine⟨λh=>(by cases h),λh=>(by cases h),λh=>(by cases h),λ_=>?_⟩
   simp only[zA,tE,zZ,aAK,aAH,zPt,aE.mk.injEq,aP.mk.injEq,aK.mk.injEq,aD.mk.injEq,aJ.mk.injEq,aA.mk.injEq]
   simp[e]
  ·have e:=e.2.2.2 rfl;simp only[zA,tE,zZ,aAK,aAH,zPt,aE.mk.injEq,aP.mk.injEq,aK.mk.injEq,aD.mk.injEq,aJ.mk.injEq,aA.mk.injEq] at e ⊢;simp[e]
 ·rw[show(k==1)=false by simpa using n1,show(k==2)=false by simpa using n2,show(k==3)=false by simpa using n3,show(k==4)=false by simpa using n4,cond_false,cond_false,cond_false,cond_false,aa]
  refine T.ret ⟨⟨h1,h2,h3,h4⟩,λ_=>⟨λh=>absurd h n1,λh=>absurd h n2,λh=>absurd h n3,λh=>absurd h n4⟩,λ_ g=>?_⟩
  rcases g with ⟨g,_⟩ | ⟨g,_⟩ | ⟨g,_⟩ | ⟨g,_⟩
  ·exact absurd g n1
  ·exact absurd g n2
  ·exact absurd g n3
  ·exact absurd g n4
structure aFb(N:Nat)(a:aE):Prop where
 own0:mY N a=some 0
 own:aOl a
 clean:qY a
 cap:((rA a).length:Int)<=xM a.gC
theorem aQu(N:Nat)(hN:1000 < N)(a:aE)(h:aEk a):T (oW N a) (λc=>(c=0->aFb N a)/\(aFb N a->c=0)):=by
 unfold oW;obtain⟨r1,e1,h1⟩:=ownT N hN a h;rw[e1,aa]
 refine T.cond (λc=>T.ret ⟨λe=>?_,λg=>?_⟩) λc=>?_
 ·subst e;cases c
 ·have:=g.own0;rw[e1] at this;cases this;cases c
 ·have hr:r1=0:=by simpa using c
  subst hr;have hown:=h1 rfl;obtain⟨b,eb,hb1,hb2,hb3⟩:=aUu N a h;rw[eb,aa]
  obtain⟨r3,e3,h3⟩:=aUV N hN b (zA a.gC) hb1;rw[show sP N b (aE.mk a.gC (aP.mk [] [] []) (aK.mk 0 []) (aD.mk 0 (#v[0,0,0]) 0) (aJ.mk 0 (#v[0,0,0]) (aA.mk 0 0 0) (aA.mk 0 0 0) (aA.mk 0 0 0)))=some r3 from e3,aa]
  refine T.cond (λc3=>T.ret ⟨λe=>(by cases e),λg=>?_⟩) λc3=>?_
  ·have:=h3.2 (hb3 g.clean g.own)
   rw[this] at c3;cases c3
  ·have hr3:r3=true:=by simpa using c3
   have hclean:=hb2 (h3.1 hr3)
   rw[assE N hN a hown e1,aa,capP,aa]
   refine T.letO λx hx=>?_;subst hx;refine T.cond (λc4=>T.ret ⟨λe=>(by cases e),λg=>?_⟩) λc4=>T.ret ⟨λ_=>⟨e1,hown,hclean,?_⟩,λ_=>rfl⟩
   ·have:=g.cap;have:=of_decide_eq_true c4;omega
   ·have:=of_decide_eq_false c4;omega
theorem aNd(N:Nat)(hN:1000 < N)(a:aE)(h:aEk a):T (pK N a) (λr=>(r.2=0/\aFb N a/\r.1=rA a)\/(r.2≠0/\r.1=[]/\¬aFb N a)):=by
 unfold pK;refine T.bind (aQu N hN a h) λc hc=>T.cond (λe=>T.ret ?_) λe=>?_
 ·have e:c≠0:=by simpa using e
  exact .inr ⟨e,rfl,λg=>e (hc.2 g)⟩
 ·have e:c=0:=by simpa using e
  have g:=hc.1 e;rw[assE N hN a g.own g.own0,aa]
  exact T.ret (.inl ⟨rfl,g,rfl⟩)
def RdQ{α:Type}(f:α->List Int)(P:α->Prop)(c:Nat)(b:List Int)(e:Int)(b':List Int)(e':Int)(x:α):Prop:=
 aS b'/\b'.length<=b.length/\((e'=0/\e=0/\b=f x++b'/\P x)\/(e'≠0/\(e=0->b.length < c)))
def ptR(p:aA):Prop:=(-32768<=p.gX/\p.gX < 32768)/\(-32768<=p.gY/\p.gY < 32768)/\(-32768<=p.gZ/\p.gZ < 32768)
theorem ptG.r{p:aA}(h:ptG p):ptR p:=by obtain⟨h1,h2,h3⟩:=h;exact⟨⟨by omega,by omega⟩,⟨by omega,by omega⟩,by omega,by omega⟩
structure MeshR(m:aP):Prop where
 nv:m.gF.length < 256
 nt:m.gJ.length < 256
 nu:m.gL.length=m.gF.length
 v:∀p∈m.gF,ptR p
 u:∀p∈m.gL,uvG p
 t:∀p∈m.gJ,trG 256 p
theorem aIp.r{m:aP}(g:aIp m):MeshR m:=⟨by have:=g.nv;omega,by have:=g.nt;omega,g.nu,λp h=>(g.v p h).r,g.u,g.t⟩
structure TexR(t:aK):Prop where
 side:0<=t.gO/\t.gO < 256
 n:(t.gK.length:Int)=t.gO*t.gO
 t:∀p∈t.gK,trG 256 p
theorem aO7.r{t:aK}(g:aO7 t):TexR t:=⟨⟨by have:=g.side;omega,by have:=g.side;omega⟩,g.n,g.t⟩
def LigR(l:aJ):Prop:=(0<=l.gC/\l.gC < 256)/\trG 4294967296 l.gE/\ptR l.gAt/\ptR l.gU/\ptR l.gV
theorem aRP.r{l:aJ}(g:aRP l):LigR l:=⟨g.kind,g.color,g.at_.r,g.u.r,g.v.r⟩
set_option maxHeartbeats 2000000
theorem RdQ.seq{α β:Type}{f:α->List Int}{P:α->Prop}{c:Nat}{g:β->List Int}{Q:β->Prop}{d:Nat}{b b1 b2:List Int}{e e1 e2:Int}{x:α}{y:β}(hf:∀x,(f x).length=c)(h:RdQ f P c b e b1 e1 x)(k:RdQ g Q d b1 e1 b2 e2 y):RdQ (λp:α×β=>f p.1++g p.2) (λp=>P p.1/\Q p.2) (c+d) b e b2 e2 (x,y):=by
 obtain⟨h1,h2,h3⟩:=h;obtain⟨k1,k2,k3⟩:=k;refine⟨k1,by omega,?_⟩
 rcases k3 with ⟨q1,q2,q3,q4⟩ | ⟨q1,q2⟩
 ·subst q2;rcases h3 with ⟨_,i2,i3,i4⟩ | ⟨i1,_⟩
  ·exact .inl ⟨q1,i2,by rw[i3,q3,an],i4,q4⟩
  ·exact absurd rfl i1
 ·refine .inr ⟨q1,λhe=>?_⟩
  rcases h3 with ⟨i1,_,i3,_⟩ | ⟨_,i1⟩
  ·have hl:=congrArg md i3;rw[ai,hf] at hl;have:=q2 i1;omega
  ·have:=i1 he;omega
set_option maxHeartbeats 1000000
def uX(base:Vector Int 8)(m:aF):List Int:=[85,77,66,49]++(base.toList++aF6 m)
theorem sK(base:Vector Int 8)(m:aF):(uX base m).length=47:=by unfold uX;simp[aHz]
def wC(N:Nat)(key:Vector Int 32)(base:Vector Int 8)(m:aF):List Int:=aA6 N key (aJ1 N base 0) (uX base m) []
theorem aAJ(N:Nat)(hN:70000<=N)(key:Vector Int 32)(base:Vector Int 8)(m:aF):(wC N key base m).length=16:=by
 unfold wC;rw[aB4 N hN key _ _ (by simp)];rfl
theorem aFJ(N:Nat)(hN:70000<=N)(key:Vector Int 32)(base:Vector Int 8)(m:aF):aS (wC N key base m):=by
 unfold wC;exact aFD N hN key _ _ (by rw[sK];omega) (by simp)
def aEp(i n:Nat):List Int:=leB 2 (i:Int)++leB 2 (n:Int)
theorem sC(i n:Nat):(aEp i n).length=4:=by unfold aEp;simp[iT]
theorem aHw(i n:Nat):aS (aEp i n):=(sN _ _).app (sN _ _)
def aP9(N:Nat)(key:Vector Int 32)(base:Vector Int 8)(mark:List Int)(i:Nat)(p:List Int):List Int:=aA6 N key (aJ1 N base ((i+1:Nat):Int)) (aEp i p.length++mark) p
def aEr(N:Nat)(key:Vector Int 32)(base:Vector Int 8)(mark:List Int)(i:Nat)(p:List Int):List Int:=aEp i p.length++aP9 N key base mark i p
theorem aGc(N:Nat)(hN:70000<=N)(key:Vector Int 32)(base:Vector Int 8)(mark:List Int)(i:Nat){p:List Int}(hp:p.length<=65536):(aEr N key base mark i p).length=p.length+20:=by
 unfold aEr aP9;rw[ai,sC,aB4 N hN key _ _ hp];omega
def aCd(N:Nat)(key:Vector Int 32)(base:Vector Int 8)(mark:List Int):Nat->Nat->List Int->List Int
 | 0,_,_=>[]
 | c+1,i,l=>aEr N key base mark i (l.take 256)++aCd N key base mark c (i+1) (l.drop 256)
def nCh(n:Nat):Nat:=(n+255) / 256
theorem aRm(n:Nat):qE (n:Int)=(nCh n:Int):=by unfold qE nCh;split <;> omega
theorem aV6(N:Nat)(hN:70000<=N)(key:Vector Int 32)(base:Vector Int 8)(s mark q:List Int)(i:Nat)(p:List Int)(hm:mark.length=16)(hi:i < 1000)(hp:p.length<=256)(hs:s.length<=100000) :
  pP N s key base mark q (i:Int) p=some (s++aEr N key base mark i p):=by
 unfold pP;have e:=put2 N (by omega) [] 2 (by decide) (by decide) (i:Int) (p.length:Int) ⟨by omega,by rw[show cE 2=65536 from rfl];omega⟩ ⟨by omega,by rw[show cE 2=65536 from rfl];omega⟩ (by simp)
 rw[eF (x:=(p.length:Int)),aB,eF (x:=(i:Int)),show bT N [] 2 [(i:Int),(p.length:Int)]=_ from e,aa,cI,nonP N (by omega),aa]
 dsimp only;rw[dn,show leB 2 (i:Int)++leB 2 (p.length:Int)=aEp i p.length from rfl,aQM N [aEp i p.length,mark] (by simp) (by show 2 < N;omega) (by intro l hl;simp only[cx,dk,or_false] at hl;rcases hl with rfl | rfl;rw[sC];omega;omega),aa]
 have e2:[aEp i p.length,mark].flatten=aEp i p.length++mark:=by simp
 rw[e2,aUi N hN key _ _ p (by rw[ai,sC];omega) (by omega),aa,oY (by omega) (by rw[sC];omega),aa]
 dsimp only;rw[oY (by rw[ai,sC];omega) (by rw[aB4 N hN key _ _];omega),aa,an]
 rfl
theorem aRl{α:Type}(l:List α):l.take (min l.length 256)=l.take 256:=by
 by_cases h:l.length<=256
 ·rw[Nat.min_eq_left h,ja,aq h]
 ·rw[Nat.min_eq_right (by omega)]
theorem aRz{α:Type}(l:List α):l.drop (min l.length 256)=l.drop 256:=by
 by_cases h:l.length<=256
 ·rw[Nat.min_eq_left h,fj,List.drop_eq_nil_of_le h]
 ·rw[Nat.min_eq_right (by omega)]
theorem aUK(N:Nat)(hN:70000<=N)(key:Vector Int 32)(base:Vector Int 8)(mark:List Int)(hm:mark.length=16):∀(k:Nat) (s l:List Int) (i:Nat),nCh l.length < k->i+nCh l.length<=100->s.length+300*nCh l.length<=100000 ->
  cC N key base mark k s l (i:Int)=some (s++aCd N key base mark (nCh l.length) i l,[])
 | 0,_,_,_,h,_,_=>by omega
 | k+1,s,l,i,hk,hi,hs=>by
  rw[cC,aB]
  by_cases h:l.length=0
  ·obtain rfl:=List.eq_nil_of_length_eq_zero h;rw[df (by simp),cond_false,show nCh ([]:List Int).length=0 from rfl,aCd,dp]
  ·have hn:nCh l.length=nCh (l.drop 256).length+1:=by unfold nCh;rw[cd];omega
   rw[dt,cond_true,show(256:Int)=((256:Nat):Int) from rfl,aDc,aB,aRA (by omega),aa,aRl,aV6 N hN key base s mark l i _ hm (by omega) (by simp;omega) (by omega),aa,aIj (by omega),aa,aRz,cI]
   rw[aUK N hN key base mark hm k _ (l.drop 256) (i+1) (by omega) (by omega) (by rw[ai,aGc N hN key base mark i (by simp;omega),List.length_take];omega)]
   rw[hn,aCd,an]
def aB7(N:Nat)(key:Vector Int 32)(base:Vector Int 8)(m:aF)(p:List Int):List Int:=
 uX base m++(wC N key base m++aCd N key base (wC N key base m) (nCh p.length) 0 p)
def tZ(m:aF)(n:Nat):aF:=aF.mk m.gId m.gC m.gA6 m.gA3 m.gA4 m.gTo (n:Int) (nCh n:Int)
theorem aSo(k:Int):xM k<=2048:=by unfold xM;split;decide;split;decide;split;decide;split <;> decide
theorem aEI{m:aF}(t:aHD m){n:Nat}(h:n<=2048):aHD (tZ m n):=
 ⟨t.id,t.kind,t.label,t.masks,t.fr,t.to,⟨by show _<=(n:Int);omega,by show(n:Int)<=_;omega⟩,⟨by show _<=(nCh n:Int);omega,by show(nCh n:Int)<=_;unfold nCh;omega⟩⟩
theorem aFb.len{N:Nat}{a:aE}(g:aFb N a):(rA a).length<=2048:=by have:=g.cap;have:=aSo a.gC;omega
theorem aUj(N:Nat)(hN:70000<=N)(key:Vector Int 32)(base:Vector Int 8)(m:aF)(a:aE)(t:aHD m)(hA:aEk a) :
  T (oU N key base m a) (λr=>(r.2=0/\aFb N a/\m.gC=a.gC/\rP (tZ m (rA a).length)=0/\r.1=aB7 N key base (tZ m (rA a).length) (rA a))\/(r.2≠0/\r.1=[]/\¬(aFb N a/\m.gC=a.gC/\rP (tZ m (rA a).length)=0))):=by
 unfold oU;obtain⟨r1,e1,h1⟩:=aNd N (by omega) a hA;rw[e1,aa]
 rcases h1 with ⟨c,g,h⟩ | ⟨c,_,h⟩
 rotate_left
 ·rw[show(r1.2 != 0)=true by simpa using c,cond_true]
  exact T.ret (.inr ⟨c,rfl,λq=>h q.1⟩)
 ·rw[c,show((0:Int) != 0)=false from rfl,cond_false,h]
  have hl:=g.len;by_cases hk:m.gC=a.gC
  rotate_left
  ·rw[show(m.gC != a.gC)=true by simpa using hk,cond_true]
   exact T.ret (.inr ⟨by decide,rfl,λq=>hk q.2.1⟩)
  rw[show(m.gC != a.gC)=false by simpa using hk,cond_false,aJO N ⟨by omega,by omega⟩,aa,aRm]
  have e3:=aUa N (by omega) (tZ m (rA a).length) (aEI t hl)
  rw[show mA N (aF.mk m.gId m.gC m.gA6 m.gA3 m.gA4 m.gTo ((rA a).length:Int) (nCh (rA a).length:Int))=_ from e3,aa]
  by_cases hc:rP (tZ m (rA a).length)=0
  rotate_left
  ·rw[if_neg hc]
   dsimp only;rw[show(rP (tZ m (rA a).length) != 0)=true by simpa using hc,cond_true]
   exact T.ret (.inr ⟨hc,rfl,λq=>hc q.2.2⟩)
  rw[if_pos hc]
  dsimp only;rw[show((0:Int) != 0)=false from rfl,cond_false,show dM base.toList 0 8=some base.toList from aKA (m:=8) _,aa]
  rw[aQM N [[85,77,66,49],base.toList,aF6 (tZ m (rA a).length)] (by simp) (by show 3 < N;omega) (by intro l hl;simp only[cx,dk,or_false] at hl;rcases hl with rfl | rfl | rfl;simp;simp;rw[aHz];omega),aa]
  rw[show([[85,77,66,49],base.toList,aF6 (tZ m (rA a).length)]:List (List Int)).flatten=uX base (tZ m (rA a).length) by unfold uX;simp,nonP N (by omega),aa]
  rw[aUi N hN key _ _ [] (by rw[sK];omega) (by simp),aa]
  dsimp only;rw[show aA6 N key (aJ1 N base 0) (uX base (tZ m (rA a).length)) []=wC N key base (tZ m (rA a).length) from rfl]
  have hm:=aAJ N hN key base (tZ m (rA a).length)
  rw[oY (by rw[sK];omega) (by omega),aa]
  rw[show wV N (rA a)=some () from rfl,aa]
  unfold dS;have hn:nCh (rA a).length<=8:=by unfold nCh;omega
  have e:=aUK N hN key base (wC N key base (tZ m (rA a).length)) hm N (uX base (tZ m (rA a).length)++wC N key base (tZ m (rA a).length)) (rA a) 0 (by omega) (by omega) (by rw[ai,sK,hm];omega)
  rw[show((0:Nat):Int)=0 from rfl] at e;rw[e,aa,aa]
  refine T.ret (.inl ⟨rfl,g,hk,hc,?_⟩)
  unfold aB7;rw[an]
theorem toB'{x:Int}(h:isB x):((UInt8.ofNat x.toNat).toNat:Int)=x:=by
 obtain⟨h0,h1⟩:=h;have e:(UInt8.ofNat x.toNat).toNat=x.toNat % 256:=UInt8.toNat_ofNat';rw[e];omega
theorem aKx : ∀{a b:List Int},aS a->aS b->(a.map λx=>UInt8.ofNat x.toNat)=(b.map λx=>UInt8.ofNat x.toNat)->a=b
 | [],[],_,_,_=>rfl
 | [],b :: l,_,_,h=>by simp at h
 | a :: l,[],_,_,h=>by simp at h
 | a :: l,b :: r,ha,hb,h=>by
  simp only[List.map_cons,List.cons.injEq] at h;have h1:=congrArg (λu:UInt8=>(u.toNat:Int)) h.1;rw[toB' (ha a (by simp)),toB' (hb b (by simp))] at h1;rw[h1,aKx (λx hx=>ha x (by simp[hx])) (λx hx=>hb x (by simp[hx])) h.2]
theorem aWm(N:Nat){a b:List Int}(ha:aS a)(hb:aS b):vQ N a b=some (decide (a=b)):=by
 unfold vQ;rw[aB]
 congr 1;rw[ByteArray.toList_eq,ByteArray.toList_eq,Bool.eq_iff_iff,beq_iff_eq,decide_eq_true_eq]
 unfold aJS;dsimp only;exact⟨aKx ha hb,λh=>by rw[h]⟩
theorem aFl{base:Vector Int 8}{m:aF}(hb:fJ base)(r:aO0 m):aS (uX base m):=by
 unfold uX;refine aS.app ?_ (hb.app (aL6 r.masks))
 intro x hx;simp only[cx,dk,or_false] at hx;rcases hx with rfl | rfl | rfl | rfl <;> exact⟨by decide,by decide⟩
def aKD(N:Nat)(key:Vector Int 32)(base:Vector Int 8)(m:aF)(b:List Int):Prop:=
 fJ base/\aO0 m/\rP m=0/\b=uX base m++(wC N key base m++b.drop 63)
theorem aKD.len{N:Nat}(hN:70000<=N){key:Vector Int 32}{base:Vector Int 8}{m:aF}{b:List Int}(h:aKD N key base m b):63<=b.length:=by
 have:=congrArg md h.2.2.2;rw[ai,ai,sK,aAJ N hN] at this;omega
theorem aKD.of{N:Nat}(hN:70000<=N)(key:Vector Int 32){base:Vector Int 8}{m:aF}(hb:fJ base)(r:aO0 m)(h0:rP m=0)(x:List Int):aKD N key base m (uX base m++(wC N key base m++x))/\(uX base m++(wC N key base m++x)).drop 63=x:=by
 have e:(uX base m++(wC N key base m++x)).drop 63=x:=by
  rw[<- an,List.drop_left' (by rw[ai,sK,aAJ N hN])]
 exact⟨⟨hb,r,h0,by rw[e]⟩,e⟩
theorem aFe(N:Nat)(hN:70000<=N)(key:Vector Int 32)(base:Vector Int 8)(mark:List Int)(hm:mark.length=16):∀(c i:Nat) (l:List Int),aS (aCd N key base mark c i l)
 | 0,_,_=>aIk
 | c+1,i,l=>by
  rw[aCd]
  refine aS.app ?_ (aFe N hN key base mark hm c (i+1) _)
  unfold aEr aP9;exact(aHw _ _).app (aFD N hN key _ _ (by rw[ai,sC];omega) (by simp;omega))
theorem aIc{N:Nat}(hN:70000<=N)(key:Vector Int 32){base:Vector Int 8}(hb:fJ base){m:aF}(r:aO0 m)(p:List Int):aS (aB7 N key base m p):=by
 unfold aB7;exact(aFl hb r).app ((aFJ N hN key base m).app (aFe N hN key base _ (aAJ N hN key base m) _ _ _))
end Go.UK
