/- A part of the proof: what the functions of the program compute. -/
import Derived.Test.YtogkmakcedgneaaGreatJ5
import Derived.Test.YtogkmakcedgneaaGreatJ3
open Int renaming eq_ofNat_of_zero_le→br,tmod→cp,toNat_natCast→bo
open List renaming append_assoc→am,append_nil→cf,drop_drop→fq,drop_eq_getElem_cons→cg,drop_left'→jl,drop_of_length_le→ff,drop_take→mz,drop_zero→eu,ext_getElem?→du,flatten_cons→ji,getD_eq_getElem?_getD→ap,getElem?_append_left→cj,getElem?_append_right→ck,getElem?_drop→eo,getElem?_eq_getElem→af,getElem?_eq_none→ar,getElem?_map→cw,getElem?_range→ii,getElem?_replicate→de,getElem?_set→cz,getElem?_take_of_lt→ek,getElem_mem→co,getElem_range→nl,length→dr,length_append→ah,length_drop→bw,length_map→cr,length_pos_iff→jk,length_range→ny,length_singleton→cn,length_take→ca,map→dk,map_append→ka,mem_cons→d9,mem_flatten→oe,mem_map→fa,nil_append→ee,not_mem_nil→dy,range→ce,replicate→ak,set_append_right→io,set_cons_zero→nm,take_append_drop→fe,take_of_length_le→bf,take_succ→jg,take_zero→j3
open Option renaming bind→ae,bind_some→aa
open Vector renaming ext→od,replicate→ai,toList_inj→ez,toList_setIfInBounds→bu
namespace Go.UK
open Go Go.Proofs
set_option maxRecDepth 20000
set_option maxHeartbeats 16000000
set_option linter.all false
theorem anyD{a b:List Int}{n:Nat}(ha:a.length=n)(hb:b.length=n):((ce n).any λi=>a.getD i 0 != b.getD i 0) = !decide (a=b):=by
 rw[Bool.eq_iff_iff,List.any_eq_true,Bool.not_eq_true',decide_eq_false_iff_not]
 constructor
 ·rintro⟨i,_,h⟩ rfl;simp at h
 ·intro h;refine Classical.byContradiction λhc=>h ?_;apply du;intro i;by_cases c:i < n
  ·rw[fI,fI]
   congr 1;refine Classical.byContradiction λq=>hc ⟨i,List.mem_range.2 c,by simpa using q⟩
  ·rw[ar (by omega),ar (by omega)]
theorem aU6(N:Nat)(hN:70000 < N){key:Vector Int 32}(hk:aN key.toList){n:Vector Int 12}(hn:aN n.toList){a s:List Int}(ha:aN a)(hs:aN s)(la:a.length<=16384)(ls:s.length<=16384:=by omega):oH N key n a s=kG N key n a s:=by
 have f:I64 ((s.length:Int) - 16)=(s.length:Int) - 16:=by rw[aP]
 by_cases h:s.length < 16
 ·rw[aFy N key n a s h]
  unfold oH;rw[f,aC,dt,cond_true]
 obtain⟨c,t,rfl,ht⟩:∃c t,s=c++t/\t.length=16:=⟨s.take (s.length - 16),s.drop (s.length - 16),(fe _ _).symm,by rw[bw];omega⟩
 rw[ah] at ls h;have hc:aN c:=λx hx=>hs x (List.mem_append_left _ hx)
 have htb:aN t:=λx hx=>hs x (List.mem_append_right _ hx)
 rw[aLw N (by omega) key n a c t htb ht la]
 unfold oH;have f:I64 (((c++t).length:Int) - 16)=(c.length:Int):=by rw[ah,ht,aP];omega
 rw[f,aC,df,cond_false,aC,df,cond_false,aC,df,cond_false,nQ (by simp),aa,List.take_left' rfl,macE N hN hk hn ha hc (by omega) (by omega),aa]
 have lm:(aCD N key n a c).toList.length=16:=by simp
 have hl:iT N (aCD N key n a c) (c++t) (c.length:Int) N 0=some (cond ((ce 16).any λi=>(aCD N key n a c).toList.getD i 0 != t.getD i 0) (Sum.inr ([],6)) (Sum.inl ())):=by
  refine sD (ce 16) (λi=>(aCD N key n a c).toList.getD i 0 != t.getD i 0) (([],6):List Int×Int) (iT N (aCD N key n a c) (c++t) (c.length:Int)) (by simp) (λk i h=>?_) (λk=>?_) (by simp;omega)
  ·have h16:i < 16:=by simpa using h
   have ti:((i:Nat):Int).toNat=i:=rfl;have e2:I64 ((c.length:Int)+(i:Int))=((c.length+i:Nat):Int):=by rw[aP];omega
   rw[iT,dt,cond_true,bQ,aa,ti,fI,aa,e2,kX,ck (by omega),Nat.add_sub_cancel_left,fI,aa,nl]
  ·rw[iT,df (by simp),cond_false]
 rw[hl,aa,anyD lm ht]
 unfold aG3;cases decide ((aCD N key n a c).toList=t) with
 | true=>
  rw[cond_true]
  show(ae (some c) λs11=>ae (rX N key 1 n s11) λr12=>some (r12,(0:Int)))=_;rw[aa,xorR N (by omega) hk hn (by omega),aa]
 | false=>rfl
theorem aUs(N:Nat){l:List Int}(hl:aN l)(h8:l.length<=8)(r4:Int×Int×List Int)(hr:r4.2.2=l):∀(i k:Nat) (s:Int),i<=l.length->i < k->s=oB (l.drop i)->dJ N r4 k s ((i:Int) - 1)=some (oB l)
 | 0,k+1,s,_,_,hs=>by
  rw[dJ,df,cond_false,hs,eu]
 | i+1,k+1,s,hi,hk,hs=>by
  have hc:l.drop i=l[i] :: l.drop (i+1):=cg (by omega)
  have hb:=hl _ (co (h:=(by omega:i < l.length)))
  have hd:aN (l.drop i):=hl.drop i;have lt:=aAF _ hd;have le:(l.drop i).length<=8:=by rw[bw];omega
  have hp:bL (l.drop i).length<=18446744073709551616:=aQo le;have e2:oB (l.drop i)=l[i]+256*oB (l.drop (i+1)):=by rw[hc];rfl
  have e0:0<=oB (l.drop (i+1)):=(aAF _ (hl.drop (i+1))).1;unfold isB at hb;rw[dJ,dt,cond_true,hr,show((i+1:Nat):Int) - 1=(i:Int) by omega,cN,aa,aC,hs,jW (x:=oB (l.drop (i+1))*256),jW (x:=l[i]),jW,aP]
  exact aUs N hl h8 r4 hr i k _ (by omega) (by omega) (by rw[e2];omega)
theorem takeR(N:Nat)(B:List Int)(hB:B.length<=1000000)(at_:Nat)(h:at_<=B.length)(e:Int)(w:Nat)(hw:w<=1000):∃(a':Nat) (e':Int) (o:List Int),a'<=B.length/\bC N (w:Int) (aB.mk (B.drop at_) e true)=some (B.drop a',e',o)/\eH N (w:Int) (aD.mk B (at_:Int) e)=some ((a':Int),e',o)/\o.length<=w/\(∀x∈o,x∈B):=by
 have hl:=bw (i:=at_) (l:=B)
 by_cases he:e=0
 ·subst he;by_cases hs:w<=(B.drop at_).length
  ·refine⟨at_+w,0,(B.drop at_).take w,by omega,?_,?_,by rw[ca];omega,λx hx=>List.mem_of_mem_drop (List.mem_of_mem_take hx)⟩
   ·rw[aFx N _ w hs,fq]
   ·unfold eH;dsimp only;have e1:I64 ((at_:Int)+(w:Int))=((at_+w:Nat):Int):=by rw[aP];omega
    have e2:I64 (((at_+w:Nat):Int) - (w:Int))=(at_:Int):=by rw[aP];omega
    rw[show((0:Int)==0)=true from rfl,cond_true,df,aC,cond_false,aa,show((0:Int)==0)=true from rfl,cond_true,aC,aP (x:=(B.length:Int) - (at_:Int)),df,aa,cond_false,aa,show((0:Int) != 0)=false from rfl,cond_false,e1,e2,aC,qC,aa,bo,bo,mz,show at_+w - at_=w by omega]
  ·refine⟨at_,4,[],h,aBU N _ w hs,?_,by simp,by simp⟩
   unfold eH;dsimp only;rw[show((0:Int)==0)=true from rfl,cond_true,df,aC,cond_false,aa,show((0:Int)==0)=true from rfl,cond_true,aC,aP (x:=(B.length:Int) - (at_:Int)),dt,aa,cond_true,aa,show((4:Int) != 0)=true from rfl,cond_true]
 ·refine⟨at_,e,[],h,aPL N _ w he,?_,by simp,by simp⟩
  unfold eH;dsimp only;rw[show(e==0)=false by simpa using he,cond_false,aC,cond_false,aa,show(e==0)=false by simpa using he,cond_false,aa,cond_false,aa,show(e != 0)=true by simpa using he,cond_true]
theorem aMY(N:Nat)(hN:20 < N)(B:List Int)(hb:aN B)(hB:B.length<=1000000)(at_:Nat)(h:at_<=B.length)(e:Int)(w:Nat)(hw0:1<=w:=by decide)(hw:w<=8:=by decide):∃(a':Nat) (e' v:Int),a'<=B.length/\bD N (w:Int) (aB.mk (B.drop at_) e true)=some (B.drop a',e',v)/\aF N (w:Int) (aD.mk B (at_:Int) e)=some (B,(a':Int),e',v)/\0<=v/\v < bL w:=by
 obtain⟨a',e',o,h1,h2,h3,h4,h5⟩:=takeR N B hB at_ h e w (by omega)
 have ho:aN o:=λx hx=>hb x (h5 x hx)
 refine⟨a',e',oB o,h1,?_,?_,(aAF _ ho).1,?_⟩
 ·unfold bD;rw[df (show ¬(w:Int) < 1 by omega),df (show ¬(w:Int) > 8 by omega),cond_false,aC,cond_false,aa,h2,aa]
  have n1:=numL N o (B.drop a',e',o) rfl ho (by omega) N 0 (by omega) (by omega)
  rw[j3] at n1;rw[show cZ N (B.drop a',e',o) N 0 0=some (oB o) from n1,aa]
 ·unfold aF;dsimp only;have q2:(ae (cond (e==0) (aM (cond (decide ((w:Int) < 1)) true (decide ((w:Int) > 8))) λx3=>some x3) (some false)) λp2=>cond p2 (some 2) (some e))=some e:=by
   rw[df (show ¬(w:Int) < 1 by omega),df (show ¬(w:Int) > 8 by omega),cond_false,aC]
   cases e==0 <;> rfl
  rw[q2,aa,show uK (w:Int) 0=(w:Int) by unfold uK;split <;> omega,h3,aa,aC,aP (x:=(o.length:Int) - 1),aUs N ho (by omega) ((a':Int),e',o) rfl o.length N 0 (by omega) (by omega) (by rw[List.drop_length];rfl),aa]
 ·have a1:=(aAF _ ho).2;have a2:bL o.length<=bL w:=by
   unfold bL
   exact_mod_cast Nat.pow_le_pow_right (by decide) h4
  omega
theorem aPw(N:Nat)(B:List Int)(at_:Nat)(h:at_<=B.length)(e:Int):dP N (aD.mk B (at_:Int) e)=dC N (aB.mk (B.drop at_) e true):=by
 rw[aJo]
 unfold dP;dsimp only;have hl:=bw (i:=at_) (l:=B)
 by_cases he:e=0
 ·subst he;rw[show((0:Int)==0)=true from rfl,show((0:Int) != 0)=false from rfl,cond_true,cond_false,aC,aa]
  by_cases c:at_ < B.length
  ·rw[dt,dt];rfl
  ·rw[df,df];rfl
 ·rw[show(e==0)=false by simpa using he,show(e != 0)=true by simpa using he];rfl
theorem aSB(N:Nat)(hN:20 < N)(B:List Int)(hb:aN B)(hB:B.length<=1000000)(at_:Nat)(h:at_<=B.length)(e:Int):∃(a':Nat) (e' v:Int),a'<=B.length/\bY N 2 (aB.mk (B.drop at_) e true)=some (B.drop a',e',v)/\fA N 2 (aD.mk B (at_:Int) e)=some (B,(a':Int),e',v):=by
 obtain⟨a',e',v,h1,h2,h3,h4,h5⟩:=aMY N hN B hb hB at_ h e 2;obtain⟨r,k1,k2,k3,k4,k5,k6⟩:=aOW N hN (B.drop at_) e (hb.drop at_)
 have h5:v < 65536:=h5;have c:bY N 2 (aB.mk (B.drop at_) e true)=some (B.drop a',e',if v < 32768 then v else v - 65536):=by
  unfold bY;rw[show bD N 2 (aB.mk (B.drop at_) e true)=_ from h2,aa,show(decide ((2:Int) < 1))=false from rfl,show(decide ((2:Int) > 8))=false from rfl,cond_false,aC,cond_false,show I64 (64 - I64 (8*2))=48 by decide,aC]
  dsimp only;rw[aP (x:=v),tU .i64 (by decide),aa,aC,jB .i64 (by decide),aa]
  congr 3;have:=aPo v 48;rw[show((48:Nat):Int)=48 from rfl] at this;rw[this,zC .i64 _ 48 48 rfl,show(2:Int) ^ 48=281474976710656 from rfl,aPD]
  split <;> omega
 refine⟨a',e',_,h1,c,?_⟩
 unfold fA;rw[show aF N 2 (aD.mk B (at_:Int) e)=_ from h3,aa]
 dsimp only;have hm:=aOz N (by omega) 2 (by decide)
 rw[show bL 2 - 1=65535 from rfl,show((2:Nat):Int)=2 from rfl] at hm;by_cases he:e'=0
 ·subst he;rw[show((0:Int) != 0)=false from rfl,cond_false,hm,aa,show U64 (Int.tdiv 65535 2)=32767 by decide,aC]
  by_cases c2:v > 32767
  ·rw[dt c2,cond_true,aa,jW (x:=65535 - v),aP (x:=65535 - v),aC,aP (x:=0 - (65535 - v)),aP (x:=0 - (65535 - v) - 1),aC,if_neg (by omega)]
   congr 4;omega
  ·rw[df c2,cond_false,aP (x:=v),if_pos (by omega)]
 ·rw[show(e' != 0)=true by simpa using he,cond_true]
  -- an error tells 0
  obtain⟨r2,q1,q2,q3,q4,q5,q6⟩:=aEA N hN (B.drop at_) e 2 (by decide) (by decide) (hb.drop at_)
  rw[h2] at q1;obtain rfl:=Option.some.inj q1;rcases q6 with ⟨q6,_⟩ | ⟨_,q6,_⟩
  ·exact absurd q6 he
  ·dsimp only at q6;rw[q6,if_pos (by decide)]
theorem aBV(N:Nat)(hN:20 < N)(B:List Int)(hb:aN B)(hB:B.length<=1000000)(at_:Nat)(h:at_<=B.length)(e:Int)(w:Nat)(hw0:1<=w:=by decide)(hw:w<=4:=by decide):∃(a':Nat) (e' v:Int),a'<=B.length/\aU N (w:Int) (aB.mk (B.drop at_) e true)=some (B.drop a',e',v)/\aF N (w:Int) (aD.mk B (at_:Int) e)=some (B,(a':Int),e',v)/\I64 v=v/\0<=v/\v < bL w:=by
 obtain⟨a',e',v,h1,h2,h3,h4,h5⟩:=aMY N hN B hb hB at_ h e w hw0 (by omega)
 have lt:bL w<=4294967296:=by rcases(show w=1\/w=2\/w=3\/w=4 by omega) with rfl | rfl | rfl | rfl <;> decide
 have hv:I64 v=v:=aP;refine⟨a',e',v,h1,?_,h3,hv,h4,h5⟩
 unfold aU;rw[h2,aa]
 dsimp only;rw[hv]
theorem aKV(N:Nat)(hN:20 < N)(B:List Int)(hb:aN B)(hB:B.length<=1000000)(at_:Nat)(h:at_<=B.length)(e:Int):∃(a':Nat) (e':Int) (p:aA),a'<=B.length/\fW N (aB.mk (B.drop at_) e true)=some (B.drop a',e',true,p)/\jX N (aD.mk B (at_:Int) e)=some (B,(a':Int),e',p):=by
 obtain⟨a1,e1,x,h1,c1,d1⟩:=aSB N hN B hb hB at_ h e;obtain⟨a2,e2,y,h2,c2,d2⟩:=aSB N hN B hb hB a1 h1 e1;obtain⟨a3,e3,z,h3,c3,d3⟩:=aSB N hN B hb hB a2 h2 e2;refine⟨a3,e3,aA.mk x y z,h3,?_,?_⟩
 ·unfold fW;rw[c1,aa]
  dsimp only;rw[c2,aa]
  dsimp only;rw[c3,aa]
 ·unfold jX;rw[d1,aa]
  dsimp only;rw[d2,aa]
  dsimp only;rw[d3,aa]
theorem aPK{α:Type}(B:List Int)(n:Nat)(hn:n<=1000)(v:Int)(hv:v=(n:Int)){F:Nat->List α->List Int->Int->Bool->Int->Option (List α×List Int×Int×Bool)}{G:Nat->List α->List Int->Int->Int->Int->Option (List α×List Int×Int×Int)}
  (hF:∀k i s at_ e,i < n->s.length=i->at_<=B.length->∃a' e' x,a'<=B.length/\F (k+1) s (B.drop at_) e true (i:Int)=F k (s++[x]) (B.drop a') e' true (I64 ((i:Int)+1))/\G (k+1) s B (at_:Int) e (i:Int)=G k (s++[x]) B (a':Int) e' (I64 ((i:Int)+1)))
  (eF:∀k s b e t,F (k+1) s b e t (n:Int)=some (s,b,e,t)) (eG:∀k s b a e,G (k+1) s b a e (n:Int)=some (s,b,a,e)) :
  ∀(k i:Nat) (s:List α) (at_:Nat) (e:Int),i<=n->s.length=i->n - i < k->at_<=B.length->∃(l:List α) (a':Nat) (e':Int),l.length=n/\a'<=B.length/\F k s (B.drop at_) e true (i:Int)=some (l,B.drop a',e',true)/\G k s B (at_:Int) e (i:Int)=some (l,B,(a':Int),e')
 | 0,_,_,_,_,_,_,h,_=>by omega
 | k+1,i,s,at_,e,hi,hs,hk,ha=>by
  by_cases c:i=n
  ·subst c;exact⟨s,at_,e,hs,ha,eF k s _ e true,eG k s _ _ e⟩
  ·obtain⟨a',e',x,h1,h2,h3⟩:=hF k i s at_ e (by omega) hs ha;rw[h2,h3,cF]
   exact aPK B n hn v hv hF eF eG k (i+1) (s++[x]) a' e' (by omega) (by rw[ah,hs];rfl) (by omega) h1
theorem aWv(N:Nat)(hN:70000 < N){B:List Int}(hb:aN B)(hB:B.length<=5000):rQ N B=tL N B:=by
 obtain⟨a1,e1,v,h1,c1,d1,i1,j1,k1⟩:=aBV N (by omega) B hb (by omega) 0 (by omega) 0 1;obtain⟨a2,e2,t,h2,c2,d2,i2,j2,k2⟩:=aBV N (by omega) B hb (by omega) a1 h1 e1 1;rw[eu] at c1;have k1:v < 256:=k1;have k2:t < 256:=k2;obtain⟨n,rfl⟩:=br j1;obtain⟨m,rfl⟩:=br j2;unfold rQ tL;rw[aKa N B,aa,show aF N 1 (aD.mk B 0 0)=_ from d1,show aU N 1 (aB.mk B 0 true)=_ from c1,aa,aa]
 dsimp only;rw[show aF N 1 (aD.mk B (a1:Int) e1)=_ from d2,show aU N 1 (aB.mk (B.drop a1) e1 true)=_ from c2,aa,aa]
 dsimp only;obtain⟨l1,a3,e3,n1,h3,c3,d3⟩:=aPK (α:=aA) B n (by omega) (n:Int) rfl (F:=fX N (B.drop a1,e1,(n:Int))) (G:=fP N (B,(a1:Int),e1,(n:Int))) (λk i s at_ e hi hs ha=>by
  obtain⟨a',e',p,g1,g2,g3⟩:=aKV N (by omega) B hb (by omega) at_ ha e;refine⟨a',e',p,g1,?_,?_⟩
  ·rw[fX]
   dsimp only;rw[dt,cond_true,g2,aa]
   dsimp only;rw[cK (by rw[cn];omega),aa]
  ·rw[fP]
   dsimp only;rw[i1,dt,aC,cond_true,g3,aa]
   dsimp only;rw[cK (by rw[cn];omega),aa]) (λk s b e t=>by rw[fX];dsimp only;rw[df,cond_false]) (λk s b a e=>by rw[fP];dsimp only;rw[i1,df,aC,cond_false]) N 0 [] a2 e2 (by omega) rfl (by omega) h2
 rw[show fX N (B.drop a1,e1,(n:Int)) N [] (B.drop a2) e2 true 0=_ from c3,show fP N (B,(a1:Int),e1,(n:Int)) N [] B (a2:Int) e2 0=_ from d3,aa,aa]
 dsimp only;obtain⟨l2,a4,e4,n2,h4,c4,d4⟩:=aPK (α:=Vector Int 2) B n (by omega) (n:Int) rfl (F:=fV N (B.drop a1,e1,(n:Int))) (G:=fS N (B,(a1:Int),e1,(n:Int))) (λk i s at_ e hi hs ha=>by
  obtain⟨a',e',x,g1,g2,g3,g4,_⟩:=aBV N (by omega) B hb (by omega) at_ ha e 2;obtain⟨a'',e'',y,f1,f2,f3,f4,_⟩:=aBV N (by omega) B hb (by omega) a' g1 e' 2;refine⟨a'',e'',#v[x,y],f1,?_,?_⟩
  ·rw[fV]
   dsimp only;rw[dt,cond_true,show aU N 2 (aB.mk (B.drop at_) e true)=_ from g2,aa]
   dsimp only;rw[show aU N 2 (aB.mk (B.drop a') e' true)=_ from f2,aa,cK (by rw[cn];omega),aa]
  ·rw[fS]
   dsimp only;rw[i1,dt,aC,cond_true,show aF N 2 (aD.mk B (at_:Int) e)=_ from g3,aa]
   dsimp only;rw[show aF N 2 (aD.mk B (a':Int) e')=_ from f3,aa]
   dsimp only;rw[g4,f4,cK (by rw[cn];omega),aa]) (λk s b e t=>by rw[fV];dsimp only;rw[df,cond_false]) (λk s b a e=>by rw[fS];dsimp only;rw[i1,df,aC,cond_false]) N 0 [] a3 e3 (by omega) rfl (by omega) h3
 rw[show fV N (B.drop a1,e1,(n:Int)) N [] (B.drop a3) e3 true 0=_ from c4,show fS N (B,(a1:Int),e1,(n:Int)) N [] B (a3:Int) e3 0=_ from d4,aa,aa]
 dsimp only;obtain⟨l3,a5,e5,n3,h5,c5,d5⟩:=aPK (α:=Vector Int 3) B m (by omega) (m:Int) rfl (F:=fY N (B.drop a2,e2,(m:Int))) (G:=fO N (B,(a2:Int),e2,(m:Int))) (λk i s at_ e hi hs ha=>by
  obtain⟨a',e',x,g1,g2,g3,g4,_⟩:=aBV N (by omega) B hb (by omega) at_ ha e 1;obtain⟨a'',e'',y,f1,f2,f3,f4,_⟩:=aBV N (by omega) B hb (by omega) a' g1 e' 1;obtain⟨a3',e3',z,q1,q2,q3,q4,_⟩:=aBV N (by omega) B hb (by omega) a'' f1 e'' 1;refine⟨a3',e3',#v[x,y,z],q1,?_,?_⟩
  ·rw[fY]
   dsimp only;rw[dt,cond_true,show aU N 1 (aB.mk (B.drop at_) e true)=_ from g2,aa]
   dsimp only;rw[show aU N 1 (aB.mk (B.drop a') e' true)=_ from f2,aa]
   dsimp only;rw[show aU N 1 (aB.mk (B.drop a'') e'' true)=_ from q2,aa,cK (by rw[cn];omega),aa]
  ·rw[fO]
   dsimp only;rw[i2,dt,aC,cond_true,show aF N 1 (aD.mk B (at_:Int) e)=_ from g3,aa]
   dsimp only;rw[show aF N 1 (aD.mk B (a':Int) e')=_ from f3,aa]
   dsimp only;rw[show aF N 1 (aD.mk B (a'':Int) e'')=_ from q3,aa]
   dsimp only;rw[g4,f4,q4,cK (by rw[cn];omega),aa]) (λk s b e t=>by rw[fY];dsimp only;rw[df,cond_false]) (λk s b a e=>by rw[fO];dsimp only;rw[i2,df,aC,cond_false]) N 0 [] a4 e4 (by omega) rfl (by omega) h4
 rw[show fY N (B.drop a2,e2,(m:Int)) N [] (B.drop a4) e4 true 0=_ from c5,show fO N (B,(a2:Int),e2,(m:Int)) N [] B (a4:Int) e4 0=_ from d5,aa,aa]
 dsimp only;rw[aPw N B a5 h5,aQl N (by omega) _ (by dsimp only;omega),aNR N (by omega) _ (by dsimp only;omega)]
theorem num1(N:Nat)(hN:20 < N)(B:List Int)(hb:aN B)(hB:B.length<=1000000)(at_:Nat)(h:at_ < B.length:=by omega):aF N 1 (aD.mk B (at_:Int) 0)=some (B,((at_+1:Nat):Int),0,B[at_]):=by
 obtain⟨a',e',v,h1,h2,h3,h4,h5⟩:=aMY N hN B hb hB at_ (by omega) 0 1;have hx:=hb _ (co h)
 have e1:leB 1 B[at_]=[B[at_]]:=by
  have:leB 1 B[at_]=[U8 (shr .u64 B[at_] ((8*0:Nat):Int))]:=rfl;rw[this,zC .u64 _ _ (8*0) rfl,show(2:Int) ^ (8*0)=1 from rfl,aBu]
  unfold isB at hx;congr 1;omega
 have k:=aOR N hN 1 (by decide) (by decide) B[at_] (B.drop (at_+1)) hx.1 hx.2 (hb.drop _)
 rw[e1,List.singleton_append,<- cg h,h2] at k;have k:=Option.some.inj k;rw[Prod.mk.injEq,Prod.mk.injEq] at k;have l:=congrArg dr k.1;rw[bw,bw] at l;rw[show aF N 1 (aD.mk B (at_:Int) 0)=_ from h3,k.2.1,k.2.2,show a'=at_+1 by omega]
theorem aUu{a0:Nat}(N:Nat)(hN:20 < N){B:List Int}(hb:aN B)(hB:B.length<=5000)(n:Nat)(hn:n<=66000)(b1:List Int)(a1 e1 v:Int)(hv:I64 (I64 v*I64 v)=(n:Int)):∀(k i:Nat) (s:List (Vector Int 3)) (at_:Nat),i<=n->s.length=i->n - i+1 < k->at_<=B.length->at_=a0+3*i ->
  ∃(l:List (Vector Int 3)) (a':Nat),a'<=B.length/\((l.length=n/\a'=a0+3*n/\cE N (n:Int) k s (B.drop at_) 0 true (i:Int)=some (l,B.drop a',0,true)/\cO N (b1,a1,e1,v) k s B (at_:Int) 0 (i:Int)=some (l,B,(a':Int),0))\/∃l' b',cE N (n:Int) k s (B.drop at_) 0 true (i:Int)=some (l',b',4,true)/\cO N (b1,a1,e1,v) k s B (at_:Int) 0 (i:Int)=some (l,B,(a':Int),4))
 | 0,_,_,_,_,_,h,_,_=>by omega
 | k+1,i,s,at_,hi,hs,hk,ha,hai=>by
  have hl:=bw (i:=at_) (l:=B)
  rw[cE,cO]
  dsimp only;rw[hv,aC]
  by_cases c:i=n
  ·subst c;rw[df,cond_false,cond_false,aC,cond_false]
   exact⟨s,at_,ha,.inl ⟨hs,hai,rfl,rfl⟩⟩
  rw[dt,cond_true,cond_true,show((0:Int)==0)=true from rfl,aC,cond_true]
  by_cases c3:3<=(B.drop at_).length
  ·have t3:(B.drop at_).take 3=[B[at_],B[at_+1],B[at_+2]]:=by
    rw[cg (by omega),cg (by omega),cg (by omega)]
    rfl
   have tk:=aFx N (B.drop at_) 3 c3;rw[t3,fq] at tk;have q0:=hb _ (co (show at_ < B.length by omega))
   have q1:=hb _ (co (show at_+1 < B.length by omega))
   have q2:=hb _ (co (show at_+2 < B.length by omega))
   unfold isB at q0 q1 q2;rw[show bC N 3 (aB.mk (B.drop at_) 0 true)=_ from tk,aa]
   dsimp only;rw[aC,df (by simp),cond_false]
   show ∃(l:List (Vector Int 3)) (a':Nat),a'<=B.length/\((l.length=n/\a'=a0+3*n/\(ae (fT 24 s [#v[I64 B[at_],I64 B[at_+1],I64 B[at_+2]]]) λz15=>cE N (n:Int) k z15 (B.drop (at_+3)) 0 true (I64 ((i:Int)+1)))=_/\_)\/∃l' b',(ae (fT 24 s [#v[I64 B[at_],I64 B[at_+1],I64 B[at_+2]]]) λz15=>cE N (n:Int) k z15 (B.drop (at_+3)) 0 true (I64 ((i:Int)+1)))=_/\_)
   have m0:=num1 N hN B hb (by omega) at_;have m1:=num1 N hN B hb (by omega) (at_+1)
   have m2:=num1 N hN B hb (by omega) (at_+2)
   rw[m0,aa]
   dsimp only;rw[m1,aa]
   dsimp only;rw[m2,aa]
   dsimp only;rw[cK (by rw[cn];omega),aa,aa,cF]
   exact aUu N hN hb hB n hn b1 a1 e1 v hv k (i+1) _ (at_+3) (by omega) (by rw[ah,hs];rfl) (by omega) (by omega) (by omega)
  ·have tk:=aBU N (B.drop at_) 3 c3;rw[show bC N 3 (aB.mk (B.drop at_) 0 true)=_ from tk,aa]
   dsimp only;rw[aC,show decide ((([]:List Int).length:Int) < 3)=true from rfl,cond_true]
   obtain⟨b1',f1,v1,g1,c1,d1,_⟩:=aMY N hN B hb (by omega) at_ ha 0 1;obtain⟨b2',f2,v2,g2,c2,d2,_⟩:=aMY N hN B hb (by omega) b1' g1 f1 1;obtain⟨b3',f3,v3,g3,c3',d3,_⟩:=aMY N hN B hb (by omega) b2' g2 f2 1;obtain⟨r1,w1,_,_,_,_,z1⟩:=aEA N hN (B.drop at_) 0 1 (by decide) (by decide) (hb.drop _)
   obtain⟨r2,w2,_,_,_,_,z2⟩:=aEA N hN (B.drop b1') f1 1 (by decide) (by decide) (hb.drop _)
   obtain⟨r3,w3,_,_,_,_,z3⟩:=aEA N hN (B.drop b2') f2 1 (by decide) (by decide) (hb.drop _)
   rw[c1] at w1;rw[c2] at w2;rw[c3'] at w3;obtain rfl:=Option.some.inj w1;obtain rfl:=Option.some.inj w2;obtain rfl:=Option.some.inj w3;dsimp only at z1 z2 z3;have f4:f3=4:=by
    rcases z1 with ⟨z1,_,y1⟩ | ⟨z1,_,_,y1,_⟩
    ·rcases z2 with ⟨z2,_,y2⟩ | ⟨z2,_,_,y2,_⟩
     ·rcases z3 with ⟨z3,_,y3⟩ | ⟨z3,_,_,y3,_⟩
      ·rw[y2,y3] at y1;have:=congrArg dr y1;simp only[ah,bM] at this;omega
      ·exact(y3 z2).1
     ·rcases z3 with ⟨z3,y3,_⟩ | ⟨z3,_,_,_,y3⟩
      ·exact absurd y3 z2
      ·rw[y3 z2];exact(y2 z1).1
    ·rcases z2 with ⟨_,y2,_⟩ | ⟨z2,_,_,_,y2⟩
     ·exact absurd y2 z1
     ·rcases z3 with ⟨_,y3,_⟩ | ⟨z3,_,_,_,y3⟩
      ·exact absurd y3 z2
      ·rw[y3 z2,y2 z1];exact(y1 rfl).1
   subst f4;rw[show aF N 1 (aD.mk B (at_:Int) 0)=_ from d1,aa]
   dsimp only;rw[show aF N 1 (aD.mk B (b1':Int) f1)=_ from d2,aa]
   dsimp only;rw[show aF N 1 (aD.mk B (b2':Int) f2)=_ from d3,aa]
   dsimp only;rw[cK (by rw[cn];omega),aa]
   obtain⟨k,rfl⟩:∃j,k=j+1:=⟨k - 1,by omega⟩
   rw[cO]
   dsimp only;rw[show((4:Int)==0)=false from rfl,aC,show ∀b:Bool,cond b false false=false from λb=>by cases b <;> rfl,aC,cond_false]
   exact⟨_,b3',g3,.inr ⟨_,_,rfl,rfl⟩⟩
theorem texDE(N:Nat)(hN:70000 < N){B:List Int}(hb:aN B)(hB:B.length<=5000):rF N B=pK N B:=by
 obtain⟨a1,e1,v,h1,c1,d1,j1,k1⟩:=aMY N (by omega) B hb (by omega) 0 (by omega) 0 1;rw[eu] at c1;have k1:v < 256:=k1;have iv:I64 v=v:=aP;unfold rF pK;rw[aKa N B,aa,show aF N 1 (aD.mk B 0 0)=_ from d1,show bD N 1 (aB.mk B 0 true)=_ from c1,aa,aa]
 dsimp only;obtain⟨n,rfl⟩:=br j1;have hn:n*n<=255*255:=Nat.mul_le_mul (by omega) (by omega)
 have hv:I64 (I64 (n:Int)*I64 (n:Int))=((n*n:Nat):Int):=by
  rw[iv,<- Int.natCast_mul,aP]
 rw[hv,aC]
 by_cases he:e1=0
 ·subst he;obtain⟨l,a',g1,g2⟩:=aUu (a0:=a1) N (by omega) hb hB (n*n) (by omega) B (a1:Int) 0 (n:Int) hv N 0 [] a1 (by omega) rfl (by omega) h1 (by omega)
  rcases g2 with ⟨g2,g5,g3,g4⟩ | ⟨l',b',g3,g4⟩
  ·rw[show cE N ((n*n:Nat):Int) N [] (B.drop a1) 0 true 0=_ from g3,show cO N (B,(a1:Int),0,(n:Int)) N [] B (a1:Int) 0 0=_ from g4,aa,aa]
   dsimp only;rw[aPw N B a' g1,aSK N (by omega) _ (by dsimp only;omega) (by dsimp only;omega),aRM N (by omega) _ (by dsimp only;omega) (by dsimp only;omega)]
  ·rw[show cE N ((n*n:Nat):Int) N [] (B.drop a1) 0 true 0=_ from g3,show cO N (B,(a1:Int),0,(n:Int)) N [] B (a1:Int) 0 0=_ from g4,aa,aa]
   dsimp only;rw[aPw N B a' g1,aJo,aJo,show((4:Int) != 0)=true from rfl,cond_true,cond_true,aa,aa,show((4:Int) != 0)=true from rfl,cond_true,cond_true]
 ·-- no byte at all
  obtain⟨r,w,_,_,_,_,z⟩:=aEA N (by omega) B 0 1 (by decide) (by decide) hb;rw[c1] at w;obtain rfl:=Option.some.inj w;dsimp only at z;rcases z with ⟨z,_⟩ | ⟨_,z,_,z4,_⟩
  ·exact absurd z he
  obtain⟨rfl,_⟩:=z4 rfl;have hn0:n=0:=by omega
  subst hn0;obtain⟨k,rfl⟩:∃k,N=k+1:=⟨N - 1,by omega⟩
  rw[show cE (k+1) ((0*0:Nat):Int) (k+1) [] (B.drop a1) 4 true 0=some ([],B.drop a1,4,true) from rfl,show cO (k+1) (B,(a1:Int),4,((0:Nat):Int)) (k+1) [] B (a1:Int) 4 0=some ([],B,(a1:Int),4) from rfl,aa,aa]
  dsimp only;rw[aPw (k+1) B a1 h1,aJo,show((4:Int) != 0)=true from rfl,cond_true,aa,aa,show((4:Int) != 0)=true from rfl,cond_true,cond_true]
theorem asE(N:Nat)(hN:1000 < N)(a:aI)(h:aEU a):lG N a=kU N a:=by
 obtain⟨c,e1,e2⟩:=aVf N hN a h;rw[e1,e2]
theorem aSR(N:Nat)(hN:20 < N)(B:List Int)(hb:aN B)(hB:B.length<=1000000)(at_:Nat)(h:at_<=B.length)(e:Int)(w:Nat)(hw0:1<=w:=by decide)(hw:w<=4:=by decide):∃(a':Nat) (e':Int) (v:Vector Int 3),a'<=B.length/\bS N (w:Int) (aB.mk (B.drop at_) e true)=some (B.drop a',e',true,v)/\iE N (w:Int) (aD.mk B (at_:Int) e)=some (B,(a':Int),e',v):=by
 obtain⟨a1,e1,x,g1,g2,g3,g4,_⟩:=aBV N hN B hb hB at_ h e w hw0 hw;obtain⟨a2,e2,y,f1,f2,f3,f4,_⟩:=aBV N hN B hb hB a1 g1 e1 w hw0 hw;obtain⟨a3,e3,z,q1,q2,q3,q4,_⟩:=aBV N hN B hb hB a2 f1 e2 w hw0 hw;refine⟨a3,e3,#v[x,y,z],q1,?_,?_⟩
 ·unfold bS;rw[show aX N (w:Int) (aB.mk (B.drop at_) e true)=_ from g2,aa]
  dsimp only;rw[show aX N (w:Int) (aB.mk (B.drop a1) e1 true)=_ from f2,aa]
  dsimp only;rw[show aX N (w:Int) (aB.mk (B.drop a2) e2 true)=_ from q2,aa]
 ·unfold iE;rw[g3,aa]
  dsimp only;rw[f3,aa]
  dsimp only;rw[q3,aa]
  dsimp only;rw[g4,f4,q4]
theorem assDE(N:Nat)(hN:70000 < N)(k:Int){B:List Int}(hb:aN B)(hB:B.length<=5000):rN N k B=rY N k B:=by
 unfold rN rY;rw[aKa N B,aa]
 by_cases k1:k=1
 ·subst k1;rw[show((1:Int)==1)=true from rfl,cond_true,cond_true,aWv N hN hb hB]
  obtain⟨⟨m,e⟩,h0,h⟩:=aMb N (by omega) B hb;rw[h0,aa,aa,aa,aa]
  dsimp only at h ⊢;rw[aC,aC,aC]
  by_cases he:e=0
  ·rcases h with ⟨_,h1,h2⟩ | ⟨h1,_⟩
   ·have nv:=h2.nv;have nt:=h2.nt;have nu:=h2.nu;rw[asE N (by omega) _ ⟨by dsimp only;omega,by dsimp only;omega,by dsimp only;omega,by simp⟩]
   ·exact absurd he h1
  ·rw[show(e != 0)=true by simpa using he,cond_true,cond_true]
 by_cases k2:k=2
 ·subst k2;rw[show((2:Int)==1)=false from rfl,show((2:Int)==2)=true from rfl,cond_false,cond_false,cond_true,cond_true,texDE N hN hb hB]
  obtain⟨⟨m,e⟩,h0,h⟩:=aOO N (by omega) B hb hB;rw[h0,aa,aa,aa,aa]
  dsimp only at h ⊢;rw[aC,aC,aC]
  by_cases he:e=0
  ·rcases h with ⟨_,h1,h2⟩ | ⟨h1,_⟩
   ·have hn:m.gK.length<=500:=by
     have a1:=h2.side;have a2:=h2.n;have:m.gM*m.gM<=16*16:=Int.mul_le_mul a1.2 a1.2 (by omega) (by decide)
     omega
    rw[asE N (by omega) _ ⟨by simp,by simp,by simp,hn⟩]
   ·exact absurd he h1
  ·rw[show(e != 0)=true by simpa using he,cond_true,cond_true]
 have fin:∀a:aI,a.gP=aK.mk [] [] []->a.gR=aJ.mk 0 []->lG N a=kU N a:=λa h h'=>asE N (by omega) a ⟨by rw[h];simp,by rw[h];simp,by rw[h];simp,by rw[h'];simp⟩
 rw[show(k==1)=false by simpa using k1,show(k==2)=false by simpa using k2,cond_false,cond_false,cond_false,cond_false]
 by_cases k3:k=3
 ·subst k3;rw[show((3:Int)==3)=true from rfl,cond_true,cond_true]
  obtain⟨a1,e1,x,g1,g2,g3,g4,_⟩:=aBV N (by omega) B hb (by omega) 0 (by omega) 0 1;rw[eu] at g2;obtain⟨a2,e2,y,f1,f2,f3⟩:=aSR N (by omega) B hb (by omega) a1 g1 e1 2;obtain⟨a3,e3,z,q1,q2,q3,q4,_⟩:=aBV N (by omega) B hb (by omega) a2 f1 e2 2;rw[show aF N 1 (aD.mk B 0 0)=_ from g3,show aX N 1 (aB.mk B 0 true)=_ from g2,aa,aa]
  dsimp only;rw[show iE N 2 (aD.mk B (a1:Int) e1)=_ from f3,show bS N 2 (aB.mk (B.drop a1) e1 true)=_ from f2,aa,aa]
  dsimp only;rw[show aF N 2 (aD.mk B (a2:Int) e2)=_ from q3,show aX N 2 (aB.mk (B.drop a2) e2 true)=_ from q2,aa,aa]
  dsimp only;rw[aPw N B a3 q1,aJo,aa,aa,aa,aa]
  dsimp only;rw[aC,aC,aC,g4,q4,fin _ rfl rfl]
 rw[show(k==3)=false by simpa using k3,cond_false,cond_false]
 by_cases k4:k=4
 ·subst k4;rw[show((4:Int)==4)=true from rfl,cond_true,cond_true]
  obtain⟨a1,e1,x,g1,g2,g3,g4,_⟩:=aBV N (by omega) B hb (by omega) 0 (by omega) 0 1;rw[eu] at g2;obtain⟨a2,e2,y,f1,f2,f3⟩:=aSR N (by omega) B hb (by omega) a1 g1 e1 4;obtain⟨a3,e3,z,q1,q2,q3⟩:=aKV N (by omega) B hb (by omega) a2 f1 e2;obtain⟨a4,e4,u,m1,m2,m3⟩:=aKV N (by omega) B hb (by omega) a3 q1 e3;obtain⟨a5,e5,w,n1,n2,n3⟩:=aKV N (by omega) B hb (by omega) a4 m1 e4;rw[show aF N 1 (aD.mk B 0 0)=_ from g3,show aX N 1 (aB.mk B 0 true)=_ from g2,aa,aa]
  dsimp only;rw[show iE N 4 (aD.mk B (a1:Int) e1)=_ from f3,show bS N 4 (aB.mk (B.drop a1) e1 true)=_ from f2,aa,aa]
  dsimp only;rw[q3,show cV N (aB.mk (B.drop a2) e2 true)=_ from q2,aa,aa]
  dsimp only;rw[m3,show cV N (aB.mk (B.drop a3) e3 true)=_ from m2,aa,aa]
  dsimp only;rw[n3,show cV N (aB.mk (B.drop a4) e4 true)=_ from n2,aa,aa]
  dsimp only;rw[aPw N B a5 n1,aJo,aa,aa,aa,aa]
  dsimp only;rw[aC,aC,aC,g4,fin _ rfl rfl]
 rw[show(k==4)=false by simpa using k4,cond_false,cond_false,aa,aa]
 dsimp only;rw[aC,aC,aC,fin _ rfl rfl]
theorem aD7(N:Nat)(hN:20 < N){B:List Int}(hb:aN B)(hB:B.length<=1000000)(at_:Nat)(h:at_<=B.length)(w:Nat)(hw0:1<=w)(hw:w<=8){v:Int}{rest:List Int}(hv:0<=v/\v < bL w)(hr:B.drop at_=leB w v++rest):aF N (w:Int) (aD.mk B (at_:Int) 0)=some (B,((at_+w:Nat):Int),0,v)/\B.drop (at_+w)=rest/\at_+w<=B.length:=by
 have hd:=bw (i:=at_) (l:=B)
 have hl:=congrArg dr hr;rw[ah,bM,hd] at hl;have hdr:B.drop (at_+w)=rest:=by rw[<- fq,hr,jl (bM _ _)]
 obtain⟨a',e',v',h1,h2,h3,_⟩:=aMY N hN B hb hB at_ h 0 w hw0 hw;have hrb:aN rest:=by rw[<- hdr];exact hb.drop _
 rw[hr,aOR N hN w hw0 hw v rest hv.1 hv.2 hrb] at h2;have k:=Option.some.inj h2;rw[Prod.mk.injEq,Prod.mk.injEq] at k;have l:=congrArg dr k.1;rw[bw] at l;rw[h3,<- k.2.1,<- k.2.2,show a'=at_+w by omega]
 exact⟨rfl,hdr,by omega⟩
theorem aUj(N:Nat)(hN:20 < N){B:List Int}(hb:aN B)(hB:B.length<=1000000)(a0:Nat){ms rest:List Int}(h8:ms.length=8)(hr:B.drop a0=ms++rest):∀(k i:Nat) (v:Vector Int 8),i<=8->8 - i < k->(∀j,j < 8->v.toList[j]? = some (if j < i then ms.getD j 0 else 0))->∃v':Vector Int 8,jM N k B ((a0+i:Nat):Int) 0 v (i:Int)=some (B,((a0+8:Nat):Int),0,v')/\v'.toList=ms
 | 0,_,_,_,h,_=>by omega
 | k+1,i,v,hi,hk,hv=>by
  have hl:=congrArg dr hr;rw[ah,bw,h8] at hl;rw[jM]
  by_cases c:i=8
  ·subst c;rw[df,cond_false]
   refine⟨v,rfl,?_⟩
   apply du;intro j;by_cases d:j < 8
   ·rw[hv j d,if_pos d,fI]
   ·rw[ar (by simp;omega),ar (by omega)]
  ·have hx:B[a0+i]'(by omega)=ms.getD i 0:=by
    have:=congrArg (λl=>l[i]?) hr;rw[eo,cj (by omega),fI (l:=ms),af (by omega)] at this;exact Option.some.inj this
   have hbx:=hb _ (co (show a0+i < B.length by omega))
   rw[hx] at hbx;unfold isB at hbx;have ti:((i:Nat):Int).toNat=i:=rfl;rw[dt,cond_true,num1 N hN B hb hB (a0+i),aa]
   dsimp only;rw[bQ,aa,ti,hv i (by omega),aa,hx,aBu,show ms.getD i 0 % 256=ms.getD i 0 by omega,cF]
   refine aUj N hN hb hB a0 h8 hr k (i+1) _ (by omega) (by omega) λj hj=>?_;rw[bu,cz]
   by_cases d:i=j
   ·subst d;rw[if_pos rfl,if_pos (by simp;omega),if_pos (by omega)]
   ·rw[if_neg d,hv j hj]
    by_cases c3:j < i
    ·rw[if_pos c3,if_pos (by omega)]
    ·rw[if_neg c3,if_neg (show ¬j < i+1 by omega)]
theorem mdecE(N:Nat)(hN:70000 < N){B:List Int}(hb:aN B)(hB:B.length=35):rH N B=qR N B:=by
 obtain⟨r,e,m,R,hm,hr⟩:=aUI N (by omega) B hb hB;rw[e,hr]
 have h0:B.drop 0=leB 8 m.gId++(leB 1 m.gA++(leB 4 m.gA3++(m.gA2.toList++(leB 4 m.gQ++(leB 4 m.gTo++(leB 4 m.gT++leB 2 m.gA0)))))):=by rw[eu,<- hm];rfl
 have hN':20 < N:=by omega
 have hB':B.length<=1000000:=by omega
 obtain⟨d1,h1,g1⟩:=aD7 N hN' hb hB' 0 (by omega) 8 (by decide) (by decide) R.id h0;obtain⟨d2,h2,g2⟩:=aD7 N hN' hb hB' _ g1 1 (by decide) (by decide) R.kind h1;obtain⟨d3,h3,g3⟩:=aD7 N hN' hb hB' _ g2 4 (by decide) (by decide) R.label h2;obtain⟨v,d4,h4v⟩:=aUj N hN' hb hB' (0+8+1+4) (by simp) h3 N 0 (ai 8 0) (by omega) (by omega) (λj hj=>by
  have z:(ai 8 (0:Int)).toList=ak 8 0:=rfl;rw[z,de,if_pos hj,if_neg (by omega)])
 obtain rfl:=ez.1 h4v;have h4:B.drop (0+8+1+4+8)=leB 4 m.gQ++(leB 4 m.gTo++(leB 4 m.gT++leB 2 m.gA0)):=by
  rw[<- fq,h3,jl (by simp)]
 obtain⟨d5,h5,g5⟩:=aD7 N hN' hb hB' _ (by omega) 4 (by decide) (by decide) R.fr h4;obtain⟨d6,h6,g6⟩:=aD7 N hN' hb hB' _ g5 4 (by decide) (by decide) R.to h5;obtain⟨d7,h7,g7⟩:=aD7 N hN' hb hB' _ g6 4 (by decide) (by decide) R.size h6;obtain⟨d8,h8,g8⟩:=aD7 N hN' hb hB' _ g7 2 (by decide) (by decide) (rest:=[]) R.chunks (by rw[cf];exact h7)
 unfold rH;rw[aC,aC,df,df,cond_false,cond_false,show aF N 8 (aD.mk B 0 0)=_ from d1,aa]
 dsimp only;rw[show aF N 1 (aD.mk B ((0+8:Nat):Int) 0)=_ from d2,aa]
 dsimp only;rw[show aF N 4 (aD.mk B ((0+8+1:Nat):Int) 0)=_ from d3,aa]
 dsimp only;rw[show jM N N B ((0+8+1+4:Nat):Int) 0 (ai 8 0) 0=_ from d4,aa]
 dsimp only;rw[show aF N 4 (aD.mk B ((0+8+1+4+8:Nat):Int) 0)=_ from d5,aa]
 dsimp only;rw[show aF N 4 (aD.mk B ((0+8+1+4+8+4:Nat):Int) 0)=_ from d6,aa]
 dsimp only;rw[show aF N 4 (aD.mk B ((0+8+1+4+8+4+4:Nat):Int) 0)=_ from d7,aa]
 dsimp only;rw[show aF N 2 (aD.mk B ((0+8+1+4+8+4+4+4:Nat):Int) 0)=_ from d8,aa]
 dsimp only;have r2:=R.kind;have r7:=R.size;have r8:=R.chunks;have e2:I64 m.gA=m.gA:=aP;have e7:I64 m.gT=m.gT:=aP;have e8:I64 m.gA0=m.gA0:=aP;rw[e2,e7,e8,xL R.label.1 R.label.2,xL R.fr.1 R.fr.2,xL R.to.1 R.to.2,show aE.mk m.gId m.gA m.gA3 m.gA2 m.gQ m.gTo m.gT m.gA0=m from rfl,mchkR N (by omega) m ⟨by omega,by omega⟩,aa]
 by_cases hc:zQ m=0
 ·rw[hc,show((0:Int) != 0)=false from rfl,cond_false,if_pos rfl]
 ·rw[show(zQ m != 0)=true by simpa using hc,cond_true,if_neg hc]
  rfl
theorem aVM(N:Nat)(hN:20 < N){B:List Int}(h:12<=B.length:=by omega)(hB:B.length<=1000000:=by omega):∃v:Vector Int 8,oD N B=some v/\v.toList=(B.take 12).drop 4:=by
 unfold oD;have main:T (iW N B N (ai 8 0) 0) (λv=>∀j,j < 8->v.toList[j]? = some (if j < 8 then B.getD (4+j) 0 else 0)):=by
  refine T.loop0 (n:=8) (by decide) (λi (v:Vector Int 8)=>∀j,j < 8->v.toList[j]? = some (if j < i then B.getD (4+j) 0 else 0)) (F:=iW N B) (λk s i hi hs Q hk=>?_) (λk s=>by rw[iW,df,cond_false]) (by omega) (s:=ai 8 0) (λj hj=>?_)
  ·have ti:((i:Nat):Int).toNat=i:=rfl;have e4:I64 (4+(i:Int))=((4+i:Nat):Int):=by rw[aP];omega
   rw[iW,dt,cond_true,e4,sK,aa,bQ,aa,ti,hs i (by omega),aa,cF]
   refine hk _ λj hj=>?_;rw[bu,cz]
   by_cases c:i=j
   ·subst c;rw[if_pos rfl,if_pos (by simp;omega),if_pos (by omega)]
   ·rw[if_neg c,hs j hj]
    by_cases c3:j < i
    ·rw[if_pos c3,if_pos (by omega)]
    ·rw[if_neg c3,if_neg (show ¬j < i+1 by omega)]
  ·have z:(ai 8 (0:Int)).toList=ak 8 0:=rfl;rw[z,de,if_pos hj,if_neg (by omega)]
 obtain⟨v,e,hv⟩:=main;refine⟨v,by rw[e,aa],?_⟩
 apply du;intro j;rw[eo]
 by_cases c:j < 8
 ·rw[hv j c,if_pos c,ek (by omega),fI]
 ·rw[ar (by simp;omega),ar (by rw[ca];omega)]
theorem fourE{B:List Int}(h:4<=B.length):(ae (idx B 0) λe3=>cond (e3 != 85) (some true) (ae (idx B 1) λe4=>cond (e4 != 77) (some true) (ae (idx B 2) λe5=>cond (e5 != 66) (some true) (ae (idx B 3) λe6=>some (e6 != 49)))))=some (!decide (B.take 4=[85,77,66,49])):=by
 obtain⟨a,b,c,d,t,rfl⟩:∃a b c d t,B=a :: b :: c :: d :: t:=by
  match B,h with
  | a :: b :: c :: d :: t,_=>exact⟨a,b,c,d,t,rfl⟩
 rw[show idx (a :: b :: c :: d :: t) 0=some a from rfl,show idx (a :: b :: c :: d :: t) 1=some b from rfl,show idx (a :: b :: c :: d :: t) 2=some c from rfl,show idx (a :: b :: c :: d :: t) 3=some d from rfl,aa,aa,aa,aa,show(a :: b :: c :: d :: t).take 4=[a,b,c,d] from rfl]
 by_cases h1:a=85 <;> by_cases h2:b=77 <;> by_cases h3:c=66 <;> by_cases h4:d=49 <;> simp[h1,h2,h3,h4,aDZ]
theorem aPr{B:List Int}{a b:Nat}(h:a<=b:=by omega)(h2:b<=B.length:=by omega):cR B (a:Int) (b:Int)=some ((B.take b).drop a):=by
 rw[qC,bo,bo]
theorem peekE(N:Nat)(hN:70000 < N){key:Vector Int 32}(hk:aN key.toList){B:List Int}(hb:aN B)(hB:B.length<=5000):tX N key B=tF N key B:=by
 unfold tX tF;rw[aC,aC]
 by_cases c:B.length < 63
 ·rw[dt,cond_true,cond_true]
 rw[df,cond_false,cond_false,fourE (by omega),aa,aUf N hb aUd,aa]
 by_cases c2:B.take 4=[85,77,66,49]
 rotate_left
 ·rw[df c2,show decide (B.take ([85,77,66,49]:List Int).length=[85,77,66,49])=false from df c2]
  rfl
 rw[dt c2,show decide (B.take ([85,77,66,49]:List Int).length=[85,77,66,49])=true from dt c2,show(!true)=false from rfl,cond_false,cond_false]
 obtain⟨v,e1,hv⟩:=aVM N (by omega) (B:=B)
 obtain⟨w,e2,hw⟩:=vecE (m:=8) (l:=(B.take 12).drop 4) (by simp;omega)
 obtain rfl:v=w:=ez.1 (by rw[hv,hw])
 have hvb:aN v.toList:=by rw[hv];exact(hb.take _).drop _
 have h7:((B.take 63).drop 47).length=16:=by simp;omega
 have hs:aN ((B.take 63).drop 47):=(hb.take _).drop _;rw[e1,aa,show cR B 4 12=_ from aPr (a:=4) (b:=12),aa,e2,aa,aRk N (by omega),aa,nonR N (by omega) v ⟨by decide,by decide⟩,aa,show cR B 0 47=_ from nQ (n:=47),aa,aa,show cR B 47 63=_ from aPr (a:=47) (b:=63),aa,aa,aU6 N hN hk (aR3 N (by omega) hvb 0) (hb.take _) hs (by simp;omega)]
 have ho:=aLw N (by omega) key (aHt N v 0) (B.take 47) [] ((B.take 63).drop 47) hs h7 (by simp;omega) (by simp)
 rw[ee] at ho;rw[ho,aa,aa]
 unfold aG3;cases decide ((aCD N key (aHt N v 0) (B.take 47) []).toList=(B.take 63).drop 47) with
 | false=>rfl
 | true=>
  rw[cond_true]
  dsimp only;rw[show((0:Int) != 0)=false from rfl,cond_false,cond_false,show cR B 12 47=_ from aPr (a:=12) (b:=47),aa,aa,mdecE N hN ((hb.take _).drop _) (by simp;omega)]
theorem chA(N:Nat)(key:Vector Int 32)(n12:Vector Int 12)(mark b:List Int)(i n:Int)(h:¬4<=b.length):kP N key n12 mark i n (aB.mk b 0 true)=some (b,4,true,[],4):=by
 unfold kP;have e:=aBU N b 4 h;rw[show bC N 4 (aB.mk b 0 true)=_ from e,aa,aC]
 rfl
theorem aVg(N:Nat)(hN:70000 < N)(key:Vector Int 32)(n12:Vector Int 12)(mark:List Int){b:List Int}(hb:aN b){i n:Nat}(hi:i < 1000)(hn:n<=256)(h:4<=b.length):kP N key n12 mark (i:Int) (n:Int) (aB.mk b 0 true)=cond (!decide (b.take 4=aDU i n)) (some (b.drop 4,0,true,[],7)) (ae (bC N ((n+16:Nat):Int) (aB.mk (b.drop 4) 0 true)) λr5=>cond (r5.2.1 != 0) (some (r5.1,r5.2.1,true,[],r5.2.1)) (ae (cT N [b.take 4,mark]) λr8=>ae (kG N key n12 r8 r5.2.2) λr9=>some (r5.1,r5.2.1,true,r9.1,r9.2))):=by
 unfold kP;have e:=aFx N b 4 h;rw[show bC N 4 (aB.mk b 0 true)=_ from e,aa,aC]
 dsimp only;rw[df (by rw[ca];omega),cond_false]
 have e2:=put2 N (by omega) [] 2 (by decide) (by decide) (i:Int) (n:Int) ⟨by omega,by rw[show bL 2=65536 from rfl];omega⟩ ⟨by omega,by rw[show bL 2=65536 from rfl];omega⟩
 rw[jW (x:=(i:Int)),jW (x:=(n:Int)),show bW N [] 2 [(i:Int),(n:Int)]=_ from e2,aa]
 dsimp only;have f:I64 ((n:Int)+16)=((n+16:Nat):Int):=by rw[aP];omega
 rw[ee,show leB 2 (i:Int)++leB 2 (n:Int)=aDU i n from rfl,aNB N (hb.take _) (aIC i n),aa,f]
 congr 1
theorem four2(N:Nat)(hN:20 < N){B:List Int}{at_ i n:Nat}(h:at_+4<=B.length)(hB:B.length<=1000000):iU N B (at_:Int) (aDU i n) N 0=some (cond (!decide ((B.drop at_).take 4=aDU i n)) (Sum.inr (zM,zA 0,7)) (Sum.inl ())):=by
 have l4:((B.drop at_).take 4).length=4:=by rw[ca,bw];omega
 rw[<- anyD l4 (aBb i n)]
 refine sD (ce 4) (λj=>((B.drop at_).take 4).getD j 0 != (aDU i n).getD j 0) ((zM,zA 0,7):aE×aI×Int) (iU N B (at_:Int) (aDU i n)) (by simp) (λk j h=>?_) (λk=>?_) (by simp;omega)
 ·have h4:j < 4:=by simpa using h
  have pl:=aBb i n;have e:I64 ((at_:Int)+(j:Int))=((at_+j:Nat):Int):=by rw[aP];omega
  have g:((B.drop at_).take 4).getD j 0=B.getD (at_+j) 0:=by
   rw[ap,ek h4,eo,<- ap]
  rw[iU,dt,cond_true,e,sK,aa,sK,aa,nl,g]
  rfl
 ·rw[iU,df (by simp),cond_false]
theorem aM7{α β γ:Type}(a:α)(f:α->Option γ)(g:β->Option γ):mZ (Sum.inl a) f g=f a:=rfl
theorem aQW(N:Nat)(hN:70000 < N){key:Vector Int 32}(hk:aN key.toList){base:Vector Int 8}(hbs:aN base.toList){B mark:List Int}(hb:aN B)(hB:B.length<=5000)(hbase:oD N B=some base)(hmark:cR B 47 63=some mark)(hm:mark.length=16)(hmb:aN mark)(m:aE)(sz:Nat)(hsz:m.gT=(sz:Int))(hs2:sz<=2048)(hch:m.gA0=(nCh sz:Int)):∀(k i:Nat) (s:List Int) (at_:Nat),i<=nCh sz->nCh sz - i < k->s.length=min (256*i) sz->at_<=B.length->aN s ->
  (∃(s':List Int) (a':Nat),a'<=B.length/\s'.length<=2048/\aN s'/\lT N (m,0) base key mark k s (B.drop at_) 0 true (i:Int)=some (Sum.inl (s',B.drop a',0,true))/\fH N (m,0) B key k s (at_:Int) (i:Int)=some (Sum.inl (s',(a':Int))))\/(∃r:aE×aI×Int,lT N (m,0) base key mark k s (B.drop at_) 0 true (i:Int)=some (Sum.inr r)/\fH N (m,0) B key k s (at_:Int) (i:Int)=some (Sum.inr r)/\r.1=zM/\r.2.1=zA 0/\r.2.2≠0)
 | 0,_,_,_,_,h,_,_,_=>by omega
 | k+1,i,s,at_,hi,hkk,hs,ha,hsb=>by
  rw[lT,fH]
  dsimp only;rw[hch,hsz]
  by_cases c:i=nCh sz
  ·subst c;rw[df,aC,aC,cond_false,cond_false]
   exact .inl ⟨s,at_,ha,by omega,hsb,rfl,rfl⟩
  have hlt:256*i < sz:=by unfold nCh at hi c;omega
  have hi9:i < 10:=by omega
  obtain⟨n,hn⟩:∃n,n=min 256 (sz - 256*i):=⟨_,rfl⟩
  have hn0:n<=256/\1<=n:=by omega
  have f1:I64 ((sz:Int) - (s.length:Int))=((sz - 256*i:Nat):Int):=by rw[aP];omega
  have f2:I64 (256*(i:Int))=((256*i:Nat):Int):=by rw[aP];omega
  have f3:I64 ((sz:Int) - ((256*i:Nat):Int))=((sz - 256*i:Nat):Int):=by rw[aP];omega
  have f4:nE 256 ((sz - 256*i:Nat):Int)=(n:Int):=by rw[show(256:Int)=((256:Nat):Int) from rfl,aIN,hn]
  have f5:I64 ((B.length:Int) - (at_:Int))=((B.length - at_:Nat):Int):=by rw[aP];omega
  have hdl:=bw (i:=at_) (l:=B)
  rw[dt,aC,aC,cond_true,cond_true,cF,aRk N (by omega),aa,f1,aC,f2,f3,aC,f5,aC,f4]
  by_cases c4:4<=(B.drop at_).length
  rotate_left
  ·rw[chA N key _ mark _ _ _ c4,aa,dt (show((B.length - at_:Nat):Int) < 4 by omega),cond_true]
   exact .inr ⟨_,rfl,rfl,rfl,rfl,(show(4:Int)≠0 by decide)⟩
  rw[df (show ¬((B.length - at_:Nat):Int) < 4 by omega),cond_false,fourR N (by omega) (by omega),aa,four2 N (by omega) (by omega) (by omega),aa,aVg N hN key _ mark (hb.drop at_) (by omega) hn0.1 c4]
  by_cases cq:(B.drop at_).take 4=aDU i n
  rotate_left
  ·rw[df cq]
   exact .inr ⟨_,rfl,rfl,rfl,rfl,(show(7:Int)≠0 by decide)⟩
  rw[dt cq,show(!true)=false from rfl,cond_false,cond_false]
  have f6:I64 ((n:Int)+16)=((n+16:Nat):Int):=by rw[aP];omega
  have f7:I64 (((B.length - at_:Nat):Int) - 4)=((B.length - at_ - 4:Nat):Int):=by rw[aP];omega
  have f8:I64 ((at_:Int)+4)=((at_+4:Nat):Int):=by rw[aP];omega
  have f9:I64 (((at_+4:Nat):Int)+(n:Int))=((at_+4+n:Nat):Int):=by rw[aP];omega
  have f10:I64 (((at_+4+n:Nat):Int)+16)=((at_+4+n+16:Nat):Int):=by rw[aP];omega
  rw[aM7,aC,f6,aC,f7,aC]
  have hd4:((B.drop at_).drop 4).length=B.length - at_ - 4:=by rw[bw,hdl]
  by_cases c5:n+16<=((B.drop at_).drop 4).length
  rotate_left
  ·rw[aBU N _ _ c5,aa,dt,cond_true]
   exact .inr ⟨_,rfl,rfl,rfl,rfl,(show(4:Int)≠0 by decide)⟩
  have e22:cR B ((at_+4:Nat):Int) ((at_+4+n+16:Nat):Int)=some (((B.drop at_).drop 4).take (n+16)):=by
   rw[aPr,fq,mz,show at_+4+n+16 - (at_+4)=n+16 by omega]
  have hsl:(((B.drop at_).drop 4).take (n+16)).length=n+16:=by rw[ca];omega
  have hsbb:aN (((B.drop at_).drop 4).take (n+16)):=((hb.drop _).drop _).take _;rw[aFx N _ _ c5,aa,df,cond_false,hbase,aa,nonR N (by omega) base ⟨by omega,by omega⟩,aa,hmark,aa,xG (by rw[aBb];omega) (by omega),aa,f8,f9,aC,f10,e22,aa,aU6 N hN hk (aR3 N (by omega) hbs _) ((aIC _ _).app hmb) hsbb (by rw[ah,aBb];omega),cq]
  dsimp only;rw[show((0:Int) != 0)=false from rfl,cond_false,concP N [aDU i n,mark] (by simp) (by show 2 < N;omega) (by intro l hl;simp only[d9,dy,or_false] at hl;rcases hl with rfl | rfl;rw[aBb];omega;omega),aa,show [aDU i n,mark].flatten=aDU i n++mark by simp]
  obtain⟨r9,e9,h9⟩:=aVL N (by omega) key (aHt N base ((i+1:Nat):Int)) (aDU i n++mark) _ hsbb (by rw[ah,aBb];omega) (by omega)
  rw[e9,aa,aa,aa]
  dsimp only;rcases h9 with ⟨g0,g1,g2,_⟩ | ⟨g1,g2⟩
  ·have hpl:r9.1.length=n:=by omega
   rw[g0,show((0:Int) != 0)=false from rfl,cond_false,cond_false,xG (by omega) (by omega),aa,aa,aC,f10,fq,fq,show at_+(4+(n+16))=at_+4+n+16 by omega]
   exact aQW N hN hk hbs hb hB hbase hmark hm hmb m sz hsz hs2 hch k (i+1) (s++r9.1) (at_+4+n+16) (by omega) (by omega) (by rw[ah];omega) (by omega) (hsb.app g1)
  ·have hne:(r9.2 != 0)=true:=by rcases g2 with h | h <;> rw[h] <;> rfl
   rw[hne,cond_true,cond_true]
   exact .inr ⟨_,rfl,rfl,rfl,rfl,by simpa using hne⟩
theorem openE(N:Nat)(hN:70000 < N){key:Vector Int 32}(hk:aN key.toList){B:List Int}(hb:aN B)(hB:B.length<=4000):∃r,uF N key B=some r/\yG N key B=some r/\((r.2.2=0/\aEU r.2.1)\/(r.2.2≠0/\r.1=zM/\r.2.1=zA 0)):=by
 unfold uF yG;rw[peekE N hN hk hb (by omega)]
 obtain⟨r1,e1,h1⟩:=peekT N (by omega) key B hb (by omega)
 rw[e1,aa,aa]
 rcases h1 with ⟨h1,base,hh⟩ | ⟨h1,_,_⟩
 rotate_left
 ·rw[show(r1.2 != 0)=true by simpa using h1,cond_true,cond_true]
  exact⟨_,rfl,rfl,.inr ⟨h1,rfl,rfl⟩⟩
 obtain⟨m,e⟩:=r1;dsimp only at h1 hh;subst h1;have hlen:=hh.len (by omega)
 obtain⟨q1,q2,q3,q4,q5⟩:=hh.parts (by omega)
 rw[show((0:Int) != 0)=false from rfl,cond_false,cond_false]
 obtain⟨v,ev,hv⟩:=aVM N (by omega) (B:=B)
 obtain⟨w,ew,hw⟩:=vecE (m:=8) (l:=(B.take 12).drop 4) (by simp;omega)
 obtain rfl:v=w:=ez.1 (by rw[hv,hw])
 have hvb:aN v.toList:=by rw[hv];exact(hb.take _).drop _
 have hmark:cR B 47 63=some ((B.take 63).drop 47):=aPr (a:=47) (b:=63)
 obtain⟨c0,c1,c2,c3⟩:=aUb hh.2.2.1;have c4:=aOF m.gA;obtain⟨sz,hsz⟩:=br (show 0<=m.gT by omega)
 rw[hsz,nCh_e] at c3;have hnc:nCh sz<=8:=by unfold nCh;omega
 rw[show cR B 4 12=_ from aPr (a:=4) (b:=12),aa,ew,aa,hmark,aa,show cR B 63 (B.length:Int)=_ from aBT (n:=63) hlen,aa,aKa N _ (by rw[bw];omega),aa]
 have key2:=aQW N hN hk hvb hb (by omega) ev hmark (by simp;omega) ((hb.take _).drop _) m sz hsz (by omega) c3 N 0 [] 63 (by omega) (by omega) (by simp) hlen aBK;rcases key2 with ⟨s',a',g1,g2,g3,g4,g5⟩ | ⟨r,g4,g5,g6,g7,g8⟩
 ·rw[show lT N (m,0) v key ((B.take 63).drop 47) N [] (B.drop 63) 0 true 0=_ from g4,show fH N (m,0) B key N [] 63 0=_ from g5,aa,aa]
  rw[aM7,aM7]
  dsimp only;have hl:=bw (i:=a') (l:=B)
  rw[aC,show tP N (aB.mk (B.drop a') 0 true)=some ((B.drop a').length:Int) from rfl,aa]
  by_cases c:a' < B.length
  ·rw[dt,dt,cond_true,cond_true]
   exact⟨_,rfl,rfl,.inr ⟨(show(7:Int)≠0 by decide),rfl,rfl⟩⟩
  ·rw[df,df,cond_false,cond_false,assDE N hN m.gA g3 (by omega)]
   obtain⟨r2,k1,k2⟩:=aTI N (by omega) m.gA s' g3 (by omega)
   rw[k1,aa,aa]
   rcases k2 with ⟨k2,_,_,_,k3⟩ | ⟨k2,_⟩
   ·rw[k2,show((0:Int) != 0)=false from rfl,cond_false,cond_false]
    exact⟨_,rfl,rfl,.inl ⟨rfl,k3⟩⟩
   ·rw[show(r2.2 != 0)=true by simpa using k2,cond_true,cond_true]
    exact⟨_,rfl,rfl,.inr ⟨k2,rfl,rfl⟩⟩
 ·rw[show lT N (m,0) v key ((B.take 63).drop 47) N [] (B.drop 63) 0 true 0=_ from g4,show fH N (m,0) B key N [] 63 0=_ from g5,aa,aa]
  exact⟨r,rfl,rfl,.inr ⟨g8,g6,g7⟩⟩
set_option maxHeartbeats 1000000
theorem aVu(a b:aE):aE.eq a b=true↔a=b:=by
 unfold aE.eq;simp only[Bool.and_eq_true,aFX,beq_iff_eq,and_true]
 constructor
 ·rintro⟨h1,h2,h3,h4,h5,h6,h7,h8⟩
  cases a;cases b;dsimp only at *;subst h1 h2 h3 h4 h5 h6 h7 h8;rfl
 ·rintro rfl;exact⟨rfl,rfl,rfl,rfl,rfl,rfl,rfl,rfl⟩
set_option maxHeartbeats 16000000
theorem aHb{α:Type}{eq:α->α->Bool}(h:∀a,eq a a=true)(l:List α):(l.any λe => !(eq e e))=false:=by
 rw[List.any_eq_false]
 intro x _;rw[h]
 decide
theorem aLJ{m:Nat}(v:Vector Int m):eqV (λa b=>a==b) v v=true:=aQ8 v
theorem aTq(p:aA):aA.eq p p=true:=(aQZ p p).2 rfl
theorem aV6(N:Nat)(hN:1000 < N)(m:aK)(h1:m.gG.length<=500)(h2:m.gL.length<=500)(h3:m.gJ.length<=500):uE N m m=some true:=by
 unfold uE;rw[aC,aC,aC,aC,aC,aC,aC,aDZ,aDZ,aDZ,df (by simp),df (by simp),df (by simp)]
 rw[cond_false,cond_false,cond_false]
 rw[sD m.gG (λe => !(aA.eq e e)) false (lR N m m) (by omega) (λk i h=>by rw[lR,aC,dt,cond_true,cN h,aa,aa]) (λk=>by rw[lR,aC,df,cond_false]),aHb aTq,cond_false,aa,aM7]
 rw[sD m.gL (λe => !(eqV (λa b=>a==b) e e)) false (lW N m m) (by omega) (λk i h=>by rw[lW,dt,aC,cond_true,cN h,aa,aa]) (λk=>by rw[lW,df,aC,cond_false]),aHb aLJ,cond_false,aa,aM7]
 rw[sD m.gJ (λe => !(eqV (λa b=>a==b) e e)) false (lS N m m) (by omega) (λk i h=>by rw[lS,aC,dt,cond_true,cN h,aa,aa]) (λk=>by rw[lS,aC,df,cond_false]),aHb aLJ,cond_false,aa,aM7]
theorem aWE(N:Nat)(hN:1000 < N)(t:aJ)(h1:t.gK.length<=500):tV N t t=some true:=by
 unfold tV;rw[aC,aC,aC,aDZ,aDZ,df (by simp),df (by simp),cond_false,cond_false]
 rw[sD t.gK (λe => !(eqV (λa b=>a==b) e e)) false (lU N t t) (by omega) (λk i h=>by rw[lU,aC,dt,cond_true,cN h,aa,aa]) (λk=>by rw[lU,aC,df,cond_false]),aHb aLJ,cond_false,aa,aM7]
theorem aW6(N:Nat)(hN:1000 < N)(a:aI)(h:aEU a):tW N a a=some true:=by
 unfold tW;rw[show(a.gA==a.gA)=true from beq_self_eq_true _,cond_true,aV6 N hN _ h.v h.u h.t,aa,cond_true,aWE N hN _ h.x,aa,cond_true,(aKf _ _).2 rfl,aC,cond_true,(aKM _ _).2 rfl,aC,aa]
theorem aR0(m:aE):aE.eq m m=true:=(aVu m m).2 rfl
set_option maxHeartbeats 2000000
def zX(x:Int)(n:Nat):Int:=bor .u32 (shr .u32 x n) (shl .u32 x (32 - n:Nat))
theorem aWh(n:Nat)(h1:1<=n)(h2:n<=31):cI .u64 (U64 (I64 (0 - (n:Int)))) 31=((32 - n:Nat):Int):=by
 have:∀n:Fin 32,1<=n.val->cI .u64 (U64 (I64 (0 - (n.val:Int)))) 31=((32 - n.val:Nat):Int):=by decide +kernel
 exact this ⟨n,by omega⟩ h1
theorem aJt(N:Nat)(x:Int)(n:Nat)(h1:1<=n:=by decide)(h2:n<=31:=by decide):jE N x n=some (zX x n):=by
 unfold jE bN;rw[aWh n h1 h2,tU .u32,aa,aC,jW,jB .u32,aa,aa,aKC,show(32 - ((32 - n:Nat):Int))=(n:Int) by omega]
 rfl
def aUQ(b:Vector Int 64)(i:Nat):Int:=b.toList.getD (4*i) 0*16777216+b.toList.getD (4*i+1) 0*65536+b.toList.getD (4*i+2) 0*256+b.toList.getD (4*i+3) 0
def sig0(x:Int):Int:=eT .u32 (eT .u32 (zX x 7) (zX x 18)) (shr .u32 x 3)
def sig1(x:Int):Int:=eT .u32 (eT .u32 (zX x 17) (zX x 19)) (shr .u32 x 10)
def aGV(b:Vector Int 64)(l:List Int)(i:Nat):Int:=
 if i < 16 then aUQ b i else(l.getD (i - 16) 0+sig0 (l.getD (i - 15) 0)+l.getD (i - 7) 0+sig1 (l.getD (i - 2) 0)) % 4294967296
def qW(b:Vector Int 64):Nat->List Int
 | 0=>[]
 | i+1=>qW b i++[aGV b (qW b i) i]
theorem aC1(b:Vector Int 64):∀i,(qW b i).length=i
 | 0=>rfl
 | i+1=>by simp[qW,aC1 b i]
def aBc(b:Vector Int 64):Prop:=∀i,i < 64->isB (b.toList.getD i 0)
theorem wordE{a b c d:Int}(ha:isB a)(hb:isB b)(hc:isB c)(hd:isB d) :
  bor .u32 (bor .u32 (bor .u32 (shl .u32 (U32 a) 24) (shl .u32 (U32 b) 16)) (shl .u32 (U32 c) 8)) (U32 d)=a*16777216+b*65536+c*256+d:=by
 obtain⟨a0,a1⟩:=ha;obtain⟨b0,b1⟩:=hb;obtain⟨c0,c1⟩:=hc;obtain⟨d0,d1⟩:=hd;rw[xL a0,xL b0,xL c0,xL d0,aHR a 24 24 rfl,aHR b 16 16 rfl,aHR c 8 8 rfl]
 have e1:(a*(2:Int) ^ 24) % 4294967296=a*16777216:=by rw[show(2:Int) ^ 24=16777216 from rfl];omega
 have e2:(b*(2:Int) ^ 16) % 4294967296=b*65536:=by rw[show(2:Int) ^ 16=65536 from rfl];omega
 have e3:(c*(2:Int) ^ 8) % 4294967296=c*256:=by rw[show(2:Int) ^ 8=256 from rfl];omega
 have p24:(2 ^ 24:Nat)=16777216:=rfl;have p16:(2 ^ 16:Nat)=65536:=rfl;have p8:(2 ^ 8:Nat)=256:=rfl;have h1:bor .u32 (a*16777216) (b*65536)=a*16777216+b*65536:=aC0 24 ⟨by omega,by omega⟩ (by omega) (by rw[p24];omega) (by decide) (by rw[p24];omega)
 have h2:bor .u32 (a*16777216+b*65536) (c*256)=a*16777216+b*65536+c*256:=aC0 16 ⟨by omega,by omega⟩ (by omega) (by rw[p16];omega) (by decide) (by rw[p16];omega)
 have h3:bor .u32 (a*16777216+b*65536+c*256) d=a*16777216+b*65536+c*256+d:=aC0 8 ⟨by omega,by omega⟩ (by omega) (by rw[p8];omega) (by decide) (by rw[p8];omega)
 rw[e1,e2,e3,h1,h2,h3]
theorem aWp{a b c d:Int}(ha:isB a)(hb:isB b)(hc:isB c)(hd:isB d) :
  U32 (U32 (U32 (U32 (U32 (U32 (U32 a*256)+U32 b)*256)+U32 c)*256)+U32 d)=a*16777216+b*65536+c*256+d:=by
 obtain⟨a0,a1⟩:=ha;obtain⟨b0,b1⟩:=hb;obtain⟨c0,c1⟩:=hc;obtain⟨d0,d1⟩:=hd;simp only[aMs]
 omega
theorem cmpL1(N:Nat)(b:Vector Int 64)(hb:aBc b)(hN:64 < N):∃v,mF N b N (ai 64 0) 0=some v/\v.toList=qW b 64:=by
 obtain⟨v,h1,h2⟩:=aFb 64 (by decide) (λi (v:Vector Int 64)=>v.toList.take i=qW b i) (λk v i=>mF N b k v i) (λk v i hi hv=>by
  rw[mF,dt (show(i:Int) < 64 by omega),cond_true]
  by_cases h16:i < 16
  ·refine⟨v.setIfInBounds i (aUQ b i),?_,?_⟩
   ·rw[aMd hv hi,qW,aGV,if_pos h16]
   ·rw[dt (show(i:Int) < 16 by omega),cond_true]
    have e0:I64 (4*(i:Int))=((4*i:Nat):Int):=by rw[aP];omega
    have e1:I64 (((4*i:Nat):Int)+1)=((4*i+1:Nat):Int):=by rw[aP];omega
    have e2:I64 (((4*i:Nat):Int)+2)=((4*i+2:Nat):Int):=by rw[aP];omega
    have e3:I64 (((4*i:Nat):Int)+3)=((4*i+3:Nat):Int):=by rw[aP];omega
    simp only[e0,e1,e2,e3,aC]
    rw[sK (by simp;omega),aa,sK (by simp;omega),aa,sK (by simp;omega),aa,sK (by simp;omega),aa,
     bQ,aa,bo,oV v i hi,aa,aa,
     wordE (hb _ (by omega)) (hb _ (by omega)) (hb _ (by omega)) (hb _ (by omega))]
    rfl
  ·refine⟨v.setIfInBounds i (aGV b (qW b i) i),?_,?_⟩
   ·rw[aMd hv hi,qW]
   ·rw[df (show ¬(i:Int) < 16 by omega),cond_false]
    have f15:I64 ((i:Int) - 15)=((i - 15:Nat):Int):=by rw[aP];omega
    have f2:I64 ((i:Int) - 2)=((i - 2:Nat):Int):=by rw[aP];omega
    have f16:I64 ((i:Int) - 16)=((i - 16:Nat):Int):=by rw[aP];omega
    have f7:I64 ((i:Int) - 7)=((i - 7:Nat):Int):=by rw[aP];omega
    rw[f15,f2,f16,f7]
    simp only[aC,bo]
    rw[bQ (i:=((i - 15:Nat):Int)),aa,aPO hv (show i - 15 < i by omega),aa,
     bQ (i:=((i - 2:Nat):Int)),aa,aPO hv (show i - 2 < i by omega),aa,
     bQ (i:=((i - 16:Nat):Int)),aa,aPO hv (show i - 16 < i by omega),aa,
     show(7:Int)=((7:Nat):Int) from rfl,aJt N _ 7,aa,show(18:Int)=((18:Nat):Int) from rfl,aJt N _ 18,aa,
     bQ (i:=((i - 7:Nat):Int)),aa,aPO hv (show i - 7 < i by omega),aa,
     show(17:Int)=((17:Nat):Int) from rfl,aJt N _ 17,aa,show(19:Int)=((19:Nat):Int) from rfl,aJt N _ 19,aa,
     bQ (i:=(i:Int)),aa,oV v i hi,aa,aa]
    have:U32 (U32 (U32 ((qW b i).getD (i - 16) 0+sig0 ((qW b i).getD (i - 15) 0))+(qW b i).getD (i - 7) 0)+sig1 ((qW b i).getD (i - 2) 0))=aGV b (qW b i) i:=by
     unfold aGV;rw[if_neg h16]
     simp only[aMs]
     omega
    rw[<- this]
    rfl) (λk v=>by rw[mF,df,cond_false]) N 0 (ai 64 0) (by simp[qW]) (by omega) (by omega)
 refine⟨v,h2,?_⟩
 rw[<- h1,bf (by simp)]
theorem aUv{l r:List Int}(h:l.length<=100)(h':r.length<=100:=by simp):fT 4 l r=some (l++r):=cK
theorem vec8(s:Vector Int 8):s=#v[s[0],s[1],s[2],s[3],s[4],s[5],s[6],s[7]]:=by
 apply od;intro i hi
 match i,hi with
 | 0,_=>rfl
 | 1,_=>rfl
 | 2,_=>rfl
 | 3,_=>rfl
 | 4,_=>rfl
 | 5,_=>rfl
 | 6,_=>rfl
 | 7,_=>rfl
def sum1(x:Int):Int:=eT .u32 (eT .u32 (zX x 6) (zX x 11)) (zX x 25)
def sum0(x:Int):Int:=eT .u32 (eT .u32 (zX x 2) (zX x 13)) (zX x 22)
def t1V(s:Vector Int 8)(k w:Int):Int:=U32 (U32 (U32 (U32 (s[7]+sum1 s[4])+eT .u32 (cI .u32 s[4] s[5]) (cI .u32 (bnot .u32 s[4]) s[6]))+k)+w)
def t2V(s:Vector Int 8):Int:=U32 (sum0 s[0]+eT .u32 (eT .u32 (cI .u32 s[0] s[1]) (cI .u32 s[0] s[2])) (cI .u32 s[1] s[2]))
def stp(s:Vector Int 8)(k w:Int):Vector Int 8:=#v[U32 (t1V s k w+t2V s),s[0],s[1],s[2],U32 (s[3]+t1V s k w),s[4],s[5],s[6]]
def kV(i:Nat):Int:=fK.toList.getD i 0
def aJc(w:List Int)(h:Vector Int 8):Nat->Vector Int 8
 | 0=>h
 | i+1=>stp (aJc w h i) (kV i) (w.getD i 0)
theorem cmpL2(N:Nat)(p:Vector Int 64)(h:Vector Int 8)(hN:64 < N):mH N p N h 0=some (aJc p.toList h 64):=by
 obtain⟨v,h1,h2⟩:=aFb 64 (by decide) (λi (v:Vector Int 8)=>v=aJc p.toList h i) (λk v i=>mH N p k v i) (λk v i hi hv=>by
  refine⟨_,rfl,?_⟩
  subst hv;rw[mH,dt (show(i:Int) < 64 by omega),cond_true]
  generalize hs:aJc p.toList h i=s;have r0:aS 0 8=some ():=rfl;have r1:aS 1 8=some ():=rfl;have r2:aS 2 8=some ():=rfl;have r3:aS 3 8=some ():=rfl;have r4:aS 4 8=some ():=rfl;have r5:aS 5 8=some ():=rfl;have r6:aS 6 8=some ():=rfl;have r7:aS 7 8=some ():=rfl;have g0:s.toList[((0:Int).toNat)]? = some s[0]:=oV s 0;have g1:s.toList[((1:Int).toNat)]? = some s[1]:=oV s 1;have g2:s.toList[((2:Int).toNat)]? = some s[2]:=oV s 2;have g3:s.toList[((3:Int).toNat)]? = some s[3]:=oV s 3;have g4:s.toList[((4:Int).toNat)]? = some s[4]:=oV s 4;have g5:s.toList[((5:Int).toNat)]? = some s[5]:=oV s 5;have g6:s.toList[((6:Int).toNat)]? = some s[6]:=oV s 6;have g7:s.toList[((7:Int).toNat)]? = some s[7]:=oV s 7;have q6:∀x,jE N x 6=some (zX x 6):=λx=>aJt N x 6;have q11:∀x,jE N x 11=some (zX x 11):=λx=>aJt N x 11;have q25:∀x,jE N x 25=some (zX x 25):=λx=>aJt N x 25;have q2:∀x,jE N x 2=some (zX x 2):=λx=>aJt N x 2;have q13:∀x,jE N x 13=some (zX x 13):=λx=>aJt N x 13;have q22:∀x,jE N x 22=some (zX x 22):=λx=>aJt N x 22;have ri:aS (i:Int) 64=some ():=bQ;have gk:fK.toList[i]? = some (kV i):=fI (by simp;omega)
  have gp:p.toList[i]? = some (p.toList.getD i 0):=fI (by simp;omega)
  rw[r0,r4,r7,g0,g4,g7]
  simp only[aa,q6,q11,q25,q2,q13,q22,aC,r0,r1,r2,r3,r4,r5,r6,r7,g0,g1,g2,g3,g4,g5,g6,g7,ri,bo,gk,gp]
  rw[aJc,hs]
  rfl) (λk v=>by rw[mH,df,cond_false]) N 0 h rfl (by omega) (by omega)
 rw[<- h1];exact h2
def aF5(s h:Vector Int 8):Nat->Int:=λi=>U32 (s.toList.getD i 0+h.toList.getD i 0)
def endV(s h:Vector Int 8):Vector Int 8:=#v[aF5 s h 0,aF5 s h 1,aF5 s h 2,aF5 s h 3,aF5 s h 4,aF5 s h 5,aF5 s h 6,aF5 s h 7]
theorem vext8{a:Vector Int 8}{f:Nat->Int}(h:a.toList=(ce 8).map f):a=#v[f 0,f 1,f 2,f 3,f 4,f 5,f 6,f 7]:=by
 have e:∀i (hi:i < 8),a[i]=f i:=by
  intro i hi;have h1:=oV a i hi;rw[h,cw,ii hi] at h1;simpa using h1.symm
 rw[vec8 a,e 0 (by decide),e 1 (by decide),e 2 (by decide),e 3 (by decide),e 4 (by decide),e 5 (by decide),e 6 (by decide),e 7 (by decide)]
theorem aOq(h:Vector Int 8)(F:Nat->Vector Int 8->Int->Option (Vector Int 8))(hF:∀k v i,F (k+1) v i=cond (decide (i < 8)) (ae (aS i 8) λ_=>ae (v.toList[i.toNat]?) λe=>ae (idx h.toList i) λe'=>ae (aS i 8) λ_=>ae (v.toList[i.toNat]?) λ_=>F k (v.setIfInBounds i.toNat (U32 (e+e'))) (I64 (i+1))) (some v))
  (N:Nat) (s:Vector Int 8) (hN:8 < N:=by omega):F N s 0=some (endV s h):=by
 obtain⟨v,h1,h2⟩:=aFb 8 (by decide) (λi (v:Vector Int 8)=>v.toList=(ce i).map (aF5 s h)++s.toList.drop i) (λk v i=>F k v i) (λk v i hi hv=>by
  refine⟨v.setIfInBounds i (aF5 s h i),?_,?_⟩
  ·have e:(v.setIfInBounds i (aF5 s h i)).toList=v.toList.set i (aF5 s h i):=by simp
   rw[e,hv,io _ _ (by simp),cr,ny,Nat.sub_self,List.range_succ,ka,am]
   congr 1;rw[cg (by simp;omega)]
   rfl
  ·have hl:=oV v i hi;have he:v[i]=s.toList.getD i 0:=by
    have:=hl;rw[hv,ck (by simp),cr,ny,Nat.sub_self,eo,Nat.add_zero,fI (by simp;omega)] at this;exact(Option.some.inj this).symm
   rw[hF,dt (show(i:Int) < 8 by omega),cond_true,bQ,aa,bo,hl,aa,sK (by simp;omega),aa,aa,aa,he]
   rfl) (λk v=>by rw[hF,df,cond_false]) N 0 s (by simp) (by omega) (by omega)
 have e:v.toList=(ce 8).map (aF5 s h):=by rw[h1,ff (by simp)];simp
 rw[vext8 e] at h2;exact h2
def aOB(h:Vector Int 8)(b:Vector Int 64):Vector Int 8:=endV (aJc (qW b 64) h 64) h
theorem cmpP(N:Nat)(hN:64 < N)(h:Vector Int 8)(b:Vector Int 64)(hb:aBc b):xE N h b=some (aOB h b):=by
 unfold xE;obtain⟨v,h1,h2⟩:=cmpL1 N b hb hN;rw[h1,aa,cmpL2 N v h hN,aa,h2,aOq h (λk v i=>qS N h k v i) (λk v i=>by rw[qS]) N _,aa]
 rfl
theorem tl4(a0 a1 a2 a3 a4 a5 a6 a7:Int):(#v[a0,a1,a2,a3,a4,a5,a6,a7]:Vector Int 8).toList[((4:Int).toNat)]? = some a4:=rfl
theorem tl0(a0 a1 a2 a3 a4 a5 a6 a7 x:Int):((#v[a0,a1,a2,a3,a4,a5,a6,a7]:Vector Int 8).setIfInBounds ((4:Int).toNat) x).toList[((0:Int).toNat)]? = some a0:=rfl
theorem tls(a0 a1 a2 a3 a4 a5 a6 a7 x y:Int):((#v[a0,a1,a2,a3,a4,a5,a6,a7]:Vector Int 8).setIfInBounds ((4:Int).toNat) x).setIfInBounds ((0:Int).toNat) y=#v[y,a1,a2,a3,x,a5,a6,a7]:=rfl
def H0 : Vector Int 8:=#v[1779033703,3144134277,1013904242,2773480762,1359893119,2600822924,528734635,1541459225]
def wY(m:List Int)(j:Nat):Vector Int 64:=Vector.ofFn (λi:Fin 64=>m.getD (64*j+i.val) 0)
theorem zE(m:List Int)(j i:Nat)(h:i < 64):(wY m j).toList.getD i 0=m.getD (64*j+i) 0:=by
 rw[uQ _ i h]
 unfold wY;simp
theorem aLK{a b:Vector Int 64}(h:∀i,i < 64->a.toList.getD i 0=b.toList.getD i 0):a=b:=by
 apply od;intro i hi;have:=h i hi;rwa[uQ _ i hi,uQ _ i hi] at this
theorem aN.block{m:List Int}(h:aN m)(j:Nat):aBc (wY m j):=λi hi=>by rw[zE _ _ _ hi];exact h.getD _
def aJI(m:List Int):Nat->Vector Int 8
 | 0=>H0
 | j+1=>aOB (aJI m j) (wY m j)
theorem aAj{m x:List Int}{i:Nat}(h:i < m.length:=by omega):(m++x).getD i 0=m.getD i 0:=by
 rw[ap,ap,cj h]
theorem aGc{m x:List Int}{i:Nat}(h:m.length<=i):(m++x).getD i 0=x.getD (i - m.length) 0:=by
 rw[ap,ap,ck h]
attribute [local irreducible] aOB
theorem aII(m x:List Int):∀j,64*j<=m.length->aJI (m++x) j=aJI m j
 | 0,_=>rfl
 | j+1,h=>by
  have e:wY (m++x) j=wY m j:=by
   apply aLK;intro i hi;rw[zE _ _ _ hi,zE _ _ _ hi,aAj]
  show aOB (aJI (m++x) j) (wY (m++x) j)=aOB (aJI m j) (wY m j)
  rw[e,aII m x j (by omega)]
structure HOK(m:List Int)(h:Vector Int 8)(blk:Vector Int 64)(n:Int):Prop where
 n:n=(m.length:Int)
 h:h=aJI m (m.length / 64)
 b:∀i,i < m.length % 64->blk.toList.getD i 0=m.getD (64*(m.length / 64)+i) 0
theorem aQT{blk:Vector Int 64}{d:List Int}{lo len:Nat}(h:lo+len<=64:=by omega):∃v,cpV blk d lo len=some v/\v.toList=cpy blk.toList d lo len:=by
 unfold cpV;rw[dif_pos h]
 exact⟨_,rfl,rfl⟩
theorem aVT{l d:List Int}{lo len i:Nat}(hl:lo<=l.length)(h:i < lo):(cpy l d lo len).getD i 0=l.getD i 0:=by
 unfold cpy;rw[am,aAj (by simp;omega),ap,ap,ek h]
theorem aWT{l d:List Int}{lo len i:Nat}(hl:lo<=l.length)(h:lo<=i)(h':i < lo+min d.length len):(cpy l d lo len).getD i 0=d.getD (i - lo) 0:=by
 unfold cpy;rw[am,aGc (by simp;omega),aAj (by simp;omega),ap,ap,ek (by simp;omega)]
 simp only[ca]
 rw[Nat.min_eq_left hl]
theorem aRF{m d:List Int}{h:Vector Int 8}{blk v:Vector Int 64}{n:Int}(H:HOK m h blk n)(hv:v.toList=cpy blk.toList d (m.length % 64) (64 - m.length % 64))(hd:d≠[]) :
  let c:=min d.length (64 - m.length % 64)
  ((m.length+c) % 64≠0->HOK (m++d.take c) h v (n+c))/\((m.length+c) % 64=0->v=wY (m++d.take c) (m.length / 64)/\HOK (m++d.take c) (aOB h v) v (n+c)):=by
 intro c;have hd0:0 < d.length:=jk.2 hd;have hlen:(m++d.take c).length=m.length+c:=by simp[c]
 have hb:∀i,i < m.length % 64+c->v.toList.getD i 0=(m++d.take c).getD (64*(m.length / 64)+i) 0:=by
  intro i hi;rw[hv]
  by_cases h1:i < m.length % 64
  ·rw[aVT (by simp;omega) h1,H.b i h1,aAj]
  ·rw[aWT (by simp;omega) (by omega) (by omega),aGc (by omega),ap,ap,ek (by omega)]
   congr 2;omega
 have hc:c<=64 - m.length % 64:=Nat.min_le_right _ _;have hc0:0 < c:=by simp only[c];omega
 constructor
 ·intro hne;have e:(m.length+c) / 64=m.length / 64:=by omega
  refine⟨by rw[hlen,H.n];omega,?_,?_⟩
  ·rw[hlen,e,aII _ _ _ (by omega)];exact H.h
  ·rw[hlen,e]
   intro i hi;exact hb i (by omega)
 ·intro h0;have e:(m.length+c) / 64=m.length / 64+1:=by omega
  have hvb:v=wY (m++d.take c) (m.length / 64):=by
   apply aLK;intro i hi;rw[zE _ _ _ hi]
   exact hb i (by omega)
  refine⟨hvb,by rw[hlen,H.n];omega,?_,?_⟩
  ·rw[hlen,e,aJI,aII _ _ _ (by omega),<- H.h,<- hvb]
  ·rw[hlen,h0]
   intro i hi;omega
theorem aS0{m:Nat}{lo hi:Int}(h0:0<=lo)(h1:lo<=hi)(h2:hi<=(m:Int))(h3:lo < (m:Int)):aSI m lo hi=some ():=by
 unfold aSI;rw[dt h0,dt h1,dt h2,dt h3];rfl
theorem aTp{m:Nat}{lo hi:Int}(h0:0<=lo)(h1:lo<=hi)(h2:hi<=(m:Int)):aEB m lo hi=some ():=by
 unfold aEB;rw[dt h0,dt h1,dt h2];rfl
theorem aBM(a b:Nat):cp (a:Int) (b:Int)=((a % b:Nat):Int):=by
 rw[Int.tmod_eq_emod_of_nonneg (by omega)];rfl
theorem aKT(N:Nat)(hN:64 < N):∀(k:Nat) (m d:List Int) (h:Vector Int 8) (blk:Vector Int 64) (n:Int),HOK m h blk n->aN m->aN d->d.length < k->m.length+d.length < 4611686018427387904 ->
  ∃h' blk' n',jH N k h blk n d=some (h',blk',n')/\HOK (m++d) h' blk' n'
 | 0,_,_,_,_,_,_,_,_,hk,_=>by omega
 | k+1,m,d,h,blk,n,H,hm,hd,hk,hl=>by
  rw[jH,aC]
  by_cases h0:d=[]
  ·subst h0;rw[df (by simp),cond_false]
   exact⟨h,blk,n,rfl,by rwa[cf]⟩
  ·have hd0:0 < d.length:=jk.2 h0;have hn:=H.n;subst hn;rw[dt,cond_true,show(64:Int)=((64:Nat):Int) from rfl,aBM,aS0 (by omega) (by omega) (by omega) (by omega),aa,bo,bo]
   obtain⟨v,hv1,hv2⟩:=aQT (blk:=blk) (d:=d) (lo:=m.length % 64) (len:=64 - m.length % 64)
   rw[hv1,aa,aC]
   obtain⟨s1,s2⟩:=aRF H hv2 h0;generalize hc:min d.length (64 - m.length % 64)=c at s1 s2;have hc1:c<=d.length:=by omega
   have hc0:0 < c:=by omega
   rw[aBT hc1,aa]
   have e1:I64 ((m.length:Int)+(c:Int))=((m.length+c:Nat):Int):=by rw[aP];omega
   rw[e1,aBM,aC]
   have e2:m++d=(m++d.take c)++d.drop c:=by rw[am,fe]
   have hl2:(m++d.take c).length=m.length+c:=by simp;omega
   by_cases hz:(m.length+c) % 64=0
   ·obtain⟨hvb,s2⟩:=s2 hz;rw[hz,show((((0:Nat):Int))==0)=true from rfl,cond_true,cmpP N hN h v (by rw[hvb];exact(hm.app (hd.take c)).block _),aa]
    rw[e2]
    exact aKT N hN k _ _ _ _ _ (by have:=s2;rwa[show((m.length:Int)+(c:Int))=((m.length+c:Nat):Int) by omega] at this) (hm.app (hd.take c)) (hd.drop c) (by simp;omega) (by simp;omega)
   ·rw[show((((m.length+c) % 64:Nat):Int)==0)=false by simp;omega,cond_false]
    rw[e2]
    exact aKT N hN k _ _ _ _ _ (by have:=s1 hz;rwa[show((m.length:Int)+(c:Int))=((m.length+c:Nat):Int) by omega] at this) (hm.app (hd.take c)) (hd.drop c) (by simp;omega) (by simp;omega)
theorem aOH(N:Nat)(hN:64 < N)(ps:List (List Int))(hb:∀p∈ps,aN p)(hlen:∀p∈ps,p.length < N)(hps:ps.length < 4611686018427387904):∀(k i:Nat) (m:List Int) (h:Vector Int 8) (blk:Vector Int 64) (n:Int),HOK m h blk n->aN m->i<=ps.length->ps.length - i < k->m.length+(ps.drop i).flatten.length < 4611686018427387904 ->
  ∃h' blk' n',jK N ps k h blk n (i:Int)=some (h',blk',n')/\HOK (m++(ps.drop i).flatten) h' blk' n'
 | 0,_,_,_,_,_,_,_,_,hk,_=>by omega
 | k+1,i,m,h,blk,n,H,hm,hi,hk,hl=>by
  rw[jK,aC]
  by_cases h0:i < ps.length
  ·have hd:=cg h0;rw[hd,ji] at hl ⊢;rw[ah] at hl;obtain⟨h',blk',n',e1,e2⟩:=aKT N hN N m ps[i] h blk n H hm (hb _ (co h0)) (hlen _ (co h0)) (by omega)
   rw[dt,cond_true,cN h0,aa,e1,aa,cF,<- am]
   exact aOH N hN ps hb hlen hps k (i+1) _ _ _ _ e2 (hm.app (hb _ (co h0))) (by omega) (by omega) (by simp;simp at hl;omega)
  ·rw[df,cond_false,ff (by omega)]
   exact⟨h,blk,n,rfl,by simpa using H⟩
theorem H0_nz : eqV (λa b=>a==b) H0 (ai 8 0)=false:=rfl
theorem aOo(N:Nat){m:List Int}{h:Vector Int 8}{blk:Vector Int 64}{n:Int}(H:HOK m h blk n):qY N (eE.mk h blk n)=some false:=by
 unfold qY;simp only[aC]
 by_cases h0:m=[]
 ·subst h0;have:h=H0:=H.h;rw[this,H0_nz]
  rfl
 ·have:(n==0)=false:=by rw[H.n];have:=jk.2 h0;simp;exact h0
  rw[this]
  cases eqV (λa b=>a==b) h (ai 8 0) <;> rfl
theorem aK6(N:Nat)(hN:64 < N){m:List Int}{h:Vector Int 8}{blk:Vector Int 64}{n:Int}(H:HOK m h blk n)(hm:aN m)(ps:List (List Int))(hb:∀p∈ps,aN p)(hlen:∀p∈ps,p.length < N)(hps:ps.length < N)(hps2:ps.length < 4611686018427387904)(hl:m.length+ps.flatten.length < 4611686018427387904) :
  ∃h' blk' n',eV N ps (eE.mk h blk n)=some (h',blk',n')/\HOK (m++ps.flatten) h' blk' n':=by
 unfold eV;obtain⟨h',blk',n',e1,e2⟩:=aOH N hN ps hb hlen hps2 N 0 m h blk n H hm (by omega) (by omega) (by simpa using hl)
 refine⟨h',blk',n',?_,by simpa using e2⟩
 rw[aOo N H,aa,cond_false]
 show ae (jK N ps N h blk n 0) _=_;rw[show((0:Nat):Int)=0 from rfl] at e1;rw[e1]
 rfl
def aJ8(n:Nat):Int:=shl .u64 (U64 (n:Int)) 3
def beB(n j:Nat):Int:=U8 (shr .u64 (aJ8 n) ((8*(7 - j):Nat):Int))
def nV(n:Nat):Nat:=(119 - n % 64) % 64
def aHE(n:Nat):List Int:=(128 :: ak (nV n) 0)++(ce 8).map (beB n)
theorem aCJ(n:Nat):(aHE n).length=nV n+9:=by unfold aHE;simp
theorem aIs(n:Nat):aN (aHE n):=by
 intro x hx;unfold aHE at hx;rcases List.mem_append.1 hx with h | h
 ·rcases d9.1 h with h | h
  ·subst h;exact⟨by decide,by decide⟩
  ·have:=List.eq_of_mem_replicate h;subst this;exact⟨by decide,by decide⟩
 ·obtain⟨j,_,rfl⟩:=fa.1 h;exact aHl _
def aG0(B:Nat->Int)(i:Nat):List Int:=(ce 8).map (λj=>if 8<=j+i then B j else 0)
theorem aP5(B:Nat->Int):∀i,i < 8->(aG0 B i).set (7 - i) (B (7 - i))=aG0 B (i+1)
 | 0,_=>rfl
 | 1,_=>rfl
 | 2,_=>rfl
 | 3,_=>rfl
 | 4,_=>rfl
 | 5,_=>rfl
 | 6,_=>rfl
 | 7,_=>rfl
theorem aTK(B:Nat->Int):aG0 B 8=(ce 8).map B:=rfl
theorem aUF(B:Nat->Int):aG0 B 0=ak 8 0:=rfl
theorem padP(N:Nat)(hN:8 < N)(n:Nat)(hn:n < 4611686018427387904):aBe N (n:Int)=some (aHE n):=by
 unfold aBe;have hz:nV n < 64:=by unfold nV;omega
 have e0:uK (n:Int) 0=(n:Int):=by unfold uK;split <;> omega
 have e1:cp (I64 (119 - (((n % 64:Nat)):Int))) 64=(nV n:Int):=by
  rw[show I64 (119 - ((n % 64:Nat):Int))=((119 - n % 64:Nat):Int) by rw[aP];omega,show(64:Int)=((64:Nat):Int) from rfl,aBM]
  rfl
 have e2:I64 (I64 (1+(nV n:Int))+8)=((nV n+9:Nat):Int):=by
  rw[aP (x:=1+(nV n:Int)),aP];omega
 rw[aC,e0,show cp (n:Int) 64=((n % 64:Nat):Int) from aBM n 64,aC,e1,aC,e2,bo]
 have e3:mkO 1 ((nV n+9:Nat):Int)=some ():=by
  unfold mkO;rw[dt (show(0:Int)<=((nV n+9:Nat):Int) by omega),dt (show((nV n+9:Nat):Int)<=140737488355328 by omega),dt (show((nV n+9:Nat):Int)*((1:Nat):Int)<=140737488355328 by omega)]
  rfl
 rw[e3,aa,bQ,aa,show((0:Int).toNat)=0 from rfl,de,if_pos (by omega),aa]
 have e4:(ak (nV n+9) (0:Int)).set 0 128=(128 :: ak (nV n) 0)++aG0 (beB n) 0:=by
  rw[aUF,show nV n+9=(nV n+8)+1 by omega,List.replicate_succ,nm,List.cons_append,List.replicate_append_replicate]
 rw[e4]
 obtain⟨v,h1,h2⟩:=aFb 8 (by decide) (λi (l:List Int)=>l=(128 :: ak (nV n) 0)++aG0 (beB n) i) (λk l i=>tA N ((nV n+9:Nat):Int) (n:Int) k l i) (λk l i hi hl=>by
  refine⟨_,rfl,?_⟩
  have hlen:l.length=nV n+9:=by rw[hl];simp[aG0]
  have f1:I64 (((nV n+9:Nat):Int) - 1)=((nV n+8:Nat):Int):=by rw[aP];omega
  have f2:I64 (((nV n+8:Nat):Int) - (i:Int))=((nV n+8 - i:Nat):Int):=by rw[aP];omega
  have f3:I64 (8*(i:Int))=((8*i:Nat):Int):=by rw[aP];omega
  rw[tA,dt (show(i:Int) < 8 by omega),cond_true,bo,aC,f1,aC,e0,f3,jB .u64,aa,f2,bQ,aa,bo,fI,aa]
  have hset:l.set (nV n+8 - i) (U8 (shr .u64 (aJ8 n) ((8*i:Nat):Int)))=(128 :: ak (nV n) 0)++aG0 (beB n) (i+1):=by
   rw[hl,io _ _ (by simp;omega),<- aP5 _ i hi,show nV n+8 - i - (128 :: ak (nV n) (0:Int)).length=7 - i by simp;omega]
   unfold beB;rw[show 8*(7 - (7 - i))=8*i by omega]
  show tA N ((nV n+9:Nat):Int) (n:Int) k (l.set (nV n+8 - i) (U8 (shr .u64 (aJ8 n) ((8*i:Nat):Int)))) _=_;rw[hset]) (λk l=>by rw[tA,df,cond_false]) N 0 _ rfl (by omega) (by omega)
 rw[show((0:Nat):Int)=0 from rfl] at h2;rw[h2,aa,h1,aTK]
 have:aG7 (128 :: ak (nV n) 0++dk (beB n) (ce 8)) (nV n+9)=some ():=by
  unfold aG7;rw[show(128 :: ak (nV n) (0:Int)++dk (beB n) (ce 8)).length=nV n+9 by simp,show Nat.beq (nV n+9) (nV n+9)=true from Nat.beq_refl _]
  rfl
 rw[this,aa]
 rfl
theorem aSd(n:Nat):U64 (U64 (n:Int)*8)=aJ8 n:=by
 unfold aJ8;rw[aLb _ 3 3 rfl (by decide),aH0 (U64 (n:Int)*8)]
 rfl
theorem aJs{n:Nat}(B:Nat->Int){t:Nat}(h:t < n):((ce n).map B).take (t+1)=((ce n).map B).take t++[B t]:=by
 rw[jg,cw,ii h]
 rfl
def aQD(h:Vector Int 8):Vector Int 32:=#v[U8 (shr .u32 h[0] 24),U8 (shr .u32 h[0] 16),U8 (shr .u32 h[0] 8),U8 h[0],U8 (shr .u32 h[1] 24),U8 (shr .u32 h[1] 16),U8 (shr .u32 h[1] 8),U8 h[1],
 U8 (shr .u32 h[2] 24),U8 (shr .u32 h[2] 16),U8 (shr .u32 h[2] 8),U8 h[2],U8 (shr .u32 h[3] 24),U8 (shr .u32 h[3] 16),U8 (shr .u32 h[3] 8),U8 h[3],
 U8 (shr .u32 h[4] 24),U8 (shr .u32 h[4] 16),U8 (shr .u32 h[4] 8),U8 h[4],U8 (shr .u32 h[5] 24),U8 (shr .u32 h[5] 16),U8 (shr .u32 h[5] 8),U8 h[5],
 U8 (shr .u32 h[6] 24),U8 (shr .u32 h[6] 16),U8 (shr .u32 h[6] 8),U8 h[6],U8 (shr .u32 h[7] 24),U8 (shr .u32 h[7] 16),U8 (shr .u32 h[7] 8),U8 h[7]]
theorem shr0(a:Int):shr .u32 a 0=a:=by unfold shr;simp
theorem outP(N K:Nat)(h:Vector Int 8)(blk:Vector Int 64)(n:Int):rO N (h,blk,n) (K+9) (ai 32 0) 0=some (aQD h):=by
 rw[vec8 h]
 generalize h[0]=a0;generalize h[1]=a1;generalize h[2]=a2;generalize h[3]=a3;generalize h[4]=a4;generalize h[5]=a5;generalize h[6]=a6;generalize h[7]=a7
 kernel_rfl
theorem aNV(h:Vector Int 8):aN (aQD h).toList:=by
 intro x hx;unfold aQD at hx;simp only[Vector.toList_mk,d9,dy,or_false] at hx;rcases hx with h | h | h | h | h | h | h | h | h | h | h | h | h | h | h | h | h | h | h | h | h | h | h | h | h | h | h | h | h | h | h | h <;> (subst h;exact aHl _)
def endM(m:List Int):Vector Int 8:=aJI (m++aHE m.length) ((m.length+(nV m.length+9)) / 64)
def aFv(m:List Int):Vector Int 32:=aQD (endM m)
theorem aEL(m:List Int):aN (aFv m).toList:=aNV _
theorem hok0 : HOK [] H0 (ai 64 0) 0:=⟨rfl,rfl,by intro i hi;simp at hi⟩
theorem sumP(N:Nat)(hN:100 < N){m:List Int}{h:Vector Int 8}{blk:Vector Int 64}{n:Int}(H:HOK m h blk n)(hm:aN m)(hl:m.length < 4000000000000000000):pO N (eE.mk h blk n)=some (aFv m):=by
 have hz:nV m.length < 64:=by unfold nV;omega
 obtain⟨M,rfl⟩:∃M,N=M+9:=⟨N - 9,by omega⟩
 unfold pO;rw[aOo _ H,aa,cond_false]
 show ae (aBe (M+9) n) _=_;obtain⟨h',blk',n',e1,e2⟩:=aK6 (M+9) (by omega) H hm [aHE m.length] (by intro p hp;simp at hp;subst hp;exact aIs _) (by intro p hp;simp at hp;subst hp;rw[aCJ];omega) (by simp) (by simp) (by simp[aCJ];omega)
 rw[H.n] at e1 ⊢;rw[padP (M+9) (by omega) m.length (by omega),aa,e1,aa,outP,aa]
 have e3:=e2.h;simp only[ji,List.flatten_nil,cf,ah,aCJ] at e3;rw[e3]
 rfl
theorem shaP(N:Nat)(hN:100 < N)(ps:List (List Int))(hb:∀p∈ps,aN p)(hlen:∀p∈ps,p.length < N)(hps:ps.length < N)(hl:ps.flatten.length < 4000000000000000000)(hps2:ps.length < 4000000000000000000:=by simp):xM N ps=some (aFv ps.flatten):=by
 unfold xM;obtain⟨h',blk',n',e1,e2⟩:=aK6 N (by omega) hok0 (by intro x hx;cases hx) ps hb hlen hps (by omega) (by simp;simp at hl;omega)
 rw[show aBI N=some () from rfl,aa]
 show ae (eV N ps (eE.mk H0 (ai 64 0) 0)) _=_;rw[e1,aa]
 have hb':aN ps.flatten:=by
  intro x hx;obtain⟨p,hp,hx⟩:=oe.1 hx;exact hb p hp x hx
 rw[ee] at e2;show ae (pO N (eE.mk h' blk' n')) _=_;rw[sumP N hN e2 hb' hl,aa]
theorem aPa{m:Nat}(v:Vector Int m):(ce m).flatMap (λi=>[v.toList.getD i 0])=v.toList:=by
 rw[aCf]
 apply du;intro i;rw[cw]
 by_cases h:i < m
 ·rw[ii h,fI (by simp;omega)];rfl
 ·rw[ar (by simp;omega),ar (by simp;omega)];rfl
theorem aEE{m:Nat}(hm:m<=1000)(v:Vector Int m)(F:Nat->List Int->Int->Option (List Int))(h1:∀k s i,i < m->s.length<=10000000000000+1000->F (k+1) s (i:Int)=F k (s++[v.toList.getD i 0]) (I64 ((i:Int)+1)))(h2:∀k s,F (k+1) s (m:Int)=some s)
  {N:Nat} (hN:m < N) {s:List Int} (hs:s.length<=10000000000000:=by simp):F N s 0=some (s++v.toList):=by
 have:=oI m (by omega) (λi=>[v.toList.getD i 0]) (λs i=>s.length<=10000000000000+i) F (by intro s i hi hs;simp;omega) (λk s i hi hs=>h1 k s i hi (by omega)) h2 hN (s:=s) (by omega)
 rw[this,aPa]
theorem aN7(v:Vector Int 32):cR v.toList 0 32=some v.toList:=aP2 v
theorem aRi(v:Vector Int 64):cR v.toList 0 64=some v.toList:=aP2 v
def aFa(key:List Int):List Int:=if 64 < key.length then(aFv key).toList else key
theorem aIL(key:List Int):(aFa key).length<=64:=by
 unfold aFa;split
 ·simp
 ·omega
def xS(key:List Int):List Int:=aFa key++ak (64 - (aFa key).length) 0
theorem yS(key:List Int):(xS key).length=64:=by have:=aIL key;unfold xS;simp;omega
def aAa(key:List Int):List Int:=(xS key).map (λx=>eT .u8 x 54)
def aCb(key:List Int):List Int:=(xS key).map (λx=>eT .u8 x 92)
theorem aAw(key:List Int):aN (aAa key):=by intro x hx;obtain⟨y,_,rfl⟩:=fa.1 hx;exact aHl _
theorem aGk(key:List Int):aN (aCb key):=by intro x hx;obtain⟨y,_,rfl⟩:=fa.1 hx;exact aHl _
theorem xO(key:List Int):(aAa key).length=64:=by unfold aAa;rw[cr,yS]
theorem aBD(key:List Int):(aCb key).length=64:=by unfold aCb;rw[cr,yS]
def aML(key msg:List Int):Vector Int 32:=aFv (aCb key++(aFv (aAa key++msg)).toList)
theorem aMB(key msg:List Int):eD (aML key msg):=aEL _
theorem aVB(m:List Int):[m].flatten=m:=by simp
theorem shaP1(N:Nat)(hN:100 < N)(m:List Int)(hm:aN m)(hl:m.length < N)(hl2:m.length < 4000000000000000000):xM N [m]=some (aFv m):=by
 have:=shaP N hN [m] (by intro p hp;simp at hp;subst hp;exact hm) (by intro p hp;simp at hp;subst hp;exact hl) (by simp;omega) (by simpa using hl2)
 rwa[aVB] at this
theorem aEu{l:List Int}{f:Int->Int}{n i:Nat}(hl:l.length=n)(hi:i < n):((l.take i).map f++l.drop i).set i (f (l.getD i 0))=(l.take (i+1)).map f++l.drop (i+1):=by
 rw[io _ _ (by simp;omega)]
 have:i - ((l.take i).map f).length=0:=by simp;omega
 rw[this,cg (by omega),nm,jg,ka,am,ap,af (by omega)]
 rfl
theorem padsP(N:Nat)(hN:100 < N)(key:List Int)(hk:aN key)(hl:key.length < N)(hl2:key.length < 4000000000000000000):∃a b,aBk N key=some (a,b)/\a.toList=aAa key/\b.toList=aCb key:=by
 unfold aBk;have e1:(aM (decide ((key.length:Int) > 64)) λx2=>cond x2 (ae (xM N [key]) λr3=>ae (cR r3.toList 0 32) λs5=>some s5) (some key))=some (aFa key):=by
  rw[aC]
  unfold aFa;by_cases h:64 < key.length
  ·rw[if_pos h,dt,cond_true,shaP1 N hN key hk hl hl2,aa,aN7,aa]
  ·rw[if_neg h,df,cond_false]
 obtain⟨v,hv1,hv2⟩:=aQT (blk:=ai 64 0) (d:=aFa key) (lo:=0) (len:=64)
 have hv:v.toList=xS key:=by
  have:=aIL key;rw[hv2]
  unfold cpy xS;rw[j3,ee,Nat.zero_add,Nat.min_eq_left this,bf (Nat.le_refl _),show(ai 64 (0:Int)).toList=ak 64 0 from rfl,List.drop_replicate]
 rw[e1,aa,aTp (by omega) (by omega) (by omega),aa,hv1,aa]
 obtain⟨⟨a,b⟩,h1,h2⟩:=aFb 64 (by decide) (λi (p:Vector Int 64×Vector Int 64)=>p.1.toList=((xS key).take i).map (λx=>eT .u8 x 54)++(xS key).drop i/\p.2.toList=((xS key).take i).map (λx=>eT .u8 x 92)++(xS key).drop i) (λk p i=>tK N k p.1 p.2 i) (λk p i hi ⟨g1,g2⟩=>by
  have hlen:=yS key;refine⟨(p.1.setIfInBounds i (eT .u8 ((xS key).getD i 0) 54),p.2.setIfInBounds i (eT .u8 ((xS key).getD i 0) 92)),⟨?_,?_⟩,?_⟩
  ·rw[show(p.1.setIfInBounds i (eT .u8 ((xS key).getD i 0) 54)).toList=p.1.toList.set i (eT .u8 ((xS key).getD i 0) 54) by simp,g1]
   exact aEu (f:=λx=>eT .u8 x 54) hlen hi
  ·rw[show(p.2.setIfInBounds i (eT .u8 ((xS key).getD i 0) 92)).toList=p.2.toList.set i (eT .u8 ((xS key).getD i 0) 92) by simp,g2]
   exact aEu (f:=λx=>eT .u8 x 92) hlen hi
  ·have f1:∀f:Int->Int,(((xS key).take i).map f++(xS key).drop i)[i]? = some ((xS key).getD i 0):=by
    intro f;rw[ck (by simp;omega),eo]
    have:i+(i - (((xS key).take i).map f).length)=i:=by simp;omega
    rw[this,fI]
   have f2:=f1 (λx=>eT .u8 x 54)
   have f3:=f1 (λx=>eT .u8 x 92)
   rw[<- g1] at f2;rw[<- g2] at f3;rw[tK,dt (show(i:Int) < 64 by omega),cond_true,bQ,aa,bo,f2,aa,aa,aa,aa,f3,aa,aa,aa]) (λk p=>by rw[tK,df,cond_false]) N 0 (v,v) ⟨by simp[hv],by simp[hv]⟩ (by omega) (by omega)
 rw[show((0:Nat):Int)=0 from rfl] at h2;refine⟨a,b,?_,?_,?_⟩
 ·rw[h2,aa]
 ·rw[h1.1,bf (by rw[yS];omega),ff (by rw[yS];omega),cf];rfl
 ·rw[h1.2,bf (by rw[yS];omega),ff (by rw[yS];omega),cf];rfl
theorem hmacP(N:Nat)(hN:200 < N)(key:List Int)(ps:List (List Int))(hk:aN key)(hl:key.length < N)(hl2:key.length < 4000000000000000000)(hb:∀p∈ps,aN p)(hlen:∀p∈ps,p.length < N)(hps:ps.length < N)(hps2:ps.length < 4000000000000000000)(hpl:ps.flatten.length < 3000000000000000000):aC5 N key ps=some (aML key ps.flatten):=by
 unfold aC5;obtain⟨a,b,e1,e2,e3⟩:=padsP N (by omega) key hk hl hl2;rw[e1,aa,show aBI N=some () from rfl,aa]
 dsimp only;rw[aRi,aa,e2]
 obtain⟨h1,b1,n1,f1,f2⟩:=aK6 N (by omega) hok0 (by intro x hx;cases hx) [aAa key] (by intro p hp;simp at hp;subst hp;exact aAw key) (by intro p hp;simp at hp;subst hp;rw[xO];omega) (by simp;omega) (by simp) (by simp[xO])
 rw[aVB,ee] at f2;show ae (eV N [aAa key] (eE.mk H0 (ai 64 0) 0)) _=_;rw[f1,aa]
 obtain⟨h2,b2,n2,f3,f4⟩:=aK6 N (by omega) f2 (aAw key) ps hb hlen hps (by omega) (by rw[xO];omega)
 dsimp only;rw[f3,aa]
 dsimp only;have hpb:aN ps.flatten:=by
  intro x hx;obtain⟨p,hp,hx⟩:=oe.1 hx;exact hb p hp x hx
 rw[sumP N (by omega) f4 ((aAw key).app hpb) (by rw[ah,xO];omega),aa,aRi,aa,aN7,aa,e3,
  shaP N (by omega) [aCb key,(aFv (aAa key++ps.flatten)).toList] (by intro p hp;simp at hp;rcases hp with rfl | rfl;exact aGk key;exact aEL _) (by intro p hp;simp at hp;rcases hp with rfl | rfl;rw[aBD];omega;simp;omega) (by simp;omega) (by simp[aBD]),aa]
 unfold aML;simp
end Go.UK
