/- A part of the proof: what the functions of the program compute. -/
import Derived.Test.YtljnaeghnleipaaGreatJ3
import Derived.Test.YtljnaeghnleipaaGreatJ6
open Bool renaming decide_or→cd,eq_iff_iff→gg,or_eq_false_iff→kx,or_eq_true→iz,or_false→ik,or_true→nk
open Int renaming ediv_one→ny,emod_eq_of_lt→ir,eq_ofNat_of_zero_le→bp,mul_le_mul→gq,tdiv→du,tdiv_eq_ediv_of_nonneg→dz,tmod→cu,tmod_eq_emod_of_nonneg→ed,toNat_natCast→cw
open List renaming any_cons→j6,any_nil→ki,append_assoc→am,append_nil→cg,drop_drop→fg,drop_eq_getElem_cons→co,drop_left'→j3,drop_length→gf,drop_take→ku,drop_zero→dw,ext_getElem?→dr,flatMap_cons→dp,getD_eq_getElem?_getD→bf,getElem?_append_left→cn,getElem?_append_right→cr,getElem?_drop→eo,getElem?_eq_getElem→ag,getElem?_eq_none→au,getElem?_replicate→cz,getElem?_set→cv,getElem?_take_of_lt→fb,getElem_mem→ci,getElem_range→lz,length→dm,length_append→ai,length_drop→br,length_eq_zero_iff→fw,length_singleton→cf,length_take→bw,nil_append→fq,range→cj,replicate→ap,take_of_length_le→bj,take_zero→gs
open Option renaming bind→ae,bind_some→aa,getD_some→fe
open Vector renaming replicate→ah,toList_inj→dx,toList_setIfInBounds→bq
namespace Go.UK
open Go Go.Proofs
set_option maxRecDepth 20000
set_option maxHeartbeats 16000000
set_option linter.all false
theorem oU(a b:Bool):cond a true b=(a||b):=by cases a <;> rfl
theorem vV{α:Type}(c:Bool)(x y:α):(cond c (some x) (some y))=some (cond c x y):=by cases c <;> rfl
theorem aNQ(a b c m:Int):tQ (tQ a b) c > m↔a > m\/b > m\/c > m:=by unfold tQ;split <;> split <;> omega
theorem aKH(a b c m:Int):mU (mU a b) c < m↔a < m\/b < m\/c < m:=by unfold mU;split <;> split <;> omega
theorem aR3(a b c m:Int):tQ (tQ a b) c>=m↔a>=m\/b>=m\/c>=m:=by unfold tQ;split <;> split <;> omega
theorem aSE(a b m:Int):tQ a b > m↔a > m\/b > m:=by unfold tQ;split <;> omega
theorem aRH(a b m:Int):mU a b < m↔a < m\/b < m:=by unfold mU;split <;> omega
theorem dcg{p q:Prop}[Decidable p][Decidable q](h:p↔q):decide p=decide q:=by simp[h]
theorem aNP{α:Type}(l:List α)(hl:l.length < 9223372036854775807)(q:α->Bool){F:Nat->Int->Option (Sum Unit Int)}
  (hstep:∀k i (h:i < l.length),F (k+1) (i:Int)=cond (q l[i]) (some (Sum.inr (i:Int))) (F k (I64 ((i:Int)+1)))) (hend:∀k,F (k+1) (l.length:Int)=some (Sum.inl ())) :
  ∀(k i:Nat),i<=l.length->l.length - i < k->(ae (ae (F k (i:Int)) λo=>nQ o (λp1=>some (-1)) (λr=>some r)) λr1:Int=>some (decide (r1>=0)))=some ((l.drop i).any q)
 | 0,i,_,h=>by omega
 | k+1,i,hi,hk=>by
  by_cases h:i < l.length
  ·rw[hstep k i h,co h,j6]
   cases q l[i] with
   | true=>
    show some (decide ((i:Int)>=0))=some true;rw[dt (by omega)]
   | false=>rw[cond_false,cV (by omega),aNP l hl q hstep hend k (i+1) (by omega) (by omega)];rfl
  ·obtain rfl:i=l.length:=by omega
   rw[hend,gf]
   rfl
theorem aCp{α:Type}(l:List α)(hl:l.length < 9223372036854775807)(q:α->Bool){F:Nat->Int->Option (Sum Unit Int)}
  (hstep:∀k i (h:i < l.length),F (k+1) (i:Int)=cond (q l[i]) (some (Sum.inr (i:Int))) (F k (I64 ((i:Int)+1)))) (hend:∀k,F (k+1) (l.length:Int)=some (Sum.inl ())) {N:Nat} (hN:l.length < N) :
  (ae (ae (F N 0) λo=>nQ o (λp1=>some (-1)) (λr=>some r)) λr1:Int=>some (decide (r1>=0)))=some (l.any q):=by
 have:=aNP l hl q hstep hend N 0 (by omega) (by omega)
 rwa[dw] at this
def zE(p:aB):Bool:=decide ((p.gX > 4096\/p.gX < -4096)\/(p.gY > 4096\/p.gY < -4096)\/(p.gZ > 4096\/p.gZ < -4096))
theorem aQn(N:Nat)(p:aB):pG N p=some (zE p):=by
 unfold pG;rw[aC,aC,vV,aa,oU,dcg (aNQ _ _ _ _),dcg (aKH _ _ _ _),<- cd]
 exact congrArg some (dcg (by omega))
theorem aOE(N:Nat)(p:aB):oC N p=some (zE p):=aQn N p
theorem offR(N:Nat)(p:aB):lH N p 4096=some (zE p):=by
 unfold lH;rw[show I64 (0 - 4096) = -4096 from by decide]
 simp only[aC,oU,<- cd]
 exact congrArg some (dcg (by omega))
def uvX(v:Vector Int 2):Bool:=decide ((v[0] < 0\/v[0] > 65535)\/(v[1] < 0\/v[1] > 65535))
theorem pairE(N:Nat)(v:Vector Int 2):pP N v=some (uvX v):=by
 unfold pP;simp only[aNF,aOU,aa,aC,vV,oU]
 rw[dcg (aRH _ _ _),dcg (aSE _ _ _),<- cd]
 exact congrArg some (dcg (by omega))
def trX(n:Int)(v:Vector Int 3):Bool:=decide ((v[0] < 0\/v[0]>=n\/v[0]=v[1])\/(v[1] < 0\/v[1]>=n\/v[1]=v[2])\/(v[2] < 0\/v[2]>=n\/v[2]=v[0]))
theorem wC(a b:Int):(a==b)=decide (a=b):=by cases h:decide (a=b) <;> simp_all
theorem triE(N:Nat)(v:Vector Int 3)(m:aK):mF N v m=some (trX (m.gG.length:Int) v):=by
 unfold mF;simp only[aGe,aHB,aGw,aa,aC,vV,oU,wC]
 rw[dcg (aKH _ _ _ _),dcg (aR3 _ _ _ _)]
 simp only[<- cd]
 exact congrArg some (dcg (by omega))
def aAm(m:aK):Int:=
 if m.gG.length > 64\/m.gJ.length > 64 then 3 else if m.gG.length=0\/m.gJ.length=0\/m.gL.length≠m.gG.length then 5 else if m.gG.any zE=true then 8 else if m.gL.any uvX=true\/m.gJ.any (trX (m.gG.length:Int))=true then 5 else 0
theorem cif{α:Type}{p:Prop}[Decidable p]{b:Bool}(h:b=true↔p)(x y:α):cond b x y=if p then x else y:=by
 cases b with
 | true=>rw[if_pos (h.1 rfl)];rfl
 | false=>rw[if_neg (λq=>by simpa using h.2 q)];rfl
theorem aBZ(a b:Int):(a != b)=decide (a≠b):=by rw[bne,wC];simp
theorem aMz(N:Nat)(hN:1000 < N)(m:aK)(hu:m.gL.length<=500):fV N m=some (aAm m):=by
 unfold fV aAm;rw[aC,aC,aC]
 by_cases c1:m.gG.length > 64\/m.gJ.length > 64
 ·rw[if_pos c1,oU,<- cd,dt (by omega),cond_true]
 rw[if_neg c1,oU,<- cd,df (by omega),cond_false,aC,aC,aC,aC,aC]
 by_cases c2:m.gG.length=0\/m.gJ.length=0\/m.gL.length≠m.gG.length
 ·rw[if_pos c2,oU,oU,wC,wC,aBZ,<- cd,<- cd,dt (by omega),cond_true]
 rw[if_neg c2,oU,oU,wC,wC,aBZ,<- cd,<- cd,df (by omega),cond_false]
 unfold bV cI cJ bZ cS cR;rw[aCp m.gG (by omega) zE (F:=aX N m.gG) (λk i h=>by rw[aX,aC,dt (by omega),cond_true,dA h,aa,aQn,aa]) (λk=>by rw[aX,aC,df (by omega),cond_false]) (by omega),aa]
 rw[aCp m.gL (by omega) uvX (F:=bF N m.gL) (λk i h=>by rw[bF,aC,dt (by omega),cond_true,dA h,aa,pairE,aa]) (λk=>by rw[bF,aC,df (by omega),cond_false]) (by omega),aa]
 rw[aCp m.gJ (by omega) (trX (m.gG.length:Int)) (F:=bG N m.gJ m) (λk i h=>by rw[bG,aC,dt (by omega),cond_true,dA h,aa,triE,aa]) (λk=>by rw[bG,aC,df (by omega),cond_false]) (by omega),aa]
 cases m.gG.any zE <;> cases m.gL.any uvX <;> cases m.gJ.any (trX (m.gG.length:Int)) <;> rfl
theorem r13L3(N:Nat)(m:aK)(k:Nat){i:Nat}(h:i < m.gL.length):iK N m (i:Int) (k+3) 0=some (cond (uvX m.gL[i]) (Sum.inr 5) (Sum.inl ())):=by
 have e1:I64 (0+1)=1:=by decide
 have e2:I64 (1+1)=2:=by decide
 rw[iK,dt (by decide),cond_true,iK,e1,dt (by decide),cond_true,iK,e2,df (by decide),cond_false]
 simp only[dA h,aa,aNF,aOU,vV,oU,<- cd]
 rw[show uvX m.gL[i]=(decide (m.gL[i][0] < 0\/m.gL[i][0] > 65535)||decide (m.gL[i][1] < 0\/m.gL[i][1] > 65535)) from by rw[<- cd];rfl]
 cases decide (m.gL[i][0] < 0\/m.gL[i][0] > 65535) <;> cases decide (m.gL[i][1] < 0\/m.gL[i][1] > 65535) <;> rfl
theorem r13L5(N:Nat)(m:aK)(k:Nat){i:Nat}(h:i < m.gJ.length):eW N m (i:Int) (k+4) 0=some (cond (trX (m.gG.length:Int) m.gJ[i]) (Sum.inr 5) (Sum.inl ())):=by
 have e1:I64 (0+1)=1:=by decide
 have e2:I64 (1+1)=2:=by decide
 have e3:I64 (2+1)=3:=by decide
 have f1:cu 1 3=1:=by decide
 have f2:cu 2 3=2:=by decide
 have f3:cu 3 3=0:=by decide
 rw[eW,dt (by decide),cond_true,eW,e1,dt (by decide),cond_true,eW,e2,dt (by decide),cond_true,eW,e3,df (by decide),cond_false]
 simp only[dA h,aa,aC,f1,f2,f3,aGe,aHB,aGw,vV,oU,wC,<- cd]
 generalize m.gJ[i]=v;rw[show trX (m.gG.length:Int) v=(decide (v[0] < 0\/v[0]>=(m.gG.length:Int)\/v[0]=v[1])||(decide (v[1] < 0\/v[1]>=(m.gG.length:Int)\/v[1]=v[2])||decide (v[2] < 0\/v[2]>=(m.gG.length:Int)\/v[2]=v[0]))) from by rw[<- cd,<- cd];rfl]
 cases decide (v[0] < 0\/v[0]>=(m.gG.length:Int)\/v[0]=v[1]) <;> cases decide (v[1] < 0\/v[1]>=(m.gG.length:Int)\/v[1]=v[2]) <;> cases decide (v[2] < 0\/v[2]>=(m.gG.length:Int)\/v[2]=v[0]) <;> rfl
theorem aKE(N:Nat)(hN:1000 < N)(m:aK)(hu:m.gL.length<=500):lE N m=some (aAm m):=by
 unfold lE aAm;rw[aC,aC,aC]
 by_cases c1:m.gG.length > 64\/m.gJ.length > 64
 ·rw[if_pos c1,oU,<- cd,dt (by omega),cond_true]
 rw[if_neg c1,oU,<- cd,df (by omega),cond_false,aC,aC,aC,aC,aC]
 by_cases c2:m.gG.length=0\/m.gJ.length=0\/m.gL.length≠m.gG.length
 ·rw[if_pos c2,oU,oU,aBZ,<- cd,<- cd,dt (by omega),cond_true]
 rw[if_neg c2,oU,oU,aBZ,<- cd,<- cd,df (by omega),cond_false]
 obtain⟨k,rfl⟩:∃k,N=k+4:=⟨N - 4,by omega⟩
 rw[rG m.gG zE 8 (kS (k+4) m) (by omega) (λk i h=>by rw[kS,aC,dt (by omega),cond_true,dA h,aa,offR,aa]) (λk=>by rw[kS,aC,df (by omega),cond_false]) (by omega),aa]
 rw[rG m.gL uvX 5 (kL (k+4) m) (by omega) (λj i h=>by
  rw[kL,aC,dt (by omega),cond_true,r13L3 (k+4) m (k+1) h,aa];cases uvX m.gL[i] <;> rfl) (λk=>by rw[kL,aC,df (by omega),cond_false]) (by omega),aa]
 rw[rG m.gJ (trX (m.gG.length:Int)) 5 (kR (k+4) m) (by omega) (λj i h=>by
  rw[kR,aC,dt (by omega),cond_true,r13L5 (k+4) m k h,aa];cases trX (m.gG.length:Int) m.gJ[i] <;> rfl) (λk=>by rw[kR,aC,df (by omega),cond_false]) (by omega),aa]
 cases m.gG.any zE <;> cases m.gL.any uvX <;> cases m.gJ.any (trX (m.gG.length:Int)) <;> rfl
theorem g3_0(v:Vector Int 3):v.toList[((0:Int).toNat)]? = some v[0]:=uU v 0 (by decide)
theorem g3_1(v:Vector Int 3):v.toList[((1:Int).toNat)]? = some v[1]:=uU v 1 (by decide)
theorem g3_2(v:Vector Int 3):v.toList[((2:Int).toNat)]? = some v[2]:=uU v 2 (by decide)
theorem aQe : aW 0 3=some ():=rfl
theorem aQw : aW 1 3=some ():=rfl
theorem aP4 : aW 2 3=some ():=rfl
def aAq(most:Int)(v:Vector Int 3):Bool:=decide ((v[0] < 0\/v[0] > most)\/(v[1] < 0\/v[1] > most)\/(v[2] < 0\/v[2] > most))
def aES(s:Int):Bool:=decide (¬(s=1\/s=2\/s=4\/s=8\/s=16))
def aDe(t:aH):Int:=if aES t.gM=true\/(t.gK.length:Int)≠I64 (t.gM*t.gM) then 5 else if t.gK.any (aAq 255)=true then 5 else 0
theorem aN8(N:Nat)(hN:1000 < N)(t:aH)(ht:t.gK.length+10 < N)(ht2:t.gK.length<=1000000):cE N t=some (aDe t):=by
 unfold cE aDe fN mH;rw[aCp [1,2,4,8,16] (by decide) (λe=>t.gM==e) (F:=dC N [1,2,4,8,16] t.gM) (λk i h=>by rw[dC,aC,dt (by omega),cond_true,dA h,aa]) (λk=>by rw[dC,aC,df (by omega),cond_false]) (by show 5 < N;omega),aa]
 have e:(!(([1,2,4,8,16]:List Int).any λe=>t.gM==e))=aES t.gM:=by
  rw[gg]
  simp[aES]
 rw[e,aC,aC,aC,oU,aBZ]
 by_cases c:aES t.gM=true\/(t.gK.length:Int)≠I64 (t.gM*t.gM)
 ·rw[if_pos c]
  rcases c with c | c
  ·rw[c,Bool.true_or,cond_true]
  ·rw[dt c,nk,cond_true]
 rw[if_neg c]
 rw[show aES t.gM=false by simpa using λh=>c (.inl h),df (λh=>c (.inr h)),ik,cond_false,aC]
 rw[rG t.gK (aAq 255) 5 (jF N (t.gK.length:Int) t) (by omega) (λk i h=>by
  rw[jF,dt (by omega),cond_true,dA h,aa]
  simp only[aQe,aQw,aP4,g3_0,g3_1,g3_2,aa,aC,vV,oU]
  rw[dcg (aKH _ _ _ _),dcg (aNQ _ _ _ _),<- cd]
  congr 1;exact dcg (by omega)) (λk=>by rw[jF,df (by omega),cond_false]) (by omega),aa]
 cases t.gK.any (aAq 255) <;> rfl
theorem texCE(N:Nat)(hN:1000 < N)(t:aH)(ht:t.gK.length<=500):cE N t=some (aDe t):=aN8 N hN t (by omega) (by omega)
theorem aN6(most:Int)(v:Vector Int 3):aAq most v=(decide (v[0] < 0\/v[0] > most)||(decide (v[1] < 0\/v[1] > most)||decide (v[2] < 0\/v[2] > most))):=by rw[<- cd,<- cd];rfl
theorem r14L2(N:Nat)(t:aH)(k:Nat){i:Nat}(h:i < t.gK.length):eT N t (i:Int) (k+4) 0=some (cond (aAq 255 t.gK[i]) (Sum.inr 5) (Sum.inl ())):=by
 have e1:I64 (0+1)=1:=by decide
 have e2:I64 (1+1)=2:=by decide
 have e3:I64 (2+1)=3:=by decide
 rw[eT,dt (by decide),cond_true,eT,e1,dt (by decide),cond_true,eT,e2,dt (by decide),cond_true,eT,e3,df (by decide),cond_false]
 simp only[dA h,aa,aC,aGe,aHB,aGw,vV,oU,<- cd]
 generalize t.gK[i]=v;rw[aN6]
 cases decide (v[0] < 0\/v[0] > 255) <;> cases decide (v[1] < 0\/v[1] > 255) <;> cases decide (v[2] < 0\/v[2] > 255) <;> rfl
theorem aQm(a b:Bool):cond a b false=(a&&b):=by cases a <;> rfl
theorem aN4(N:Nat)(hN:1000 < N)(t:aH)(ht:t.gK.length+10 < N)(ht2:t.gK.length<=1000000):iU N t=some (aDe t):=by
 unfold iU aDe;simp only[aC,aQm,oU,aBZ,<- Bool.decide_and,<- cd]
 obtain⟨k,rfl⟩:∃k,N=k+4:=⟨N - 4,by omega⟩
 have e:aES t.gM=true↔((((t.gM≠1/\t.gM≠2)/\t.gM≠4)/\t.gM≠8)/\t.gM≠16):=by
  unfold aES;rw[decide_eq_true_eq]
  omega
 by_cases c:aES t.gM=true\/(t.gK.length:Int)≠I64 (t.gM*t.gM)
 ·rw[if_pos c]
  rw[e] at c;rw[dt c,cond_true]
 ·rw[if_neg c]
  rw[e] at c;rw[df c,cond_false]
  rw[rG t.gK (aAq 255) 5 (kI (k+4) t) (by omega) (λj i h=>by
   rw[kI,aC,dt (by omega),cond_true,r14L2 (k+4) t k h,aa];cases aAq 255 t.gK[i] <;> rfl) (λk=>by rw[kI,aC,df (by omega),cond_false]) (by omega),aa]
  cases t.gK.any (aAq 255) <;> rfl
theorem aQC(N:Nat)(hN:1000 < N)(t:aH)(ht:t.gK.length<=500):iU N t=some (aDe t):=aN4 N hN t (by omega) (by omega)
def oX(most x:Int):Bool:=decide (x < 0\/x > most)
theorem aLi(N:Nat)(hN:1000 < N)(most:Int)(l:List Int)(hl:l.length<=500):jH N most l=some (l.any (oX most)):=by
 unfold jH cO dH;rw[aCp l (by omega) (oX most) (F:=bL N l most) (λk i h=>by
  rw[bL,aC,dt (by omega),cond_true,dA h,aa,qZ,aC,oU,<- cd,aa];rfl) (λk=>by rw[bL,aC,df (by omega),cond_false]) (by omega),aa]
def aJb(m:aG):Int:=if (oX 4 m.gC||(aAq 65535 m.gF||oX 65535 m.gW))=true then 5 else 0
theorem matCE(N:Nat)(hN:1000 < N)(m:aG):nH N m=some (aJb m):=by
 unfold nH aJb;rw[aLi N hN 4 _ (by simp),aa]
 simp only[aGe,aHB,aGw,aa]
 rw[aLi N hN 65535 _ (by simp),aa,vV,oU,aa,vV]
 simp only[j6,ki,ik]
 rw[aN6,<- Bool.or_assoc (decide (m.gF[0] < 0\/m.gF[0] > 65535))]
 unfold oX;cases decide (m.gC < 0\/m.gC > 4) <;> cases decide (m.gF[0] < 0\/m.gF[0] > 65535) <;> cases decide (m.gF[1] < 0\/m.gF[1] > 65535) <;> cases decide (m.gF[2] < 0\/m.gF[2] > 65535) <;> cases decide (m.gW < 0\/m.gW > 65535) <;> rfl
theorem r15M(N:Nat)(m:aG)(k:Nat):dJ N m (k+4) 0=some (cond (aAq 65535 m.gF) (Sum.inr 5) (Sum.inl ())):=by
 have e1:I64 (0+1)=1:=by decide
 have e2:I64 (1+1)=2:=by decide
 have e3:I64 (2+1)=3:=by decide
 rw[dJ,dt (by decide),cond_true,dJ,e1,dt (by decide),cond_true,dJ,e2,dt (by decide),cond_true,dJ,e3,df (by decide),cond_false]
 simp only[aa,aC,aGe,aHB,aGw,vV,oU,<- cd]
 generalize m.gF=v;rw[aN6]
 cases decide (v[0] < 0\/v[0] > 65535) <;> cases decide (v[1] < 0\/v[1] > 65535) <;> cases decide (v[2] < 0\/v[2] > 65535) <;> rfl
theorem matCR(N:Nat)(hN:1000 < N)(m:aG):nA N m=some (aJb m):=by
 unfold nA aJb;obtain⟨k,rfl⟩:∃k,N=k+4:=⟨N - 4,by omega⟩
 simp only[aC,oU,<- cd]
 rw[r15M,aa,show(decide (((m.gC < 0\/m.gC > 4)\/m.gW < 0)\/m.gW > 65535))=(oX 4 m.gC||oX 65535 m.gW) from by unfold oX;rw[<- cd];exact dcg (by omega)]
 cases oX 4 m.gC <;> cases aAq 65535 m.gF <;> cases oX 65535 m.gW <;> rfl
def pN(p:aB):Bool := !(aB.eq p (aB.mk 0 0 0))
def aJY(l:aL):Int:=if (oX 2 l.gC||aAq 1048576 l.gF)=true then 5 else if (zE l.gAt||(zE l.gU||zE l.gV))=true then 8 else if (l.gC=2/\pN l.gAt=true)\/(l.gC≠1/\(pN l.gU||pN l.gV)=true) then 5 else 0
theorem slc3(v:Vector Int 3):eD v.toList 0 3=some [v[0],v[1],v[2]]:=by
 have h:eD v.toList 0 3=some v.toList:=slcV (m:=3) v;rw[h]
 congr 1;apply List.ext_getElem (by simp)
 intro i h1 h2;have:i < 3:=by simpa using h1
 match i,this with
 | 0,_=>simp
 | 1,_=>simp
 | 2,_=>simp
theorem out3l(most:Int)(v:Vector Int 3):[v[0],v[1],v[2]].any (oX most)=aAq most v:=by
 rw[aN6]
 simp only[j6,ki,ik]
 rfl
theorem ligCE(N:Nat)(hN:1000 < N)(l:aL):rB N l=some (aJY l):=by
 unfold rB aJY;rw[aLi N hN 2 _ (by simp),aa,slc3,aa,aLi N hN 1048576 _ (by simp),aa,out3l,aOE,aa,aOE,aa,aOE,aa]
 simp only[j6,ki,ik,vV,oU,aa,aC]
 change _=some (if _ then _ else if _ then _ else _)
 have k2:(l.gC==2)=decide (l.gC=2):=wC _ _;have k0:(l.gC==0)=decide (l.gC=0):=wC _ _;rw[k2,k0]
 cases hx:(oX 2 l.gC||aAq 1048576 l.gF) with
 | true=>rfl
 | false=>
  have kr:0<=l.gC/\l.gC<=2:=by
   have:=(kx.1 hx).1;unfold oX at this;have:=of_decide_eq_false this;omega
  rw[cond_false,if_neg (by decide)]
  cases (zE l.gAt||(zE l.gU||zE l.gV)) with
  | true=>rfl
  | false=>
   rw[cond_false,if_neg (by decide)]
   show nQ (cond (decide (l.gC=2)) (cond (pN l.gAt) (Sum.inr (5:Int)) (cond (pN l.gU||pN l.gV) (Sum.inr 5) (Sum.inl ()))) (cond (decide (l.gC=0)) (cond (pN l.gU||pN l.gV) (Sum.inr 5) (Sum.inl ())) (Sum.inl ()))) (λ_=>some (0:Int)) (λr=>some r)=_;by_cases q2:l.gC=2
   ·rw[dt q2,cond_true]
    cases h1:pN l.gAt with
    | true=>rw[if_pos (.inl ⟨q2,rfl⟩)];rfl
    | false=>
     cases h2:(pN l.gU||pN l.gV) with
     | true=>rw[if_pos (.inr ⟨by omega,rfl⟩)];rfl
     | false=>rw[if_neg (by simp)];rfl
   ·rw[df q2,cond_false]
    by_cases q0:l.gC=0
    ·rw[dt q0,cond_true]
     cases h2:(pN l.gU||pN l.gV) with
     | true=>rw[if_pos (.inr ⟨by omega,rfl⟩)];rfl
     | false=>rw[if_neg (by simp;intro h;exact absurd h q2)];rfl
    ·rw[df q0,cond_false,if_neg (by rintro(⟨h,_⟩ | ⟨h,_⟩) <;> omega)]
     rfl
theorem r15L(N:Nat)(m:aL)(k:Nat):eV N m (k+4) 0=some (cond (aAq 1048576 m.gF) (Sum.inr 5) (Sum.inl ())):=by
 have e1:I64 (0+1)=1:=by decide
 have e2:I64 (1+1)=2:=by decide
 have e3:I64 (2+1)=3:=by decide
 rw[eV,dt (by decide),cond_true,eV,e1,dt (by decide),cond_true,eV,e2,dt (by decide),cond_true,eV,e3,df (by decide),cond_false]
 simp only[aa,aC,aGe,aHB,aGw,vV,oU,<- cd]
 generalize m.gF=v;rw[aN6]
 cases decide (v[0] < 0\/v[0] > 1048576) <;> cases decide (v[1] < 0\/v[1] > 1048576) <;> cases decide (v[2] < 0\/v[2] > 1048576) <;> rfl
theorem ligCR(N:Nat)(hN:1000 < N)(l:aL):pV N l=some (aJY l):=by
 unfold pV aJY;obtain⟨k,rfl⟩:∃k,N=k+4:=⟨N - 4,by omega⟩
 rw[r15L,offR,aa,offR,aa,offR,aa]
 simp only[aC,oU,vV,<- cd,aa]
 have k2:(l.gC==2)=decide (l.gC=2):=wC _ _;have k1:(l.gC != 1)=decide (l.gC≠1):=aBZ _ _;rw[k2,k1]
 show cond (oX 2 l.gC) (some (5:Int)) (nQ (cond (aAq 1048576 l.gF) (Sum.inr (5:Int)) (Sum.inl ())) (λ_=>some (cond (zE l.gAt||(zE l.gU||zE l.gV)) (8:Int) (cond (cond (decide (l.gC=2)) (pN l.gAt||cond (decide (l.gC≠1)) (pN l.gU||pN l.gV) false) (cond (decide (l.gC≠1)) (pN l.gU||pN l.gV) false)) 5 0))) (λr=>some r))=_;cases hx:oX 2 l.gC with
 | true=>rfl
 | false=>
  rw[cond_false,Bool.false_or]
  cases aAq 1048576 l.gF with
  | true=>rfl
  | false=>
   cases (zE l.gAt||(zE l.gU||zE l.gV)) with
   | true=>rfl
   | false=>
    rw[if_neg (by decide),if_neg (by decide)]
    show some (cond _ (5:Int) 0)=_;congr 1;refine cif ?_ _ _;by_cases q2:l.gC=2
    ·rw[dt q2,cond_true,dt (by omega),cond_true,iz]
     constructor
     ·rintro(h | h)
      ·exact .inl ⟨q2,h⟩
      ·exact .inr ⟨by omega,h⟩
     ·rintro(h | h)
      ·exact .inl h.2
      ·exact .inr h.2
    ·rw[df q2,cond_false,aQm,Bool.and_eq_true,decide_eq_true_eq]
     constructor
     ·exact .inr
     ·rintro(h | h)
      ·exact absurd h.1 q2
      ·exact h
theorem aGt{n:Nat}(B:Nat->Int){t:Nat}(h:t < n):((cj n).map B).take (t+1)=((cj n).map B).take t++[B t]:=by
 rw[List.take_succ,List.getElem?_map,List.getElem?_range h]
 rfl
theorem aQG(N w:Nat)(hw:w<=8):∀(k i:Nat),i<=w->w - i < k->nN N (w:Int) k (bO i - 1) (i:Int)=some (bO w - 1)
 | 0,_,_,h=>by omega
 | k+1,i,hi,hk=>by
  rw[nN]
  by_cases h:i < w
  ·have hb:bO i<=72057594037927936:=by
    have:∀i:Fin 8,bO i.val<=72057594037927936:=by decide
    exact this ⟨i,by omega⟩
   have hp:=uZ i;have e:U64 (U64 ((bO i - 1)*256)+255)=bO (i+1) - 1:=by rw[aCS,kW (x:=(bO i - 1)*256) (by omega) (by omega),kW (by omega) (by omega)];omega
   rw[dt (by omega),cond_true,aC,e,cV (by omega)]
   exact aQG N w hw k (i+1) (by omega) (by omega)
  ·obtain rfl:i=w:=by omega
   rw[df (by omega),cond_false]
theorem aLa(N:Nat)(hN:8 < N)(w:Nat)(hw:w<=8):fH N (w:Int)=some (bO w - 1):=by
 unfold fH;have:=aQG N w hw N 0 (by omega) (by omega)
 rw[show bO 0 - 1=0 from rfl,show((0:Nat):Int)=0 from rfl] at this;rw[this,aa]
theorem aMw(N w:Nat)(hw:w<=8)(x:Int)(hx:0<=x/\x < 18446744073709551616)(s:List Int)(hs:s.length<=100000000000000):∀(k i:Nat),i<=w->w - i < k->oI N (w:Int) k (s++(leB w x).take i) (x / bO i) (i:Int)=some (s++leB w x)
 | 0,_,_,h=>by omega
 | k+1,i,hi,hk=>by
  rw[oI]
  by_cases h:i < w
  ·have hp:=uZ i;have h0:0<=x / bO i:=Int.ediv_nonneg hx.1 (by omega)
   have h1:x / bO i<=x:=Int.ediv_le_self _ hx.1;have e1:U8 (cu (x / bO i) 256)=U8 (shr .u64 x ((8*i:Nat):Int)):=by
    rw[aHp _ _ (by omega),ed h0,aAP,aAP];omega
   have e2:U64 (du (x / bO i) 256)=x / bO (i+1):=by
    rw[div_s,dz h0,kW (by omega) (by omega)]
   have e3:(leB w x).take (i+1)=(leB w x).take i++[U8 (shr .u64 x ((8*i:Nat):Int))]:=aGt _ h;rw[dt (by omega),cond_true,hJ (by simp[bN];omega),aa,e1,e2,cV (by omega),am,<- e3]
   exact aMw N w hw x hx s hs k (i+1) (by omega) (by omega)
  ·obtain rfl:i=w:=by omega
   rw[df (by omega),cond_false,bj (by rw[bN];omega)]
theorem putR(N:Nat)(b:List Int)(w:Nat)(hw0:1<=w)(hw:w<=8)(ns:List Int)(hns:u64L ns)(hb:b.length<=10000000000000)(hl:ns.length<=1000000000000)(hN:8 < N)(hlN:ns.length < N):jO N b (w:Int) ns=some (aII b w ns):=by
 unfold jO;rw[df (show ¬(w:Int) < 1 by omega),df (show ¬(w:Int) > 8 by omega),cond_false,aC,cond_false,hJ (by simp;omega),aa,fq]
 have:=aDI ns (by omega) (big w) (leB w) (([],3):List Int×Int) (λs i=>s.length<=10000000000000+8*i) (λk s i=>mR N ns (w:Int) k s i) (by intro s i h hs;simp[bN];omega) (λk s i h hs=>by
  have hx:=hns _ (ci h)
  rw[mR,aC,dt (by omega),cond_true,dA h,aa,aLa N hN w hw,aa]
  have e:decide (ns[i] > bO w - 1)=big w ns[i]:=by
   unfold big;by_cases hb:bO w<=ns[i]
   ·rw[dt hb,dt (by omega)]
   ·rw[df hb,df (by omega)]
  rw[e]
  cases hbg:big w ns[i] with
  | true=>rfl
  | false=>
   have:=aMw N w hw ns[i] hx s (by omega) N 0 (by omega) (by omega)
   rw[gs,cg,show bO 0=1 from rfl,ny,show((0:Nat):Int)=0 from rfl] at this;rw[cond_false,cond_false,aa,this,aa]) (λk s=>by rw[mR,aC,df (by omega),cond_false]) N 0 b (by omega) (by omega) (by omega)
 rw[show((0:Nat):Int)=0 from rfl,dw] at this;rw[this,aa]
 unfold aII;cases ns.any (big w) <;> rfl
theorem sgnR(N:Nat)(b:List Int)(w:Nat)(hw0:1<=w)(hw:w<=8)(ns:List Int)(hns:aNW ns)(hb:b.length<=10000000000000)(hl:ns.length<=1000000000000)(hN:8 < N)(hlN:ns.length < N):mQ N b (w:Int) ns=some (aON b w ns):=by
 unfold mQ;have hp:=uZ w;have hp2:bO w / 2*2=bO w:=by
  have:∀i:Fin 9,1<=i.val->bO i.val / 2*2=bO i.val:=by decide
  exact this ⟨w,by omega⟩ hw0
 have hp3:bO w<=18446744073709551616:=by
  have:∀i:Fin 9,bO i.val<=18446744073709551616:=by decide
  exact this ⟨w,by omega⟩
 have e3:I64 (U64 (du (bO w - 1) 2))=bO w / 2 - 1:=by
  rw[dz (by omega),kW (by omega) (by omega),aU (by omega) (by omega)];omega
 rw[df (show ¬(w:Int) < 1 by omega),df (show ¬(w:Int) > 8 by omega),cond_false,aC,cond_false,aLa N hN w hw,aa,aC,e3]
 have:=aDI ns (by omega) (aDD w) (λx=>[x % bO w]) (([],3):List Int×Int) (λs i=>s.length=i) (λk s i=>jL N ns (bO w / 2 - 1) (w:Int) k s i) (by intro s i h hs;simp;omega) (λk s i h hs=>by
  have hx:=hns _ (ci h)
  obtain⟨x0,x1⟩:=hx;have f:I64 (I64 (0 - (bO w / 2 - 1)) - 1) = -(bO w / 2):=by rw[aU (x:=0 - (bO w / 2 - 1)) (by omega) (by omega),aU (by omega) (by omega)];omega
  rw[jL,aC,dt (by omega),cond_true,dA h,aa,aa,aC,f]
  generalize ns[i]=x at *;have e:(cond (decide (x > bO w / 2 - 1)) (some true) (some (decide (x < -(bO w / 2)))))=some (aDD w x):=by
   unfold aDD;by_cases h1:bO w / 2<=x
   ·rw[dt (show x > bO w / 2 - 1 by omega),dt h1,nk];rfl
   ·rw[df (show ¬x > bO w / 2 - 1 by omega),df h1,ik];rfl
  rw[e,aa]
  cases hbg:aDD w x with
  | true=>rfl
  | false=>
   unfold aDD at hbg;rw[kx,decide_eq_false_iff_not,decide_eq_false_iff_not] at hbg;obtain⟨b1,b2⟩:=hbg;have e2:(cond (decide (x < 0)) (ae (fH N (w:Int)) λr15=>ae (some x) λe16=>aT (I64 (0 - I64 (e16+1))) λx17=>some (U64 (r15 - U64 x17))) (some (U64 x)))=some (x % bO w):=by
    by_cases hneg:x < 0
    ·rw[dt hneg,cond_true,aLa N hN w hw,aa,aa,aC,aU (x:=x+1) (by omega) (by omega),aU (x:=0 - (x+1)) (by omega) (by omega),kW (x:=0 - (x+1)) (by omega) (by omega),kW (by omega) (by omega)]
     have:x % bO w=x+bO w:=by
      rw[<- Int.add_emod_right,ir (by omega) (by omega)]
     rw[this]
     congr 1;omega
    ·rw[df hneg,cond_false,kW (by omega) (by omega),ir (by omega) (by omega)]
   rw[cond_false,cond_false,aa,aa,e2,aa,hJ (by simp;omega),aa]) (λk s=>by rw[jL,aC,df (by omega),cond_false]) N 0 [] rfl (by omega) (by omega)
 rw[show((0:Nat):Int)=0 from rfl,dw,fq] at this;rw[this,aa]
 unfold aON;cases ns.any (aDD w) with
 | true=>rfl
 | false=>
  rw[cond_false,cond_false]
  show ae (jO N b (w:Int) (ns.flatMap λx=>[x % bO w])) _=_;rw[show(ns.flatMap λx=>[x % bO w])=ns.map (λx=>x % bO w) by
   clear this hns hl hlN
   induction ns with
   | nil=>rfl
   | cons a l ih=>simp[dp,ih]]
  rw[putR N b w hw0 hw _ (by intro y hy;obtain⟨x,_,rfl⟩:=List.mem_map.1 hy;exact modU w hw x) hb (by simpa using hl) hN (by simpa using hlN),aa]
theorem putEq(N:Nat)(b:List Int)(w:Nat)(hw0:1<=w)(hw:w<=8)(ns:List Int)(hns:u64L ns)(hb:b.length<=1000000)(hl:ns.length<=100)(hN:100 < N):jO N b (w:Int) ns=cM N b (w:Int) ns:=by
 rw[putR N b w hw0 hw ns hns (by omega) (by omega) (by omega) (by omega),aNJ N b w hw0 hw ns hns (by omega) (by omega) (by omega) (by omega)]
theorem aIH(N:Nat)(hN:100 < N)(b:List Int)(p:aB)(h:ptG p)(hb:b.length<=1000000):jE N b p=some (b++ptB p):=by
 obtain⟨hx,hy,hz⟩:=h;have hi:aNW [p.gX,p.gY,p.gZ]:=by intro q hq;simp at hq;unfold aCk;rcases hq with rfl | rfl | rfl <;> omega
 have e1:=sgnP N b 2 (by decide) (by decide) [p.gX,p.gY,p.gZ] hi (by omega) (by simp) (by omega) (by simp;omega)
 have e2:=sgnR N b 2 (by decide) (by decide) [p.gX,p.gY,p.gZ] hi (by omega) (by simp) (by omega) (by simp;omega)
 have e3:=sgn3 N (by omega) b p ⟨hx,hy,hz⟩ hb;rw[show lZ N b 2 [p.gX,p.gY,p.gZ]=_ from e1] at e3;unfold jE;rw[show mQ N b 2 [p.gX,p.gY,p.gZ]=_ from e2,e3]
 rfl
theorem aOX{x:Int}(h:0<=x/\x < 65536):leB 2 x=[U8 (cu x 256),U8 (I64 (du x 256))]:=by
 rw[show leB 2 x=[U8 (shr .u64 x ((8*0:Nat):Int)),U8 (shr .u64 x ((8*1:Nat):Int))] from rfl,aHp x 0 (by decide),aHp x 1 (by decide),show bO 0=1 from rfl,show bO 1=256 from rfl,ed h.1,dz h.1,aU (by omega) (by omega),ny,aAP,aAP,aAP]
 congr 1;omega
theorem trB1{v:Vector Int 3}(h:trG 256 v):trB 1 v=[v[0],v[1],v[2]]:=by
 obtain⟨q0,q1,q2⟩:=h;unfold trB;rw[yE q0,yE q1,yE q2]
 rfl
theorem aRA(N:Nat)(hN:1000 < N)(m:aK)(g:aBt m)(h0:aAm m=0):oN N m=some (uY m,0):=by
 have nv:=g.nv;have nt:=g.nt;have nu:=g.nu;unfold oN;rw[aKE N hN m (by omega),h0,aa,show((0:Int) != 0)=false from rfl,cond_false,aC,aC,rM (x:=(m.gG.length:Int)) (by omega) (by omega),rM (x:=(m.gJ.length:Int)) (by omega) (by omega)]
 have e1:I64 (0+1)=1:=by decide
 have e2:I64 (1+1)=2:=by decide
 have e3:I64 (2+1)=3:=by decide
 obtain⟨kN,rfl⟩:∃k,N=k+4:=⟨N - 4,by omega⟩
 have l1:=pF m.gG.length (by omega) (λi=>ptB (m.gG.getD i ⟨0,0,0⟩)) (λs i=>s.length<=100+6*i) (jN (kN+4) m) (by intro s i hi hs;simp[qS];omega) (λk s i hi hs=>by
  have hp:=g.v _ (ci hi)
  rw[jN,aC,dt (by omega),cond_true,dA hi,aa,aIH (kN+4) (by omega) s _ hp (by omega),aa]
  rw[bf,ag hi]
  rfl) (λk s=>by rw[jN,aC,df (by omega),cond_false]) (N:=kN+4) (by omega) (s:=[(m.gG.length:Int),(m.gJ.length:Int)]) (by simp)
 rw[l1,aa,hflat m.gG ⟨0,0,0⟩ ptB]
 have hlen1:=sW qS m.gG;have l2:=pF m.gL.length (by omega) (λi=>uvB (m.gL.getD i #v[0,0])) (λs i=>s.length<=1000+4*i) (jM (kN+4) m) (by intro s i hi hs;simp[yQ];omega) (λk s i hi hs=>by
  have hp:=g.u _ (ci hi)
  rw[jM,aC,dt (by omega),cond_true]
  rw[jP,dt (by decide),cond_true,dA hi,aa,aNF,aa,aa,aNF,aa,aC,zJ (by omega) (by simp),aa,<- aOX hp.1,e1,jP,dt (by decide),cond_true,dA hi,aa,aOU,aa,aa,aOU,aa,aC,zJ (by rw[ai,bN];omega) (by simp),aa,<- aOX hp.2,e2,jP,df (by decide),cond_false,aa,am,bf,ag hi]
  rfl) (λk s=>by rw[jM,aC,df (by omega),cond_false]) (N:=kN+4) (by omega) (s:=[(m.gG.length:Int),(m.gJ.length:Int)]++m.gG.flatMap ptB) (by simp at hlen1 ⊢;omega)
 rw[l2,aa,hflat m.gL #v[0,0] uvB]
 have hlen2:=sW yQ m.gL;have l3:=pF m.gJ.length (by omega) (λi=>trB 1 (m.gJ.getD i #v[0,0,0])) (λs i=>s.length<=2000+3*i) (jU (kN+4) m) (by intro s i hi hs;simp[qC];omega) (λk s i hi hs=>by
  have hp:=g.t _ (ci hi)
  obtain⟨q0,q1,q2⟩:=hp;rw[jU,aC,dt (by omega),cond_true]
  rw[fT,dt (by decide),cond_true,dA hi,aa,aGe,aa,zJ (by omega) (by simp),aa,e1,fT,dt (by decide),cond_true,dA hi,aa,aHB,aa,zJ (by rw[ai,cf];omega) (by simp),aa,e2,fT,dt (by decide),cond_true,dA hi,aa,aGw,aa,zJ (by simp only[ai,cf];omega) (by simp),aa,e3,fT,df (by decide),cond_false,aa,rM q0.1 q0.2,rM q1.1 q1.2,rM q2.1 q2.2,am,am,bf,ag hi,fe,trB1 ⟨q0,q1,q2⟩]
  rfl) (λk s=>by rw[jU,aC,df (by omega),cond_false]) (N:=kN+4) (by omega) (s:=[(m.gG.length:Int),(m.gJ.length:Int)]++m.gG.flatMap ptB++m.gL.flatMap uvB) (by simp at hlen1 hlen2 ⊢;omega)
 rw[l3,aa,hflat m.gJ #v[0,0,0] (trB 1)]
 unfold uY;rw[yE (x:=(m.gG.length:Int)) ⟨by omega,by omega⟩,yE (x:=(m.gJ.length:Int)) ⟨by omega,by omega⟩]
 simp[am]
theorem texER(N:Nat)(hN:1000 < N)(t:aH)(g:aG3 t)(h0:aDe t=0):oD N t=some (aAQ t,0):=by
 unfold oD;have n1:=g.side;have n2:=g.n;have n3:t.gM*t.gM<=16*16:=gq n1.2 n1.2 (by omega) (by decide)
 rw[aQC N hN t (by omega),h0,aa,show((0:Int) != 0)=false from rfl,cond_false,rM (x:=t.gM) (by omega) (by omega)]
 have e1:I64 (0+1)=1:=by decide
 have e2:I64 (1+1)=2:=by decide
 have e3:I64 (2+1)=3:=by decide
 obtain⟨kN,rfl⟩:∃k,N=k+4:=⟨N - 4,by omega⟩
 have l3:=pF t.gK.length (by omega) (λi=>trB 1 (t.gK.getD i #v[0,0,0])) (λs i=>s.length<=2000+3*i) (jJ (kN+4) t) (by intro s i hi hs;simp[qC];omega) (λk s i hi hs=>by
  have hp:=g.t _ (ci hi)
  obtain⟨q0,q1,q2⟩:=hp;rw[jJ,aC,dt (by omega),cond_true]
  rw[fU,dt (by decide),cond_true,dA hi,aa,aGe,aa,zJ (by omega) (by simp),aa,e1,fU,dt (by decide),cond_true,dA hi,aa,aHB,aa,zJ (by rw[ai,cf];omega) (by simp),aa,e2,fU,dt (by decide),cond_true,dA hi,aa,aGw,aa,zJ (by simp only[ai,cf];omega) (by simp),aa,e3,fU,df (by decide),cond_false,aa,rM q0.1 q0.2,rM q1.1 q1.2,rM q2.1 q2.2,am,am,bf,ag hi,fe,trB1 ⟨q0,q1,q2⟩]
  rfl) (λk s=>by rw[jJ,aC,df (by omega),cond_false]) (N:=kN+4) (by omega) (s:=[t.gM]) (by simp)
 rw[l3,aa,hflat t.gK #v[0,0,0] (trB 1)]
 unfold aAQ;rw[yE (x:=t.gM) ⟨by omega,by omega⟩]
theorem aSP(N:Nat)(hN:1000 < N)(a:aI)(g:aJe a)(h1:a.gC=1->aAm a.gP=0)(h2:a.gC=2->aDe a.gQ=0):nB N a=some (uT a):=by
 unfold nB uT;rcases g with ⟨k,g⟩ | ⟨k,g⟩ | ⟨k,g⟩ | ⟨k,g⟩
 ·rw[k,show((1:Int)==1)=true from rfl,cond_true,aRA N hN _ g (h1 k),if_pos rfl]
  rfl
 ·rw[k,show((2:Int)==1)=false from rfl,show((2:Int)==2)=true from rfl,cond_false,cond_true,texER N hN _ g (h2 k),if_neg (by decide),if_pos rfl]
  rfl
 ·rw[k,show((3:Int)==1)=false from rfl,show((3:Int)==2)=false from rfl,show((3:Int)==3)=true from rfl,cond_false,cond_false,cond_true,if_neg (by decide),if_neg (by decide),if_pos rfl]
  obtain⟨g1,⟨g2,g3,g4⟩,g5⟩:=g;rw[aQe,aa,g3_0,aa,aQw,aa,g3_1,aa,aP4,aa,g3_2,aa,rM g1.1 g1.2]
  have l:=pF 4 (by decide) (λi=>leB 2 ([a.gI.gF[0],a.gI.gF[1],a.gI.gF[2],a.gI.gW].getD i 0)) (λs i=>s.length<=100+2*i) (kT N a.gI.gF[0] a.gI.gF[1] a.gI.gF[2] a) (by intro s i hi hs;simp[bN];omega) (λk s i hi hs=>by
   have hx:0<=[a.gI.gF[0],a.gI.gF[1],a.gI.gF[2],a.gI.gW].getD i 0/\[a.gI.gF[0],a.gI.gF[1],a.gI.gF[2],a.gI.gW].getD i 0 < 65536:=by
    have:i=0\/i=1\/i=2\/i=3:=by omega
    rcases this with rfl | rfl | rfl | rfl
    ·exact g2
    ·exact g3
    ·exact g4
    ·exact g5
   rw[kT,dt (by omega),cond_true,aEK (by simp;omega),aa,aa,aC,<- aOX hx,zJ (by omega) (by rw[bN];omega),aa]) (λk s=>by rw[kT,df (by omega),cond_false]) (N:=N) (by omega) (s:=[a.gI.gC]) (by simp)
  rw[l,aa]
  unfold aD9 trB;rw[yE g1]
  rfl
 ·rw[k,show((4:Int)==1)=false from rfl,show((4:Int)==2)=false from rfl,show((4:Int)==3)=false from rfl,cond_false,cond_false,cond_false,if_neg (by decide),if_neg (by decide),if_neg (by decide)]
  obtain⟨g1,⟨g2,g3,g4⟩,g5,g6,g7⟩:=g;rw[rM g1.1 g1.2]
  have l:=pF 3 (by decide) (λi=>leB 4 (a.gD.gF.toList.getD i 0)) (λs i=>s.length<=100+4*i) (kP N a) (by intro s i hi hs;simp[bN];omega) (λk s i hi hs=>by
   have hx:0<=a.gD.gF.toList.getD i 0/\a.gD.gF.toList.getD i 0 < 4294967296:=by
    have:i=0\/i=1\/i=2:=by omega
    rcases this with rfl | rfl | rfl
    ·rw[vY _ 0 (by decide)];exact g2
    ·rw[vY _ 1 (by decide)];exact g3
    ·rw[vY _ 2 (by decide)];exact g4
   have ti:((i:Nat):Int).toNat=i:=rfl;have e:=put1 N (by omega) s 4 (by decide) (by decide) _ hx.1 hx.2 (by omega)
   rw[<- putEq N s 4 (by decide) (by decide) _ (by intro q hq;rw[List.mem_singleton.1 hq];exact⟨hx.1,by omega⟩) (by omega) (by simp) (by omega)] at e;rw[kP,dt (by omega),cond_true,dP (by omega) (by omega),aa,ti,pH (by simp;omega),aa,kW hx.1 (by omega),show jO N s 4 _=_ from e,aa]) (λk s=>by rw[kP,df (by omega),cond_false]) (N:=N) (by omega) (s:=[a.gD.gC]) (by simp)
  have lw:([a.gD.gC]++(cj 3).flatMap (λi=>leB 4 (a.gD.gF.toList.getD i 0)))=leB 1 a.gD.gC++trB 4 a.gD.gF:=by
   rw[yE g1,show(cj 3)=[0,1,2] from rfl]
   simp only[dp,List.flatMap_nil,cg]
   rw[vY _ 0 (by decide),vY _ 1 (by decide),vY _ 2 (by decide)]
   rfl
  rw[l,lw,aa]
  have lt:=qC 4 a.gD.gF;have l1:=bN 1 a.gD.gC;have la:=qS a.gD.gAt;have lu:=qS a.gD.gU;rw[aIH N (by omega) _ _ g5 (by rw[ai];omega),aa,aIH N (by omega) _ _ g6 (by simp only[ai];omega),aa,aIH N (by omega) _ _ g7 (by simp only[ai];omega),aa]
  unfold aD2;simp only[am]
def zT(a:aI):Int:=if a.gC=1 then aAm a.gP else if a.gC=2 then aDe a.gQ else if a.gC=3 then aJb a.gI else if a.gC=4 then aJY a.gD else 12
theorem aQg(N:Nat)(hN:1000 < N)(a:aI)(h:aB4 a):lR N a=some (zT a):=by
 unfold lR zT;rw[wC,wC,wC,wC,aMz N hN _ h.u,texCE N hN _ h.x,matCE N hN,ligCE N hN]
 by_cases k1:a.gC=1
 ·rw[dt k1,if_pos k1];rfl
 rw[df k1,if_neg k1]
 by_cases k2:a.gC=2
 ·rw[dt k2,if_pos k2];rfl
 rw[df k2,if_neg k2]
 by_cases k3:a.gC=3
 ·rw[dt k3,if_pos k3];rfl
 rw[df k3,if_neg k3]
 by_cases k4:a.gC=4
 ·rw[dt k4,if_pos k4];rfl
 rw[df k4,if_neg k4]
 rfl
theorem aRg{a:aI}(k:a.gC=1):sJ a↔(a.gQ=uF/\a.gI=wW/\a.gD=wX):=by
 obtain⟨gk,gm,gt,ga,gl⟩:=a;dsimp only at k;subst k;unfold sJ;simp
theorem aRY{a:aI}(k:a.gC=2):sJ a↔(a.gP=lN/\a.gI=wW/\a.gD=wX):=by
 obtain⟨gk,gm,gt,ga,gl⟩:=a;dsimp only at k;subst k;unfold sJ;simp
theorem aR0{a:aI}(k:a.gC=3):sJ a↔(a.gP=lN/\a.gQ=uF/\a.gD=wX):=by
 obtain⟨gk,gm,gt,ga,gl⟩:=a;dsimp only at k;subst k;unfold sJ;simp
theorem aRT{a:aI}(k:a.gC=4):sJ a↔(a.gP=lN/\a.gQ=uF/\a.gI=wW):=by
 obtain⟨gk,gm,gt,ga,gl⟩:=a;dsimp only at k;subst k;unfold sJ;simp
theorem tex15(N:Nat)(t:aH):∃b,lU N t=some b/\(b=true↔¬t=uF):=by
 refine⟨_,rfl,?_⟩
 obtain⟨s,l⟩:=t;show(cond (s != 0) true (decide ((l.length:Int) > 0)))=true↔_;rw[oU,aBZ,<- cd,decide_eq_true_eq]
 unfold uF;rw[aH.mk.injEq,<- fw]
 omega
theorem aSI(N:Nat)(m:aK)(hv:m.gG.length<=500)(hu:m.gL.length<=500)(ht:m.gJ.length<=500):∃b,nW N m=some b/\(b=true↔¬m=lN):=by
 refine⟨_,rfl,?_⟩
 obtain⟨v,u,t⟩:=m;dsimp only at hv hu ht ⊢;show decide (I64 (I64 ((v.length:Int)+(u.length:Int))+(t.length:Int)) > 0)=true↔_;rw[aU (x:=(v.length:Int)+(u.length:Int)) (by omega) (by omega),aU (by omega) (by omega),decide_eq_true_eq]
 unfold lN;rw[aK.mk.injEq,<- fw,<- fw,<- fw]
 omega
theorem aNc{b:Bool}{p:Prop}(h:b=true↔p):(!b)=true↔¬p:=by
 rw[<- h];cases b <;> simp
theorem or3{a b c:Bool}{p q r:Prop}(ha:a=true↔¬p)(hb:b=true↔¬q)(hc:c=true↔¬r):(cond a true (cond b true c))=true↔¬(p/\q/\r):=by
 rw[oU,oU,iz,iz,ha,hb,hc]
 constructor
 ·rintro(h | h | h) ⟨h1,h2,h3⟩
  ·exact h h1
  ·exact h h2
  ·exact h h3
 ·intro h;by_cases hp:p
  ·by_cases hq:q
   ·exact .inr (.inr λhr=>h ⟨hp,hq,hr⟩)
   ·exact .inr (.inl hq)
  ·exact .inl hp
theorem aLh(c:Int)(a b d:Bool):(cond a (some (c,true)) (cond b (some (c,true)) (some (c,d))))=some (c,cond a true (cond b true d)):=by cases a <;> cases b <;> rfl
theorem aRr{a:aI}(h1:¬a.gC=1)(h2:¬a.gC=2)(h3:¬a.gC=3)(h4:¬a.gC=4):zT a=12:=by
 unfold zT;rw[if_neg h1,if_neg h2,if_neg h3,if_neg h4]
theorem aRh(N:Nat)(hN:1000 < N)(a:aI)(h:aB4 a):∃c,jG N a=some c/\iW N a=some c:=by
 have zl:=aNc (aIa a.gD wX)
 have zm:=aNc (aIF a.gI wW)
 obtain⟨bt,et,ht⟩:=tex15 N a.gQ;obtain⟨bm,em,hm⟩:=aSI N a.gP h.v h.u h.t
 -- what the document has: the error of its own part, and whether there is another
 have key:∃o:Bool,(o=true↔¬sJ a/\zT a≠12\/zT a=12/\o=true)/\iW N a=(cond (zT a != 0) (some (zT a)) (cond o (some 5) (ae (nB N a) λr18=>ae (iA N a.gC) λr19=>aT (decide (((r18.length:Int)) > r19)) λx20=>cond x20 (some 9) (some 0)))):=by
  unfold iW;rw[wC,wC,wC,wC,aKE N hN _ h.u,aQC N hN _ h.x,matCR N hN,ligCR N hN,et,em]
  by_cases k1:a.gC=1
  ·have e:zT a=aAm a.gP:=by unfold zT;rw[if_pos k1]
   have o:=or3 ht zm zl;rw[<- aRg k1] at o;refine⟨_,?_,by rw[dt k1,cond_true,aa,aa,aC,aC,aLh,aa,<- e]⟩
   rw[show(cond bt true (cond (!(aG.eq a.gI (aG.mk 0 (#v[0,0,0]) 0))) true (!(aL.eq a.gD (aL.mk 0 (#v[0,0,0]) (aB.mk 0 0 0) (aB.mk 0 0 0) (aB.mk 0 0 0))))))=true↔¬sJ a from o]
   have:aAm a.gP≠12:=by unfold aAm;split;decide;split;decide;split;decide;split <;> decide
   rw[e]
   constructor
   ·intro q;exact .inl ⟨q,this⟩
   ·rintro(q | q)
    ·exact q.1
    ·exact absurd q.1 this
  rw[df k1,cond_false]
  by_cases k2:a.gC=2
  ·have e:zT a=aDe a.gQ:=by unfold zT;rw[if_neg k1,if_pos k2]
   have o:=or3 hm zm zl;rw[<- aRY k2] at o;refine⟨_,?_,by rw[dt k2,cond_true,aa,aa,aC,aC,aLh,aa,<- e]⟩
   rw[show(cond bm true (cond (!(aG.eq a.gI (aG.mk 0 (#v[0,0,0]) 0))) true (!(aL.eq a.gD (aL.mk 0 (#v[0,0,0]) (aB.mk 0 0 0) (aB.mk 0 0 0) (aB.mk 0 0 0))))))=true↔¬sJ a from o]
   have:aDe a.gQ≠12:=by unfold aDe;split;decide;split <;> decide
   rw[e]
   constructor
   ·intro q;exact .inl ⟨q,this⟩
   ·rintro(q | q)
    ·exact q.1
    ·exact absurd q.1 this
  rw[df k2,cond_false]
  by_cases k3:a.gC=3
  ·have e:zT a=aJb a.gI:=by unfold zT;rw[if_neg k1,if_neg k2,if_pos k3]
   have o:=or3 hm ht zl;rw[<- aR0 k3] at o;refine⟨_,?_,by rw[dt k3,cond_true,aa,aa,aa,aC,aLh,aa,<- e]⟩
   rw[show(cond bm true (cond bt true (!(aL.eq a.gD (aL.mk 0 (#v[0,0,0]) (aB.mk 0 0 0) (aB.mk 0 0 0) (aB.mk 0 0 0))))))=true↔¬sJ a from o]
   have:aJb a.gI≠12:=by unfold aJb;split <;> decide
   rw[e]
   constructor
   ·intro q;exact .inl ⟨q,this⟩
   ·rintro(q | q)
    ·exact q.1
    ·exact absurd q.1 this
  rw[df k3,cond_false]
  by_cases k4:a.gC=4
  ·have e:zT a=aJY a.gD:=by unfold zT;rw[if_neg k1,if_neg k2,if_neg k3,if_pos k4]
   have o:=or3 hm ht zm;rw[<- aRT k4] at o;refine⟨_,?_,by rw[dt k4,cond_true,aa,aa,aa,aC,aLh,aa,<- e]⟩
   rw[show(cond bm true (cond bt true (!(aG.eq a.gI (aG.mk 0 (#v[0,0,0]) 0)))))=true↔¬sJ a from o]
   have:aJY a.gD≠12:=by unfold aJY;split;decide;split;decide;split <;> decide
   rw[e]
   constructor
   ·intro q;exact .inl ⟨q,this⟩
   ·rintro(q | q)
    ·exact q.1
    ·exact absurd q.1 this
  rw[df k4,cond_false]
  have e:=aRr k1 k2 k3 k4;refine⟨false,?_,by rw[e];rfl⟩
  rw[e]
  simp
 obtain⟨o,ho,hr⟩:=key;by_cases h0:zT a=0
 ·rw[h0] at ho;have ho:o=true↔¬sJ a:=by
   rw[ho];simp
  have own0:lR N a=some 0:=by rw[aQg N hN a h,h0]
  obtain⟨r1,e1,h1⟩:=ownT N hN a h;have hown:aJe a:=h1 (by rw[own0] at e1;exact(Option.some.inj e1).symm)
  obtain⟨b,eb,hb1,hb2,hb3⟩:=aQN N a h;obtain⟨r3,e3,h3⟩:=aQc N hN b (zA a.gC) hb1;have h3':r3=true↔sJ a:=⟨λq=>hb2 (h3.1 q),λq=>h3.2 (hb3 q hown)⟩
  have hro:(!r3)=o:=by rw[gg,aNc h3',ho]
  have m0:a.gC=1->aAm a.gP=0:=by
   intro k;unfold zT at h0;rw[if_pos k] at h0;exact h0
  have t0:a.gC=2->aDe a.gQ=0:=by
   intro k;unfold zT at h0;rw[if_neg (by omega),if_pos k] at h0;exact h0
  have capE:iA N a.gC=some (xE a.gC):=by
   unfold iA xE;rw[wC,wC,wC,wC]
   by_cases k1:a.gC=1
   ·rw[dt k1,if_pos k1];rfl
   rw[df k1,if_neg k1]
   by_cases k2:a.gC=2
   ·rw[dt k2,if_pos k2];rfl
   rw[df k2,if_neg k2]
   by_cases k3:a.gC=3
   ·rw[dt k3,if_pos k3];rfl
   rw[df k3,if_neg k3]
   by_cases k4:a.gC=4
   ·rw[dt k4,if_pos k4];rfl
   rw[df k4,if_neg k4]
   rfl
  refine⟨cond o 5 (cond (decide (((uT a).length:Int) > xE a.gC)) 9 0),?_,?_⟩
  ·unfold jG;rw[own0,aa,show((0:Int) != 0)=false from rfl,cond_false,eb,aa,show rU N b (aI.mk a.gC (aK.mk [] [] []) (aH.mk 0 []) (aG.mk 0 (#v[0,0,0]) 0) (aL.mk 0 (#v[0,0,0]) (aB.mk 0 0 0) (aB.mk 0 0 0) (aB.mk 0 0 0)))=some r3 from e3,aa,hro,assE N hN a hown own0,aa,capP,aa,aC,vV,vV]
  ·rw[hr,h0,show((0:Int) != 0)=false from rfl,cond_false,aSP N hN a hown m0 t0,aa,capE,aa,aC,vV,vV]
 ·refine⟨zT a,?_,?_⟩
  ·unfold jG;rw[aQg N hN a h,aa,aBZ,dt h0,cond_true]
  ·rw[hr,aBZ,dt h0,cond_true]
def aEm(base:Vector Int 8)(n:Int)(i j:Nat):Int:=if j < 8 then base.toList.getD j 0 else if j < 8+i then U8 (shr .i64 n ((8*(j - 8):Nat):Int)) else 0
theorem aRP{n:Int}(h:aCk n){j:Nat}(hj:j < 4):U8 (shr .u32 (U32 n) ((8*j:Nat):Int))=U8 (shr .i64 n ((8*j:Nat):Int)):=by
 rw[wF .u32 _ _ (8*j) rfl (by show 8*j<=32;omega),wF .i64 _ _ (8*j) rfl (by show 8*j<=64;omega),aAP,aAP,aQp]
 rcases(show j=0\/j=1\/j=2\/j=3 by omega) with rfl | rfl | rfl | rfl
 ·rw[show(2:Int) ^ (8*0)=1 from rfl];omega
 ·rw[show(2:Int) ^ (8*1)=256 from rfl];omega
 ·rw[show(2:Int) ^ (8*2)=65536 from rfl];omega
 ·rw[show(2:Int) ^ (8*3)=16777216 from rfl];omega
theorem aLl{base:Vector Int 8}{n:Int}{i:Nat}(hi:i < 4){s:Vector Int 12}(hs:∀j,j < 12->s.toList[j]? = some (aEm base n i j)):∀j,j < 12->(s.setIfInBounds (8+i) (U8 (shr .i64 n ((8*i:Nat):Int)))).toList[j]? = some (aEm base n (i+1) j):=by
 intro j hj;rw[bq,cv]
 unfold aEm;by_cases c:8+i=j
 ·subst c;rw[if_pos rfl,if_pos (by simp;omega),if_neg (by omega),if_pos (by omega),Nat.add_sub_cancel_left]
 ·rw[if_neg c,hs j hj]
  unfold aEm;by_cases c3:j < 8
  ·rw[if_pos c3,if_pos c3]
  ·rw[if_neg c3,if_neg c3]
   by_cases c5:j < 8+i
   ·rw[if_pos c5,if_pos (show j < 8+(i+1) by omega)]
   ·rw[if_neg c5,if_neg (show ¬j < 8+(i+1) by omega)]
theorem nonC(N:Nat)(hN:20 < N)(base:Vector Int 8)(n:Int):T (fZ N base n) (λv=>∀j,j < 12->v.toList[j]? = some (aEm base n 4 j)):=by
 have b8:base.toList.length=8:=by simp
 unfold fZ;refine T.bind (o:=aGc 12 0 12) (P:=λ_=>True) ⟨(),rfl,trivial⟩ λ_ _=>?_;rw[show eD base.toList 0 8=some base.toList from slcV (m:=8) _,aa]
 refine T.bind (P:=λv=>∀j,j < 12->v.toList[j]? = some (aEm base n 0 j)) ?_ λv3 h3=>?_
 ·unfold cpV;rw[dif_pos (by decide)]
  refine⟨_,rfl,λj hj=>?_⟩
  unfold cpy aEm;have z:(ah 12 (0:Int)).toList=ap 12 0:=rfl;simp only[z,gs,fq,Nat.zero_add,b8]
  show((base.toList.take (min 12 8))++(ap 12 (0:Int)).drop (min 12 8))[j]? = _;rw[show min 12 8=8 from rfl,bj (by omega)]
  by_cases c:j < 8
  ·rw[if_pos c,cn (by omega),pH (by omega)]
  ·rw[if_neg c,if_neg (by omega),cr (by omega),List.drop_replicate,cz,if_pos (by omega)]
 ·refine T.bind (T.loop0 (n:=4) (by decide) (λi (v:Vector Int 12)=>∀j,j < 12->v.toList[j]? = some (aEm base n i j)) (F:=iO N n) (λk s i hi hs Q hk=>?_) (λk s=>by rw[iO,df (by omega),cond_false]) (by omega) h3) λp1 h=>T.ret h;have ti:((8+i:Nat):Int).toNat=8+i:=rfl;rw[iO,dt (by omega),cond_true,show(8:Int)=((8:Nat):Int) from rfl,i4 (by omega),ia (by omega),cV (by omega),lX .i64 (by omega),aa,dP (by omega) (by omega),aa,ti,hs _ (by omega),aa]
  exact hk _ (aLl hi hs)
theorem aNs(N:Nat)(hN:20 < N){base:Vector Int 8}(hb:aR base.toList)(n:Int):aR (aF6 N base n).toList:=by
 obtain⟨v,e,h⟩:=nonC N hN base n;rw[aOk N hN] at e;obtain rfl:=Option.some.inj e;intro x hx;obtain⟨j,hj,e⟩:=List.getElem_of_mem hx;have h2:=h j (by simpa using hj)
 rw[ag hj,e] at h2;obtain rfl:=Option.some.inj h2;unfold aEm;split
 ·rename_i c;exact hb _ (List.mem_of_getElem? (pH (by simpa using c)))
 split
 ·exact aMN _
 ·exact⟨by decide,by decide⟩
theorem nonR(N:Nat)(hN:20 < N)(base:Vector Int 8){n:Int}(hn:aCk n):lC N base n=some (aF6 N base n):=by
 have b8:base.toList.length=8:=by simp
 have ec:=nonC N hN base n;have er:T (lC N base n) (λv=>∀j,j < 12->v.toList[j]? = some (aEm base n 4 j)):=by
  unfold lC;refine T.bind (T.loop0 (n:=8) (by decide) (λi (v:Vector Int 12)=>∀j,j < 12->v.toList[j]? = some (if j < i then base.toList.getD j 0 else 0)) (F:=kJ N base) (λk s i hi hs Q hk=>?_) (λk s=>by rw[kJ,df (by omega),cond_false]) (by omega) (s:=ah 12 0) (λj hj=>?_)) λv1 h1=>?_
  ·have ti:((i:Nat):Int).toNat=i:=rfl;rw[kJ,dt (by omega),cond_true,aEK (by omega),aa,dP (by omega) (by omega),aa,ti,hs i (by omega),aa,cV (by omega)]
   refine hk _ λj hj=>?_;rw[bq,cv]
   by_cases c:i=j
   ·subst c;rw[if_pos rfl,if_pos (by simp;omega),if_pos (by omega)]
   ·rw[if_neg c,hs j hj]
    by_cases c3:j < i
    ·rw[if_pos c3,if_pos (by omega)]
    ·rw[if_neg c3,if_neg (show ¬j < i+1 by omega)]
  ·have z:(ah 12 (0:Int)).toList=ap 12 0:=rfl;rw[z,cz,if_pos hj,if_neg (by omega)]
  ·refine T.bind (T.loop0 (n:=4) (by decide) (λi (v:Vector Int 12)=>∀j,j < 12->v.toList[j]? = some (aEm base n i j)) (F:=kM N n) (λk s i hi hs Q hk=>?_) (λk s=>by rw[kM,df (by omega),cond_false]) (by omega) (λj hj=>?_)) λp1 h=>T.ret h
   ·have ti:((8+i:Nat):Int).toNat=8+i:=rfl;rw[kM,dt (by omega),cond_true,show(8:Int)=((8:Nat):Int) from rfl,i4 (by omega),ia (by omega),cV (by omega),lX .u32 (by omega),aa,dP (by omega) (by omega),aa,ti,hs _ (by omega),aa,aRP hn hi]
    exact hk _ (aLl hi hs)
   ·rw[h1 j hj]
    unfold aEm;by_cases c:j < 8
    ·rw[if_pos c,if_pos c]
    ·rw[if_neg c,if_neg c,if_neg (by omega)]
 obtain⟨v,e1,h1⟩:=ec;obtain⟨w,e2,h2⟩:=er;have hvw:v=w:=by
  apply dx.1;apply dr;intro j;by_cases c:j < 12
  ·rw[h1 j c,h2 j c]
  ·rw[au (by simp;omega),au (by simp;omega)]
 rw[aOk N hN] at e1;rw[e2,<- hvw,e1]
theorem capE(N:Nat)(k:Int):iA N k=some (xE k):=by
 unfold iA xE;rw[wC,wC,wC,wC]
 by_cases k1:k=1
 ·rw[dt k1,if_pos k1];rfl
 rw[df k1,if_neg k1]
 by_cases k2:k=2
 ·rw[dt k2,if_pos k2];rfl
 rw[df k2,if_neg k2]
 by_cases k3:k=3
 ·rw[dt k3,if_pos k3];rfl
 rw[df k3,if_neg k3]
 by_cases k4:k=4
 ·rw[dt k4,if_pos k4];rfl
 rw[df k4,if_neg k4]
 rfl
theorem aK4(N:Nat){s:Int}:∀(k i:Nat),i<=1000->1000 - i < k->((i:Int)=0\/256*((i:Int) - 1) < s)->∃n:Nat,n<=1000/\jK N s k (i:Int)=some (n:Int)/\(n=0\/256*((n:Int) - 1) < s)/\(s<=256*(n:Int)\/n=1000)
 | 0,_,_,h,_=>by omega
 | k+1,i,h1,h2,h3=>by
  rw[jK,aC,aC,aU (x:=256*(i:Int)) (by omega) (by omega)]
  by_cases c:s > 256*(i:Int)
  ·by_cases d:(i:Int) < 1000
   ·rw[dt c,dt d,cond_true,cond_true,cV (by omega)]
    exact aK4 N k (i+1) (by omega) (by omega) (.inr (by omega))
   ·rw[dt c,df d,cond_true,cond_false]
    exact⟨i,h1,rfl,by omega,by omega⟩
  ·rw[df c,cond_false,cond_false]
   exact⟨i,h1,rfl,by omega,by omega⟩
theorem aPI(N:Nat)(hN:1100 < N){s:Int}(h:aCk s):oE N s=some (rV s):=by
 unfold oE rV;obtain⟨h0,h1⟩:=h;obtain⟨n,hn,e,g1,g2⟩:=aK4 N (s:=s) N 0 (by omega) (by omega) (.inl rfl)
 rw[show jK N s N 0=_ from e,aa,aC,aU (x:=256*(n:Int)) (by omega) (by omega)]
 by_cases c:s > 256*(n:Int)
 ·have e1:du s 256=s / 256:=dz (by omega)
  have e2:cu s 256=s % 256:=ed (by omega)
  rw[dt c,cond_true,aC,aC,e1,e2,aU (x:=s / 256) (by omega) (by omega),if_neg (by omega),aa]
  congr 1;unfold mU;split
  ·rw[aU (by omega) (by omega)];omega
  ·rw[aU (by omega) (by omega)];omega
 ·rw[df c,cond_false,aa]
  by_cases d:s < 1
  ·rw[if_pos d];congr 1;omega
  ·rw[if_neg d];congr 1;omega
theorem mchkR(N:Nat)(hN:1100 < N)(m:aE)(hs:aCk m.gR):pY N m=some (wT m):=by
 unfold pY wT;rw[capE,aa]
 by_cases h0:xE m.gC=0
 ·rw[if_pos h0,h0];rfl
 ·rw[if_neg h0,show(xE m.gC==0)=false by simpa using h0,cond_false]
  have hl:iL N m N 0=some (cond (m.gA1.toList.any λe=>decide (e > 15)) (Sum.inr 5) (Sum.inl ())):=by
   refine rG m.gA1.toList (λe=>decide (e > 15)) (5:Int) (iL N m) (by simp) (λk i h=>?_) (λk=>?_) (by simp;omega)
   ·have h8:i < 8:=by simpa using h
    rw[iL,dt (by omega),cond_true,dA h,aa,show decide (m.gA1.toList[i]>=16)=decide (m.gA1.toList[i] > 15) by rw[gg,decide_eq_true_eq,decide_eq_true_eq];omega]
   ·rw[iL,df (by simp),cond_false]
  rw[hl,aa]
  cases ha:(m.gA1.toList.any λe=>decide (e > 15)) with
  | true=>rw[if_pos rfl,cond_true];rfl
  | false=>
   rw[if_neg (by decide),cond_false]
   show(aT (decide (m.gA2 > m.gTo)) λx5=>_)=_;rw[aC,aC]
   by_cases h1:m.gA2 > m.gTo\/m.gR < 1
   ·rw[if_pos h1]
    rw[show cond (decide (m.gA2 > m.gTo)) true (decide (m.gR < 1))=true by rcases h1 with h | h;rw[dt h];rfl;rw[dt h];cases decide (m.gA2 > m.gTo) <;> rfl,aC,cond_true]
   ·rw[if_neg h1,df (show ¬m.gA2 > m.gTo by omega),df (show ¬m.gR < 1 by omega),cond_false,aC,cond_false,aa]
    by_cases h2:m.gR > xE m.gC
    ·rw[dt h2,cond_true,if_pos h2]
    ·rw[df h2,cond_false,if_neg h2,aPI N hN hs,aa]
     by_cases h3:m.gA0=rV m.gR
     ·rw[if_neg (by simpa using h3),show(m.gA0 != rV m.gR)=false by simpa using h3,cond_false]
     ·rw[if_pos h3,show(m.gA0 != rV m.gR)=true by simpa using h3,cond_true]
theorem aNC{w:Nat}(h:w<=8):bO w<=18446744073709551616:=by
 unfold bO;rcases(show w=0\/w=1\/w=2\/w=3\/w=4\/w=5\/w=6\/w=7\/w=8 by omega) with rfl | rfl | rfl | rfl | rfl | rfl | rfl | rfl | rfl <;> decide
theorem fourR(N:Nat){i n:Nat}(hi:i < 65536)(hn:n < 65536):qJ N (i:Int) (n:Int)=some (aBj i n):=by
 unfold qJ aBj;rw[aOX ⟨by omega,by omega⟩,aOX ⟨by omega,by omega⟩]
 rfl
theorem aNV{m:Nat}(v:Vector Int m):eqV (λa b=>a==b) v v=true:=by
 unfold eqV;exact aIm (λa=>by simp) v.toList
theorem anyD{a b:List Int}{n:Nat}(ha:a.length=n)(hb:b.length=n):((cj n).any λi=>a.getD i 0 != b.getD i 0) = !decide (a=b):=by
 rw[gg,List.any_eq_true,Bool.not_eq_true',decide_eq_false_iff_not]
 constructor
 ·rintro⟨i,_,h⟩ rfl;simp at h
 ·intro h;refine Classical.byContradiction λhc=>h ?_;apply dr;intro i;by_cases c:i < n
  ·rw[pH (by omega),pH (by omega)]
   congr 1;refine Classical.byContradiction λq=>hc ⟨i,List.mem_range.2 c,by simpa using q⟩
  ·rw[au (by omega),au (by omega)]
theorem aQq(N:Nat)(hN:70000 < N){key:Vector Int 32}(hk:aR key.toList){n:Vector Int 12}(hn:aR n.toList){a s:List Int}(ha:aR a)(hs:aR s)(la:a.length<=16384)(ls:s.length<=16384):mD N key n a s=iZ N key n a s:=by
 have f:I64 ((s.length:Int) - 16)=(s.length:Int) - 16:=by rw[aU (by omega) (by omega)]
 by_cases h:s.length < 16
 ·rw[aDf N key n a s h]
  unfold mD;rw[f,aC,dt (by omega),cond_true]
 obtain⟨c,t,rfl,ht⟩:∃c t,s=c++t/\t.length=16:=⟨s.take (s.length - 16),s.drop (s.length - 16),(List.take_append_drop _ _).symm,by rw[br];omega⟩
 rw[ai] at ls h;have hc:aR c:=λx hx=>hs x (List.mem_append_left _ hx)
 have htb:aR t:=λx hx=>hs x (List.mem_append_right _ hx)
 rw[aJQ N (by omega) key n a c t htb ht la (by omega)]
 unfold mD;have f:I64 (((c++t).length:Int) - 16)=(c.length:Int):=by rw[ai,ht,aU (by omega) (by omega)];omega
 rw[f,aC,df (by omega),cond_false,aC,df (by omega),cond_false,aC,df (by omega),cond_false,nS (by simp),aa,List.take_left' rfl,macE N hN hk hn ha hc (by omega) (by omega),aa]
 have lm:(aAh N key n a c).toList.length=16:=by simp
 have hl:iV N (aAh N key n a c) (c++t) (c.length:Int) N 0=some (cond ((cj 16).any λi=>(aAh N key n a c).toList.getD i 0 != t.getD i 0) (Sum.inr ([],6)) (Sum.inl ())):=by
  refine rG (cj 16) (λi=>(aAh N key n a c).toList.getD i 0 != t.getD i 0) (([],6):List Int×Int) (iV N (aAh N key n a c) (c++t) (c.length:Int)) (by simp) (λk i h=>?_) (λk=>?_) (by simp;omega)
  ·have h16:i < 16:=by simpa using h
   have ti:((i:Nat):Int).toNat=i:=rfl;have e2:I64 ((c.length:Int)+(i:Int))=((c.length+i:Nat):Int):=by rw[aU (by omega) (by omega)];omega
   rw[iV,dt (by omega),cond_true,dP (by omega) (by omega),aa,ti,pH (by omega),aa,e2,mK,cr (by omega),Nat.add_sub_cancel_left,pH (by omega),aa,lz]
  ·rw[iV,df (by simp),cond_false]
 rw[hl,aa,anyD lm ht]
 unfold aEW;cases decide ((aAh N key n a c).toList=t) with
 | true=>
  rw[cond_true]
  show(ae (some c) λs11=>ae (oZ N key 1 n s11) λr12=>some (r12,(0:Int)))=_;rw[aa,xorR N (by omega) hk hn (by omega),aa]
 | false=>rfl
theorem aP7(N:Nat){l:List Int}(hl:aR l)(h8:l.length<=8)(r4:Int×Int×List Int)(hr:r4.2.2=l):∀(i k:Nat) (s:Int),i<=l.length->i < k->s=rZ (l.drop i)->dU N r4 k s ((i:Int) - 1)=some (rZ l)
 | 0,k+1,s,_,_,hs=>by
  rw[dU,df (by omega),cond_false,hs,dw]
 | i+1,k+1,s,hi,hk,hs=>by
  have hc:l.drop i=l[i] :: l.drop (i+1):=co (by omega)
  have hb:=hl _ (ci (h:=(by omega:i < l.length)))
  have hd:aR (l.drop i):=hl.drop i;have lt:=aAN _ hd;have le:(l.drop i).length<=8:=by rw[br];omega
  have hp:bO (l.drop i).length<=18446744073709551616:=aNC le;have e2:rZ (l.drop i)=l[i]+256*rZ (l.drop (i+1)):=by rw[hc];rfl
  have e0:0<=rZ (l.drop (i+1)):=(aAN _ (hl.drop (i+1))).1;unfold isB at hb;rw[dU,dt (by omega),cond_true,hr,show((i+1:Nat):Int) - 1=(i:Int) by omega,dA (by omega),aa,aC,hs,kW (x:=rZ (l.drop (i+1))*256) (by omega) (by omega),kW (x:=l[i]) (by omega) (by omega),kW (by omega) (by omega),aU (by omega) (by omega)]
  exact aP7 N hl h8 r4 hr i k _ (by omega) (by omega) (by rw[e2];omega)
theorem takeR(N:Nat)(B:List Int)(hB:B.length<=1000000)(at_:Nat)(h:at_<=B.length)(e:Int)(w:Nat)(hw:w<=1000):∃(a':Nat) (e':Int) (o:List Int),a'<=B.length/\bD N (w:Int) (aA.mk (B.drop at_) e true)=some (B.drop a',e',o)/\dI N (w:Int) (aD.mk B (at_:Int) e)=some ((a':Int),e',o)/\o.length<=w/\(∀x∈o,x∈B):=by
 have hl:=br (i:=at_) (l:=B)
 by_cases he:e=0
 ·subst he;by_cases hs:w<=(B.drop at_).length
  ·refine⟨at_+w,0,(B.drop at_).take w,by omega,?_,?_,by rw[bw];omega,λx hx=>List.mem_of_mem_drop (List.mem_of_mem_take hx)⟩
   ·rw[aD6 N _ w hs,fg]
   ·unfold dI;dsimp only;have e1:I64 ((at_:Int)+(w:Int))=((at_+w:Nat):Int):=by rw[aU (by omega) (by omega)];omega
    have e2:I64 (((at_+w:Nat):Int) - (w:Int))=(at_:Int):=by rw[aU (by omega) (by omega)];omega
    rw[show((0:Int)==0)=true from rfl,cond_true,df (by omega),aC,cond_false,aa,show((0:Int)==0)=true from rfl,cond_true,aC,aU (x:=(B.length:Int) - (at_:Int)) (by omega) (by omega),df (by omega),aa,cond_false,aa,show((0:Int) != 0)=false from rfl,cond_false,e1,e2,aC,qM (by omega) (by omega) (by omega),aa,cw,cw,ku,show at_+w - at_=w by omega]
  ·refine⟨at_,4,[],h,zY N _ w hs,?_,by simp,by simp⟩
   unfold dI;dsimp only;rw[show((0:Int)==0)=true from rfl,cond_true,df (by omega),aC,cond_false,aa,show((0:Int)==0)=true from rfl,cond_true,aC,aU (x:=(B.length:Int) - (at_:Int)) (by omega) (by omega),dt (by omega),aa,cond_true,aa,show((4:Int) != 0)=true from rfl,cond_true]
 ·refine⟨at_,e,[],h,aK5 N _ w he,?_,by simp,by simp⟩
  unfold dI;dsimp only;rw[show(e==0)=false by simpa using he,cond_false,aC,cond_false,aa,show(e==0)=false by simpa using he,cond_false,aa,cond_false,aa,show(e != 0)=true by simpa using he,cond_true]
theorem aIq(N:Nat)(hN:20 < N)(B:List Int)(hb:aR B)(hB:B.length<=1000000)(at_:Nat)(h:at_<=B.length)(e:Int)(w:Nat)(hw0:1<=w)(hw:w<=8):∃(a':Nat) (e' v:Int),a'<=B.length/\bI N (w:Int) (aA.mk (B.drop at_) e true)=some (B.drop a',e',v)/\aF N (w:Int) (aD.mk B (at_:Int) e)=some (B,(a':Int),e',v)/\0<=v/\v < bO w:=by
 obtain⟨a',e',o,h1,h2,h3,h4,h5⟩:=takeR N B hB at_ h e w (by omega)
 have ho:aR o:=λx hx=>hb x (h5 x hx)
 refine⟨a',e',rZ o,h1,?_,?_,(aAN _ ho).1,?_⟩
 ·unfold bI;rw[df (show ¬(w:Int) < 1 by omega),df (show ¬(w:Int) > 8 by omega),cond_false,aC,cond_false,aa,h2,aa]
  have n1:=numL N o (B.drop a',e',o) rfl ho (by omega) N 0 (by omega) (by omega)
  rw[gs] at n1;rw[show dK N (B.drop a',e',o) N 0 0=some (rZ o) from n1,aa]
 ·unfold aF;dsimp only;have q2:(ae (cond (e==0) (aT (cond (decide ((w:Int) < 1)) true (decide ((w:Int) > 8))) λx3=>some x3) (some false)) λp2=>cond p2 (some 2) (some e))=some e:=by
   rw[df (show ¬(w:Int) < 1 by omega),df (show ¬(w:Int) > 8 by omega),cond_false,aC]
   cases e==0 <;> rfl
  rw[q2,aa,show tQ (w:Int) 0=(w:Int) by unfold tQ;split <;> omega,h3,aa,aC,aU (x:=(o.length:Int) - 1) (by omega) (by omega),aP7 N ho (by omega) ((a':Int),e',o) rfl o.length N 0 (by omega) (by omega) (by rw[gf];rfl),aa]
 ·have a1:=(aAN _ ho).2;have a2:bO o.length<=bO w:=by
   unfold bO
   exact_mod_cast Nat.pow_le_pow_right (by decide) h4
  omega
theorem aMp(N:Nat)(B:List Int)(at_:Nat)(h:at_<=B.length)(e:Int):dD N (aD.mk B (at_:Int) e)=cT N (aA.mk (B.drop at_) e true):=by
 rw[aGx]
 unfold dD;dsimp only;have hl:=br (i:=at_) (l:=B)
 by_cases he:e=0
 ·subst he;rw[show((0:Int)==0)=true from rfl,show((0:Int) != 0)=false from rfl,cond_true,cond_false,aC,aa]
  by_cases c:at_ < B.length
  ·rw[dt (by omega),dt (by omega)];rfl
  ·rw[df (by omega),df (by omega)];rfl
 ·rw[show(e==0)=false by simpa using he,show(e != 0)=true by simpa using he];rfl
theorem aOl(N:Nat)(hN:20 < N)(B:List Int)(hb:aR B)(hB:B.length<=1000000)(at_:Nat)(h:at_<=B.length)(e:Int):∃(a':Nat) (e' v:Int),a'<=B.length/\bX N 2 (aA.mk (B.drop at_) e true)=some (B.drop a',e',v)/\dO N 2 (aD.mk B (at_:Int) e)=some (B,(a':Int),e',v):=by
 obtain⟨a',e',v,h1,h2,h3,h4,h5⟩:=aIq N hN B hb hB at_ h e 2 (by decide) (by decide)
 obtain⟨r,k1,k2,k3,k4,k5,k6⟩:=aLf N hN (B.drop at_) e (hb.drop at_)
 have h5:v < 65536:=h5;have c:bX N 2 (aA.mk (B.drop at_) e true)=some (B.drop a',e',if v < 32768 then v else v - 65536):=by
  unfold bX;rw[show bI N 2 (aA.mk (B.drop at_) e true)=_ from h2,aa,show(decide ((2:Int) < 1))=false from rfl,show(decide ((2:Int) > 8))=false from rfl,cond_false,aC,cond_false,show I64 (64 - I64 (8*2))=48 by decide,aC]
  dsimp only;rw[aU (x:=v) (by omega) (by omega),uC .i64 (by decide),aa,aC,lX .i64 (by decide),aa]
  congr 3;have:=aL1 v 48 (by omega)
  rw[show((48:Nat):Int)=48 from rfl] at this;rw[this,wF .i64 _ 48 48 rfl (by decide),show(2:Int) ^ 48=281474976710656 from rfl,aK7]
  split <;> omega
 refine⟨a',e',_,h1,c,?_⟩
 unfold dO;rw[show aF N 2 (aD.mk B (at_:Int) e)=_ from h3,aa]
 dsimp only;have hm:=aLa N (by omega) 2 (by decide)
 rw[show bO 2 - 1=65535 from rfl,show((2:Nat):Int)=2 from rfl] at hm;by_cases he:e'=0
 ·subst he;rw[show((0:Int) != 0)=false from rfl,cond_false,hm,aa,show U64 (du 65535 2)=32767 by decide,aC]
  by_cases c2:v > 32767
  ·rw[dt c2,cond_true,aa,kW (x:=65535 - v) (by omega) (by omega),aU (x:=65535 - v) (by omega) (by omega),aC,aU (x:=0 - (65535 - v)) (by omega) (by omega),aU (x:=0 - (65535 - v) - 1) (by omega) (by omega),aC,if_neg (by omega)]
   congr 4;omega
  ·rw[df c2,cond_false,aU (x:=v) (by omega) (by omega),if_pos (by omega)]
 ·rw[show(e' != 0)=true by simpa using he,cond_true]
  -- an error tells 0
  obtain⟨r2,q1,q2,q3,q4,q5,q6⟩:=aCN N hN (B.drop at_) e 2 (by decide) (by decide) (hb.drop at_)
  rw[h2] at q1;obtain rfl:=Option.some.inj q1;rcases q6 with ⟨q6,_⟩ | ⟨_,q6,_⟩
  ·exact absurd q6 he
  ·dsimp only at q6;rw[q6,if_pos (by decide)]
theorem zP(N:Nat)(hN:20 < N)(B:List Int)(hb:aR B)(hB:B.length<=1000000)(at_:Nat)(h:at_<=B.length)(e:Int)(w:Nat)(hw0:1<=w)(hw:w<=4):∃(a':Nat) (e' v:Int),a'<=B.length/\aS N (w:Int) (aA.mk (B.drop at_) e true)=some (B.drop a',e',v)/\aF N (w:Int) (aD.mk B (at_:Int) e)=some (B,(a':Int),e',v)/\I64 v=v/\0<=v/\v < bO w:=by
 obtain⟨a',e',v,h1,h2,h3,h4,h5⟩:=aIq N hN B hb hB at_ h e w hw0 (by omega)
 have lt:bO w<=4294967296:=by rcases(show w=1\/w=2\/w=3\/w=4 by omega) with rfl | rfl | rfl | rfl <;> decide
 have hv:I64 v=v:=aU (by omega) (by omega)
 refine⟨a',e',v,h1,?_,h3,hv,h4,h5⟩
 unfold aS;rw[h2,aa]
 dsimp only;rw[hv]
theorem aHk(N:Nat)(hN:20 < N)(B:List Int)(hb:aR B)(hB:B.length<=1000000)(at_:Nat)(h:at_<=B.length)(e:Int):∃(a':Nat) (e':Int) (p:aB),a'<=B.length/\eN N (aA.mk (B.drop at_) e true)=some (B.drop a',e',true,p)/\iF N (aD.mk B (at_:Int) e)=some (B,(a':Int),e',p):=by
 obtain⟨a1,e1,x,h1,c1,d1⟩:=aOl N hN B hb hB at_ h e;obtain⟨a2,e2,y,h2,c2,d2⟩:=aOl N hN B hb hB a1 h1 e1;obtain⟨a3,e3,z,h3,c3,d3⟩:=aOl N hN B hb hB a2 h2 e2;refine⟨a3,e3,aB.mk x y z,h3,?_,?_⟩
 ·unfold eN;rw[c1,aa]
  dsimp only;rw[c2,aa]
  dsimp only;rw[c3,aa]
 ·unfold iF;rw[d1,aa]
  dsimp only;rw[d2,aa]
  dsimp only;rw[d3,aa]
theorem aLJ{α:Type}(B:List Int)(n:Nat)(hn:n<=1000)(v:Int)(hv:v=(n:Int)){F:Nat->List α->List Int->Int->Bool->Int->Option (List α×List Int×Int×Bool)}{G:Nat->List α->List Int->Int->Int->Int->Option (List α×List Int×Int×Int)}
  (hF:∀k i s at_ e,i < n->s.length=i->at_<=B.length->∃a' e' x,a'<=B.length/\F (k+1) s (B.drop at_) e true (i:Int)=F k (s++[x]) (B.drop a') e' true (I64 ((i:Int)+1))/\G (k+1) s B (at_:Int) e (i:Int)=G k (s++[x]) B (a':Int) e' (I64 ((i:Int)+1)))
  (eF:∀k s b e t,F (k+1) s b e t (n:Int)=some (s,b,e,t)) (eG:∀k s b a e,G (k+1) s b a e (n:Int)=some (s,b,a,e)) :
  ∀(k i:Nat) (s:List α) (at_:Nat) (e:Int),i<=n->s.length=i->n - i < k->at_<=B.length->∃(l:List α) (a':Nat) (e':Int),l.length=n/\a'<=B.length/\F k s (B.drop at_) e true (i:Int)=some (l,B.drop a',e',true)/\G k s B (at_:Int) e (i:Int)=some (l,B,(a':Int),e')
 | 0,_,_,_,_,_,_,h,_=>by omega
 | k+1,i,s,at_,e,hi,hs,hk,ha=>by
  by_cases c:i=n
  ·subst c;exact⟨s,at_,e,hs,ha,eF k s _ e true,eG k s _ _ e⟩
  ·obtain⟨a',e',x,h1,h2,h3⟩:=hF k i s at_ e (by omega) hs ha;rw[h2,h3,cV (by omega)]
   exact aLJ B n hn v hv hF eF eG k (i+1) (s++[x]) a' e' (by omega) (by rw[ai,hs];rfl) (by omega) h1
theorem aRN(N:Nat)(hN:70000 < N){B:List Int}(hb:aR B)(hB:B.length<=5000):oL N B=rC N B:=by
 obtain⟨a1,e1,v,h1,c1,d1,i1,j1,k1⟩:=zP N (by omega) B hb (by omega) 0 (by omega) 0 1 (by decide) (by decide)
 obtain⟨a2,e2,t,h2,c2,d2,i2,j2,k2⟩:=zP N (by omega) B hb (by omega) a1 h1 e1 1 (by decide) (by decide)
 rw[dw] at c1;have k1:v < 256:=k1;have k2:t < 256:=k2;obtain⟨n,rfl⟩:=bp j1;obtain⟨m,rfl⟩:=bp j2;unfold oL rC;rw[aIx N B (by omega),aa,show aF N 1 (aD.mk B 0 0)=_ from d1,show aS N 1 (aA.mk B 0 true)=_ from c1,aa,aa]
 dsimp only;rw[show aF N 1 (aD.mk B (a1:Int) e1)=_ from d2,show aS N 1 (aA.mk (B.drop a1) e1 true)=_ from c2,aa,aa]
 dsimp only;obtain⟨l1,a3,e3,n1,h3,c3,d3⟩:=aLJ (α:=aB) B n (by omega) (n:Int) rfl (F:=iB N (B.drop a1,e1,(n:Int))) (G:=fQ N (B,(a1:Int),e1,(n:Int))) (λk i s at_ e hi hs ha=>by
  obtain⟨a',e',p,g1,g2,g3⟩:=aHk N (by omega) B hb (by omega) at_ ha e;refine⟨a',e',p,g1,?_,?_⟩
  ·rw[iB]
   dsimp only;rw[dt (by omega),cond_true,g2,aa]
   dsimp only;rw[hJ (by rw[cf];omega),aa]
  ·rw[fQ]
   dsimp only;rw[i1,dt (by omega),aC,cond_true,g3,aa]
   dsimp only;rw[hJ (by rw[cf];omega),aa]) (λk s b e t=>by rw[iB];dsimp only;rw[df (by omega),cond_false]) (λk s b a e=>by rw[fQ];dsimp only;rw[i1,df (by omega),aC,cond_false]) N 0 [] a2 e2 (by omega) rfl (by omega) h2
 rw[show iB N (B.drop a1,e1,(n:Int)) N [] (B.drop a2) e2 true 0=_ from c3,show fQ N (B,(a1:Int),e1,(n:Int)) N [] B (a2:Int) e2 0=_ from d3,aa,aa]
 dsimp only;obtain⟨l2,a4,e4,n2,h4,c4,d4⟩:=aLJ (α:=Vector Int 2) B n (by omega) (n:Int) rfl (F:=hU N (B.drop a1,e1,(n:Int))) (G:=fX N (B,(a1:Int),e1,(n:Int))) (λk i s at_ e hi hs ha=>by
  obtain⟨a',e',x,g1,g2,g3,g4,_⟩:=zP N (by omega) B hb (by omega) at_ ha e 2 (by decide) (by decide)
  obtain⟨a'',e'',y,f1,f2,f3,f4,_⟩:=zP N (by omega) B hb (by omega) a' g1 e' 2 (by decide) (by decide)
  refine⟨a'',e'',#v[x,y],f1,?_,?_⟩
  ·rw[hU]
   dsimp only;rw[dt (by omega),cond_true,show aS N 2 (aA.mk (B.drop at_) e true)=_ from g2,aa]
   dsimp only;rw[show aS N 2 (aA.mk (B.drop a') e' true)=_ from f2,aa,hJ (by rw[cf];omega),aa]
  ·rw[fX]
   dsimp only;rw[i1,dt (by omega),aC,cond_true,show aF N 2 (aD.mk B (at_:Int) e)=_ from g3,aa]
   dsimp only;rw[show aF N 2 (aD.mk B (a':Int) e')=_ from f3,aa]
   dsimp only;rw[g4,f4,hJ (by rw[cf];omega),aa]) (λk s b e t=>by rw[hU];dsimp only;rw[df (by omega),cond_false]) (λk s b a e=>by rw[fX];dsimp only;rw[i1,df (by omega),aC,cond_false]) N 0 [] a3 e3 (by omega) rfl (by omega) h3
 rw[show hU N (B.drop a1,e1,(n:Int)) N [] (B.drop a3) e3 true 0=_ from c4,show fX N (B,(a1:Int),e1,(n:Int)) N [] B (a3:Int) e3 0=_ from d4,aa,aa]
 dsimp only;obtain⟨l3,a5,e5,n3,h5,c5,d5⟩:=aLJ (α:=Vector Int 3) B m (by omega) (m:Int) rfl (F:=hP N (B.drop a2,e2,(m:Int))) (G:=fO N (B,(a2:Int),e2,(m:Int))) (λk i s at_ e hi hs ha=>by
  obtain⟨a',e',x,g1,g2,g3,g4,_⟩:=zP N (by omega) B hb (by omega) at_ ha e 1 (by decide) (by decide)
  obtain⟨a'',e'',y,f1,f2,f3,f4,_⟩:=zP N (by omega) B hb (by omega) a' g1 e' 1 (by decide) (by decide)
  obtain⟨a3',e3',z,q1,q2,q3,q4,_⟩:=zP N (by omega) B hb (by omega) a'' f1 e'' 1 (by decide) (by decide)
  refine⟨a3',e3',#v[x,y,z],q1,?_,?_⟩
  ·rw[hP]
   dsimp only;rw[dt (by omega),cond_true,show aS N 1 (aA.mk (B.drop at_) e true)=_ from g2,aa]
   dsimp only;rw[show aS N 1 (aA.mk (B.drop a') e' true)=_ from f2,aa]
   dsimp only;rw[show aS N 1 (aA.mk (B.drop a'') e'' true)=_ from q2,aa,hJ (by rw[cf];omega),aa]
  ·rw[fO]
   dsimp only;rw[i2,dt (by omega),aC,cond_true,show aF N 1 (aD.mk B (at_:Int) e)=_ from g3,aa]
   dsimp only;rw[show aF N 1 (aD.mk B (a':Int) e')=_ from f3,aa]
   dsimp only;rw[show aF N 1 (aD.mk B (a'':Int) e'')=_ from q3,aa]
   dsimp only;rw[g4,f4,q4,hJ (by rw[cf];omega),aa]) (λk s b e t=>by rw[hP];dsimp only;rw[df (by omega),cond_false]) (λk s b a e=>by rw[fO];dsimp only;rw[i2,df (by omega),aC,cond_false]) N 0 [] a4 e4 (by omega) rfl (by omega) h4
 rw[show hP N (B.drop a2,e2,(m:Int)) N [] (B.drop a4) e4 true 0=_ from c5,show fO N (B,(a2:Int),e2,(m:Int)) N [] B (a4:Int) e4 0=_ from d5,aa,aa]
 dsimp only;rw[aMp N B a5 h5,aMz N (by omega) _ (by dsimp only;omega),aKE N (by omega) _ (by dsimp only;omega)]
theorem num1(N:Nat)(hN:20 < N)(B:List Int)(hb:aR B)(hB:B.length<=1000000)(at_:Nat)(h:at_ < B.length):aF N 1 (aD.mk B (at_:Int) 0)=some (B,((at_+1:Nat):Int),0,B[at_]):=by
 obtain⟨a',e',v,h1,h2,h3,h4,h5⟩:=aIq N hN B hb hB at_ (by omega) 0 1 (by decide) (by decide)
 have hx:=hb _ (ci h)
 have e1:leB 1 B[at_]=[B[at_]]:=by
  have:leB 1 B[at_]=[U8 (shr .u64 B[at_] ((8*0:Nat):Int))]:=rfl;rw[this,wF .u64 _ _ (8*0) rfl (by decide),show(2:Int) ^ (8*0)=1 from rfl,aAP]
  unfold isB at hx;congr 1;omega
 have k:=aQy N hN 1 (by decide) (by decide) B[at_] (B.drop (at_+1)) hx.1 hx.2 (hb.drop _)
 rw[e1,List.singleton_append,<- co h,h2] at k;have k:=Option.some.inj k;rw[Prod.mk.injEq,Prod.mk.injEq] at k;have l:=congrArg dm k.1;rw[br,br] at l;rw[show aF N 1 (aD.mk B (at_:Int) 0)=_ from h3,k.2.1,k.2.2,show a'=at_+1 by omega]
theorem aQd{a0:Nat}(N:Nat)(hN:20 < N){B:List Int}(hb:aR B)(hB:B.length<=5000)(n:Nat)(hn:n<=66000)(b1:List Int)(a1 e1 v:Int)(hv:I64 (I64 v*I64 v)=(n:Int)):∀(k i:Nat) (s:List (Vector Int 3)) (at_:Nat),i<=n->s.length=i->n - i+1 < k->at_<=B.length->at_=a0+3*i ->
  ∃(l:List (Vector Int 3)) (a':Nat),a'<=B.length/\((l.length=n/\a'=a0+3*n/\cG N (n:Int) k s (B.drop at_) 0 true (i:Int)=some (l,B.drop a',0,true)/\cP N (b1,a1,e1,v) k s B (at_:Int) 0 (i:Int)=some (l,B,(a':Int),0))\/∃l' b',cG N (n:Int) k s (B.drop at_) 0 true (i:Int)=some (l',b',4,true)/\cP N (b1,a1,e1,v) k s B (at_:Int) 0 (i:Int)=some (l,B,(a':Int),4))
 | 0,_,_,_,_,_,h,_,_=>by omega
 | k+1,i,s,at_,hi,hs,hk,ha,hai=>by
  have hl:=br (i:=at_) (l:=B)
  rw[cG,cP]
  dsimp only;rw[hv,aC]
  by_cases c:i=n
  ·subst c;rw[df (by omega),cond_false,cond_false,aC,cond_false]
   exact⟨s,at_,ha,.inl ⟨hs,hai,rfl,rfl⟩⟩
  rw[dt (by omega),cond_true,cond_true,show((0:Int)==0)=true from rfl,aC,cond_true]
  by_cases c3:3<=(B.drop at_).length
  ·have t3:(B.drop at_).take 3=[B[at_],B[at_+1],B[at_+2]]:=by
    rw[co (by omega),co (by omega),co (by omega)]
    rfl
   have tk:=aD6 N (B.drop at_) 3 c3;rw[t3,fg] at tk;have q0:=hb _ (ci (show at_ < B.length by omega))
   have q1:=hb _ (ci (show at_+1 < B.length by omega))
   have q2:=hb _ (ci (show at_+2 < B.length by omega))
   unfold isB at q0 q1 q2;rw[show bD N 3 (aA.mk (B.drop at_) 0 true)=_ from tk,aa]
   dsimp only;rw[aC,df (by simp),cond_false]
   show ∃(l:List (Vector Int 3)) (a':Nat),a'<=B.length/\((l.length=n/\a'=a0+3*n/\(ae (nR 24 s [#v[I64 B[at_],I64 B[at_+1],I64 B[at_+2]]]) λz15=>cG N (n:Int) k z15 (B.drop (at_+3)) 0 true (I64 ((i:Int)+1)))=_/\_)\/∃l' b',(ae (nR 24 s [#v[I64 B[at_],I64 B[at_+1],I64 B[at_+2]]]) λz15=>cG N (n:Int) k z15 (B.drop (at_+3)) 0 true (I64 ((i:Int)+1)))=_/\_)
   have m0:=num1 N hN B hb (by omega) at_ (by omega)
   have m1:=num1 N hN B hb (by omega) (at_+1) (by omega)
   have m2:=num1 N hN B hb (by omega) (at_+2) (by omega)
   rw[m0,aa]
   dsimp only;rw[m1,aa]
   dsimp only;rw[m2,aa]
   dsimp only;rw[hJ (by rw[cf];omega),aa,aa,cV (by omega)]
   exact aQd N hN hb hB n hn b1 a1 e1 v hv k (i+1) _ (at_+3) (by omega) (by rw[ai,hs];rfl) (by omega) (by omega) (by omega)
  ·have tk:=zY N (B.drop at_) 3 c3;rw[show bD N 3 (aA.mk (B.drop at_) 0 true)=_ from tk,aa]
   dsimp only;rw[aC,show decide ((([]:List Int).length:Int) < 3)=true from rfl,cond_true]
   obtain⟨b1',f1,v1,g1,c1,d1,_⟩:=aIq N hN B hb (by omega) at_ ha 0 1 (by decide) (by decide)
   obtain⟨b2',f2,v2,g2,c2,d2,_⟩:=aIq N hN B hb (by omega) b1' g1 f1 1 (by decide) (by decide)
   obtain⟨b3',f3,v3,g3,c3',d3,_⟩:=aIq N hN B hb (by omega) b2' g2 f2 1 (by decide) (by decide)
   obtain⟨r1,w1,_,_,_,_,z1⟩:=aCN N hN (B.drop at_) 0 1 (by decide) (by decide) (hb.drop _)
   obtain⟨r2,w2,_,_,_,_,z2⟩:=aCN N hN (B.drop b1') f1 1 (by decide) (by decide) (hb.drop _)
   obtain⟨r3,w3,_,_,_,_,z3⟩:=aCN N hN (B.drop b2') f2 1 (by decide) (by decide) (hb.drop _)
   rw[c1] at w1;rw[c2] at w2;rw[c3'] at w3;obtain rfl:=Option.some.inj w1;obtain rfl:=Option.some.inj w2;obtain rfl:=Option.some.inj w3;dsimp only at z1 z2 z3;have f4:f3=4:=by
    rcases z1 with ⟨z1,_,y1⟩ | ⟨z1,_,_,y1,_⟩
    ·rcases z2 with ⟨z2,_,y2⟩ | ⟨z2,_,_,y2,_⟩
     ·rcases z3 with ⟨z3,_,y3⟩ | ⟨z3,_,_,y3,_⟩
      ·rw[y2,y3] at y1;have:=congrArg dm y1;simp only[ai,bN] at this;omega
      ·exact(y3 z2).1
     ·rcases z3 with ⟨z3,y3,_⟩ | ⟨z3,_,_,_,y3⟩
      ·exact absurd y3 z2
      ·rw[y3 z2];exact(y2 z1).1
    ·rcases z2 with ⟨_,y2,_⟩ | ⟨z2,_,_,_,y2⟩
     ·exact absurd y2 z1
     ·rcases z3 with ⟨_,y3,_⟩ | ⟨z3,_,_,_,y3⟩
      ·exact absurd y3 z2
      ·rw[y3 z2,y2 z1];exact(y1 rfl).1
   subst f4;rw[show aF N 1 (aD.mk B (at_:Int) 0)=_ from d1,aa]
   dsimp only;rw[show aF N 1 (aD.mk B (b1':Int) f1)=_ from d2,aa]
   dsimp only;rw[show aF N 1 (aD.mk B (b2':Int) f2)=_ from d3,aa]
   dsimp only;rw[hJ (by rw[cf];omega),aa]
   obtain⟨k,rfl⟩:∃j,k=j+1:=⟨k - 1,by omega⟩
   rw[cP]
   dsimp only;rw[show((4:Int)==0)=false from rfl,aC,show ∀b:Bool,cond b false false=false from λb=>by cases b <;> rfl,aC,cond_false]
   exact⟨_,b3',g3,.inr ⟨_,_,rfl,rfl⟩⟩
theorem texDE(N:Nat)(hN:70000 < N){B:List Int}(hb:aR B)(hB:B.length<=5000):oJ N B=nF N B:=by
 obtain⟨a1,e1,v,h1,c1,d1,j1,k1⟩:=aIq N (by omega) B hb (by omega) 0 (by omega) 0 1 (by decide) (by decide)
 rw[dw] at c1;have k1:v < 256:=k1;have iv:I64 v=v:=aU (by omega) (by omega)
 unfold oJ nF;rw[aIx N B (by omega),aa,show aF N 1 (aD.mk B 0 0)=_ from d1,show bI N 1 (aA.mk B 0 true)=_ from c1,aa,aa]
 dsimp only;obtain⟨n,rfl⟩:=bp j1;have hn:n*n<=255*255:=Nat.mul_le_mul (by omega) (by omega)
 have hv:I64 (I64 (n:Int)*I64 (n:Int))=((n*n:Nat):Int):=by
  rw[iv,<- Int.natCast_mul,aU (by omega) (by omega)]
 rw[hv,aC]
 by_cases he:e1=0
 ·subst he;obtain⟨l,a',g1,g2⟩:=aQd (a0:=a1) N (by omega) hb hB (n*n) (by omega) B (a1:Int) 0 (n:Int) hv N 0 [] a1 (by omega) rfl (by omega) h1 (by omega)
  rcases g2 with ⟨g2,g5,g3,g4⟩ | ⟨l',b',g3,g4⟩
  ·rw[show cG N ((n*n:Nat):Int) N [] (B.drop a1) 0 true 0=_ from g3,show cP N (B,(a1:Int),0,(n:Int)) N [] B (a1:Int) 0 0=_ from g4,aa,aa]
   dsimp only;rw[aMp N B a' g1,aN8 N (by omega) _ (by dsimp only;omega) (by dsimp only;omega),aN4 N (by omega) _ (by dsimp only;omega) (by dsimp only;omega)]
  ·rw[show cG N ((n*n:Nat):Int) N [] (B.drop a1) 0 true 0=_ from g3,show cP N (B,(a1:Int),0,(n:Int)) N [] B (a1:Int) 0 0=_ from g4,aa,aa]
   dsimp only;rw[aMp N B a' g1,aGx,aGx,show((4:Int) != 0)=true from rfl,cond_true,cond_true,aa,aa,show((4:Int) != 0)=true from rfl,cond_true,cond_true]
 ·-- no byte at all
  obtain⟨r,w,_,_,_,_,z⟩:=aCN N (by omega) B 0 1 (by decide) (by decide) hb;rw[c1] at w;obtain rfl:=Option.some.inj w;dsimp only at z;rcases z with ⟨z,_⟩ | ⟨_,z,_,z4,_⟩
  ·exact absurd z he
  obtain⟨rfl,_⟩:=z4 rfl;have hn0:n=0:=by omega
  subst hn0;obtain⟨k,rfl⟩:∃k,N=k+1:=⟨N - 1,by omega⟩
  rw[show cG (k+1) ((0*0:Nat):Int) (k+1) [] (B.drop a1) 4 true 0=some ([],B.drop a1,4,true) from rfl,show cP (k+1) (B,(a1:Int),4,((0:Nat):Int)) (k+1) [] B (a1:Int) 4 0=some ([],B,(a1:Int),4) from rfl,aa,aa]
  dsimp only;rw[aMp (k+1) B a1 h1,aGx,show((4:Int) != 0)=true from rfl,cond_true,aa,aa,show((4:Int) != 0)=true from rfl,cond_true,cond_true]
theorem asE(N:Nat)(hN:1000 < N)(a:aI)(h:aB4 a):iW N a=jG N a:=by
 obtain⟨c,e1,e2⟩:=aRh N hN a h;rw[e1,e2]
theorem aOY(N:Nat)(hN:20 < N)(B:List Int)(hb:aR B)(hB:B.length<=1000000)(at_:Nat)(h:at_<=B.length)(e:Int)(w:Nat)(hw0:1<=w)(hw:w<=4):∃(a':Nat) (e':Int) (v:Vector Int 3),a'<=B.length/\bR N (w:Int) (aA.mk (B.drop at_) e true)=some (B.drop a',e',true,v)/\eQ N (w:Int) (aD.mk B (at_:Int) e)=some (B,(a':Int),e',v):=by
 obtain⟨a1,e1,x,g1,g2,g3,g4,_⟩:=zP N hN B hb hB at_ h e w hw0 hw;obtain⟨a2,e2,y,f1,f2,f3,f4,_⟩:=zP N hN B hb hB a1 g1 e1 w hw0 hw;obtain⟨a3,e3,z,q1,q2,q3,q4,_⟩:=zP N hN B hb hB a2 f1 e2 w hw0 hw;refine⟨a3,e3,#v[x,y,z],q1,?_,?_⟩
 ·unfold bR;rw[show aV N (w:Int) (aA.mk (B.drop at_) e true)=_ from g2,aa]
  dsimp only;rw[show aV N (w:Int) (aA.mk (B.drop a1) e1 true)=_ from f2,aa]
  dsimp only;rw[show aV N (w:Int) (aA.mk (B.drop a2) e2 true)=_ from q2,aa]
 ·unfold eQ;rw[g3,aa]
  dsimp only;rw[f3,aa]
  dsimp only;rw[q3,aa]
  dsimp only;rw[g4,f4,q4]
theorem assDE(N:Nat)(hN:70000 < N)(k:Int){B:List Int}(hb:aR B)(hB:B.length<=5000):oG N k B=pJ N k B:=by
 unfold oG pJ;rw[aIx N B (by omega),aa]
 by_cases k1:k=1
 ·subst k1;rw[show((1:Int)==1)=true from rfl,cond_true,cond_true,aRN N hN hb hB]
  obtain⟨⟨m,e⟩,h0,h⟩:=aIy N (by omega) B hb (by omega)
  rw[h0,aa,aa,aa,aa]
  dsimp only at h ⊢;rw[aC,aC,aC]
  by_cases he:e=0
  ·rcases h with ⟨_,h1,h2⟩ | ⟨h1,_⟩
   ·have nv:=h2.nv;have nt:=h2.nt;have nu:=h2.nu;rw[asE N (by omega) _ ⟨by dsimp only;omega,by dsimp only;omega,by dsimp only;omega,by simp⟩]
   ·exact absurd he h1
  ·rw[show(e != 0)=true by simpa using he,cond_true,cond_true]
 by_cases k2:k=2
 ·subst k2;rw[show((2:Int)==1)=false from rfl,show((2:Int)==2)=true from rfl,cond_false,cond_false,cond_true,cond_true,texDE N hN hb hB]
  obtain⟨⟨m,e⟩,h0,h⟩:=aK9 N (by omega) B hb hB;rw[h0,aa,aa,aa,aa]
  dsimp only at h ⊢;rw[aC,aC,aC]
  by_cases he:e=0
  ·rcases h with ⟨_,h1,h2⟩ | ⟨h1,_⟩
   ·have hn:m.gK.length<=500:=by
     have a1:=h2.side;have a2:=h2.n;have:m.gM*m.gM<=16*16:=gq a1.2 a1.2 (by omega) (by decide)
     omega
    rw[asE N (by omega) _ ⟨by simp,by simp,by simp,hn⟩]
   ·exact absurd he h1
  ·rw[show(e != 0)=true by simpa using he,cond_true,cond_true]
 have fin:∀a:aI,a.gP=aK.mk [] [] []->a.gQ=aH.mk 0 []->iW N a=jG N a:=λa h h'=>asE N (by omega) a ⟨by rw[h];simp,by rw[h];simp,by rw[h];simp,by rw[h'];simp⟩
 rw[show(k==1)=false by simpa using k1,show(k==2)=false by simpa using k2,cond_false,cond_false,cond_false,cond_false]
 by_cases k3:k=3
 ·subst k3;rw[show((3:Int)==3)=true from rfl,cond_true,cond_true]
  obtain⟨a1,e1,x,g1,g2,g3,g4,_⟩:=zP N (by omega) B hb (by omega) 0 (by omega) 0 1 (by decide) (by decide)
  rw[dw] at g2;obtain⟨a2,e2,y,f1,f2,f3⟩:=aOY N (by omega) B hb (by omega) a1 g1 e1 2 (by decide) (by decide)
  obtain⟨a3,e3,z,q1,q2,q3,q4,_⟩:=zP N (by omega) B hb (by omega) a2 f1 e2 2 (by decide) (by decide)
  rw[show aF N 1 (aD.mk B 0 0)=_ from g3,show aV N 1 (aA.mk B 0 true)=_ from g2,aa,aa]
  dsimp only;rw[show eQ N 2 (aD.mk B (a1:Int) e1)=_ from f3,show bR N 2 (aA.mk (B.drop a1) e1 true)=_ from f2,aa,aa]
  dsimp only;rw[show aF N 2 (aD.mk B (a2:Int) e2)=_ from q3,show aV N 2 (aA.mk (B.drop a2) e2 true)=_ from q2,aa,aa]
  dsimp only;rw[aMp N B a3 q1,aGx,aa,aa,aa,aa]
  dsimp only;rw[aC,aC,aC,g4,q4,fin _ rfl rfl]
 rw[show(k==3)=false by simpa using k3,cond_false,cond_false]
 by_cases k4:k=4
 ·subst k4;rw[show((4:Int)==4)=true from rfl,cond_true,cond_true]
  obtain⟨a1,e1,x,g1,g2,g3,g4,_⟩:=zP N (by omega) B hb (by omega) 0 (by omega) 0 1 (by decide) (by decide)
  rw[dw] at g2;obtain⟨a2,e2,y,f1,f2,f3⟩:=aOY N (by omega) B hb (by omega) a1 g1 e1 4 (by decide) (by decide)
  obtain⟨a3,e3,z,q1,q2,q3⟩:=aHk N (by omega) B hb (by omega) a2 f1 e2;obtain⟨a4,e4,u,m1,m2,m3⟩:=aHk N (by omega) B hb (by omega) a3 q1 e3;obtain⟨a5,e5,w,n1,n2,n3⟩:=aHk N (by omega) B hb (by omega) a4 m1 e4;rw[show aF N 1 (aD.mk B 0 0)=_ from g3,show aV N 1 (aA.mk B 0 true)=_ from g2,aa,aa]
  dsimp only;rw[show eQ N 4 (aD.mk B (a1:Int) e1)=_ from f3,show bR N 4 (aA.mk (B.drop a1) e1 true)=_ from f2,aa,aa]
  dsimp only;rw[q3,show cK N (aA.mk (B.drop a2) e2 true)=_ from q2,aa,aa]
  dsimp only;rw[m3,show cK N (aA.mk (B.drop a3) e3 true)=_ from m2,aa,aa]
  dsimp only;rw[n3,show cK N (aA.mk (B.drop a4) e4 true)=_ from n2,aa,aa]
  dsimp only;rw[aMp N B a5 n1,aGx,aa,aa,aa,aa]
  dsimp only;rw[aC,aC,aC,g4,fin _ rfl rfl]
 rw[show(k==4)=false by simpa using k4,cond_false,cond_false,aa,aa]
 dsimp only;rw[aC,aC,aC,fin _ rfl rfl]
theorem aCC(N:Nat)(hN:20 < N){B:List Int}(hb:aR B)(hB:B.length<=1000000)(at_:Nat)(h:at_<=B.length)(w:Nat)(hw0:1<=w)(hw:w<=8){v:Int}{rest:List Int}(hv:0<=v/\v < bO w)(hr:B.drop at_=leB w v++rest):aF N (w:Int) (aD.mk B (at_:Int) 0)=some (B,((at_+w:Nat):Int),0,v)/\B.drop (at_+w)=rest/\at_+w<=B.length:=by
 have hd:=br (i:=at_) (l:=B)
 have hl:=congrArg dm hr;rw[ai,bN,hd] at hl;have hdr:B.drop (at_+w)=rest:=by rw[<- fg,hr,j3 (bN _ _)]
 obtain⟨a',e',v',h1,h2,h3,_⟩:=aIq N hN B hb hB at_ h 0 w hw0 hw;have hrb:aR rest:=by rw[<- hdr];exact hb.drop _
 rw[hr,aQy N hN w hw0 hw v rest hv.1 hv.2 hrb] at h2;have k:=Option.some.inj h2;rw[Prod.mk.injEq,Prod.mk.injEq] at k;have l:=congrArg dm k.1;rw[br] at l;rw[h3,<- k.2.1,<- k.2.2,show a'=at_+w by omega]
 exact⟨rfl,hdr,by omega⟩
theorem aQa(N:Nat)(hN:20 < N){B:List Int}(hb:aR B)(hB:B.length<=1000000)(a0:Nat){ms rest:List Int}(h8:ms.length=8)(hr:B.drop a0=ms++rest):∀(k i:Nat) (v:Vector Int 8),i<=8->8 - i < k->(∀j,j < 8->v.toList[j]? = some (if j < i then ms.getD j 0 else 0))->∃v':Vector Int 8,jV N k B ((a0+i:Nat):Int) 0 v (i:Int)=some (B,((a0+8:Nat):Int),0,v')/\v'.toList=ms
 | 0,_,_,_,h,_=>by omega
 | k+1,i,v,hi,hk,hv=>by
  have hl:=congrArg dm hr;rw[ai,br,h8] at hl;rw[jV]
  by_cases c:i=8
  ·subst c;rw[df (by omega),cond_false]
   refine⟨v,rfl,?_⟩
   apply dr;intro j;by_cases d:j < 8
   ·rw[hv j d,if_pos d,pH (by omega)]
   ·rw[au (by simp;omega),au (by omega)]
  ·have hx:B[a0+i]'(by omega)=ms.getD i 0:=by
    have:=congrArg (λl=>l[i]?) hr;rw[eo,cn (by omega),pH (l:=ms) (by omega),ag (by omega)] at this;exact Option.some.inj this
   have hbx:=hb _ (ci (show a0+i < B.length by omega))
   rw[hx] at hbx;unfold isB at hbx;have ti:((i:Nat):Int).toNat=i:=rfl;rw[dt (by omega),cond_true,num1 N hN B hb hB (a0+i) (by omega),aa]
   dsimp only;rw[dP (by omega) (by omega),aa,ti,hv i (by omega),aa,hx,aAP,show ms.getD i 0 % 256=ms.getD i 0 by omega,cV (by omega)]
   refine aQa N hN hb hB a0 h8 hr k (i+1) _ (by omega) (by omega) λj hj=>?_;rw[bq,cv]
   by_cases d:i=j
   ·subst d;rw[if_pos rfl,if_pos (by simp;omega),if_pos (by omega)]
   ·rw[if_neg d,hv j hj]
    by_cases c3:j < i
    ·rw[if_pos c3,if_pos (by omega)]
    ·rw[if_neg c3,if_neg (show ¬j < i+1 by omega)]
theorem mdecE(N:Nat)(hN:70000 < N){B:List Int}(hb:aR B)(hB:B.length=35):oH N B=nT N B:=by
 obtain⟨r,e,m,R,hm,hr⟩:=aP6 N (by omega) B hb hB;rw[e,hr]
 have h0:B.drop 0=leB 8 m.gId++(leB 1 m.gC++(leB 4 m.gA3++(m.gA1.toList++(leB 4 m.gA2++(leB 4 m.gTo++(leB 4 m.gR++leB 2 m.gA0)))))):=by rw[dw,<- hm];rfl
 have hN':20 < N:=by omega
 have hB':B.length<=1000000:=by omega
 obtain⟨d1,h1,g1⟩:=aCC N hN' hb hB' 0 (by omega) 8 (by decide) (by decide) R.id h0;obtain⟨d2,h2,g2⟩:=aCC N hN' hb hB' _ g1 1 (by decide) (by decide) R.kind h1;obtain⟨d3,h3,g3⟩:=aCC N hN' hb hB' _ g2 4 (by decide) (by decide) R.label h2;obtain⟨v,d4,h4v⟩:=aQa N hN' hb hB' (0+8+1+4) (by simp) h3 N 0 (ah 8 0) (by omega) (by omega) (λj hj=>by
  have z:(ah 8 (0:Int)).toList=ap 8 0:=rfl;rw[z,cz,if_pos hj,if_neg (by omega)])
 obtain rfl:=dx.1 h4v;have h4:B.drop (0+8+1+4+8)=leB 4 m.gA2++(leB 4 m.gTo++(leB 4 m.gR++leB 2 m.gA0)):=by
  rw[<- fg,h3,j3 (by simp)]
 obtain⟨d5,h5,g5⟩:=aCC N hN' hb hB' _ (by omega) 4 (by decide) (by decide) R.fr h4;obtain⟨d6,h6,g6⟩:=aCC N hN' hb hB' _ g5 4 (by decide) (by decide) R.to h5;obtain⟨d7,h7,g7⟩:=aCC N hN' hb hB' _ g6 4 (by decide) (by decide) R.size h6;obtain⟨d8,h8,g8⟩:=aCC N hN' hb hB' _ g7 2 (by decide) (by decide) (rest:=[]) R.chunks (by rw[cg];exact h7)
 unfold oH;rw[aC,aC,df (by omega),df (by omega),cond_false,cond_false,show aF N 8 (aD.mk B 0 0)=_ from d1,aa]
 dsimp only;rw[show aF N 1 (aD.mk B ((0+8:Nat):Int) 0)=_ from d2,aa]
 dsimp only;rw[show aF N 4 (aD.mk B ((0+8+1:Nat):Int) 0)=_ from d3,aa]
 dsimp only;rw[show jV N N B ((0+8+1+4:Nat):Int) 0 (ah 8 0) 0=_ from d4,aa]
 dsimp only;rw[show aF N 4 (aD.mk B ((0+8+1+4+8:Nat):Int) 0)=_ from d5,aa]
 dsimp only;rw[show aF N 4 (aD.mk B ((0+8+1+4+8+4:Nat):Int) 0)=_ from d6,aa]
 dsimp only;rw[show aF N 4 (aD.mk B ((0+8+1+4+8+4+4:Nat):Int) 0)=_ from d7,aa]
 dsimp only;rw[show aF N 2 (aD.mk B ((0+8+1+4+8+4+4+4:Nat):Int) 0)=_ from d8,aa]
 dsimp only;have r2:=R.kind;have r7:=R.size;have r8:=R.chunks;have e2:I64 m.gC=m.gC:=aU (by omega) (by omega)
 have e7:I64 m.gR=m.gR:=aU (by omega) (by omega)
 have e8:I64 m.gA0=m.gA0:=aU (by omega) (by omega)
 rw[e2,e7,e8,aAD R.label.1 R.label.2,aAD R.fr.1 R.fr.2,aAD R.to.1 R.to.2,show aE.mk m.gId m.gC m.gA3 m.gA1 m.gA2 m.gTo m.gR m.gA0=m from rfl,mchkR N (by omega) m ⟨by omega,by omega⟩,aa]
 by_cases hc:wT m=0
 ·rw[hc,show((0:Int) != 0)=false from rfl,cond_false,if_pos rfl]
 ·rw[show(wT m != 0)=true by simpa using hc,cond_true,if_neg hc]
  rfl
theorem aQL(N:Nat)(hN:20 < N){B:List Int}(h:12<=B.length)(hB:B.length<=1000000):∃v:Vector Int 8,mA N B=some v/\v.toList=(B.take 12).drop 4:=by
 unfold mA;have main:T (iX N B N (ah 8 0) 0) (λv=>∀j,j < 8->v.toList[j]? = some (if j < 8 then B.getD (4+j) 0 else 0)):=by
  refine T.loop0 (n:=8) (by decide) (λi (v:Vector Int 8)=>∀j,j < 8->v.toList[j]? = some (if j < i then B.getD (4+j) 0 else 0)) (F:=iX N B) (λk s i hi hs Q hk=>?_) (λk s=>by rw[iX,df (by omega),cond_false]) (by omega) (s:=ah 8 0) (λj hj=>?_)
  ·have ti:((i:Nat):Int).toNat=i:=rfl;have e4:I64 (4+(i:Int))=((4+i:Nat):Int):=by rw[aU (by omega) (by omega)];omega
   rw[iX,dt (by omega),cond_true,e4,aEK (by omega),aa,dP (by omega) (by omega),aa,ti,hs i (by omega),aa,cV (by omega)]
   refine hk _ λj hj=>?_;rw[bq,cv]
   by_cases c:i=j
   ·subst c;rw[if_pos rfl,if_pos (by simp;omega),if_pos (by omega)]
   ·rw[if_neg c,hs j hj]
    by_cases c3:j < i
    ·rw[if_pos c3,if_pos (by omega)]
    ·rw[if_neg c3,if_neg (show ¬j < i+1 by omega)]
  ·have z:(ah 8 (0:Int)).toList=ap 8 0:=rfl;rw[z,cz,if_pos hj,if_neg (by omega)]
 obtain⟨v,e,hv⟩:=main;refine⟨v,by rw[e,aa],?_⟩
 apply dr;intro j;rw[eo]
 by_cases c:j < 8
 ·rw[hv j c,if_pos c,fb (by omega),pH (by omega)]
 ·rw[au (by simp;omega),au (by rw[bw];omega)]
theorem fourE{B:List Int}(h:4<=B.length):(ae (idx B 0) λe3=>cond (e3 != 85) (some true) (ae (idx B 1) λe4=>cond (e4 != 77) (some true) (ae (idx B 2) λe5=>cond (e5 != 66) (some true) (ae (idx B 3) λe6=>some (e6 != 49)))))=some (!decide (B.take 4=[85,77,66,49])):=by
 obtain⟨a,b,c,d,t,rfl⟩:∃a b c d t,B=a :: b :: c :: d :: t:=by
  match B,h with
  | a :: b :: c :: d :: t,_=>exact⟨a,b,c,d,t,rfl⟩
 rw[show idx (a :: b :: c :: d :: t) 0=some a from rfl,show idx (a :: b :: c :: d :: t) 1=some b from rfl,show idx (a :: b :: c :: d :: t) 2=some c from rfl,show idx (a :: b :: c :: d :: t) 3=some d from rfl,aa,aa,aa,aa,show(a :: b :: c :: d :: t).take 4=[a,b,c,d] from rfl]
 by_cases h1:a=85 <;> by_cases h2:b=77 <;> by_cases h3:c=66 <;> by_cases h4:d=49 <;> simp[h1,h2,h3,h4,aBZ]
theorem aMS{B:List Int}{a b:Nat}(h:a<=b)(h2:b<=B.length):eD B (a:Int) (b:Int)=some ((B.take b).drop a):=by
 rw[qM (by omega) (by omega) (by omega),cw,cw]
theorem aQb(N:Nat)(hN:70000 < N){key:Vector Int 32}(hk:aR key.toList){B:List Int}(hb:aR B)(hB:B.length<=5000):nU N key B=oV N key B:=by
 unfold nU oV;rw[aC,aC]
 by_cases c:B.length < 63
 ·rw[dt (by omega),cond_true,cond_true]
 rw[df (by omega),cond_false,cond_false,fourE (by omega),aa,aQU N hb aQR,aa]
 by_cases c2:B.take 4=[85,77,66,49]
 rotate_left
 ·rw[df c2,show decide (B.take ([85,77,66,49]:List Int).length=[85,77,66,49])=false from df c2]
  rfl
 rw[dt c2,show decide (B.take ([85,77,66,49]:List Int).length=[85,77,66,49])=true from dt c2,show(!true)=false from rfl,cond_false,cond_false]
 obtain⟨v,e1,hv⟩:=aQL N (by omega) (B:=B) (by omega) (by omega)
 obtain⟨w,e2,hw⟩:=vecE (m:=8) (l:=(B.take 12).drop 4) (by simp;omega)
 obtain rfl:v=w:=dx.1 (by rw[hv,hw])
 have hvb:aR v.toList:=by rw[hv];exact(hb.take _).drop _
 have h7:((B.take 63).drop 47).length=16:=by simp;omega
 have hs:aR ((B.take 63).drop 47):=(hb.take _).drop _;rw[e1,aa,show eD B 4 12=_ from aMS (a:=4) (b:=12) (by omega) (by omega),aa,e2,aa,aOk N (by omega),aa,nonR N (by omega) v ⟨by decide,by decide⟩,aa,show eD B 0 47=_ from nS (n:=47) (by omega),aa,aa,show eD B 47 63=_ from aMS (a:=47) (b:=63) (by omega) (by omega),aa,aa,aQq N hN hk (aNs N (by omega) hvb 0) (hb.take _) hs (by simp;omega) (by omega)]
 have ho:=aJQ N (by omega) key (aF6 N v 0) (B.take 47) [] ((B.take 63).drop 47) hs h7 (by simp;omega) (by simp)
 rw[fq] at ho;rw[ho,aa,aa]
 unfold aEW;cases decide ((aAh N key (aF6 N v 0) (B.take 47) []).toList=(B.take 63).drop 47) with
 | false=>rfl
 | true=>
  rw[cond_true]
  dsimp only;rw[show((0:Int) != 0)=false from rfl,cond_false,cond_false,show eD B 12 47=_ from aMS (a:=12) (b:=47) (by omega) (by omega),aa,aa,mdecE N hN ((hb.take _).drop _) (by simp;omega)]
theorem chA(N:Nat)(key:Vector Int 32)(n12:Vector Int 12)(mark b:List Int)(i n:Int)(h:¬4<=b.length):iN N key n12 mark i n (aA.mk b 0 true)=some (b,4,true,[],4):=by
 unfold iN;have e:=zY N b 4 h;rw[show bD N 4 (aA.mk b 0 true)=_ from e,aa,aC]
 rfl
theorem aSH(N:Nat)(hN:70000 < N)(key:Vector Int 32)(n12:Vector Int 12)(mark:List Int){b:List Int}(hb:aR b){i n:Nat}(hi:i < 1000)(hn:n<=256)(h:4<=b.length):iN N key n12 mark (i:Int) (n:Int) (aA.mk b 0 true)=cond (!decide (b.take 4=aBj i n)) (some (b.drop 4,0,true,[],7)) (ae (bD N ((n+16:Nat):Int) (aA.mk (b.drop 4) 0 true)) λr5=>cond (r5.2.1 != 0) (some (r5.1,r5.2.1,true,[],r5.2.1)) (ae (cL N [b.take 4,mark]) λr8=>ae (iZ N key n12 r8 r5.2.2) λr9=>some (r5.1,r5.2.1,true,r9.1,r9.2))):=by
 unfold iN;have e:=aD6 N b 4 h;rw[show bD N 4 (aA.mk b 0 true)=_ from e,aa,aC]
 dsimp only;rw[df (by rw[bw];omega),cond_false]
 have e2:=put2 N (by omega) [] 2 (by decide) (by decide) (i:Int) (n:Int) ⟨by omega,by rw[show bO 2=65536 from rfl];omega⟩ ⟨by omega,by rw[show bO 2=65536 from rfl];omega⟩ (by simp)
 rw[kW (x:=(i:Int)) (by omega) (by omega),kW (x:=(n:Int)) (by omega) (by omega),show cM N [] 2 [(i:Int),(n:Int)]=_ from e2,aa]
 dsimp only;have f:I64 ((n:Int)+16)=((n+16:Nat):Int):=by rw[aU (by omega) (by omega)];omega
 rw[fq,show leB 2 (i:Int)++leB 2 (n:Int)=aBj i n from rfl,aMt N (hb.take _) (aGM i n),aa,f]
 congr 1
theorem four2(N:Nat)(hN:20 < N){B:List Int}{at_ i n:Nat}(h:at_+4<=B.length)(hB:B.length<=1000000):iY N B (at_:Int) (aBj i n) N 0=some (cond (!decide ((B.drop at_).take 4=aBj i n)) (Sum.inr (zM,zA 0,7)) (Sum.inl ())):=by
 have l4:((B.drop at_).take 4).length=4:=by rw[bw,br];omega
 rw[<- anyD l4 (zV i n)]
 refine rG (cj 4) (λj=>((B.drop at_).take 4).getD j 0 != (aBj i n).getD j 0) ((zM,zA 0,7):aE×aI×Int) (iY N B (at_:Int) (aBj i n)) (by simp) (λk j h=>?_) (λk=>?_) (by simp;omega)
 ·have h4:j < 4:=by simpa using h
  have pl:=zV i n;have e:I64 ((at_:Int)+(j:Int))=((at_+j:Nat):Int):=by rw[aU (by omega) (by omega)];omega
  have g:((B.drop at_).take 4).getD j 0=B.getD (at_+j) 0:=by
   rw[bf,fb h4,eo,<- bf]
  rw[iY,dt (by omega),cond_true,e,aEK (by omega),aa,aEK (by omega),aa,lz,g]
  rfl
 ·rw[iY,df (by simp),cond_false]
theorem aJ8{α β γ:Type}(a:α)(f:α->Option γ)(g:β->Option γ):nQ (Sum.inl a) f g=f a:=rfl
theorem aM8(N:Nat)(hN:70000 < N){key:Vector Int 32}(hk:aR key.toList){base:Vector Int 8}(hbs:aR base.toList){B mark:List Int}(hb:aR B)(hB:B.length<=5000)(hbase:mA N B=some base)(hmark:eD B 47 63=some mark)(hm:mark.length=16)(hmb:aR mark)(m:aE)(sz:Nat)(hsz:m.gR=(sz:Int))(hs2:sz<=2048)(hch:m.gA0=(nCh sz:Int)):∀(k i:Nat) (s:List Int) (at_:Nat),i<=nCh sz->nCh sz - i < k->s.length=min (256*i) sz->at_<=B.length->aR s ->
  (∃(s':List Int) (a':Nat),a'<=B.length/\s'.length<=2048/\aR s'/\lM N (m,0) base key mark k s (B.drop at_) 0 true (i:Int)=some (Sum.inl (s',B.drop a',0,true))/\fM N (m,0) B key k s (at_:Int) (i:Int)=some (Sum.inl (s',(a':Int))))\/(∃r:aE×aI×Int,lM N (m,0) base key mark k s (B.drop at_) 0 true (i:Int)=some (Sum.inr r)/\fM N (m,0) B key k s (at_:Int) (i:Int)=some (Sum.inr r)/\r.1=zM/\r.2.1=zA 0/\r.2.2≠0)
 | 0,_,_,_,_,h,_,_,_=>by omega
 | k+1,i,s,at_,hi,hkk,hs,ha,hsb=>by
  rw[lM,fM]
  dsimp only;rw[hch,hsz]
  by_cases c:i=nCh sz
  ·subst c;rw[df (by omega),aC,aC,cond_false,cond_false]
   exact .inl ⟨s,at_,ha,by omega,hsb,rfl,rfl⟩
  have hlt:256*i < sz:=by unfold nCh at hi c;omega
  have hi9:i < 10:=by omega
  obtain⟨n,hn⟩:∃n,n=min 256 (sz - 256*i):=⟨_,rfl⟩
  have hn0:n<=256/\1<=n:=by omega
  have f1:I64 ((sz:Int) - (s.length:Int))=((sz - 256*i:Nat):Int):=by rw[aU (by omega) (by omega)];omega
  have f2:I64 (256*(i:Int))=((256*i:Nat):Int):=by rw[aU (by omega) (by omega)];omega
  have f3:I64 ((sz:Int) - ((256*i:Nat):Int))=((sz - 256*i:Nat):Int):=by rw[aU (by omega) (by omega)];omega
  have f4:mU 256 ((sz - 256*i:Nat):Int)=(n:Int):=by rw[show(256:Int)=((256:Nat):Int) from rfl,aF0,hn]
  have f5:I64 ((B.length:Int) - (at_:Int))=((B.length - at_:Nat):Int):=by rw[aU (by omega) (by omega)];omega
  have hdl:=br (i:=at_) (l:=B)
  rw[dt (by omega),aC,aC,cond_true,cond_true,cV (by omega),aOk N (by omega),aa,f1,aC,f2,f3,aC,f5,aC,f4]
  by_cases c4:4<=(B.drop at_).length
  rotate_left
  ·rw[chA N key _ mark _ _ _ c4,aa,dt (show((B.length - at_:Nat):Int) < 4 by omega),cond_true]
   exact .inr ⟨_,rfl,rfl,rfl,rfl,(show(4:Int)≠0 by decide)⟩
  rw[df (show ¬((B.length - at_:Nat):Int) < 4 by omega),cond_false,fourR N (by omega) (by omega),aa,four2 N (by omega) (by omega) (by omega),aa,aSH N hN key _ mark (hb.drop at_) (by omega) hn0.1 c4]
  by_cases cq:(B.drop at_).take 4=aBj i n
  rotate_left
  ·rw[df cq]
   exact .inr ⟨_,rfl,rfl,rfl,rfl,(show(7:Int)≠0 by decide)⟩
  rw[dt cq,show(!true)=false from rfl,cond_false,cond_false]
  have f6:I64 ((n:Int)+16)=((n+16:Nat):Int):=by rw[aU (by omega) (by omega)];omega
  have f7:I64 (((B.length - at_:Nat):Int) - 4)=((B.length - at_ - 4:Nat):Int):=by rw[aU (by omega) (by omega)];omega
  have f8:I64 ((at_:Int)+4)=((at_+4:Nat):Int):=by rw[aU (by omega) (by omega)];omega
  have f9:I64 (((at_+4:Nat):Int)+(n:Int))=((at_+4+n:Nat):Int):=by rw[aU (by omega) (by omega)];omega
  have f10:I64 (((at_+4+n:Nat):Int)+16)=((at_+4+n+16:Nat):Int):=by rw[aU (by omega) (by omega)];omega
  rw[aJ8,aC,f6,aC,f7,aC]
  have hd4:((B.drop at_).drop 4).length=B.length - at_ - 4:=by rw[br,hdl]
  by_cases c5:n+16<=((B.drop at_).drop 4).length
  rotate_left
  ·rw[zY N _ _ c5,aa,dt (by omega),cond_true]
   exact .inr ⟨_,rfl,rfl,rfl,rfl,(show(4:Int)≠0 by decide)⟩
  have e22:eD B ((at_+4:Nat):Int) ((at_+4+n+16:Nat):Int)=some (((B.drop at_).drop 4).take (n+16)):=by
   rw[aMS (by omega) (by omega),fg,ku,show at_+4+n+16 - (at_+4)=n+16 by omega]
  have hsl:(((B.drop at_).drop 4).take (n+16)).length=n+16:=by rw[bw];omega
  have hsbb:aR (((B.drop at_).drop 4).take (n+16)):=((hb.drop _).drop _).take _;rw[aD6 N _ _ c5,aa,df (by omega),cond_false,hbase,aa,nonR N (by omega) base ⟨by omega,by omega⟩,aa,hmark,aa,zJ (by rw[zV];omega) (by omega),aa,f8,f9,aC,f10,e22,aa,aQq N hN hk (aNs N (by omega) hbs _) ((aGM _ _).app hmb) hsbb (by rw[ai,zV];omega) (by omega),cq]
  dsimp only;rw[show((0:Int) != 0)=false from rfl,cond_false,concP N [aBj i n,mark] (by simp) (by show 2 < N;omega) (by intro l hl;simp only[List.mem_cons,List.not_mem_nil,or_false] at hl;rcases hl with rfl | rfl;rw[zV];omega;omega),aa,show [aBj i n,mark].flatten=aBj i n++mark by simp]
  obtain⟨r9,e9,h9⟩:=aQM N (by omega) key (aF6 N base ((i+1:Nat):Int)) (aBj i n++mark) _ hsbb (by rw[ai,zV];omega) (by omega)
  rw[e9,aa,aa,aa]
  dsimp only;rcases h9 with ⟨g0,g1,g2,_⟩ | ⟨g1,g2⟩
  ·have hpl:r9.1.length=n:=by omega
   rw[g0,show((0:Int) != 0)=false from rfl,cond_false,cond_false,zJ (by omega) (by omega),aa,aa,aC,f10,fg,fg,show at_+(4+(n+16))=at_+4+n+16 by omega]
   exact aM8 N hN hk hbs hb hB hbase hmark hm hmb m sz hsz hs2 hch k (i+1) (s++r9.1) (at_+4+n+16) (by omega) (by omega) (by rw[ai];omega) (by omega) (hsb.app g1)
  ·have hne:(r9.2 != 0)=true:=by rcases g2 with h | h <;> rw[h] <;> rfl
   rw[hne,cond_true,cond_true]
   exact .inr ⟨_,rfl,rfl,rfl,rfl,by simpa using hne⟩
theorem openE(N:Nat)(hN:70000 < N){key:Vector Int 32}(hk:aR key.toList){B:List Int}(hb:aR B)(hB:B.length<=4000):∃r,qK N key B=some r/\sA N key B=some r/\((r.2.2=0/\aB4 r.2.1)\/(r.2.2≠0/\r.1=zM/\r.2.1=zA 0)):=by
 unfold qK sA;rw[aQb N hN hk hb (by omega)]
 obtain⟨r1,e1,h1⟩:=aQP N (by omega) key B hb (by omega)
 rw[e1,aa,aa]
 rcases h1 with ⟨h1,base,hh⟩ | ⟨h1,_,_⟩
 rotate_left
 ·rw[show(r1.2 != 0)=true by simpa using h1,cond_true,cond_true]
  exact⟨_,rfl,rfl,.inr ⟨h1,rfl,rfl⟩⟩
 obtain⟨m,e⟩:=r1;dsimp only at h1 hh;subst h1;have hlen:=hh.len (by omega)
 obtain⟨q1,q2,q3,q4,q5⟩:=hh.parts (by omega)
 rw[show((0:Int) != 0)=false from rfl,cond_false,cond_false]
 obtain⟨v,ev,hv⟩:=aQL N (by omega) (B:=B) (by omega) (by omega)
 obtain⟨w,ew,hw⟩:=vecE (m:=8) (l:=(B.take 12).drop 4) (by simp;omega)
 obtain rfl:v=w:=dx.1 (by rw[hv,hw])
 have hvb:aR v.toList:=by rw[hv];exact(hb.take _).drop _
 have hmark:eD B 47 63=some ((B.take 63).drop 47):=aMS (a:=47) (b:=63) (by omega) (by omega)
 obtain⟨c0,c1,c2,c3⟩:=aQK hh.2.2.1;have c4:=aLE m.gC;obtain⟨sz,hsz⟩:=bp (show 0<=m.gR by omega)
 rw[hsz,nCh_e] at c3;have hnc:nCh sz<=8:=by unfold nCh;omega
 rw[show eD B 4 12=_ from aMS (a:=4) (b:=12) (by omega) (by omega),aa,ew,aa,hmark,aa,show eD B 63 (B.length:Int)=_ from aDj (n:=63) hlen,aa,aIx N _ (by rw[br];omega),aa]
 have key2:=aM8 N hN hk hvb hb (by omega) ev hmark (by simp;omega) ((hb.take _).drop _) m sz hsz (by omega) c3 N 0 [] 63 (by omega) (by omega) (by simp) hlen aBK;rcases key2 with ⟨s',a',g1,g2,g3,g4,g5⟩ | ⟨r,g4,g5,g6,g7,g8⟩
 ·rw[show lM N (m,0) v key ((B.take 63).drop 47) N [] (B.drop 63) 0 true 0=_ from g4,show fM N (m,0) B key N [] 63 0=_ from g5,aa,aa]
  rw[aJ8,aJ8]
  dsimp only;have hl:=br (i:=a') (l:=B)
  rw[aC,show qB N (aA.mk (B.drop a') 0 true)=some ((B.drop a').length:Int) from rfl,aa]
  by_cases c:a' < B.length
  ·rw[dt (by omega),dt (by omega),cond_true,cond_true]
   exact⟨_,rfl,rfl,.inr ⟨(show(7:Int)≠0 by decide),rfl,rfl⟩⟩
  ·rw[df (by omega),df (by omega),cond_false,cond_false,assDE N hN m.gC g3 (by omega)]
   obtain⟨r2,k1,k2⟩:=aOw N (by omega) m.gC s' g3 (by omega)
   rw[k1,aa,aa]
   rcases k2 with ⟨k2,_,_,_,k3⟩ | ⟨k2,_⟩
   ·rw[k2,show((0:Int) != 0)=false from rfl,cond_false,cond_false]
    exact⟨_,rfl,rfl,.inl ⟨rfl,k3⟩⟩
   ·rw[show(r2.2 != 0)=true by simpa using k2,cond_true,cond_true]
    exact⟨_,rfl,rfl,.inr ⟨k2,rfl,rfl⟩⟩
 ·rw[show lM N (m,0) v key ((B.take 63).drop 47) N [] (B.drop 63) 0 true 0=_ from g4,show fM N (m,0) B key N [] 63 0=_ from g5,aa,aa]
  exact⟨r,rfl,rfl,.inr ⟨g8,g6,g7⟩⟩
theorem aE0{α:Type}{eq:α->α->Bool}(h:∀a,eq a a=true)(l:List α):(l.any λe => !(eq e e))=false:=by
 rw[List.any_eq_false]
 intro x _;rw[h]
 decide
theorem aIP{m:Nat}(v:Vector Int m):eqV (λa b=>a==b) v v=true:=aNV v
theorem aPu(p:aB):aB.eq p p=true:=(aOe p p).2 rfl
theorem aQ3(N:Nat)(hN:1000 < N)(m:aK)(h1:m.gG.length<=500)(h2:m.gL.length<=500)(h3:m.gJ.length<=500):qO N m m=some true:=by
 unfold qO;rw[aC,aC,aC,aC,aC,aC,aC,aBZ,aBZ,aBZ,df (by simp),df (by simp),df (by simp)]
 rw[cond_false,cond_false,cond_false]
 rw[rG m.gG (λe => !(aB.eq e e)) false (lI N m m) (by omega) (λk i h=>by rw[lI,aC,dt (by omega),cond_true,dA h,aa,aa]) (λk=>by rw[lI,aC,df (by omega),cond_false]) (by omega),aE0 aPu,cond_false,aa,aJ8]
 rw[rG m.gL (λe => !(eqV (λa b=>a==b) e e)) false (lJ N m m) (by omega) (λk i h=>by rw[lJ,dt (by omega),aC,cond_true,dA h,aa,aa]) (λk=>by rw[lJ,df (by omega),aC,cond_false]) (by omega),aE0 aIP,cond_false,aa,aJ8]
 rw[rG m.gJ (λe => !(eqV (λa b=>a==b) e e)) false (lP N m m) (by omega) (λk i h=>by rw[lP,aC,dt (by omega),cond_true,dA h,aa,aa]) (λk=>by rw[lP,aC,df (by omega),cond_false]) (by omega),aE0 aIP,cond_false,aa,aJ8]
theorem aRd(N:Nat)(hN:1000 < N)(t:aH)(h1:t.gK.length<=500):qI N t t=some true:=by
 unfold qI;rw[aC,aC,aC,aBZ,aBZ,df (by simp),df (by simp),cond_false,cond_false]
 rw[rG t.gK (λe => !(eqV (λa b=>a==b) e e)) false (lS N t t) (by omega) (λk i h=>by rw[lS,aC,dt (by omega),cond_true,dA h,aa,aa]) (λk=>by rw[lS,aC,df (by omega),cond_false]) (by omega),aE0 aIP,cond_false,aa,aJ8]
theorem aNt(N:Nat)(hN:1000 < N)(a:aI)(h:aB4 a):lY N a a=some true:=by
 unfold lY;rw[show(a.gC==a.gC)=true from beq_self_eq_true _,cond_true,aQ3 N hN _ h.v h.u h.t,aa,cond_true,aRd N hN _ h.x,aa,cond_true,(aIF _ _).2 rfl,aC,cond_true,(aIa _ _).2 rfl,aC,aa]
theorem aGU(m:aE):aE.eq m m=true:=(aR4 m m).2 rfl
theorem aHj(N:Nat)(hN:70000 < N)(hw:pT N=some true){key:Vector Int 32}(hk:jD key){b0:List Int}(hb:aR b0):nK N key b0=some true:=by
 unfold nK;rw[aC,show(1200:Int)=((1200:Nat):Int) from rfl,aOW,aa,hw]
 have hb:=hb.take 1200;have hl:(b0.take 1200).length<=1200:=by rw[bw];omega
 revert hb hl;generalize b0.take 1200=b;intro hb hl;rw[aQb N hN hk hb (by omega)]
 obtain⟨r1,e1,_⟩:=aQP N (by omega) key b hb (by omega)
 rw[e1,aa,aa]
 obtain⟨r,e2,e3,h⟩:=openE N hN hk hb (by omega)
 rw[e2,e3,aa,aa,show(r1.2==r1.2)=true from beq_self_eq_true _,show(r.2.2==r.2.2)=true from beq_self_eq_true _,aGU,aGU]
 have z0:aB4 (zA 0):=⟨by simp[zA,lN],by simp[zA,lN],by simp[zA,lN],by simp[zA,uF]⟩
 have hA:aB4 r.2.1:=by
  rcases h with ⟨_,h⟩ | ⟨_,_,h⟩
  ·exact h
  ·rw[h];exact z0
 rw[aNt N (by omega) _ hA]
 rcases h with ⟨h,_⟩ | ⟨h1,h2,h3⟩
 ·rw[h];rfl
 ·rw[show(r.2.2 != 0)=true by simpa using h1,cond_true,h2,h3,show aE.mk 0 0 0 (ah 8 0) 0 0 0 0=zM from rfl,aGU]
  show(ae (aT (!true) λx8=>cond x8 (some true) (ae (lY N (zA 0) (zA 0)) λr9=>some (!r9))) λp7=>_)=_;rw[aNt N (by omega) _ z0]
  rfl
end Go.UK
