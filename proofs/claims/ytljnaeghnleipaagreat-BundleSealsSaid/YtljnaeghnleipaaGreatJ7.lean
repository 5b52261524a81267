/- A part of the proof: what the functions of the program compute. -/
import Derived.Test.YtljnaeghnleipaaGreatJ3
import Derived.Test.YtljnaeghnleipaaGreatJ6
open Bool renaming decide_or→bq,eq_iff_iff→ik,or_eq_false_iff→jf,or_eq_true→gs,or_false→gd,or_true→lj
open Int renaming ediv_one→md,emod_eq_of_lt→kf,tdiv→cz,tdiv_eq_ediv_of_nonneg→d9,tmod→cf,tmod_eq_emod_of_nonneg→dc,toNat_natCast→cr
open List renaming any_cons→hW,any_nil→j9,append_assoc→ap,append_nil→fb,drop_zero→ed,ext_getElem?→dh,flatMap_cons→cw,getD_eq_getElem?_getD→ar,getElem?_eq_getElem→ag,getElem?_eq_none→au,getElem?_map→cj,getElem?_range→i7,getElem?_replicate→cu,getElem?_set→cp,getElem_mem→ci,length_append→aj,length_drop→bw,length_eq_zero_iff→eu,length_singleton→ck,mem_singleton→ij,nil_append→fg,range→bz,replicate→am,take_of_length_le→bf,take_zero→jd
open Option renaming bind→ae,bind_some→aa,getD_some→dr
open Vector renaming replicate→ah,toList_setIfInBounds→bp
namespace Go.UK
open Go Go.Proofs
set_option maxRecDepth 20000
set_option maxHeartbeats 16000000
set_option linter.all false
theorem nJ(a b:Bool):cond a true b=(a||b):=by cases a <;> rfl
theorem uU{α:Type}(c:Bool)(x y:α):(cond c (some x) (some y))=some (cond c x y):=by cases c <;> rfl
theorem aNN(a b c m:Int):tM (tM a b) c > m↔a > m\/b > m\/c > m:=by unfold tM;split <;> split <;> omega
theorem aI8(a b c m:Int):lP (lP a b) c < m↔a < m\/b < m\/c < m:=by unfold lP;split <;> split <;> omega
theorem aQN(a b c m:Int):tM (tM a b) c>=m↔a>=m\/b>=m\/c>=m:=by unfold tM;split <;> split <;> omega
theorem aPy(a b m:Int):tM a b > m↔a > m\/b > m:=by unfold tM;split <;> omega
theorem aPn(a b m:Int):lP a b < m↔a < m\/b < m:=by unfold lP;split <;> omega
theorem dcg{p q:Prop}[Decidable p][Decidable q](h:p↔q):decide p=decide q:=by simp[h]
theorem aMD{α:Type}(l:List α)(hl:l.length < 9223372036854775807)(q:α->Bool){F:Nat->Int->Option (Sum Unit Int)}
  (hstep:∀k i (h:i < l.length),F (k+1) (i:Int)=cond (q l[i]) (some (Sum.inr (i:Int))) (F k (I64 ((i:Int)+1)))) (hend:∀k,F (k+1) (l.length:Int)=some (Sum.inl ())) :
  ∀(k i:Nat),i<=l.length->l.length - i < k->(ae (ae (F k (i:Int)) λo=>oP o (λp1=>some (-1)) (λr=>some r)) λr1:Int=>some (decide (r1>=0)))=some ((l.drop i).any q)
 | 0,i,_,h=>by omega
 | k+1,i,hi,hk=>by
  by_cases h:i < l.length
  ·rw[hstep k i h,List.drop_eq_getElem_cons h,hW]
   cases q l[i] with
   | true=>
    show some (decide ((i:Int)>=0))=some true;rw[dt (by omega)]
   | false=>rw[cond_false,dC (by omega),aMD l hl q hstep hend k (i+1) (by omega) (by omega)];rfl
  ·obtain rfl:i=l.length:=by omega
   rw[hend,List.drop_length]
   rfl
theorem aB3{α:Type}(l:List α)(hl:l.length < 9223372036854775807)(q:α->Bool){F:Nat->Int->Option (Sum Unit Int)}
  (hstep:∀k i (h:i < l.length),F (k+1) (i:Int)=cond (q l[i]) (some (Sum.inr (i:Int))) (F k (I64 ((i:Int)+1)))) (hend:∀k,F (k+1) (l.length:Int)=some (Sum.inl ())) {N:Nat} (hN:l.length < N) :
  (ae (ae (F N 0) λo=>oP o (λp1=>some (-1)) (λr=>some r)) λr1:Int=>some (decide (r1>=0)))=some (l.any q):=by
 have:=aMD l hl q hstep hend N 0 (by omega) (by omega)
 rwa[ed] at this
def yB(p:aB):Bool:=decide ((p.gX > 4096\/p.gX < -4096)\/(p.gY > 4096\/p.gY < -4096)\/(p.gZ > 4096\/p.gZ < -4096))
theorem aO4(N:Nat)(p:aB):nZ N p=some (yB p):=by
 unfold nZ;rw[aC,aC,uU,aa,nJ,dcg (aNN _ _ _ _),dcg (aI8 _ _ _ _),<- bq]
 exact congrArg some (dcg (by omega))
theorem aNZ(N:Nat)(p:aB):mU N p=some (yB p):=aO4 N p
theorem offR(N:Nat)(p:aB):kF N p 4096=some (yB p):=by
 unfold kF;rw[show I64 (0 - 4096) = -4096 from by decide]
 simp only[aC,nJ,<- bq]
 exact congrArg some (dcg (by omega))
def uvX(v:Vector Int 2):Bool:=decide ((v[0] < 0\/v[0] > 65535)\/(v[1] < 0\/v[1] > 65535))
theorem pairE(N:Nat)(v:Vector Int 2):oJ N v=some (uvX v):=by
 unfold oJ;simp only[aMw,aLq,aa,aC,uU,nJ]
 rw[dcg (aPn _ _ _),dcg (aPy _ _ _),<- bq]
 exact congrArg some (dcg (by omega))
def trX(n:Int)(v:Vector Int 3):Bool:=decide ((v[0] < 0\/v[0]>=n\/v[0]=v[1])\/(v[1] < 0\/v[1]>=n\/v[1]=v[2])\/(v[2] < 0\/v[2]>=n\/v[2]=v[0]))
theorem vA(a b:Int):(a==b)=decide (a=b):=by cases h:decide (a=b) <;> simp_all
theorem triE(N:Nat)(v:Vector Int 3)(m:aM):kI N v m=some (trX (m.gF.length:Int) v):=by
 unfold kI;simp only[aF9,aFr,aF0,aa,aC,uU,nJ,vA]
 rw[dcg (aI8 _ _ _ _),dcg (aQN _ _ _ _)]
 simp only[<- bq]
 exact congrArg some (dcg (by omega))
def aAT(m:aM):Int:=
 if m.gF.length > 64\/m.gI.length > 64 then 3 else if m.gF.length=0\/m.gI.length=0\/m.gJ.length≠m.gF.length then 5 else if m.gF.any yB=true then 8 else if m.gJ.any uvX=true\/m.gI.any (trX (m.gF.length:Int))=true then 5 else 0
theorem cif{α:Type}{p:Prop}[Decidable p]{b:Bool}(h:b=true↔p)(x y:α):cond b x y=if p then x else y:=by
 cases b with
 | true=>rw[if_pos (h.1 rfl)];rfl
 | false=>rw[if_neg (λq=>by simpa using h.2 q)];rfl
theorem aEz(a b:Int):(a != b)=decide (a≠b):=by rw[bne,vA];simp
theorem aPo(N:Nat)(hN:1000 < N)(m:aM)(hu:m.gJ.length<=500):jT N m=some (aAT m):=by
 unfold jT aAT;rw[aC,aC,aC]
 by_cases c1:m.gF.length > 64\/m.gI.length > 64
 ·rw[if_pos c1,nJ,<- bq,dt (by omega),cond_true]
 rw[if_neg c1,nJ,<- bq,df (by omega),cond_false,aC,aC,aC,aC,aC]
 by_cases c2:m.gF.length=0\/m.gI.length=0\/m.gJ.length≠m.gF.length
 ·rw[if_pos c2,nJ,nJ,vA,vA,aEz,<- bq,<- bq,dt (by omega),cond_true]
 rw[if_neg c2,nJ,nJ,vA,vA,aEz,<- bq,<- bq,df (by omega),cond_false]
 unfold bM bZ bY bQ cK cJ;rw[aB3 m.gF (by omega) yB (F:=aP N m.gF) (λk i h=>by rw[aP,aC,dt (by omega),cond_true,dI h,aa,aO4,aa]) (λk=>by rw[aP,aC,df (by omega),cond_false]) (by omega),aa]
 rw[aB3 m.gJ (by omega) uvX (F:=aZ N m.gJ) (λk i h=>by rw[aZ,aC,dt (by omega),cond_true,dI h,aa,pairE,aa]) (λk=>by rw[aZ,aC,df (by omega),cond_false]) (by omega),aa]
 rw[aB3 m.gI (by omega) (trX (m.gF.length:Int)) (F:=bA N m.gI m) (λk i h=>by rw[bA,aC,dt (by omega),cond_true,dI h,aa,triE,aa]) (λk=>by rw[bA,aC,df (by omega),cond_false]) (by omega),aa]
 cases m.gF.any yB <;> cases m.gJ.any uvX <;> cases m.gI.any (trX (m.gF.length:Int)) <;> rfl
theorem r13L3(N:Nat)(m:aM)(k:Nat){i:Nat}(h:i < m.gJ.length):fV N m (i:Int) (k+3) 0=some (cond (uvX m.gJ[i]) (Sum.inr 5) (Sum.inl ())):=by
 have e1:I64 (0+1)=1:=by decide
 have e2:I64 (1+1)=2:=by decide
 rw[fV,dt (by decide),cond_true,fV,e1,dt (by decide),cond_true,fV,e2,df (by decide),cond_false]
 simp only[dI h,aa,aMw,aLq,uU,nJ,<- bq]
 rw[show uvX m.gJ[i]=(decide (m.gJ[i][0] < 0\/m.gJ[i][0] > 65535)||decide (m.gJ[i][1] < 0\/m.gJ[i][1] > 65535)) from by rw[<- bq];rfl]
 cases decide (m.gJ[i][0] < 0\/m.gJ[i][0] > 65535) <;> cases decide (m.gJ[i][1] < 0\/m.gJ[i][1] > 65535) <;> rfl
theorem r13L5(N:Nat)(m:aM)(k:Nat){i:Nat}(h:i < m.gI.length):eC N m (i:Int) (k+4) 0=some (cond (trX (m.gF.length:Int) m.gI[i]) (Sum.inr 5) (Sum.inl ())):=by
 have e1:I64 (0+1)=1:=by decide
 have e2:I64 (1+1)=2:=by decide
 have e3:I64 (2+1)=3:=by decide
 have f1:cf 1 3=1:=by decide
 have f2:cf 2 3=2:=by decide
 have f3:cf 3 3=0:=by decide
 rw[eC,dt (by decide),cond_true,eC,e1,dt (by decide),cond_true,eC,e2,dt (by decide),cond_true,eC,e3,df (by decide),cond_false]
 simp only[dI h,aa,aC,f1,f2,f3,aF9,aFr,aF0,uU,nJ,vA,<- bq]
 generalize m.gI[i]=v;rw[show trX (m.gF.length:Int) v=(decide (v[0] < 0\/v[0]>=(m.gF.length:Int)\/v[0]=v[1])||(decide (v[1] < 0\/v[1]>=(m.gF.length:Int)\/v[1]=v[2])||decide (v[2] < 0\/v[2]>=(m.gF.length:Int)\/v[2]=v[0]))) from by rw[<- bq,<- bq];rfl]
 cases decide (v[0] < 0\/v[0]>=(m.gF.length:Int)\/v[0]=v[1]) <;> cases decide (v[1] < 0\/v[1]>=(m.gF.length:Int)\/v[1]=v[2]) <;> cases decide (v[2] < 0\/v[2]>=(m.gF.length:Int)\/v[2]=v[0]) <;> rfl
theorem aMT(N:Nat)(hN:1000 < N)(m:aM)(hu:m.gJ.length<=500):lU N m=some (aAT m):=by
 unfold lU aAT;rw[aC,aC,aC]
 by_cases c1:m.gF.length > 64\/m.gI.length > 64
 ·rw[if_pos c1,nJ,<- bq,dt (by omega),cond_true]
 rw[if_neg c1,nJ,<- bq,df (by omega),cond_false,aC,aC,aC,aC,aC]
 by_cases c2:m.gF.length=0\/m.gI.length=0\/m.gJ.length≠m.gF.length
 ·rw[if_pos c2,nJ,nJ,aEz,<- bq,<- bq,dt (by omega),cond_true]
 rw[if_neg c2,nJ,nJ,aEz,<- bq,<- bq,df (by omega),cond_false]
 obtain⟨k,rfl⟩:∃k,N=k+4:=⟨N - 4,by omega⟩
 rw[wL m.gF yB 8 (jD (k+4) m) (by omega) (λk i h=>by rw[jD,aC,dt (by omega),cond_true,dI h,aa,offR,aa]) (λk=>by rw[jD,aC,df (by omega),cond_false]) (by omega),aa]
 rw[wL m.gJ uvX 5 (jG (k+4) m) (by omega) (λj i h=>by
  rw[jG,aC,dt (by omega),cond_true,r13L3 (k+4) m (k+1) h,aa];cases uvX m.gJ[i] <;> rfl) (λk=>by rw[jG,aC,df (by omega),cond_false]) (by omega),aa]
 rw[wL m.gI (trX (m.gF.length:Int)) 5 (jF (k+4) m) (by omega) (λj i h=>by
  rw[jF,aC,dt (by omega),cond_true,r13L5 (k+4) m k h,aa];cases trX (m.gF.length:Int) m.gI[i] <;> rfl) (λk=>by rw[jF,aC,df (by omega),cond_false]) (by omega),aa]
 cases m.gF.any yB <;> cases m.gJ.any uvX <;> cases m.gI.any (trX (m.gF.length:Int)) <;> rfl
theorem g3_0(v:Vector Int 3):v.toList[((0:Int).toNat)]? = some v[0]:=tT v 0 (by decide)
theorem g3_1(v:Vector Int 3):v.toList[((1:Int).toNat)]? = some v[1]:=tT v 1 (by decide)
theorem g3_2(v:Vector Int 3):v.toList[((2:Int).toNat)]? = some v[2]:=tT v 2 (by decide)
theorem aOx : aQ 0 3=some ():=rfl
theorem aOy : aQ 1 3=some ():=rfl
theorem aPQ : aQ 2 3=some ():=rfl
def aAI(most:Int)(v:Vector Int 3):Bool:=decide ((v[0] < 0\/v[0] > most)\/(v[1] < 0\/v[1] > most)\/(v[2] < 0\/v[2] > most))
def aDt(s:Int):Bool:=decide (¬(s=1\/s=2\/s=4\/s=8\/s=16))
def aEr(t:aI):Int:=if aDt t.gN=true\/(t.gK.length:Int)≠I64 (t.gN*t.gN) then 5 else if t.gK.any (aAI 255)=true then 5 else 0
theorem texCE(N:Nat)(hN:1000 < N)(t:aI)(ht:t.gK.length<=500):eE N t=some (aEr t):=by
 unfold eE aEr eY kS;rw[aB3 [1,2,4,8,16] (by decide) (λe=>t.gN==e) (F:=cT N [1,2,4,8,16] t.gN) (λk i h=>by rw[cT,aC,dt (by omega),cond_true,dI h,aa]) (λk=>by rw[cT,aC,df (by omega),cond_false]) (by show 5 < N;omega),aa]
 have e:(!(([1,2,4,8,16]:List Int).any λe=>t.gN==e))=aDt t.gN:=by
  rw[ik]
  simp[aDt]
 rw[e,aC,aC,aC,nJ,aEz]
 by_cases c:aDt t.gN=true\/(t.gK.length:Int)≠I64 (t.gN*t.gN)
 ·rw[if_pos c]
  rcases c with c | c
  ·rw[c,Bool.true_or,cond_true]
  ·rw[dt c,lj,cond_true]
 rw[if_neg c]
 rw[show aDt t.gN=false by simpa using λh=>c (.inl h),df (λh=>c (.inr h)),gd,cond_false,aC]
 rw[wL t.gK (aAI 255) 5 (hU N (t.gK.length:Int) t) (by omega) (λk i h=>by
  rw[hU,dt (by omega),cond_true,dI h,aa]
  simp only[aOx,aOy,aPQ,g3_0,g3_1,g3_2,aa,aC,uU,nJ]
  rw[dcg (aI8 _ _ _ _),dcg (aNN _ _ _ _),<- bq]
  congr 1;exact dcg (by omega)) (λk=>by rw[hU,df (by omega),cond_false]) (by omega),aa]
 cases t.gK.any (aAI 255) <;> rfl
theorem aL9(most:Int)(v:Vector Int 3):aAI most v=(decide (v[0] < 0\/v[0] > most)||(decide (v[1] < 0\/v[1] > most)||decide (v[2] < 0\/v[2] > most))):=by rw[<- bq,<- bq];rfl
theorem r14L2(N:Nat)(t:aI)(k:Nat){i:Nat}(h:i < t.gK.length):dW N t (i:Int) (k+4) 0=some (cond (aAI 255 t.gK[i]) (Sum.inr 5) (Sum.inl ())):=by
 have e1:I64 (0+1)=1:=by decide
 have e2:I64 (1+1)=2:=by decide
 have e3:I64 (2+1)=3:=by decide
 rw[dW,dt (by decide),cond_true,dW,e1,dt (by decide),cond_true,dW,e2,dt (by decide),cond_true,dW,e3,df (by decide),cond_false]
 simp only[dI h,aa,aC,aF9,aFr,aF0,uU,nJ,<- bq]
 generalize t.gK[i]=v;rw[aL9]
 cases decide (v[0] < 0\/v[0] > 255) <;> cases decide (v[1] < 0\/v[1] > 255) <;> cases decide (v[2] < 0\/v[2] > 255) <;> rfl
theorem aPN(a b:Bool):cond a b false=(a&&b):=by cases a <;> rfl
theorem aPT(N:Nat)(hN:1000 < N)(t:aI)(ht:t.gK.length<=500):lX N t=some (aEr t):=by
 unfold lX aEr;simp only[aC,aPN,nJ,aEz,<- Bool.decide_and,<- bq]
 obtain⟨k,rfl⟩:∃k,N=k+4:=⟨N - 4,by omega⟩
 have e:aDt t.gN=true↔((((t.gN≠1/\t.gN≠2)/\t.gN≠4)/\t.gN≠8)/\t.gN≠16):=by
  unfold aDt;rw[decide_eq_true_eq]
  omega
 by_cases c:aDt t.gN=true\/(t.gK.length:Int)≠I64 (t.gN*t.gN)
 ·rw[if_pos c]
  rw[e] at c;rw[dt c,cond_true]
 ·rw[if_neg c]
  rw[e] at c;rw[df c,cond_false]
  rw[wL t.gK (aAI 255) 5 (jH (k+4) t) (by omega) (λj i h=>by
   rw[jH,aC,dt (by omega),cond_true,r14L2 (k+4) t k h,aa];cases aAI 255 t.gK[i] <;> rfl) (λk=>by rw[jH,aC,df (by omega),cond_false]) (by omega),aa]
  cases t.gK.any (aAI 255) <;> rfl
def oX(most x:Int):Bool:=decide (x < 0\/x > most)
theorem aJ3(N:Nat)(hN:1000 < N)(most:Int)(l:List Int)(hl:l.length<=500):iD N most l=some (l.any (oX most)):=by
 unfold iD cD cV;rw[aB3 l (by omega) (oX most) (F:=bD N l most) (λk i h=>by
  rw[bD,aC,dt (by omega),cond_true,dI h,aa,oQ,aC,nJ,<- bq,aa];rfl) (λk=>by rw[bD,aC,df (by omega),cond_false]) (by omega),aa]
def aHm(m:aF):Int:=if (oX 4 m.gC||(aAI 65535 m.gE||oX 65535 m.gA1))=true then 5 else 0
theorem matCE(N:Nat)(hN:1000 < N)(m:aF):lZ N m=some (aHm m):=by
 unfold lZ aHm;rw[aJ3 N hN 4 _ (by simp),aa]
 simp only[aF9,aFr,aF0,aa]
 rw[aJ3 N hN 65535 _ (by simp),aa,uU,nJ,aa,uU]
 simp only[hW,j9,gd]
 rw[aL9,<- Bool.or_assoc (decide (m.gE[0] < 0\/m.gE[0] > 65535))]
 unfold oX;cases decide (m.gC < 0\/m.gC > 4) <;> cases decide (m.gE[0] < 0\/m.gE[0] > 65535) <;> cases decide (m.gE[1] < 0\/m.gE[1] > 65535) <;> cases decide (m.gE[2] < 0\/m.gE[2] > 65535) <;> cases decide (m.gA1 < 0\/m.gA1 > 65535) <;> rfl
theorem r15M(N:Nat)(m:aF)(k:Nat):cX N m (k+4) 0=some (cond (aAI 65535 m.gE) (Sum.inr 5) (Sum.inl ())):=by
 have e1:I64 (0+1)=1:=by decide
 have e2:I64 (1+1)=2:=by decide
 have e3:I64 (2+1)=3:=by decide
 rw[cX,dt (by decide),cond_true,cX,e1,dt (by decide),cond_true,cX,e2,dt (by decide),cond_true,cX,e3,df (by decide),cond_false]
 simp only[aa,aC,aF9,aFr,aF0,uU,nJ,<- bq]
 generalize m.gE=v;rw[aL9]
 cases decide (v[0] < 0\/v[0] > 65535) <;> cases decide (v[1] < 0\/v[1] > 65535) <;> cases decide (v[2] < 0\/v[2] > 65535) <;> rfl
theorem matCR(N:Nat)(hN:1000 < N)(m:aF):lO N m=some (aHm m):=by
 unfold lO aHm;obtain⟨k,rfl⟩:∃k,N=k+4:=⟨N - 4,by omega⟩
 simp only[aC,nJ,<- bq]
 rw[r15M,aa,show(decide (((m.gC < 0\/m.gC > 4)\/m.gA1 < 0)\/m.gA1 > 65535))=(oX 4 m.gC||oX 65535 m.gA1) from by unfold oX;rw[<- bq];exact dcg (by omega)]
 cases oX 4 m.gC <;> cases aAI 65535 m.gE <;> cases oX 65535 m.gA1 <;> rfl
def pN(p:aB):Bool := !(aB.eq p (aB.mk 0 0 0))
def aH9(l:aJ):Int:=if (oX 2 l.gC||aAI 1048576 l.gE)=true then 5 else if (yB l.gAt||(yB l.gU||yB l.gV))=true then 8 else if (l.gC=2/\pN l.gAt=true)\/(l.gC≠1/\(pN l.gU||pN l.gV)=true) then 5 else 0
theorem slc3(v:Vector Int 3):eU v.toList 0 3=some [v[0],v[1],v[2]]:=by
 have h:eU v.toList 0 3=some v.toList:=aJL (m:=3) v;rw[h]
 congr 1;apply List.ext_getElem (by simp)
 intro i h1 h2;have:i < 3:=by simpa using h1
 match i,this with
 | 0,_=>simp
 | 1,_=>simp
 | 2,_=>simp
theorem out3l(most:Int)(v:Vector Int 3):[v[0],v[1],v[2]].any (oX most)=aAI most v:=by
 rw[aL9]
 simp only[hW,j9,gd]
 rfl
theorem ligCE(N:Nat)(hN:1000 < N)(l:aJ):pG N l=some (aH9 l):=by
 unfold pG aH9;rw[aJ3 N hN 2 _ (by simp),aa,slc3,aa,aJ3 N hN 1048576 _ (by simp),aa,out3l,aNZ,aa,aNZ,aa,aNZ,aa]
 simp only[hW,j9,gd,uU,nJ,aa,aC]
 change _=some (if _ then _ else if _ then _ else _)
 have k2:(l.gC==2)=decide (l.gC=2):=vA _ _;have k0:(l.gC==0)=decide (l.gC=0):=vA _ _;rw[k2,k0]
 cases hx:(oX 2 l.gC||aAI 1048576 l.gE) with
 | true=>rfl
 | false=>
  have kr:0<=l.gC/\l.gC<=2:=by
   have:=(jf.1 hx).1;unfold oX at this;have:=of_decide_eq_false this;omega
  rw[cond_false,if_neg (by decide)]
  cases (yB l.gAt||(yB l.gU||yB l.gV)) with
  | true=>rfl
  | false=>
   rw[cond_false,if_neg (by decide)]
   show oP (cond (decide (l.gC=2)) (cond (pN l.gAt) (Sum.inr (5:Int)) (cond (pN l.gU||pN l.gV) (Sum.inr 5) (Sum.inl ()))) (cond (decide (l.gC=0)) (cond (pN l.gU||pN l.gV) (Sum.inr 5) (Sum.inl ())) (Sum.inl ()))) (λ_=>some (0:Int)) (λr=>some r)=_;by_cases q2:l.gC=2
   ·rw[dt q2,cond_true]
    cases h1:pN l.gAt with
    | true=>rw[if_pos (.inl ⟨q2,rfl⟩)];rfl
    | false=>
     cases h2:(pN l.gU||pN l.gV) with
     | true=>rw[if_pos (.inr ⟨by omega,rfl⟩)];rfl
     | false=>rw[if_neg (by simp)];rfl
   ·rw[df q2,cond_false]
    by_cases q0:l.gC=0
    ·rw[dt q0,cond_true]
     cases h2:(pN l.gU||pN l.gV) with
     | true=>rw[if_pos (.inr ⟨by omega,rfl⟩)];rfl
     | false=>rw[if_neg (by simp;intro h;exact absurd h q2)];rfl
    ·rw[df q0,cond_false,if_neg (by rintro(⟨h,_⟩ | ⟨h,_⟩) <;> omega)]
     rfl
theorem r15L(N:Nat)(m:aJ)(k:Nat):dZ N m (k+4) 0=some (cond (aAI 1048576 m.gE) (Sum.inr 5) (Sum.inl ())):=by
 have e1:I64 (0+1)=1:=by decide
 have e2:I64 (1+1)=2:=by decide
 have e3:I64 (2+1)=3:=by decide
 rw[dZ,dt (by decide),cond_true,dZ,e1,dt (by decide),cond_true,dZ,e2,dt (by decide),cond_true,dZ,e3,df (by decide),cond_false]
 simp only[aa,aC,aF9,aFr,aF0,uU,nJ,<- bq]
 generalize m.gE=v;rw[aL9]
 cases decide (v[0] < 0\/v[0] > 1048576) <;> cases decide (v[1] < 0\/v[1] > 1048576) <;> cases decide (v[2] < 0\/v[2] > 1048576) <;> rfl
theorem ligCR(N:Nat)(hN:1000 < N)(l:aJ):oH N l=some (aH9 l):=by
 unfold oH aH9;obtain⟨k,rfl⟩:∃k,N=k+4:=⟨N - 4,by omega⟩
 rw[r15L,offR,aa,offR,aa,offR,aa]
 simp only[aC,nJ,uU,<- bq,aa]
 have k2:(l.gC==2)=decide (l.gC=2):=vA _ _;have k1:(l.gC != 1)=decide (l.gC≠1):=aEz _ _;rw[k2,k1]
 show cond (oX 2 l.gC) (some (5:Int)) (oP (cond (aAI 1048576 l.gE) (Sum.inr (5:Int)) (Sum.inl ())) (λ_=>some (cond (yB l.gAt||(yB l.gU||yB l.gV)) (8:Int) (cond (cond (decide (l.gC=2)) (pN l.gAt||cond (decide (l.gC≠1)) (pN l.gU||pN l.gV) false) (cond (decide (l.gC≠1)) (pN l.gU||pN l.gV) false)) 5 0))) (λr=>some r))=_;cases hx:oX 2 l.gC with
 | true=>rfl
 | false=>
  rw[cond_false,Bool.false_or]
  cases aAI 1048576 l.gE with
  | true=>rfl
  | false=>
   cases (yB l.gAt||(yB l.gU||yB l.gV)) with
   | true=>rfl
   | false=>
    rw[if_neg (by decide),if_neg (by decide)]
    show some (cond _ (5:Int) 0)=_;congr 1;refine cif ?_ _ _;by_cases q2:l.gC=2
    ·rw[dt q2,cond_true,dt (by omega),cond_true,gs]
     constructor
     ·rintro(h | h)
      ·exact .inl ⟨q2,h⟩
      ·exact .inr ⟨by omega,h⟩
     ·rintro(h | h)
      ·exact .inl h.2
      ·exact .inr h.2
    ·rw[df q2,cond_false,aPN,Bool.and_eq_true,decide_eq_true_eq]
     constructor
     ·exact .inr
     ·rintro(h | h)
      ·exact absurd h.1 q2
      ·exact h
theorem aFp{n:Nat}(B:Nat->Int){t:Nat}(h:t < n):((bz n).map B).take (t+1)=((bz n).map B).take t++[B t]:=by
 rw[List.take_succ,cj,i7 h]
 rfl
theorem aO2(N w:Nat)(hw:w<=8):∀(k i:Nat),i<=w->w - i < k->mL N (w:Int) k (cI i - 1) (i:Int)=some (cI w - 1)
 | 0,_,_,h=>by omega
 | k+1,i,hi,hk=>by
  rw[mL]
  by_cases h:i < w
  ·have hb:cI i<=72057594037927936:=by
    have:∀i:Fin 8,cI i.val<=72057594037927936:=by decide
    exact this ⟨i,by omega⟩
   have hp:=yO i;have e:U64 (U64 ((cI i - 1)*256)+255)=cI (i+1) - 1:=by rw[aNH,fF (x:=(cI i - 1)*256) (by omega) (by omega),fF (by omega) (by omega)];omega
   rw[dt (by omega),cond_true,aC,e,dC (by omega)]
   exact aO2 N w hw k (i+1) (by omega) (by omega)
  ·obtain rfl:i=w:=by omega
   rw[df (by omega),cond_false]
theorem aL4(N:Nat)(hN:8 < N)(w:Nat)(hw:w<=8):jA N (w:Int)=some (cI w - 1):=by
 unfold jA;have:=aO2 N w hw N 0 (by omega) (by omega)
 rw[show cI 0 - 1=0 from rfl,show((0:Nat):Int)=0 from rfl] at this;rw[this,aa]
theorem aMa(N w:Nat)(hw:w<=8)(x:Int)(hx:0<=x/\x < 18446744073709551616)(s:List Int)(hs:s.length<=100000000000000):∀(k i:Nat),i<=w->w - i < k->mX N (w:Int) k (s++(leB w x).take i) (x / cI i) (i:Int)=some (s++leB w x)
 | 0,_,_,h=>by omega
 | k+1,i,hi,hk=>by
  rw[mX]
  by_cases h:i < w
  ·have hp:=yO i;have h0:0<=x / cI i:=Int.ediv_nonneg hx.1 (by omega)
   have h1:x / cI i<=x:=Int.ediv_le_self _ hx.1;have e1:U8 (cf (x / cI i) 256)=U8 (shr .u64 x ((8*i:Nat):Int)):=by
    rw[aJi _ _ (by omega),dc h0,aBg,aBg];omega
   have e2:U64 (cz (x / cI i) 256)=x / cI (i+1):=by
    rw[div_s,d9 h0,fF (by omega) (by omega)]
   have e3:(leB w x).take (i+1)=(leB w x).take i++[U8 (shr .u64 x ((8*i:Nat):Int))]:=aFp _ h;rw[dt (by omega),cond_true,kX (by simp[jB];omega),aa,e1,e2,dC (by omega),ap,<- e3]
   exact aMa N w hw x hx s hs k (i+1) (by omega) (by omega)
  ·obtain rfl:i=w:=by omega
   rw[df (by omega),cond_false,bf (by rw[jB];omega)]
theorem putR(N:Nat)(b:List Int)(w:Nat)(hw0:1<=w)(hw:w<=8)(ns:List Int)(hns:aLy ns)(hb:b.length<=10000000000000)(hl:ns.length<=1000000000000)(hN:8 < N)(hlN:ns.length < N):bJ N b (w:Int) ns=some (aGr b w ns):=by
 unfold bJ;rw[df (show ¬(w:Int) < 1 by omega),df (show ¬(w:Int) > 8 by omega),cond_false,aC,cond_false,kX (by simp;omega),aa,fg]
 have:=aCQ ns (by omega) (big w) (leB w) (([],3):List Int×Int) (λs i=>s.length<=10000000000000+8*i) (λk s i=>lC N ns (w:Int) k s i) (by intro s i h hs;simp[jB];omega) (λk s i h hs=>by
  have hx:=hns _ (ci h)
  rw[lC,aC,dt (by omega),cond_true,dI h,aa,aL4 N hN w hw,aa]
  have e:decide (ns[i] > cI w - 1)=big w ns[i]:=by
   unfold big;by_cases hb:cI w<=ns[i]
   ·rw[dt hb,dt (by omega)]
   ·rw[df hb,df (by omega)]
  rw[e]
  cases hbg:big w ns[i] with
  | true=>rfl
  | false=>
   have:=aMa N w hw ns[i] hx s (by omega) N 0 (by omega) (by omega)
   rw[jd,fb,show cI 0=1 from rfl,md,show((0:Nat):Int)=0 from rfl] at this;rw[cond_false,cond_false,aa,this,aa]) (λk s=>by rw[lC,aC,df (by omega),cond_false]) N 0 b (by omega) (by omega) (by omega)
 rw[show((0:Nat):Int)=0 from rfl,ed] at this;rw[this,aa]
 unfold aGr;cases ns.any (big w) <;> rfl
theorem sgnR(N:Nat)(b:List Int)(w:Nat)(hw0:1<=w)(hw:w<=8)(ns:List Int)(hns:aMC ns)(hb:b.length<=10000000000000)(hl:ns.length<=1000000000000)(hN:8 < N)(hlN:ns.length < N):kY N b (w:Int) ns=some (aMZ b w ns):=by
 unfold kY;have hp:=yO w;have hp2:cI w / 2*2=cI w:=by
  have:∀i:Fin 9,1<=i.val->cI i.val / 2*2=cI i.val:=by decide
  exact this ⟨w,by omega⟩ hw0
 have hp3:cI w<=18446744073709551616:=by
  have:∀i:Fin 9,cI i.val<=18446744073709551616:=by decide
  exact this ⟨w,by omega⟩
 have e3:I64 (U64 (cz (cI w - 1) 2))=cI w / 2 - 1:=by
  rw[d9 (by omega),fF (by omega) (by omega),aW (by omega) (by omega)];omega
 rw[df (show ¬(w:Int) < 1 by omega),df (show ¬(w:Int) > 8 by omega),cond_false,aC,cond_false,aL4 N hN w hw,aa,aC,e3]
 have:=aCQ ns (by omega) (aCO w) (λx=>[x % cI w]) (([],3):List Int×Int) (λs i=>s.length=i) (λk s i=>iO N ns (cI w / 2 - 1) (w:Int) k s i) (by intro s i h hs;simp;omega) (λk s i h hs=>by
  have hx:=hns _ (ci h)
  obtain⟨x0,x1⟩:=hx;have f:I64 (I64 (0 - (cI w / 2 - 1)) - 1) = -(cI w / 2):=by rw[aW (x:=0 - (cI w / 2 - 1)) (by omega) (by omega),aW (by omega) (by omega)];omega
  rw[iO,aC,dt (by omega),cond_true,dI h,aa,aa,aC,f]
  generalize ns[i]=x at *;have e:(cond (decide (x > cI w / 2 - 1)) (some true) (some (decide (x < -(cI w / 2)))))=some (aCO w x):=by
   unfold aCO;by_cases h1:cI w / 2<=x
   ·rw[dt (show x > cI w / 2 - 1 by omega),dt h1,lj];rfl
   ·rw[df (show ¬x > cI w / 2 - 1 by omega),df h1,gd];rfl
  rw[e,aa]
  cases hbg:aCO w x with
  | true=>rfl
  | false=>
   unfold aCO at hbg;rw[jf,decide_eq_false_iff_not,decide_eq_false_iff_not] at hbg;obtain⟨b1,b2⟩:=hbg;have e2:(cond (decide (x < 0)) (ae (jA N (w:Int)) λr15=>ae (some x) λe16=>aO (I64 (0 - I64 (e16+1))) λx17=>some (U64 (r15 - U64 x17))) (some (U64 x)))=some (x % cI w):=by
    by_cases hneg:x < 0
    ·rw[dt hneg,cond_true,aL4 N hN w hw,aa,aa,aC,aW (x:=x+1) (by omega) (by omega),aW (x:=0 - (x+1)) (by omega) (by omega),fF (x:=0 - (x+1)) (by omega) (by omega),fF (by omega) (by omega)]
     have:x % cI w=x+cI w:=by
      rw[<- Int.add_emod_right,kf (by omega) (by omega)]
     rw[this]
     congr 1;omega
    ·rw[df hneg,cond_false,fF (by omega) (by omega),kf (by omega) (by omega)]
   rw[cond_false,cond_false,aa,aa,e2,aa,kX (by simp;omega),aa]) (λk s=>by rw[iO,aC,df (by omega),cond_false]) N 0 [] rfl (by omega) (by omega)
 rw[show((0:Nat):Int)=0 from rfl,ed,fg] at this;rw[this,aa]
 unfold aMZ;cases ns.any (aCO w) with
 | true=>rfl
 | false=>
  rw[cond_false,cond_false]
  show ae (bJ N b (w:Int) (ns.flatMap λx=>[x % cI w])) _=_;rw[show(ns.flatMap λx=>[x % cI w])=ns.map (λx=>x % cI w) by
   clear this hns hl hlN
   induction ns with
   | nil=>rfl
   | cons a l ih=>simp[cw,ih]]
  rw[putR N b w hw0 hw _ (by intro y hy;obtain⟨x,_,rfl⟩:=List.mem_map.1 hy;exact modU w hw x) hb (by simpa using hl) hN (by simpa using hlN),aa]
theorem aNc(N:Nat)(b:List Int)(w:Nat)(hw0:1<=w)(hw:w<=8)(ns:List Int)(hns:aLy ns)(hb:b.length<=1000000)(hl:ns.length<=100)(hN:100 < N):bJ N b (w:Int) ns=bO N b (w:Int) ns:=by
 rw[putR N b w hw0 hw ns hns (by omega) (by omega) (by omega) (by omega),aNG N b w hw0 hw ns hns (by omega) (by omega) (by omega) (by omega)]
theorem aHL(N:Nat)(hN:100 < N)(b:List Int)(p:aB)(h:ptG p)(hb:b.length<=1000000):hP N b p=some (b++ptB p):=by
 obtain⟨hx,hy,hz⟩:=h;have hi:aMC [p.gX,p.gY,p.gZ]:=by intro q hq;simp at hq;unfold aA4;rcases hq with rfl | rfl | rfl <;> omega
 have e1:=sgnP N b 2 (by decide) (by decide) [p.gX,p.gY,p.gZ] hi (by omega) (by simp) (by omega) (by simp;omega)
 have e2:=sgnR N b 2 (by decide) (by decide) [p.gX,p.gY,p.gZ] hi (by omega) (by simp) (by omega) (by simp;omega)
 have e3:=sgn3 N (by omega) b p ⟨hx,hy,hz⟩ hb;rw[show kW N b 2 [p.gX,p.gY,p.gZ]=_ from e1] at e3;unfold hP;rw[show kY N b 2 [p.gX,p.gY,p.gZ]=_ from e2,e3]
 rfl
theorem aMy{x:Int}(h:0<=x/\x < 65536):leB 2 x=[U8 (cf x 256),U8 (I64 (cz x 256))]:=by
 rw[show leB 2 x=[U8 (shr .u64 x ((8*0:Nat):Int)),U8 (shr .u64 x ((8*1:Nat):Int))] from rfl,aJi x 0 (by decide),aJi x 1 (by decide),show cI 0=1 from rfl,show cI 1=256 from rfl,dc h.1,d9 h.1,aW (by omega) (by omega),md,aBg,aBg,aBg]
 congr 1;omega
theorem trB1{v:Vector Int 3}(h:trG 256 v):trB 1 v=[v[0],v[1],v[2]]:=by
 obtain⟨q0,q1,q2⟩:=h;unfold trB;rw[zJ q0,zJ q1,zJ q2]
 rfl
theorem aPe(N:Nat)(hN:1000 < N)(m:aM)(g:aGP m)(h0:aAT m=0):mY N m=some (aH3 m,0):=by
 have nv:=g.nv;have nt:=g.nt;have nu:=g.nu;unfold mY;rw[aMT N hN m (by omega),h0,aa,show((0:Int) != 0)=false from rfl,cond_false,aC,aC,qZ (x:=(m.gF.length:Int)) (by omega) (by omega),qZ (x:=(m.gI.length:Int)) (by omega) (by omega)]
 have e1:I64 (0+1)=1:=by decide
 have e2:I64 (1+1)=2:=by decide
 have e3:I64 (2+1)=3:=by decide
 obtain⟨kN,rfl⟩:∃k,N=k+4:=⟨N - 4,by omega⟩
 have l1:=lY m.gF.length (by omega) (λi=>ptB (m.gF.getD i ⟨0,0,0⟩)) (λs i=>s.length<=100+6*i) (iP (kN+4) m) (by intro s i hi hs;simp[yZ];omega) (λk s i hi hs=>by
  have hp:=g.v _ (ci hi)
  rw[iP,aC,dt (by omega),cond_true,dI hi,aa,aHL (kN+4) (by omega) s _ hp (by omega),aa]
  rw[ar,ag hi]
  rfl) (λk s=>by rw[iP,aC,df (by omega),cond_false]) (N:=kN+4) (by omega) (s:=[(m.gF.length:Int),(m.gI.length:Int)]) (by simp)
 rw[l1,aa,hflat m.gF ⟨0,0,0⟩ ptB]
 have hlen1:=aAU yZ m.gF;have l2:=lY m.gJ.length (by omega) (λi=>uvB (m.gJ.getD i #v[0,0])) (λs i=>s.length<=1000+4*i) (iM (kN+4) m) (by intro s i hi hs;simp[aEK];omega) (λk s i hi hs=>by
  have hp:=g.u _ (ci hi)
  rw[iM,aC,dt (by omega),cond_true]
  rw[iK,dt (by decide),cond_true,dI hi,aa,aMw,aa,aa,aMw,aa,aC,rJ (by omega) (by simp),aa,<- aMy hp.1,e1,iK,dt (by decide),cond_true,dI hi,aa,aLq,aa,aa,aLq,aa,aC,rJ (by rw[aj,jB];omega) (by simp),aa,<- aMy hp.2,e2,iK,df (by decide),cond_false,aa,ap,ar,ag hi]
  rfl) (λk s=>by rw[iM,aC,df (by omega),cond_false]) (N:=kN+4) (by omega) (s:=[(m.gF.length:Int),(m.gI.length:Int)]++m.gF.flatMap ptB) (by simp at hlen1 ⊢;omega)
 rw[l2,aa,hflat m.gJ #v[0,0] uvB]
 have hlen2:=aAU aEK m.gJ;have l3:=lY m.gI.length (by omega) (λi=>trB 1 (m.gI.getD i #v[0,0,0])) (λs i=>s.length<=2000+3*i) (iN (kN+4) m) (by intro s i hi hs;simp[aB8];omega) (λk s i hi hs=>by
  have hp:=g.t _ (ci hi)
  obtain⟨q0,q1,q2⟩:=hp;rw[iN,aC,dt (by omega),cond_true]
  rw[fB,dt (by decide),cond_true,dI hi,aa,aF9,aa,rJ (by omega) (by simp),aa,e1,fB,dt (by decide),cond_true,dI hi,aa,aFr,aa,rJ (by rw[aj,ck];omega) (by simp),aa,e2,fB,dt (by decide),cond_true,dI hi,aa,aF0,aa,rJ (by simp only[aj,ck];omega) (by simp),aa,e3,fB,df (by decide),cond_false,aa,qZ q0.1 q0.2,qZ q1.1 q1.2,qZ q2.1 q2.2,ap,ap,ar,ag hi,dr,trB1 ⟨q0,q1,q2⟩]
  rfl) (λk s=>by rw[iN,aC,df (by omega),cond_false]) (N:=kN+4) (by omega) (s:=[(m.gF.length:Int),(m.gI.length:Int)]++m.gF.flatMap ptB++m.gJ.flatMap uvB) (by simp at hlen1 hlen2 ⊢;omega)
 rw[l3,aa,hflat m.gI #v[0,0,0] (trB 1)]
 unfold aH3;rw[zJ (x:=(m.gF.length:Int)) ⟨by omega,by omega⟩,zJ (x:=(m.gI.length:Int)) ⟨by omega,by omega⟩]
 simp[ap]
theorem texER(N:Nat)(hN:1000 < N)(t:aI)(g:aLC t)(h0:aEr t=0):nA N t=some (aM2 t,0):=by
 unfold nA;have n1:=g.side;have n2:=g.n;have n3:t.gN*t.gN<=16*16:=Int.mul_le_mul n1.2 n1.2 (by omega) (by decide)
 rw[aPT N hN t (by omega),h0,aa,show((0:Int) != 0)=false from rfl,cond_false,qZ (x:=t.gN) (by omega) (by omega)]
 have e1:I64 (0+1)=1:=by decide
 have e2:I64 (1+1)=2:=by decide
 have e3:I64 (2+1)=3:=by decide
 obtain⟨kN,rfl⟩:∃k,N=k+4:=⟨N - 4,by omega⟩
 have l3:=lY t.gK.length (by omega) (λi=>trB 1 (t.gK.getD i #v[0,0,0])) (λs i=>s.length<=2000+3*i) (iH (kN+4) t) (by intro s i hi hs;simp[aB8];omega) (λk s i hi hs=>by
  have hp:=g.t _ (ci hi)
  obtain⟨q0,q1,q2⟩:=hp;rw[iH,aC,dt (by omega),cond_true]
  rw[eZ,dt (by decide),cond_true,dI hi,aa,aF9,aa,rJ (by omega) (by simp),aa,e1,eZ,dt (by decide),cond_true,dI hi,aa,aFr,aa,rJ (by rw[aj,ck];omega) (by simp),aa,e2,eZ,dt (by decide),cond_true,dI hi,aa,aF0,aa,rJ (by simp only[aj,ck];omega) (by simp),aa,e3,eZ,df (by decide),cond_false,aa,qZ q0.1 q0.2,qZ q1.1 q1.2,qZ q2.1 q2.2,ap,ap,ar,ag hi,dr,trB1 ⟨q0,q1,q2⟩]
  rfl) (λk s=>by rw[iH,aC,df (by omega),cond_false]) (N:=kN+4) (by omega) (s:=[t.gN]) (by simp)
 rw[l3,aa,hflat t.gK #v[0,0,0] (trB 1)]
 unfold aM2;rw[zJ (x:=t.gN) ⟨by omega,by omega⟩]
theorem aNU(N:Nat)(hN:1000 < N)(a:aE)(g:aKw a)(h1:a.gC=1->aAT a.gQ=0)(h2:a.gC=2->aEr a.gW=0):jW N a=some (qW a):=by
 unfold jW qW;rcases g with ⟨k,g⟩ | ⟨k,g⟩ | ⟨k,g⟩ | ⟨k,g⟩
 ·rw[k,show((1:Int)==1)=true from rfl,cond_true,aPe N hN _ g (h1 k),if_pos rfl]
  rfl
 ·rw[k,show((2:Int)==1)=false from rfl,show((2:Int)==2)=true from rfl,cond_false,cond_true,texER N hN _ g (h2 k),if_neg (by decide),if_pos rfl]
  rfl
 ·rw[k,show((3:Int)==1)=false from rfl,show((3:Int)==2)=false from rfl,show((3:Int)==3)=true from rfl,cond_false,cond_false,cond_true,if_neg (by decide),if_neg (by decide),if_pos rfl]
  obtain⟨g1,⟨g2,g3,g4⟩,g5⟩:=g;rw[aOx,aa,g3_0,aa,aOy,aa,g3_1,aa,aPQ,aa,g3_2,aa,qZ g1.1 g1.2]
  have l:=lY 4 (by decide) (λi=>leB 2 ([a.gG.gE[0],a.gG.gE[1],a.gG.gE[2],a.gG.gA1].getD i 0)) (λs i=>s.length<=100+2*i) (jL N a.gG.gE[0] a.gG.gE[1] a.gG.gE[2] a) (by intro s i hi hs;simp[jB];omega) (λk s i hi hs=>by
   have hx:0<=[a.gG.gE[0],a.gG.gE[1],a.gG.gE[2],a.gG.gA1].getD i 0/\[a.gG.gE[0],a.gG.gE[1],a.gG.gE[2],a.gG.gA1].getD i 0 < 65536:=by
    have:i=0\/i=1\/i=2\/i=3:=by omega
    rcases this with rfl | rfl | rfl | rfl
    ·exact g2
    ·exact g3
    ·exact g4
    ·exact g5
   rw[jL,dt (by omega),cond_true,aIH (by simp;omega),aa,aa,aC,<- aMy hx,rJ (by omega) (by rw[jB];omega),aa]) (λk s=>by rw[jL,df (by omega),cond_false]) (N:=N) (by omega) (s:=[a.gG.gC]) (by simp)
  rw[l,aa]
  unfold matB trB;rw[zJ g1]
  rfl
 ·rw[k,show((4:Int)==1)=false from rfl,show((4:Int)==2)=false from rfl,show((4:Int)==3)=false from rfl,cond_false,cond_false,cond_false,if_neg (by decide),if_neg (by decide),if_neg (by decide)]
  obtain⟨g1,⟨g2,g3,g4⟩,g5,g6,g7⟩:=g;rw[qZ g1.1 g1.2]
  have l:=lY 3 (by decide) (λi=>leB 4 (a.gD.gE.toList.getD i 0)) (λs i=>s.length<=100+4*i) (jM N a) (by intro s i hi hs;simp[jB];omega) (λk s i hi hs=>by
   have hx:0<=a.gD.gE.toList.getD i 0/\a.gD.gE.toList.getD i 0 < 4294967296:=by
    have:i=0\/i=1\/i=2:=by omega
    rcases this with rfl | rfl | rfl
    ·rw[yH _ 0 (by decide)];exact g2
    ·rw[yH _ 1 (by decide)];exact g3
    ·rw[yH _ 2 (by decide)];exact g4
   have ti:((i:Nat):Int).toNat=i:=rfl;have e:=aJh N (by omega) s 4 (by decide) (by decide) _ hx.1 hx.2 (by omega)
   rw[<- aNc N s 4 (by decide) (by decide) _ (by intro q hq;rw[ij.1 hq];exact⟨hx.1,by omega⟩) (by omega) (by simp) (by omega)] at e;rw[jM,dt (by omega),cond_true,dS (by omega) (by omega),aa,ti,tS (by simp;omega),aa,fF hx.1 (by omega),show bJ N s 4 _=_ from e,aa]) (λk s=>by rw[jM,df (by omega),cond_false]) (N:=N) (by omega) (s:=[a.gD.gC]) (by simp)
  have lw:([a.gD.gC]++(bz 3).flatMap (λi=>leB 4 (a.gD.gE.toList.getD i 0)))=leB 1 a.gD.gC++trB 4 a.gD.gE:=by
   rw[zJ g1,show(bz 3)=[0,1,2] from rfl]
   simp only[cw,List.flatMap_nil,fb]
   rw[yH _ 0 (by decide),yH _ 1 (by decide),yH _ 2 (by decide)]
   rfl
  rw[l,lw,aa]
  have lt:=aB8 4 a.gD.gE;have l1:=jB 1 a.gD.gC;have la:=yZ a.gD.gAt;have lu:=yZ a.gD.gU;rw[aHL N (by omega) _ _ g5 (by rw[aj];omega),aa,aHL N (by omega) _ _ g6 (by simp only[aj];omega),aa,aHL N (by omega) _ _ g7 (by simp only[aj];omega),aa]
  unfold ligB;simp only[ap]
def wQ(a:aE):Int:=if a.gC=1 then aAT a.gQ else if a.gC=2 then aEr a.gW else if a.gC=3 then aHm a.gG else if a.gC=4 then aH9 a.gD else 12
theorem aNQ(N:Nat)(hN:1000 < N)(a:aE)(h:aD6 a):mN N a=some (wQ a):=by
 unfold mN wQ;rw[vA,vA,vA,vA,aPo N hN _ h.u,texCE N hN _ h.x,matCE N hN,ligCE N hN]
 by_cases k1:a.gC=1
 ·rw[dt k1,if_pos k1];rfl
 rw[df k1,if_neg k1]
 by_cases k2:a.gC=2
 ·rw[dt k2,if_pos k2];rfl
 rw[df k2,if_neg k2]
 by_cases k3:a.gC=3
 ·rw[dt k3,if_pos k3];rfl
 rw[df k3,if_neg k3]
 by_cases k4:a.gC=4
 ·rw[dt k4,if_pos k4];rfl
 rw[df k4,if_neg k4]
 rfl
theorem aPl{a:aE}(k:a.gC=1):qR a↔(a.gW=xU/\a.gG=yN/\a.gD=yD):=by
 obtain⟨gk,gm,gt,ga,gl⟩:=a;dsimp only at k;subst k;unfold qR;simp
theorem aQx{a:aE}(k:a.gC=2):qR a↔(a.gQ=sP/\a.gG=yN/\a.gD=yD):=by
 obtain⟨gk,gm,gt,ga,gl⟩:=a;dsimp only at k;subst k;unfold qR;simp
theorem aQU{a:aE}(k:a.gC=3):qR a↔(a.gQ=sP/\a.gW=xU/\a.gD=yD):=by
 obtain⟨gk,gm,gt,ga,gl⟩:=a;dsimp only at k;subst k;unfold qR;simp
theorem aPj{a:aE}(k:a.gC=4):qR a↔(a.gQ=sP/\a.gW=xU/\a.gG=yN):=by
 obtain⟨gk,gm,gt,ga,gl⟩:=a;dsimp only at k;subst k;unfold qR;simp
theorem tex15(N:Nat)(t:aI):∃b,kB N t=some b/\(b=true↔¬t=xU):=by
 refine⟨_,rfl,?_⟩
 obtain⟨s,l⟩:=t;show(cond (s != 0) true (decide ((l.length:Int) > 0)))=true↔_;rw[nJ,aEz,<- bq,decide_eq_true_eq]
 unfold xU;rw[aI.mk.injEq,<- eu]
 omega
theorem aQi(N:Nat)(m:aM)(hv:m.gF.length<=500)(hu:m.gJ.length<=500)(ht:m.gI.length<=500):∃b,mS N m=some b/\(b=true↔¬m=sP):=by
 refine⟨_,rfl,?_⟩
 obtain⟨v,u,t⟩:=m;dsimp only at hv hu ht ⊢;show decide (I64 (I64 ((v.length:Int)+(u.length:Int))+(t.length:Int)) > 0)=true↔_;rw[aW (x:=(v.length:Int)+(u.length:Int)) (by omega) (by omega),aW (by omega) (by omega),decide_eq_true_eq]
 unfold sP;rw[aM.mk.injEq,<- eu,<- eu,<- eu]
 omega
theorem aNC{b:Bool}{p:Prop}(h:b=true↔p):(!b)=true↔¬p:=by
 rw[<- h];cases b <;> simp
theorem or3{a b c:Bool}{p q r:Prop}(ha:a=true↔¬p)(hb:b=true↔¬q)(hc:c=true↔¬r):(cond a true (cond b true c))=true↔¬(p/\q/\r):=by
 rw[nJ,nJ,gs,gs,ha,hb,hc]
 constructor
 ·rintro(h | h | h) ⟨h1,h2,h3⟩
  ·exact h h1
  ·exact h h2
  ·exact h h3
 ·intro h;by_cases hp:p
  ·by_cases hq:q
   ·exact .inr (.inr λhr=>h ⟨hp,hq,hr⟩)
   ·exact .inr (.inl hq)
  ·exact .inl hp
theorem aKD(c:Int)(a b d:Bool):(cond a (some (c,true)) (cond b (some (c,true)) (some (c,d))))=some (c,cond a true (cond b true d)):=by cases a <;> cases b <;> rfl
theorem aQ2{a:aE}(h1:¬a.gC=1)(h2:¬a.gC=2)(h3:¬a.gC=3)(h4:¬a.gC=4):wQ a=12:=by
 unfold wQ;rw[if_neg h1,if_neg h2,if_neg h3,if_neg h4]
theorem aQF(N:Nat)(hN:1000 < N)(a:aE)(h:aD6 a):∃c,mD N a=some c/\lS N a=some c:=by
 have zl:=aNC (aJK a.gD yD)
 have zm:=aNC (aJg a.gG yN)
 obtain⟨bt,et,ht⟩:=tex15 N a.gW;obtain⟨bm,em,hm⟩:=aQi N a.gQ h.v h.u h.t
 -- what the document has: the error of its own part, and whether there is another
 have key:∃o:Bool,(o=true↔¬qR a/\wQ a≠12\/wQ a=12/\o=true)/\lS N a=(cond (wQ a != 0) (some (wQ a)) (cond o (some 5) (ae (jW N a) λr18=>ae (fK N a.gC) λr19=>aO (decide (((r18.length:Int)) > r19)) λx20=>cond x20 (some 9) (some 0)))):=by
  unfold lS;rw[vA,vA,vA,vA,aMT N hN _ h.u,aPT N hN _ h.x,matCR N hN,ligCR N hN,et,em]
  by_cases k1:a.gC=1
  ·have e:wQ a=aAT a.gQ:=by unfold wQ;rw[if_pos k1]
   have o:=or3 ht zm zl;rw[<- aPl k1] at o;refine⟨_,?_,by rw[dt k1,cond_true,aa,aa,aC,aC,aKD,aa,<- e]⟩
   rw[show(cond bt true (cond (!(aF.eq a.gG (aF.mk 0 (#v[0,0,0]) 0))) true (!(aJ.eq a.gD (aJ.mk 0 (#v[0,0,0]) (aB.mk 0 0 0) (aB.mk 0 0 0) (aB.mk 0 0 0))))))=true↔¬qR a from o]
   have:aAT a.gQ≠12:=by unfold aAT;split;decide;split;decide;split;decide;split <;> decide
   rw[e]
   constructor
   ·intro q;exact .inl ⟨q,this⟩
   ·rintro(q | q)
    ·exact q.1
    ·exact absurd q.1 this
  rw[df k1,cond_false]
  by_cases k2:a.gC=2
  ·have e:wQ a=aEr a.gW:=by unfold wQ;rw[if_neg k1,if_pos k2]
   have o:=or3 hm zm zl;rw[<- aQx k2] at o;refine⟨_,?_,by rw[dt k2,cond_true,aa,aa,aC,aC,aKD,aa,<- e]⟩
   rw[show(cond bm true (cond (!(aF.eq a.gG (aF.mk 0 (#v[0,0,0]) 0))) true (!(aJ.eq a.gD (aJ.mk 0 (#v[0,0,0]) (aB.mk 0 0 0) (aB.mk 0 0 0) (aB.mk 0 0 0))))))=true↔¬qR a from o]
   have:aEr a.gW≠12:=by unfold aEr;split;decide;split <;> decide
   rw[e]
   constructor
   ·intro q;exact .inl ⟨q,this⟩
   ·rintro(q | q)
    ·exact q.1
    ·exact absurd q.1 this
  rw[df k2,cond_false]
  by_cases k3:a.gC=3
  ·have e:wQ a=aHm a.gG:=by unfold wQ;rw[if_neg k1,if_neg k2,if_pos k3]
   have o:=or3 hm ht zl;rw[<- aQU k3] at o;refine⟨_,?_,by rw[dt k3,cond_true,aa,aa,aa,aC,aKD,aa,<- e]⟩
   rw[show(cond bm true (cond bt true (!(aJ.eq a.gD (aJ.mk 0 (#v[0,0,0]) (aB.mk 0 0 0) (aB.mk 0 0 0) (aB.mk 0 0 0))))))=true↔¬qR a from o]
   have:aHm a.gG≠12:=by unfold aHm;split <;> decide
   rw[e]
   constructor
   ·intro q;exact .inl ⟨q,this⟩
   ·rintro(q | q)
    ·exact q.1
    ·exact absurd q.1 this
  rw[df k3,cond_false]
  by_cases k4:a.gC=4
  ·have e:wQ a=aH9 a.gD:=by unfold wQ;rw[if_neg k1,if_neg k2,if_neg k3,if_pos k4]
   have o:=or3 hm ht zm;rw[<- aPj k4] at o;refine⟨_,?_,by rw[dt k4,cond_true,aa,aa,aa,aC,aKD,aa,<- e]⟩
   rw[show(cond bm true (cond bt true (!(aF.eq a.gG (aF.mk 0 (#v[0,0,0]) 0)))))=true↔¬qR a from o]
   have:aH9 a.gD≠12:=by unfold aH9;split;decide;split;decide;split <;> decide
   rw[e]
   constructor
   ·intro q;exact .inl ⟨q,this⟩
   ·rintro(q | q)
    ·exact q.1
    ·exact absurd q.1 this
  rw[df k4,cond_false]
  have e:=aQ2 k1 k2 k3 k4;refine⟨false,?_,by rw[e];rfl⟩
  rw[e]
  simp
 obtain⟨o,ho,hr⟩:=key;by_cases h0:wQ a=0
 ·rw[h0] at ho;have ho:o=true↔¬qR a:=by
   rw[ho];simp
  have own0:mN N a=some 0:=by rw[aNQ N hN a h,h0]
  obtain⟨r1,e1,h1⟩:=ownT N hN a h;have hown:aKw a:=h1 (by rw[own0] at e1;exact(Option.some.inj e1).symm)
  obtain⟨b,eb,hb1,hb2,hb3⟩:=aPC N a h;obtain⟨r3,e3,h3⟩:=aOp N hN b (zA a.gC) hb1;have h3':r3=true↔qR a:=⟨λq=>hb2 (h3.1 q),λq=>h3.2 (hb3 q hown)⟩
  have hro:(!r3)=o:=by rw[ik,aNC h3',ho]
  have m0:a.gC=1->aAT a.gQ=0:=by
   intro k;unfold wQ at h0;rw[if_pos k] at h0;exact h0
  have t0:a.gC=2->aEr a.gW=0:=by
   intro k;unfold wQ at h0;rw[if_neg (by omega),if_pos k] at h0;exact h0
  have capE:fK N a.gC=some (vV a.gC):=by
   unfold fK vV;rw[vA,vA,vA,vA]
   by_cases k1:a.gC=1
   ·rw[dt k1,if_pos k1];rfl
   rw[df k1,if_neg k1]
   by_cases k2:a.gC=2
   ·rw[dt k2,if_pos k2];rfl
   rw[df k2,if_neg k2]
   by_cases k3:a.gC=3
   ·rw[dt k3,if_pos k3];rfl
   rw[df k3,if_neg k3]
   by_cases k4:a.gC=4
   ·rw[dt k4,if_pos k4];rfl
   rw[df k4,if_neg k4]
   rfl
  refine⟨cond o 5 (cond (decide (((qW a).length:Int) > vV a.gC)) 9 0),?_,?_⟩
  ·unfold mD;rw[own0,aa,show((0:Int) != 0)=false from rfl,cond_false,eb,aa,show qI N b (aE.mk a.gC (aM.mk [] [] []) (aI.mk 0 []) (aF.mk 0 (#v[0,0,0]) 0) (aJ.mk 0 (#v[0,0,0]) (aB.mk 0 0 0) (aB.mk 0 0 0) (aB.mk 0 0 0)))=some r3 from e3,aa,hro,assE N hN a hown own0,aa,capP,aa,aC,uU,uU]
  ·rw[hr,h0,show((0:Int) != 0)=false from rfl,cond_false,aNU N hN a hown m0 t0,aa,capE,aa,aC,uU,uU]
 ·refine⟨wQ a,?_,?_⟩
  ·unfold mD;rw[aNQ N hN a h,aa,aEz,dt h0,cond_true]
  ·rw[hr,aEz,dt h0,cond_true]
theorem encE(N:Nat)(hN:1000 < N)(a:aE)(h:aD6 a):mZ N a=nY N a:=by
 obtain⟨c,e1,e2⟩:=aQF N hN a h;unfold mZ nY;rw[e1,e2,aa,aa]
 by_cases c0:c=0
 ·subst c0;obtain⟨c',e',hc⟩:=aL6 N hN a h;rw[e1] at e';obtain rfl:=Option.some.inj e';have g:=hc.1 rfl;have own0:wQ a=0:=by have:=g.own0;rw[aNQ N hN a h] at this;exact Option.some.inj this
  rw[show((0:Int) != 0)=false from rfl,cond_false,cond_false,assE N hN a g.own g.own0,aNU N hN a g.own (λk=>by unfold wQ at own0;rw[if_pos k] at own0;exact own0) (λk=>by unfold wQ at own0;rw[if_neg (by omega),if_pos k] at own0;exact own0)]
 ·rw[aEz,dt c0,cond_true,cond_true]
def aD0(base:Vector Int 8)(n:Int)(i j:Nat):Int:=if j < 8 then base.toList.getD j 0 else if j < 8+i then U8 (shr .i64 n ((8*(j - 8):Nat):Int)) else 0
theorem aQ3{n:Int}(h:aA4 n){j:Nat}(hj:j < 4):U8 (shr .u32 (U32 n) ((8*j:Nat):Int))=U8 (shr .i64 n ((8*j:Nat):Int)):=by
 rw[wX .u32 _ _ (8*j) rfl (by show 8*j<=32;omega),wX .i64 _ _ (8*j) rfl (by show 8*j<=64;omega),aBg,aBg,aPL]
 rcases(show j=0\/j=1\/j=2\/j=3 by omega) with rfl | rfl | rfl | rfl
 ·rw[show(2:Int) ^ (8*0)=1 from rfl];omega
 ·rw[show(2:Int) ^ (8*1)=256 from rfl];omega
 ·rw[show(2:Int) ^ (8*2)=65536 from rfl];omega
 ·rw[show(2:Int) ^ (8*3)=16777216 from rfl];omega
theorem aKn{base:Vector Int 8}{n:Int}{i:Nat}(hi:i < 4){s:Vector Int 12}(hs:∀j,j < 12->s.toList[j]? = some (aD0 base n i j)):∀j,j < 12->(s.setIfInBounds (8+i) (U8 (shr .i64 n ((8*i:Nat):Int)))).toList[j]? = some (aD0 base n (i+1) j):=by
 intro j hj;rw[bp,cp]
 unfold aD0;by_cases c:8+i=j
 ·subst c;rw[if_pos rfl,if_pos (by simp;omega),if_neg (by omega),if_pos (by omega),Nat.add_sub_cancel_left]
 ·rw[if_neg c,hs j hj]
  unfold aD0;by_cases c3:j < 8
  ·rw[if_pos c3,if_pos c3]
  ·rw[if_neg c3,if_neg c3]
   by_cases c5:j < 8+i
   ·rw[if_pos c5,if_pos (show j < 8+(i+1) by omega)]
   ·rw[if_neg c5,if_neg (show ¬j < 8+(i+1) by omega)]
theorem nonC(N:Nat)(hN:20 < N)(base:Vector Int 8)(n:Int):T (eF N base n) (λv=>∀j,j < 12->v.toList[j]? = some (aD0 base n 4 j)):=by
 have b8:base.toList.length=8:=by simp
 unfold eF;refine T.bind (o:=aF3 12 0 12) (P:=λ_=>True) ⟨(),rfl,trivial⟩ λ_ _=>?_;rw[show eU base.toList 0 8=some base.toList from aJL (m:=8) _,aa]
 refine T.bind (P:=λv=>∀j,j < 12->v.toList[j]? = some (aD0 base n 0 j)) ?_ λv3 h3=>?_
 ·unfold cpV;rw[dif_pos (by decide)]
  refine⟨_,rfl,λj hj=>?_⟩
  unfold cpy aD0;have z:(ah 12 (0:Int)).toList=am 12 0:=rfl;simp only[z,jd,fg,Nat.zero_add,b8]
  show((base.toList.take (min 12 8))++(am 12 (0:Int)).drop (min 12 8))[j]? = _;rw[show min 12 8=8 from rfl,bf (by omega)]
  by_cases c:j < 8
  ·rw[if_pos c,List.getElem?_append_left (by omega),tS (by omega)]
  ·rw[if_neg c,if_neg (by omega),List.getElem?_append_right (by omega),List.drop_replicate,cu,if_pos (by omega)]
 ·refine T.bind (T.loop0 (n:=4) (by decide) (λi (v:Vector Int 12)=>∀j,j < 12->v.toList[j]? = some (aD0 base n i j)) (F:=fW N n) (λk s i hi hs Q hk=>?_) (λk s=>by rw[fW,df (by omega),cond_false]) (by omega) h3) λp1 h=>T.ret h;have ti:((8+i:Nat):Int).toNat=8+i:=rfl;rw[fW,dt (by omega),cond_true,show(8:Int)=((8:Nat):Int) from rfl,i4 (by omega),ia (by omega),dC (by omega),mF .i64 (by omega),aa,dS (by omega) (by omega),aa,ti,hs _ (by omega),aa]
  exact hk _ (aKn hi hs)
theorem aNF(N:Nat)(hN:20 < N){base:Vector Int 8}(hb:aX base.toList)(n:Int):aX (aGn N base n).toList:=by
 obtain⟨v,e,h⟩:=nonC N hN base n;rw[aMv N hN] at e;obtain rfl:=Option.some.inj e;intro x hx;obtain⟨j,hj,e⟩:=List.getElem_of_mem hx;have h2:=h j (by simpa using hj)
 rw[ag hj,e] at h2;obtain rfl:=Option.some.inj h2;unfold aD0;split
 ·rename_i c;exact hb _ (List.mem_of_getElem? (tS (by simpa using c)))
 split
 ·exact aMB _
 ·exact⟨by decide,by decide⟩
theorem nonR(N:Nat)(hN:20 < N)(base:Vector Int 8){n:Int}(hn:aA4 n):iA N base n=some (aGn N base n):=by
 have b8:base.toList.length=8:=by simp
 have ec:=nonC N hN base n;have er:T (iA N base n) (λv=>∀j,j < 12->v.toList[j]? = some (aD0 base n 4 j)):=by
  unfold iA;refine T.bind (T.loop0 (n:=8) (by decide) (λi (v:Vector Int 12)=>∀j,j < 12->v.toList[j]? = some (if j < i then base.toList.getD j 0 else 0)) (F:=jE N base) (λk s i hi hs Q hk=>?_) (λk s=>by rw[jE,df (by omega),cond_false]) (by omega) (s:=ah 12 0) (λj hj=>?_)) λv1 h1=>?_
  ·have ti:((i:Nat):Int).toNat=i:=rfl;rw[jE,dt (by omega),cond_true,aIH (by omega),aa,dS (by omega) (by omega),aa,ti,hs i (by omega),aa,dC (by omega)]
   refine hk _ λj hj=>?_;rw[bp,cp]
   by_cases c:i=j
   ·subst c;rw[if_pos rfl,if_pos (by simp;omega),if_pos (by omega)]
   ·rw[if_neg c,hs j hj]
    by_cases c3:j < i
    ·rw[if_pos c3,if_pos (by omega)]
    ·rw[if_neg c3,if_neg (show ¬j < i+1 by omega)]
  ·have z:(ah 12 (0:Int)).toList=am 12 0:=rfl;rw[z,cu,if_pos hj,if_neg (by omega)]
  ·refine T.bind (T.loop0 (n:=4) (by decide) (λi (v:Vector Int 12)=>∀j,j < 12->v.toList[j]? = some (aD0 base n i j)) (F:=jI N n) (λk s i hi hs Q hk=>?_) (λk s=>by rw[jI,df (by omega),cond_false]) (by omega) (λj hj=>?_)) λp1 h=>T.ret h
   ·have ti:((8+i:Nat):Int).toNat=8+i:=rfl;rw[jI,dt (by omega),cond_true,show(8:Int)=((8:Nat):Int) from rfl,i4 (by omega),ia (by omega),dC (by omega),mF .u32 (by omega),aa,dS (by omega) (by omega),aa,ti,hs _ (by omega),aa,aQ3 hn hi]
    exact hk _ (aKn hi hs)
   ·rw[h1 j hj]
    unfold aD0;by_cases c:j < 8
    ·rw[if_pos c,if_pos c]
    ·rw[if_neg c,if_neg c,if_neg (by omega)]
 obtain⟨v,e1,h1⟩:=ec;obtain⟨w,e2,h2⟩:=er;have hvw:v=w:=by
  apply Vector.toList_inj.1;apply dh;intro j;by_cases c:j < 12
  ·rw[h1 j c,h2 j c]
  ·rw[au (by simp;omega),au (by simp;omega)]
 rw[aMv N hN] at e1;rw[e2,<- hvw,e1]
theorem capE(N:Nat)(k:Int):fK N k=some (vV k):=by
 unfold fK vV;rw[vA,vA,vA,vA]
 by_cases k1:k=1
 ·rw[dt k1,if_pos k1];rfl
 rw[df k1,if_neg k1]
 by_cases k2:k=2
 ·rw[dt k2,if_pos k2];rfl
 rw[df k2,if_neg k2]
 by_cases k3:k=3
 ·rw[dt k3,if_pos k3];rfl
 rw[df k3,if_neg k3]
 by_cases k4:k=4
 ·rw[dt k4,if_pos k4];rfl
 rw[df k4,if_neg k4]
 rfl
theorem aJ6(N:Nat){s:Int}:∀(k i:Nat),i<=1000->1000 - i < k->((i:Int)=0\/256*((i:Int) - 1) < s)->∃n:Nat,n<=1000/\iI N s k (i:Int)=some (n:Int)/\(n=0\/256*((n:Int) - 1) < s)/\(s<=256*(n:Int)\/n=1000)
 | 0,_,_,h,_=>by omega
 | k+1,i,h1,h2,h3=>by
  rw[iI,aC,aC,aW (x:=256*(i:Int)) (by omega) (by omega)]
  by_cases c:s > 256*(i:Int)
  ·by_cases d:(i:Int) < 1000
   ·rw[dt c,dt d,cond_true,cond_true,dC (by omega)]
    exact aJ6 N k (i+1) (by omega) (by omega) (.inr (by omega))
   ·rw[dt c,df d,cond_true,cond_false]
    exact⟨i,h1,rfl,by omega,by omega⟩
  ·rw[df c,cond_false,cond_false]
   exact⟨i,h1,rfl,by omega,by omega⟩
theorem aJx(N:Nat)(hN:1100 < N){s:Int}(h:aA4 s):lF N s=some (qH s):=by
 unfold lF qH;obtain⟨h0,h1⟩:=h;obtain⟨n,hn,e,g1,g2⟩:=aJ6 N (s:=s) N 0 (by omega) (by omega) (.inl rfl)
 rw[show iI N s N 0=_ from e,aa,aC,aW (x:=256*(n:Int)) (by omega) (by omega)]
 by_cases c:s > 256*(n:Int)
 ·have e1:cz s 256=s / 256:=d9 (by omega)
  have e2:cf s 256=s % 256:=dc (by omega)
  rw[dt c,cond_true,aC,aC,e1,e2,aW (x:=s / 256) (by omega) (by omega),if_neg (by omega),aa]
  congr 1;unfold lP;split
  ·rw[aW (by omega) (by omega)];omega
  ·rw[aW (by omega) (by omega)];omega
 ·rw[df c,cond_false,aa]
  by_cases d:s < 1
  ·rw[if_pos d];congr 1;omega
  ·rw[if_neg d];congr 1;omega
theorem mchkR(N:Nat)(hN:1100 < N)(m:aD)(hs:aA4 m.gP):nX N m=some (rG m):=by
 unfold nX rG;rw[capE,aa]
 by_cases h0:vV m.gC=0
 ·rw[if_pos h0,h0];rfl
 ·rw[if_neg h0,show(vV m.gC==0)=false by simpa using h0,cond_false]
  have hl:fT N m N 0=some (cond (m.gR.toList.any λe=>decide (e > 15)) (Sum.inr 5) (Sum.inl ())):=by
   refine wL m.gR.toList (λe=>decide (e > 15)) (5:Int) (fT N m) (by simp) (λk i h=>?_) (λk=>?_) (by simp;omega)
   ·have h8:i < 8:=by simpa using h
    rw[fT,dt (by omega),cond_true,dI h,aa,show decide (m.gR.toList[i]>=16)=decide (m.gR.toList[i] > 15) by rw[ik,decide_eq_true_eq,decide_eq_true_eq];omega]
   ·rw[fT,df (by simp),cond_false]
  rw[hl,aa]
  cases ha:(m.gR.toList.any λe=>decide (e > 15)) with
  | true=>rw[if_pos rfl,cond_true];rfl
  | false=>
   rw[if_neg (by decide),cond_false]
   show(aO (decide (m.gT > m.gTo)) λx5=>_)=_;rw[aC,aC]
   by_cases h1:m.gT > m.gTo\/m.gP < 1
   ·rw[if_pos h1]
    rw[show cond (decide (m.gT > m.gTo)) true (decide (m.gP < 1))=true by rcases h1 with h | h;rw[dt h];rfl;rw[dt h];cases decide (m.gT > m.gTo) <;> rfl,aC,cond_true]
   ·rw[if_neg h1,df (show ¬m.gT > m.gTo by omega),df (show ¬m.gP < 1 by omega),cond_false,aC,cond_false,aa]
    by_cases h2:m.gP > vV m.gC
    ·rw[dt h2,cond_true,if_pos h2]
    ·rw[df h2,cond_false,if_neg h2,aJx N hN hs,aa]
     by_cases h3:m.gA3=qH m.gP
     ·rw[if_neg (by simpa using h3),show(m.gA3 != qH m.gP)=false by simpa using h3,cond_false]
     ·rw[if_pos h3,show(m.gA3 != qH m.gP)=true by simpa using h3,cond_true]
theorem u64L1{x:Int}(h:0<=x/\x < 18446744073709551616):aLy [x]:=by
 intro y hy;rw[ij] at hy;rw[hy];exact h
theorem u64L3{x y z:Int}(h:0<=x/\x < 18446744073709551616)(h':0<=y/\y < 18446744073709551616)(h'':0<=z/\z < 18446744073709551616):aLy [x,y,z]:=by
 intro w hw;simp only[List.mem_cons,List.not_mem_nil,or_false] at hw;rcases hw with rfl | rfl | rfl <;> assumption
theorem aHi{w:Nat}(h:w<=8):cI w<=18446744073709551616:=by
 unfold cI;rcases(show w=0\/w=1\/w=2\/w=3\/w=4\/w=5\/w=6\/w=7\/w=8 by omega) with rfl | rfl | rfl | rfl | rfl | rfl | rfl | rfl | rfl <;> decide
theorem aKg(N:Nat)(hN:100 < N)(b:List Int)(w:Nat)(hw0:1<=w)(hw:w<=8)(x:Int)(hx:0<=x)(hx2:x < cI w)(hb:b.length<=1000000):bJ N b (w:Int) [x]=some (b++leB w x,0):=by
 have:=aHi hw;rw[aNc N b w hw0 hw _ (u64L1 ⟨hx,by omega⟩) hb (by simp) hN,aJh N (by omega) b w hw0 hw x hx hx2 hb]
theorem put3R(N:Nat)(hN:100 < N)(b:List Int)(w:Nat)(hw0:1<=w)(hw:w<=8)(x y z:Int)(hx:0<=x/\x < cI w)(hy:0<=y/\y < cI w)(hz:0<=z/\z < cI w)(hb:b.length<=1000000):bJ N b (w:Int) [x,y,z]=some (b++(leB w x++(leB w y++leB w z)),0):=by
 have:=aHi hw;rw[aNc N b w hw0 hw _ (u64L3 ⟨hx.1,by omega⟩ ⟨hy.1,by omega⟩ ⟨hz.1,by omega⟩) hb (by simp) hN,put3 N (by omega) b w hw0 hw x y z hx hy hz hb]
theorem mapD{l:List Int}{n:Nat}(h:l.length=n):(bz n).flatMap (λi=>[l.getD i 0])=l:=by
 rw[aAf]
 apply dh;intro i;rw[cj]
 by_cases c:i < n
 ·rw[i7 c,tS (by omega)];rfl
 ·rw[au (by rw[List.length_range];omega),au (by omega)];rfl
theorem mencR(N:Nat)(hN:1100 < N)(m:aD)(t:aF7 m):kZ N m=some (if rG m=0 then(aEF m,0) else([],rG m)):=by
 unfold kZ;rw[mchkR N hN m t.size,aa]
 have hN':100 < N:=by omega
 by_cases h:rG m=0
 ·have r:=t.r h;rw[if_pos h,h,show((0:Int) != 0)=false from rfl,cond_false]
  have k1:=r.kind;have k2:=r.size;have k3:=r.chunks;have k4:=r.label;have k5:=r.fr;have k6:=r.to;have e1:=aKg N hN' [] 8 (by decide) (by decide) m.gId r.id.1 r.id.2 (by simp)
  rw[show bJ N [] 8 [m.gId]=_ from e1,aa,fF (x:=m.gC) (by omega) (by omega),fF (x:=m.gA2) k4.1 (by have:=k4.2;omega),fF (x:=m.gT) k5.1 (by have:=k5.2;omega),fF (x:=m.gTo) k6.1 (by have:=k6.2;omega),fF (x:=m.gP) (by omega) (by omega),fF (x:=m.gA3) (by omega) (by omega)]
  have e2:=aKg N hN' ([]++leB 8 m.gId) 1 (by decide) (by decide) m.gC k1.1 k1.2 (by simp[jB])
  rw[show bJ N ([]++leB 8 m.gId) 1 [m.gC]=_ from e2,aa]
  have e3:=aKg N hN' ([]++leB 8 m.gId++leB 1 m.gC) 4 (by decide) (by decide) m.gA2 k4.1 k4.2 (by simp[jB])
  rw[show bJ N ([]++leB 8 m.gId++leB 1 m.gC) 4 [m.gA2]=_ from e3,aa]
  have el:fA N m N ([]++leB 8 m.gId++leB 1 m.gC++leB 4 m.gA2) 0=some ([]++leB 8 m.gId++leB 1 m.gC++leB 4 m.gA2++m.gR.toList):=by
   rw[lY 8 (by decide) (λi=>[m.gR.toList.getD i 0]) (λs i=>s.length=13+i) (fA N m) (λs i _ hs=>by rw[aj,hs];rfl) (λk s i hi hs=>?_) (λk s=>by rw[fA,df (by omega),cond_false]) (by omega) (by simp[jB]),mapD (by simp)]
   rw[fA,dt (by omega),cond_true,aIH (by simp;omega),aa,rJ (by omega) (by simp),aa]
  rw[el,aa]
  have e4:=put3R N hN' ([]++leB 8 m.gId++leB 1 m.gC++leB 4 m.gA2++m.gR.toList) 4 (by decide) (by decide) m.gT m.gTo m.gP ⟨k5.1,k5.2⟩ ⟨k6.1,k6.2⟩ k2 (by simp[jB])
  rw[show bJ N ([]++leB 8 m.gId++leB 1 m.gC++leB 4 m.gA2++m.gR.toList) 4 [m.gT,m.gTo,m.gP]=_ from e4,aa]
  have e5:=aKg N hN' ([]++leB 8 m.gId++leB 1 m.gC++leB 4 m.gA2++m.gR.toList++(leB 4 m.gT++(leB 4 m.gTo++leB 4 m.gP))) 2 (by decide) (by decide) m.gA3 k3.1 k3.2 (by simp[jB])
  rw[show bJ N ([]++leB 8 m.gId++leB 1 m.gC++leB 4 m.gA2++m.gR.toList++(leB 4 m.gT++(leB 4 m.gTo++leB 4 m.gP))) 2 [m.gA3]=_ from e5,aa]
  congr 2;unfold aEF;simp[ap]
 ·rw[if_neg h,show(rG m != 0)=true by simpa using h,cond_true]
theorem fourR(N:Nat){i n:Nat}(hi:i < 65536)(hn:n < 65536):oT N (i:Int) (n:Int)=some (aC7 i n):=by
 unfold oT aC7;rw[aMy ⟨by omega,by omega⟩,aMy ⟨by omega,by omega⟩]
 rfl
theorem rawL(N:Nat)(hN:70000 < N){key:Vector Int 32}(hk:aX key.toList){base:Vector Int 8}(hb:aX base.toList){mark:List Int}(hm:mark.length=16)(hmb:aX mark){p:List Int}(hp:p.length<=2048):∀(k i:Nat) (s:List Int),nCh (p.drop (256*i)).length < k->i<=9->s.length+300*nCh (p.drop (256*i)).length<=100000 ->
  lG N p base (mark,0) key k s (i:Int)=some (s++aBM N key base mark (nCh (p.drop (256*i)).length) i (p.drop (256*i)))
 | 0,_,_,h,_,_=>by omega
 | k+1,i,s,h,hi,hs=>by
  have e1:I64 ((i:Int)*256)=((256*i:Nat):Int):=by rw[aW (by omega) (by omega)];omega
  have e2:I64 (((256*i:Nat):Int)+256)=((256*i+256:Nat):Int):=by rw[aW (by omega) (by omega)];omega
  rw[lG,aC,e1]
  have ld:=bw (i:=256*i) (l:=p)
  by_cases c:256*i < p.length
  ·have hn:nCh (p.drop (256*i)).length=nCh (p.drop (256*(i+1))).length+1:=by unfold nCh;rw[bw,bw];omega
   have sl:eU p ((256*i:Nat):Int) ((min (256*i+256) p.length:Nat):Int)=some ((p.drop (256*i)).take 256):=by
    rw[pL (by omega) (by omega) (by omega),cr,cr,List.drop_take]
    congr 1;by_cases d:256*i+256<=p.length
    ·rw[Nat.min_eq_left d,show 256*i+256 - 256*i=256 by omega]
    ·rw[Nat.min_eq_right (by omega),bf (by omega),bf (by omega)]
   have lt:((p.drop (256*i)).take 256).length<=256:=by rw[List.length_take];omega
   rw[dt (by omega),cond_true,e2,aC,aCl,aC,sl,aa,fourR N (by omega) (by omega),aa,nonR N (by omega) base ⟨aQb _,by have:=aQv ((i:Int)+1);omega⟩,aa,rJ (by simp) (by rw[rF];omega),aa,fg]
   dsimp only;rw[rJ (by rw[rF];omega) (by omega),aa,aOh N hN hk (aNF N (by omega) hb _) ((aFC _ _).app hmb) (by rw[aj,rF];omega) (by omega),aa,rJ (by omega) (by rw[rF];omega),aa]
   dsimp only;rw[dC (by omega)]
   have e5:(aC7 i ((p.drop (256*i)).take 256).length++zX N key (aGn N base ((i+1:Nat):Int)) (aC7 i ((p.drop (256*i)).take 256).length++mark) ((p.drop (256*i)).take 256))=aDG N key base mark i ((p.drop (256*i)).take 256):=rfl;rw[rJ (by rw[aj,rF];omega) (by rw[aAs N (by omega) key _ _ (by omega)];omega),aa,ap,e5,rawL N hN hk hb hm hmb hp k (i+1) _ (by omega) (by omega) (by rw[aj,aEY N (by omega) key base mark i (by omega)];omega),hn,aBM,List.drop_drop,show 256*i+256=256*(i+1) by omega,ap]
  ·rw[df (by omega),cond_false,show nCh (p.drop (256*i)).length=0 by unfold nCh;omega,aBM,fb]
theorem rawE(N:Nat)(hN:70000 < N){key:Vector Int 32}(hk:aX key.toList){base:Vector Int 8}(hb:aX base.toList){m:aD}(r:aLZ m){p:List Int}(hp:p.length<=2048):pU N key base (aEF m) p=some (aAl N key base m p):=by
 unfold pU;have el:iZ N base N [85,77,66,49] 0=some ([85,77,66,49]++base.toList):=by
  rw[lY 8 (by decide) (λi=>[base.toList.getD i 0]) (λs i=>s.length=4+i) (iZ N base) (λs i _ hs=>by rw[aj,hs];rfl) (λk s i hi hs=>?_) (λk s=>by rw[iZ,df (by omega),cond_false]) (by omega) rfl,mapD (by simp)]
  rw[iZ,dt (by omega),cond_true,aIH (by simp;omega),aa,rJ (by omega) (by simp),aa]
 have hm:=yL N (by omega) key base m;have hmb:=aDw N (by omega) key base m;rw[el,aa,rJ (by simp) (by rw[aFd];omega),aa,show [85,77,66,49]++base.toList++aEF m=tX base m from ap _ _ _,nonR N (by omega) base ⟨by decide,by decide⟩,aa,aOh N hN hk (aNF N (by omega) hb _) (aDT hb r) (by rw[sB];omega) (by simp),aa]
 dsimp only;rw[show zX N key (aGn N base 0) (tX base m) []=vC N key base m from rfl,rJ (by rw[sB];omega) (by omega),aa]
 have e:=rawL N hN hk hb hm hmb hp N 0 (tX base m++vC N key base m) (by unfold nCh;rw[bw];omega) (by omega) (by rw[aj,sB,hm];unfold nCh;rw[bw];omega)
 rw[Nat.mul_zero,ed] at e;rw[show lG N p base (vC N key base m,0) key N (tX base m++vC N key base m) 0=_ from e,aa]
 unfold aAl;rw[ap]
theorem sealE(N:Nat)(hN:70000 < N){key:Vector Int 32}(hk:aX key.toList){base:Vector Int 8}(hb:aX base.toList)(m:aD)(a:aE)(t:aF7 m)(hA:aD6 a):oW N key base m a=nL N key base m a:=by
 obtain⟨r1,e1,h1⟩:=aJz N (by omega) a hA;obtain⟨r,es,hs⟩:=aPE N (by omega) key base m a t hA;rw[es]
 unfold oW;unfold nL at es;rw[encE N (by omega) a hA,e1,aa]
 rw[e1,aa] at es;by_cases c:r1.2=0
 rotate_left
 ·rw[show(r1.2 != 0)=true by simpa using c,cond_true] at es ⊢;exact es
 rw[show(r1.2 != 0)=false by simpa using c,cond_false] at es ⊢;by_cases hkd:m.gC=a.gC
 rotate_left
 ·rw[show(m.gC != a.gC)=true by simpa using hkd,cond_true] at es ⊢;exact es
 rw[show(m.gC != a.gC)=false by simpa using hkd,cond_false] at es ⊢;rcases h1 with ⟨_,g,h⟩ | ⟨c',_⟩
 rotate_left
 ·exact absurd c c'
 have hl:=g.len;have e3:=aOl N (by omega) (tC m (qW a).length) (aCo t hl)
 have e4:=mencR N (by omega) (tC m (qW a).length) (aCo t hl)
 rw[h,aG8 N ⟨by omega,by omega⟩,aa,aND,show kV N (aD.mk m.gId m.gC m.gA2 m.gR m.gT m.gTo ((qW a).length:Int) (nCh (qW a).length:Int))=_ from e3,aa] at es;rw[h,aJx N (by omega) ⟨by omega,by omega⟩,aa,aND,show kZ N (aD.mk m.gId m.gC m.gA2 m.gR m.gT m.gTo ((qW a).length:Int) (nCh (qW a).length:Int))=_ from e4,aa]
 by_cases hc:rG (tC m (qW a).length)=0
 rotate_left
 ·rw[if_neg hc] at es ⊢;dsimp only at es ⊢;rw[show(rG (tC m (qW a).length) != 0)=true by simpa using hc,cond_true] at es ⊢;exact es
 rw[if_pos hc]
 dsimp only;rw[show((0:Int) != 0)=false from rfl,cond_false,rawE N hN hk hb ((aCo t hl).r hc) hl,aa]
 rcases hs with ⟨q1,_,_,_,q5⟩ | ⟨_,_,q3⟩
 ·rw[<- q5,<- q1]
 ·exact absurd ⟨g,hkd,hc⟩ q3
theorem aMS{m:Nat}(v:Vector Int m):eqV (λa b=>a==b) v v=true:=by
 unfold eqV;exact aId (λa=>by simp) v.toList
theorem aHE(N:Nat)(hN:70000 < N)(hw:oD N=some true)(s:bU)(a0:aE)(n:Int)(hk:jP s.gA5)(hb:jP s.gA4)(t:aF7 s.gM)(hn:aA4 n):mE N s a0 n=some true:=by
 unfold mE;obtain⟨a,e1,hA⟩:=fewP N a0;rw[e1,aa,sealE N hN hk hb s.gM a t hA]
 obtain⟨r2,e2,h2⟩:=aPE N (by omega) s.gA5 s.gA4 s.gM a t hA;have hbb:aX r2.1:=by
  rcases h2 with ⟨_,g,_,h0,h⟩ | ⟨_,h,_⟩
  ·rw[h]
   exact aFo (by omega) _ hb ((aCo t g.len).r h0) _
  ·rw[h];exact aGc
 rw[e2,aa,aa,aQD N hbb hbb,aa,dt rfl,cond_true,show(r2.2==r2.2)=true from beq_self_eq_true _,cond_true,aMv N (by omega),nonR N (by omega) _ hn,aa,aa,aMS,aC,cond_true,hw]
 rfl
end Go.UK
