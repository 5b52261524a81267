/- A part of the proof: what the functions of the program compute. -/
import Derived.Test.YtbifjcmhomoppaaGreatJ3
import Derived.Test.YtbifjcmhomoppaaGreatJ6
open Bool renaming decide_or→bu,eq_iff_iff→iz,or_eq_false_iff→ju,or_eq_true→ib,or_false→go,or_true→n7
open Int renaming ediv_one→nf,emod_eq_of_lt→li,tdiv→cv,tdiv_eq_ediv_of_nonneg→dc,tmod→br,tmod_eq_emod_of_nonneg→cz,toNat_natCast→bx
open List renaming any_cons→ii,any_nil→jj,append_assoc→ap,append_nil→dq,drop_zero→eu,ext_getElem?→dp,flatMap_cons→cx,getD_eq_getElem?_getD→an,getElem?_eq_getElem→ah,getElem?_eq_none→bf,getElem?_map→ci,getElem?_range→ez,getElem?_replicate→cw,getElem?_set→cr,getElem_mem→ck,length_append→ai,length_drop→ca,length_eq_zero_iff→f9,length_singleton→cn,length_take→bp,mem_singleton→iy,nil_append→dm,range→bo,replicate→ak,take_of_length_le→ar,take_zero→jq
open Option renaming bind→ae,bind_some→aa,getD_some→dz
open Vector renaming replicate→ag,toList_setIfInBounds→bq
namespace Go.UK
open Go Go.Proofs
set_option maxRecDepth 20000
set_option maxHeartbeats 16000000
set_option linter.all false
theorem pA(a b:Bool):cond a true b=(a||b):=by cases a <;> rfl
theorem yH{α:Type}(c:Bool)(x y:α):(cond c (some x) (some y))=some (cond c x y):=by cases c <;> rfl
theorem aP3(a b c m:Int):vB (vB a b) c > m↔a > m\/b > m\/c > m:=by unfold vB;split <;> split <;> omega
theorem aM3(a b c m:Int):mY (mY a b) c < m↔a < m\/b < m\/c < m:=by unfold mY;split <;> split <;> omega
theorem aUR(a b c m:Int):vB (vB a b) c>=m↔a>=m\/b>=m\/c>=m:=by unfold vB;split <;> split <;> omega
theorem aUT(a b m:Int):vB a b > m↔a > m\/b > m:=by unfold vB;split <;> omega
theorem aUB(a b m:Int):mY a b < m↔a < m\/b < m:=by unfold mY;split <;> omega
theorem dcg{p q:Prop}[Decidable p][Decidable q](h:p↔q):decide p=decide q:=by simp[h]
theorem aQC{α:Type}(l:List α)(hl:l.length < 9223372036854775807)(q:α->Bool){F:Nat->Int->Option (Sum Unit Int)}
  (hstep:∀k i (h:i < l.length),F (k+1) (i:Int)=cond (q l[i]) (some (Sum.inr (i:Int))) (F k (I64 ((i:Int)+1)))) (hend:∀k,F (k+1) (l.length:Int)=some (Sum.inl ())) :
  ∀(k i:Nat),i<=l.length->l.length - i < k->(ae (ae (F k (i:Int)) λo=>qS o (λp1=>some (-1)) (λr=>some r)) λr1:Int=>some (decide (r1>=0)))=some ((l.drop i).any q)
 | 0,i,_,h=>by omega
 | k+1,i,hi,hk=>by
  by_cases h:i < l.length
  ·rw[hstep k i h,List.drop_eq_getElem_cons h,ii]
   cases q l[i] with
   | true=>
    show some (decide ((i:Int)>=0))=some true;rw[dt (by omega)]
   | false=>rw[cond_false,cZ (by omega),aQC l hl q hstep hend k (i+1) (by omega) (by omega)];rfl
  ·obtain rfl:i=l.length:=by omega
   rw[hend,List.drop_length]
   rfl
theorem aEE{α:Type}(l:List α)(hl:l.length < 9223372036854775807)(q:α->Bool){F:Nat->Int->Option (Sum Unit Int)}
  (hstep:∀k i (h:i < l.length),F (k+1) (i:Int)=cond (q l[i]) (some (Sum.inr (i:Int))) (F k (I64 ((i:Int)+1)))) (hend:∀k,F (k+1) (l.length:Int)=some (Sum.inl ())) {N:Nat} (hN:l.length < N) :
  (ae (ae (F N 0) λo=>qS o (λp1=>some (-1)) (λr=>some r)) λr1:Int=>some (decide (r1>=0)))=some (l.any q):=by
 have:=aQC l hl q hstep hend N 0 (by omega) (by omega)
 rwa[eu] at this
def aBK(p:aB):Bool:=decide ((p.gX > 4096\/p.gX < -4096)\/(p.gY > 4096\/p.gY < -4096)\/(p.gZ > 4096\/p.gZ < -4096))
theorem aS2(N:Nat)(p:aB):pU N p=some (aBK p):=by
 unfold pU;rw[aC,aC,yH,aa,pA,dcg (aP3 _ _ _ _),dcg (aM3 _ _ _ _),<- bu]
 exact congrArg some (dcg (by omega))
theorem aPF(N:Nat)(p:aB):oD N p=some (aBK p):=aS2 N p
theorem offR(N:Nat)(p:aB):lF N p 4096=some (aBK p):=by
 unfold lF;rw[show I64 (0 - 4096) = -4096 from by decide]
 simp only[aC,pA,<- bu]
 exact congrArg some (dcg (by omega))
def uvX(v:Vector Int 2):Bool:=decide ((v[0] < 0\/v[0] > 65535)\/(v[1] < 0\/v[1] > 65535))
theorem pairE(N:Nat)(v:Vector Int 2):pO N v=some (uvX v):=by
 unfold pO;simp only[aPq,aQH,aa,aC,yH,pA]
 rw[dcg (aUB _ _ _),dcg (aUT _ _ _),<- bu]
 exact congrArg some (dcg (by omega))
def trX(n:Int)(v:Vector Int 3):Bool:=decide ((v[0] < 0\/v[0]>=n\/v[0]=v[1])\/(v[1] < 0\/v[1]>=n\/v[1]=v[2])\/(v[2] < 0\/v[2]>=n\/v[2]=v[0]))
theorem yF(a b:Int):(a==b)=decide (a=b):=by cases h:decide (a=b) <;> simp_all
theorem triE(N:Nat)(v:Vector Int 3)(m:aL):mD N v m=some (trX (m.gG.length:Int) v):=by
 unfold mD;simp only[aIi,aI2,aIj,aa,aC,yH,pA,yF]
 rw[dcg (aM3 _ _ _ _),dcg (aUR _ _ _ _)]
 simp only[<- bu]
 exact congrArg some (dcg (by omega))
def aCL(m:aL):Int:=
 if m.gG.length > 64\/m.gK.length > 64 then 3 else if m.gG.length=0\/m.gK.length=0\/m.gO.length≠m.gG.length then 5 else if m.gG.any aBK=true then 8 else if m.gO.any uvX=true\/m.gK.any (trX (m.gG.length:Int))=true then 5 else 0
theorem cif{α:Type}{p:Prop}[Decidable p]{b:Bool}(h:b=true↔p)(x y:α):cond b x y=if p then x else y:=by
 cases b with
 | true=>rw[if_pos (h.1 rfl)];rfl
 | false=>rw[if_neg (λq=>by simpa using h.2 q)];rfl
theorem aIA(a b:Int):(a != b)=decide (a≠b):=by rw[bne,yF];simp
theorem aUS(N:Nat)(hN:1000 < N)(m:aL)(hu:m.gO.length<=500):kP N m=some (aCL m):=by
 unfold kP aCL;rw[aC,aC,aC]
 by_cases c1:m.gG.length > 64\/m.gK.length > 64
 ·rw[if_pos c1,pA,<- bu,dt (by omega),cond_true]
 rw[if_neg c1,pA,<- bu,df (by omega),cond_false,aC,aC,aC,aC,aC]
 by_cases c2:m.gG.length=0\/m.gK.length=0\/m.gO.length≠m.gG.length
 ·rw[if_pos c2,pA,pA,yF,yF,aIA,<- bu,<- bu,dt (by omega),cond_true]
 rw[if_neg c2,pA,pA,yF,yF,aIA,<- bu,<- bu,df (by omega),cond_false]
 unfold bS cI cJ bX cS cQ;rw[aEE m.gG (by omega) aBK (F:=aU N m.gG) (λk i h=>by rw[aU,aC,dt (by omega),cond_true,dJ h,aa,aS2,aa]) (λk=>by rw[aU,aC,df (by omega),cond_false]) (by omega),aa]
 rw[aEE m.gO (by omega) uvX (F:=bE N m.gO) (λk i h=>by rw[bE,aC,dt (by omega),cond_true,dJ h,aa,pairE,aa]) (λk=>by rw[bE,aC,df (by omega),cond_false]) (by omega),aa]
 rw[aEE m.gK (by omega) (trX (m.gG.length:Int)) (F:=bD N m.gK m) (λk i h=>by rw[bD,aC,dt (by omega),cond_true,dJ h,aa,triE,aa]) (λk=>by rw[bD,aC,df (by omega),cond_false]) (by omega),aa]
 cases m.gG.any aBK <;> cases m.gO.any uvX <;> cases m.gK.any (trX (m.gG.length:Int)) <;> rfl
theorem r13L3(N:Nat)(m:aL)(k:Nat){i:Nat}(h:i < m.gO.length):iA N m (i:Int) (k+3) 0=some (cond (uvX m.gO[i]) (Sum.inr 5) (Sum.inl ())):=by
 have e1:I64 (0+1)=1:=by decide
 have e2:I64 (1+1)=2:=by decide
 rw[iA,dt (by decide),cond_true,iA,e1,dt (by decide),cond_true,iA,e2,df (by decide),cond_false]
 simp only[dJ h,aa,aPq,aQH,yH,pA,<- bu]
 rw[show uvX m.gO[i]=(decide (m.gO[i][0] < 0\/m.gO[i][0] > 65535)||decide (m.gO[i][1] < 0\/m.gO[i][1] > 65535)) from by rw[<- bu];rfl]
 cases decide (m.gO[i][0] < 0\/m.gO[i][0] > 65535) <;> cases decide (m.gO[i][1] < 0\/m.gO[i][1] > 65535) <;> rfl
theorem r13L5(N:Nat)(m:aL)(k:Nat){i:Nat}(h:i < m.gK.length):eP N m (i:Int) (k+4) 0=some (cond (trX (m.gG.length:Int) m.gK[i]) (Sum.inr 5) (Sum.inl ())):=by
 have e1:I64 (0+1)=1:=by decide
 have e2:I64 (1+1)=2:=by decide
 have e3:I64 (2+1)=3:=by decide
 have f1:br 1 3=1:=by decide
 have f2:br 2 3=2:=by decide
 have f3:br 3 3=0:=by decide
 rw[eP,dt (by decide),cond_true,eP,e1,dt (by decide),cond_true,eP,e2,dt (by decide),cond_true,eP,e3,df (by decide),cond_false]
 simp only[dJ h,aa,aC,f1,f2,f3,aIi,aI2,aIj,yH,pA,yF,<- bu]
 generalize m.gK[i]=v;rw[show trX (m.gG.length:Int) v=(decide (v[0] < 0\/v[0]>=(m.gG.length:Int)\/v[0]=v[1])||(decide (v[1] < 0\/v[1]>=(m.gG.length:Int)\/v[1]=v[2])||decide (v[2] < 0\/v[2]>=(m.gG.length:Int)\/v[2]=v[0]))) from by rw[<- bu,<- bu];rfl]
 cases decide (v[0] < 0\/v[0]>=(m.gG.length:Int)\/v[0]=v[1]) <;> cases decide (v[1] < 0\/v[1]>=(m.gG.length:Int)\/v[1]=v[2]) <;> cases decide (v[2] < 0\/v[2]>=(m.gG.length:Int)\/v[2]=v[0]) <;> rfl
theorem aPO(N:Nat)(hN:1000 < N)(m:aL)(hu:m.gO.length<=500):nD N m=some (aCL m):=by
 unfold nD aCL;rw[aC,aC,aC]
 by_cases c1:m.gG.length > 64\/m.gK.length > 64
 ·rw[if_pos c1,pA,<- bu,dt (by omega),cond_true]
 rw[if_neg c1,pA,<- bu,df (by omega),cond_false,aC,aC,aC,aC,aC]
 by_cases c2:m.gG.length=0\/m.gK.length=0\/m.gO.length≠m.gG.length
 ·rw[if_pos c2,pA,pA,aIA,<- bu,<- bu,dt (by omega),cond_true]
 rw[if_neg c2,pA,pA,aIA,<- bu,<- bu,df (by omega),cond_false]
 obtain⟨k,rfl⟩:∃k,N=k+4:=⟨N - 4,by omega⟩
 rw[aAG m.gG aBK 8 (kB (k+4) m) (by omega) (λk i h=>by rw[kB,aC,dt (by omega),cond_true,dJ h,aa,offR,aa]) (λk=>by rw[kB,aC,df (by omega),cond_false]) (by omega),aa]
 rw[aAG m.gO uvX 5 (kD (k+4) m) (by omega) (λj i h=>by
  rw[kD,aC,dt (by omega),cond_true,r13L3 (k+4) m (k+1) h,aa];cases uvX m.gO[i] <;> rfl) (λk=>by rw[kD,aC,df (by omega),cond_false]) (by omega),aa]
 rw[aAG m.gK (trX (m.gG.length:Int)) 5 (kG (k+4) m) (by omega) (λj i h=>by
  rw[kG,aC,dt (by omega),cond_true,r13L5 (k+4) m k h,aa];cases trX (m.gG.length:Int) m.gK[i] <;> rfl) (λk=>by rw[kG,aC,df (by omega),cond_false]) (by omega),aa]
 cases m.gG.any aBK <;> cases m.gO.any uvX <;> cases m.gK.any (trX (m.gG.length:Int)) <;> rfl
theorem g3_0(v:Vector Int 3):v.toList[((0:Int).toNat)]? = some v[0]:=oT v 0 (by decide)
theorem g3_1(v:Vector Int 3):v.toList[((1:Int).toNat)]? = some v[1]:=oT v 1 (by decide)
theorem g3_2(v:Vector Int 3):v.toList[((2:Int).toNat)]? = some v[2]:=oT v 2 (by decide)
theorem aTO : aP 0 3=some ():=rfl
theorem aSa : aP 1 3=some ():=rfl
theorem aSZ : aP 2 3=some ():=rfl
def aB6(most:Int)(v:Vector Int 3):Bool:=decide ((v[0] < 0\/v[0] > most)\/(v[1] < 0\/v[1] > most)\/(v[2] < 0\/v[2] > most))
def aF6(s:Int):Bool:=decide (¬(s=1\/s=2\/s=4\/s=8\/s=16))
def aFd(t:aI):Int:=if aF6 t.gQ=true\/(t.gL.length:Int)≠I64 (t.gQ*t.gQ) then 5 else if t.gL.any (aB6 255)=true then 5 else 0
theorem aUo(N:Nat)(hN:1000 < N)(t:aI)(ht:t.gL.length+10 < N)(ht2:t.gL.length<=1000000):dW N t=some (aFd t):=by
 unfold dW aFd fL lX;rw[aEE [1,2,4,8,16] (by decide) (λe=>t.gQ==e) (F:=cY N [1,2,4,8,16] t.gQ) (λk i h=>by rw[cY,aC,dt (by omega),cond_true,dJ h,aa]) (λk=>by rw[cY,aC,df (by omega),cond_false]) (by show 5 < N;omega),aa]
 have e:(!(([1,2,4,8,16]:List Int).any λe=>t.gQ==e))=aF6 t.gQ:=by
  rw[iz]
  simp[aF6]
 rw[e,aC,aC,aC,pA,aIA]
 by_cases c:aF6 t.gQ=true\/(t.gL.length:Int)≠I64 (t.gQ*t.gQ)
 ·rw[if_pos c]
  rcases c with c | c
  ·rw[c,Bool.true_or,cond_true]
  ·rw[dt c,n7,cond_true]
 rw[if_neg c]
 rw[show aF6 t.gQ=false by simpa using λh=>c (.inl h),df (λh=>c (.inr h)),go,cond_false,aC]
 rw[aAG t.gL (aB6 255) 5 (iT N (t.gL.length:Int) t) (by omega) (λk i h=>by
  rw[iT,dt (by omega),cond_true,dJ h,aa]
  simp only[aTO,aSa,aSZ,g3_0,g3_1,g3_2,aa,aC,yH,pA]
  rw[dcg (aM3 _ _ _ _),dcg (aP3 _ _ _ _),<- bu]
  congr 1;exact dcg (by omega)) (λk=>by rw[iT,df (by omega),cond_false]) (by omega),aa]
 cases t.gL.any (aB6 255) <;> rfl
theorem texCE(N:Nat)(hN:1000 < N)(t:aI)(ht:t.gL.length<=500):dW N t=some (aFd t):=aUo N hN t (by omega) (by omega)
theorem aPl(most:Int)(v:Vector Int 3):aB6 most v=(decide (v[0] < 0\/v[0] > most)||(decide (v[1] < 0\/v[1] > most)||decide (v[2] < 0\/v[2] > most))):=by rw[<- bu,<- bu];rfl
theorem r14L2(N:Nat)(t:aI)(k:Nat){i:Nat}(h:i < t.gL.length):eK N t (i:Int) (k+4) 0=some (cond (aB6 255 t.gL[i]) (Sum.inr 5) (Sum.inl ())):=by
 have e1:I64 (0+1)=1:=by decide
 have e2:I64 (1+1)=2:=by decide
 have e3:I64 (2+1)=3:=by decide
 rw[eK,dt (by decide),cond_true,eK,e1,dt (by decide),cond_true,eK,e2,dt (by decide),cond_true,eK,e3,df (by decide),cond_false]
 simp only[dJ h,aa,aC,aIi,aI2,aIj,yH,pA,<- bu]
 generalize t.gL[i]=v;rw[aPl]
 cases decide (v[0] < 0\/v[0] > 255) <;> cases decide (v[1] < 0\/v[1] > 255) <;> cases decide (v[2] < 0\/v[2] > 255) <;> rfl
theorem aSd(a b:Bool):cond a b false=(a&&b):=by cases a <;> rfl
theorem aUj(N:Nat)(hN:1000 < N)(t:aI)(ht:t.gL.length+10 < N)(ht2:t.gL.length<=1000000):lD N t=some (aFd t):=by
 unfold lD aFd;simp only[aC,aSd,pA,aIA,<- Bool.decide_and,<- bu]
 obtain⟨k,rfl⟩:∃k,N=k+4:=⟨N - 4,by omega⟩
 have e:aF6 t.gQ=true↔((((t.gQ≠1/\t.gQ≠2)/\t.gQ≠4)/\t.gQ≠8)/\t.gQ≠16):=by
  unfold aF6;rw[decide_eq_true_eq]
  omega
 by_cases c:aF6 t.gQ=true\/(t.gL.length:Int)≠I64 (t.gQ*t.gQ)
 ·rw[if_pos c]
  rw[e] at c;rw[dt c,cond_true]
 ·rw[if_neg c]
  rw[e] at c;rw[df c,cond_false]
  rw[aAG t.gL (aB6 255) 5 (kK (k+4) t) (by omega) (λj i h=>by
   rw[kK,aC,dt (by omega),cond_true,r14L2 (k+4) t k h,aa];cases aB6 255 t.gL[i] <;> rfl) (λk=>by rw[kK,aC,df (by omega),cond_false]) (by omega),aa]
  cases t.gL.any (aB6 255) <;> rfl
theorem aSt(N:Nat)(hN:1000 < N)(t:aI)(ht:t.gL.length<=500):lD N t=some (aFd t):=aUj N hN t (by omega) (by omega)
def oX(most x:Int):Bool:=decide (x < 0\/x > most)
theorem aN6(N:Nat)(hN:1000 < N)(most:Int)(l:List Int)(hl:l.length<=500):iU N most l=some (l.any (oX most)):=by
 unfold iU cM dE;rw[aEE l (by omega) (oX most) (F:=bJ N l most) (λk i h=>by
  rw[bJ,aC,dt (by omega),cond_true,dJ h,aa,qT,aC,pA,<- bu,aa];rfl) (λk=>by rw[bJ,aC,df (by omega),cond_false]) (by omega),aa]
def aLw(m:aG):Int:=if (oX 4 m.gD||(aB6 65535 m.gF||oX 65535 m.gA5))=true then 5 else 0
theorem matCE(N:Nat)(hN:1000 < N)(m:aG):nI N m=some (aLw m):=by
 unfold nI aLw;rw[aN6 N hN 4 _ (by simp),aa]
 simp only[aIi,aI2,aIj,aa]
 rw[aN6 N hN 65535 _ (by simp),aa,yH,pA,aa,yH]
 simp only[ii,jj,go]
 rw[aPl,<- Bool.or_assoc (decide (m.gF[0] < 0\/m.gF[0] > 65535))]
 unfold oX;cases decide (m.gD < 0\/m.gD > 4) <;> cases decide (m.gF[0] < 0\/m.gF[0] > 65535) <;> cases decide (m.gF[1] < 0\/m.gF[1] > 65535) <;> cases decide (m.gF[2] < 0\/m.gF[2] > 65535) <;> cases decide (m.gA5 < 0\/m.gA5 > 65535) <;> rfl
theorem r15M(N:Nat)(m:aG)(k:Nat):dH N m (k+4) 0=some (cond (aB6 65535 m.gF) (Sum.inr 5) (Sum.inl ())):=by
 have e1:I64 (0+1)=1:=by decide
 have e2:I64 (1+1)=2:=by decide
 have e3:I64 (2+1)=3:=by decide
 rw[dH,dt (by decide),cond_true,dH,e1,dt (by decide),cond_true,dH,e2,dt (by decide),cond_true,dH,e3,df (by decide),cond_false]
 simp only[aa,aC,aIi,aI2,aIj,yH,pA,<- bu]
 generalize m.gF=v;rw[aPl]
 cases decide (v[0] < 0\/v[0] > 65535) <;> cases decide (v[1] < 0\/v[1] > 65535) <;> cases decide (v[2] < 0\/v[2] > 65535) <;> rfl
theorem matCR(N:Nat)(hN:1000 < N)(m:aG):nB N m=some (aLw m):=by
 unfold nB aLw;obtain⟨k,rfl⟩:∃k,N=k+4:=⟨N - 4,by omega⟩
 simp only[aC,pA,<- bu]
 rw[r15M,aa,show(decide (((m.gD < 0\/m.gD > 4)\/m.gA5 < 0)\/m.gA5 > 65535))=(oX 4 m.gD||oX 65535 m.gA5) from by unfold oX;rw[<- bu];exact dcg (by omega)]
 cases oX 4 m.gD <;> cases aB6 65535 m.gF <;> cases oX 65535 m.gA5 <;> rfl
def pN(p:aB):Bool := !(aB.eq p (aB.mk 0 0 0))
def aKr(l:aK):Int:=if (oX 2 l.gD||aB6 1048576 l.gF)=true then 5 else if (aBK l.gAt||(aBK l.gU||aBK l.gV))=true then 8 else if (l.gD=2/\pN l.gAt=true)\/(l.gD≠1/\(pN l.gU||pN l.gV)=true) then 5 else 0
theorem slc3(v:Vector Int 3):dU v.toList 0 3=some [v[0],v[1],v[2]]:=by
 have h:dU v.toList 0 3=some v.toList:=aJy (m:=3) v;rw[h]
 congr 1;apply List.ext_getElem (by simp)
 intro i h1 h2;have:i < 3:=by simpa using h1
 match i,this with
 | 0,_=>simp
 | 1,_=>simp
 | 2,_=>simp
theorem out3l(most:Int)(v:Vector Int 3):[v[0],v[1],v[2]].any (oX most)=aB6 most v:=by
 rw[aPl]
 simp only[ii,jj,go]
 rfl
theorem ligCE(N:Nat)(hN:1000 < N)(l:aK):rJ N l=some (aKr l):=by
 unfold rJ aKr;rw[aN6 N hN 2 _ (by simp),aa,slc3,aa,aN6 N hN 1048576 _ (by simp),aa,out3l,aPF,aa,aPF,aa,aPF,aa]
 simp only[ii,jj,go,yH,pA,aa,aC]
 change _=some (if _ then _ else if _ then _ else _)
 have k2:(l.gD==2)=decide (l.gD=2):=yF _ _;have k0:(l.gD==0)=decide (l.gD=0):=yF _ _;rw[k2,k0]
 cases hx:(oX 2 l.gD||aB6 1048576 l.gF) with
 | true=>rfl
 | false=>
  have kr:0<=l.gD/\l.gD<=2:=by
   have:=(ju.1 hx).1;unfold oX at this;have:=of_decide_eq_false this;omega
  rw[cond_false,if_neg (by decide)]
  cases (aBK l.gAt||(aBK l.gU||aBK l.gV)) with
  | true=>rfl
  | false=>
   rw[cond_false,if_neg (by decide)]
   show qS (cond (decide (l.gD=2)) (cond (pN l.gAt) (Sum.inr (5:Int)) (cond (pN l.gU||pN l.gV) (Sum.inr 5) (Sum.inl ()))) (cond (decide (l.gD=0)) (cond (pN l.gU||pN l.gV) (Sum.inr 5) (Sum.inl ())) (Sum.inl ()))) (λ_=>some (0:Int)) (λr=>some r)=_;by_cases q2:l.gD=2
   ·rw[dt q2,cond_true]
    cases h1:pN l.gAt with
    | true=>rw[if_pos (.inl ⟨q2,rfl⟩)];rfl
    | false=>
     cases h2:(pN l.gU||pN l.gV) with
     | true=>rw[if_pos (.inr ⟨by omega,rfl⟩)];rfl
     | false=>rw[if_neg (by simp)];rfl
   ·rw[df q2,cond_false]
    by_cases q0:l.gD=0
    ·rw[dt q0,cond_true]
     cases h2:(pN l.gU||pN l.gV) with
     | true=>rw[if_pos (.inr ⟨by omega,rfl⟩)];rfl
     | false=>rw[if_neg (by simp;intro h;exact absurd h q2)];rfl
    ·rw[df q0,cond_false,if_neg (by rintro(⟨h,_⟩ | ⟨h,_⟩) <;> omega)]
     rfl
theorem r15L(N:Nat)(m:aK)(k:Nat):eN N m (k+4) 0=some (cond (aB6 1048576 m.gF) (Sum.inr 5) (Sum.inl ())):=by
 have e1:I64 (0+1)=1:=by decide
 have e2:I64 (1+1)=2:=by decide
 have e3:I64 (2+1)=3:=by decide
 rw[eN,dt (by decide),cond_true,eN,e1,dt (by decide),cond_true,eN,e2,dt (by decide),cond_true,eN,e3,df (by decide),cond_false]
 simp only[aa,aC,aIi,aI2,aIj,yH,pA,<- bu]
 generalize m.gF=v;rw[aPl]
 cases decide (v[0] < 0\/v[0] > 1048576) <;> cases decide (v[1] < 0\/v[1] > 1048576) <;> cases decide (v[2] < 0\/v[2] > 1048576) <;> rfl
theorem ligCR(N:Nat)(hN:1000 < N)(l:aK):pV N l=some (aKr l):=by
 unfold pV aKr;obtain⟨k,rfl⟩:∃k,N=k+4:=⟨N - 4,by omega⟩
 rw[r15L,offR,aa,offR,aa,offR,aa]
 simp only[aC,pA,yH,<- bu,aa]
 have k2:(l.gD==2)=decide (l.gD=2):=yF _ _;have k1:(l.gD != 1)=decide (l.gD≠1):=aIA _ _;rw[k2,k1]
 show cond (oX 2 l.gD) (some (5:Int)) (qS (cond (aB6 1048576 l.gF) (Sum.inr (5:Int)) (Sum.inl ())) (λ_=>some (cond (aBK l.gAt||(aBK l.gU||aBK l.gV)) (8:Int) (cond (cond (decide (l.gD=2)) (pN l.gAt||cond (decide (l.gD≠1)) (pN l.gU||pN l.gV) false) (cond (decide (l.gD≠1)) (pN l.gU||pN l.gV) false)) 5 0))) (λr=>some r))=_;cases hx:oX 2 l.gD with
 | true=>rfl
 | false=>
  rw[cond_false,Bool.false_or]
  cases aB6 1048576 l.gF with
  | true=>rfl
  | false=>
   cases (aBK l.gAt||(aBK l.gU||aBK l.gV)) with
   | true=>rfl
   | false=>
    rw[if_neg (by decide),if_neg (by decide)]
    show some (cond _ (5:Int) 0)=_;congr 1;refine cif ?_ _ _;by_cases q2:l.gD=2
    ·rw[dt q2,cond_true,dt (by omega),cond_true,ib]
     constructor
     ·rintro(h | h)
      ·exact .inl ⟨q2,h⟩
      ·exact .inr ⟨by omega,h⟩
     ·rintro(h | h)
      ·exact .inl h.2
      ·exact .inr h.2
    ·rw[df q2,cond_false,aSd,Bool.and_eq_true,decide_eq_true_eq]
     constructor
     ·exact .inr
     ·rintro(h | h)
      ·exact absurd h.1 q2
      ·exact h
theorem tsm3{n:Nat}(B:Nat->Int){t:Nat}(h:t < n):((bo n).map B).take (t+1)=((bo n).map B).take t++[B t]:=by
 rw[List.take_succ,ci,ez h]
 rfl
theorem aTH(N w:Nat)(hw:w<=8):∀(k i:Nat),i<=w->w - i < k->nR N (w:Int) k (cH i - 1) (i:Int)=some (cH w - 1)
 | 0,_,_,h=>by omega
 | k+1,i,hi,hk=>by
  rw[nR]
  by_cases h:i < w
  ·have hb:cH i<=72057594037927936:=by
    have:∀i:Fin 8,cH i.val<=72057594037927936:=by decide
    exact this ⟨i,by omega⟩
   have hp:=aA9 i;have e:U64 (U64 ((cH i - 1)*256)+255)=cH (i+1) - 1:=by rw[aPv,eJ (x:=(cH i - 1)*256) (by omega) (by omega),eJ (by omega) (by omega)];omega
   rw[dt (by omega),cond_true,aC,e,cZ (by omega)]
   exact aTH N w hw k (i+1) (by omega) (by omega)
  ·obtain rfl:i=w:=by omega
   rw[df (by omega),cond_false]
theorem aQe(N:Nat)(hN:8 < N)(w:Nat)(hw:w<=8):jY N (w:Int)=some (cH w - 1):=by
 unfold jY;have:=aTH N w hw N 0 (by omega) (by omega)
 rw[show cH 0 - 1=0 from rfl,show((0:Nat):Int)=0 from rfl] at this;rw[this,aa]
theorem aQ8(N w:Nat)(hw:w<=8)(x:Int)(hx:0<=x/\x < 18446744073709551616)(s:List Int)(hs:s.length<=100000000000000):∀(k i:Nat),i<=w->w - i < k->oJ N (w:Int) k (s++(leB w x).take i) (x / cH i) (i:Int)=some (s++leB w x)
 | 0,_,_,h=>by omega
 | k+1,i,hi,hk=>by
  rw[oJ]
  by_cases h:i < w
  ·have hp:=aA9 i;have h0:0<=x / cH i:=Int.ediv_nonneg hx.1 (by omega)
   have h1:x / cH i<=x:=Int.ediv_le_self _ hx.1;have e1:U8 (br (x / cH i) 256)=U8 (shr .u64 x ((8*i:Nat):Int)):=by
    rw[aHH _ _ (by omega),cz h0,aAz,aAz];omega
   have e2:U64 (cv (x / cH i) 256)=x / cH (i+1):=by
    rw[div_s,dc h0,eJ (by omega) (by omega)]
   have e3:(leB w x).take (i+1)=(leB w x).take i++[U8 (shr .u64 x ((8*i:Nat):Int))]:=tsm3 _ h;rw[dt (by omega),cond_true,eF (by simp[iI];omega),aa,e1,e2,cZ (by omega),ap,<- e3]
   exact aQ8 N w hw x hx s hs k (i+1) (by omega) (by omega)
  ·obtain rfl:i=w:=by omega
   rw[df (by omega),cond_false,ar (by rw[iI];omega)]
theorem putR(N:Nat)(b:List Int)(w:Nat)(hw0:1<=w)(hw:w<=8)(ns:List Int)(hns:aPd ns)(hb:b.length<=10000000000000)(hl:ns.length<=1000000000000)(hN:8 < N)(hlN:ns.length < N):bP N b (w:Int) ns=some (aI1 b w ns):=by
 unfold bP;rw[df (show ¬(w:Int) < 1 by omega),df (show ¬(w:Int) > 8 by omega),cond_false,aC,cond_false,eF (by simp;omega),aa,dm]
 have:=aEC ns (by omega) (big w) (leB w) (([],3):List Int×Int) (λs i=>s.length<=10000000000000+8*i) (λk s i=>mH N ns (w:Int) k s i) (by intro s i h hs;simp[iI];omega) (λk s i h hs=>by
  have hx:=hns _ (ck h)
  rw[mH,aC,dt (by omega),cond_true,dJ h,aa,aQe N hN w hw,aa]
  have e:decide (ns[i] > cH w - 1)=big w ns[i]:=by
   unfold big;by_cases hb:cH w<=ns[i]
   ·rw[dt hb,dt (by omega)]
   ·rw[df hb,df (by omega)]
  rw[e]
  cases hbg:big w ns[i] with
  | true=>rfl
  | false=>
   have:=aQ8 N w hw ns[i] hx s (by omega) N 0 (by omega) (by omega)
   rw[jq,dq,show cH 0=1 from rfl,nf,show((0:Nat):Int)=0 from rfl] at this;rw[cond_false,cond_false,aa,this,aa]) (λk s=>by rw[mH,aC,df (by omega),cond_false]) N 0 b (by omega) (by omega) (by omega)
 rw[show((0:Nat):Int)=0 from rfl,eu] at this;rw[this,aa]
 unfold aI1;cases ns.any (big w) <;> rfl
theorem sgnR(N:Nat)(b:List Int)(w:Nat)(hw0:1<=w)(hw:w<=8)(ns:List Int)(hns:aQR ns)(hb:b.length<=10000000000000)(hl:ns.length<=1000000000000)(hN:8 < N)(hlN:ns.length < N):mN N b (w:Int) ns=some (aQS b w ns):=by
 unfold mN;have hp:=aA9 w;have hp2:cH w / 2*2=cH w:=by
  have:∀i:Fin 9,1<=i.val->cH i.val / 2*2=cH i.val:=by decide
  exact this ⟨w,by omega⟩ hw0
 have hp3:cH w<=18446744073709551616:=by
  have:∀i:Fin 9,cH i.val<=18446744073709551616:=by decide
  exact this ⟨w,by omega⟩
 have e3:I64 (U64 (cv (cH w - 1) 2))=cH w / 2 - 1:=by
  rw[dc (by omega),eJ (by omega) (by omega),aR (by omega) (by omega)];omega
 rw[df (show ¬(w:Int) < 1 by omega),df (show ¬(w:Int) > 8 by omega),cond_false,aC,cond_false,aQe N hN w hw,aa,aC,e3]
 have:=aEC ns (by omega) (aES w) (λx=>[x % cH w]) (([],3):List Int×Int) (λs i=>s.length=i) (λk s i=>iV N ns (cH w / 2 - 1) (w:Int) k s i) (by intro s i h hs;simp;omega) (λk s i h hs=>by
  have hx:=hns _ (ck h)
  obtain⟨x0,x1⟩:=hx;have f:I64 (I64 (0 - (cH w / 2 - 1)) - 1) = -(cH w / 2):=by rw[aR (x:=0 - (cH w / 2 - 1)) (by omega) (by omega),aR (by omega) (by omega)];omega
  rw[iV,aC,dt (by omega),cond_true,dJ h,aa,aa,aC,f]
  generalize ns[i]=x at *;have e:(cond (decide (x > cH w / 2 - 1)) (some true) (some (decide (x < -(cH w / 2)))))=some (aES w x):=by
   unfold aES;by_cases h1:cH w / 2<=x
   ·rw[dt (show x > cH w / 2 - 1 by omega),dt h1,n7];rfl
   ·rw[df (show ¬x > cH w / 2 - 1 by omega),df h1,go];rfl
  rw[e,aa]
  cases hbg:aES w x with
  | true=>rfl
  | false=>
   unfold aES at hbg;rw[ju,decide_eq_false_iff_not,decide_eq_false_iff_not] at hbg;obtain⟨b1,b2⟩:=hbg;have e2:(cond (decide (x < 0)) (ae (jY N (w:Int)) λr15=>ae (some x) λe16=>aN (I64 (0 - I64 (e16+1))) λx17=>some (U64 (r15 - U64 x17))) (some (U64 x)))=some (x % cH w):=by
    by_cases hneg:x < 0
    ·rw[dt hneg,cond_true,aQe N hN w hw,aa,aa,aC,aR (x:=x+1) (by omega) (by omega),aR (x:=0 - (x+1)) (by omega) (by omega),eJ (x:=0 - (x+1)) (by omega) (by omega),eJ (by omega) (by omega)]
     have:x % cH w=x+cH w:=by
      rw[<- Int.add_emod_right,li (by omega) (by omega)]
     rw[this]
     congr 1;omega
    ·rw[df hneg,cond_false,eJ (by omega) (by omega),li (by omega) (by omega)]
   rw[cond_false,cond_false,aa,aa,e2,aa,eF (by simp;omega),aa]) (λk s=>by rw[iV,aC,df (by omega),cond_false]) N 0 [] rfl (by omega) (by omega)
 rw[show((0:Nat):Int)=0 from rfl,eu,dm] at this;rw[this,aa]
 unfold aQS;cases ns.any (aES w) with
 | true=>rfl
 | false=>
  rw[cond_false,cond_false]
  show ae (bP N b (w:Int) (ns.flatMap λx=>[x % cH w])) _=_;rw[show(ns.flatMap λx=>[x % cH w])=ns.map (λx=>x % cH w) by
   clear this hns hl hlN
   induction ns with
   | nil=>rfl
   | cons a l ih=>simp[cx,ih]]
  rw[putR N b w hw0 hw _ (by intro y hy;obtain⟨x,_,rfl⟩:=List.mem_map.1 hy;exact modU w hw x) hb (by simpa using hl) hN (by simpa using hlN),aa]
theorem aQW(N:Nat)(b:List Int)(w:Nat)(hw0:1<=w)(hw:w<=8)(ns:List Int)(hns:aPd ns)(hb:b.length<=1000000)(hl:ns.length<=100)(hN:100 < N):bP N b (w:Int) ns=bO N b (w:Int) ns:=by
 rw[putR N b w hw0 hw ns hns (by omega) (by omega) (by omega) (by omega),aOX N b w hw0 hw ns hns (by omega) (by omega) (by omega) (by omega)]
theorem aJi(N:Nat)(hN:100 < N)(b:List Int)(p:aB)(h:ptG p)(hb:b.length<=1000000):iS N b p=some (b++ptB p):=by
 obtain⟨hx,hy,hz⟩:=h;have hi:aQR [p.gX,p.gY,p.gZ]:=by intro q hq;simp at hq;unfold aDQ;rcases hq with rfl | rfl | rfl <;> omega
 have e1:=sgnP N b 2 (by decide) (by decide) [p.gX,p.gY,p.gZ] hi (by omega) (by simp) (by omega) (by simp;omega)
 have e2:=sgnR N b 2 (by decide) (by decide) [p.gX,p.gY,p.gZ] hi (by omega) (by simp) (by omega) (by simp;omega)
 have e3:=sgn3 N (by omega) b p ⟨hx,hy,hz⟩ hb;rw[show lW N b 2 [p.gX,p.gY,p.gZ]=_ from e1] at e3;unfold iS;rw[show mN N b 2 [p.gX,p.gY,p.gZ]=_ from e2,e3]
 rfl
theorem aOQ{x:Int}(h:0<=x/\x < 65536):leB 2 x=[U8 (br x 256),U8 (I64 (cv x 256))]:=by
 rw[show leB 2 x=[U8 (shr .u64 x ((8*0:Nat):Int)),U8 (shr .u64 x ((8*1:Nat):Int))] from rfl,aHH x 0 (by decide),aHH x 1 (by decide),show cH 0=1 from rfl,show cH 1=256 from rfl,cz h.1,dc h.1,aR (by omega) (by omega),nf,aAz,aAz,aAz]
 congr 1;omega
theorem trB1{v:Vector Int 3}(h:trG 256 v):trB 1 v=[v[0],v[1],v[2]]:=by
 obtain⟨q0,q1,q2⟩:=h;unfold trB;rw[aBZ q0,aBZ q1,aBZ q2]
 rfl
theorem aUv(N:Nat)(hN:1000 < N)(m:aL)(g:aJX m)(h0:aCL m=0):oI N m=some (aLn m,0):=by
 have nv:=g.nv;have nt:=g.nt;have nu:=g.nu;unfold oI;rw[aPO N hN m (by omega),h0,aa,show((0:Int) != 0)=false from rfl,cond_false,aC,aC,tO (x:=(m.gG.length:Int)) (by omega) (by omega),tO (x:=(m.gK.length:Int)) (by omega) (by omega)]
 have e1:I64 (0+1)=1:=by decide
 have e2:I64 (1+1)=2:=by decide
 have e3:I64 (2+1)=3:=by decide
 obtain⟨kN,rfl⟩:∃k,N=k+4:=⟨N - 4,by omega⟩
 have l1:=mL m.gG.length (by omega) (λi=>ptB (m.gG.getD i ⟨0,0,0⟩)) (λs i=>s.length<=100+6*i) (iY (kN+4) m) (by intro s i hi hs;simp[aBR];omega) (λk s i hi hs=>by
  have hp:=g.v _ (ck hi)
  rw[iY,aC,dt (by omega),cond_true,dJ hi,aa,aJi (kN+4) (by omega) s _ hp (by omega),aa]
  rw[an,ah hi]
  rfl) (λk s=>by rw[iY,aC,df (by omega),cond_false]) (N:=kN+4) (by omega) (s:=[(m.gG.length:Int),(m.gK.length:Int)]) (by simp)
 rw[l1,aa,hflat m.gG ⟨0,0,0⟩ ptB]
 have hlen1:=aB3 aBR m.gG;have l2:=mL m.gO.length (by omega) (λi=>uvB (m.gO.getD i #v[0,0])) (λs i=>s.length<=1000+4*i) (jC (kN+4) m) (by intro s i hi hs;simp[aG0];omega) (λk s i hi hs=>by
  have hp:=g.u _ (ck hi)
  rw[jC,aC,dt (by omega),cond_true]
  rw[jH,dt (by decide),cond_true,dJ hi,aa,aPq,aa,aa,aPq,aa,aC,rE (by omega) (by simp),aa,<- aOQ hp.1,e1,jH,dt (by decide),cond_true,dJ hi,aa,aQH,aa,aa,aQH,aa,aC,rE (by rw[ai,iI];omega) (by simp),aa,<- aOQ hp.2,e2,jH,df (by decide),cond_false,aa,ap,an,ah hi]
  rfl) (λk s=>by rw[jC,aC,df (by omega),cond_false]) (N:=kN+4) (by omega) (s:=[(m.gG.length:Int),(m.gK.length:Int)]++m.gG.flatMap ptB) (by simp at hlen1 ⊢;omega)
 rw[l2,aa,hflat m.gO #v[0,0] uvB]
 have hlen2:=aB3 aG0 m.gO;have l3:=mL m.gK.length (by omega) (λi=>trB 1 (m.gK.getD i #v[0,0,0])) (λs i=>s.length<=2000+3*i) (jG (kN+4) m) (by intro s i hi hs;simp[aEU];omega) (λk s i hi hs=>by
  have hp:=g.t _ (ck hi)
  obtain⟨q0,q1,q2⟩:=hp;rw[jG,aC,dt (by omega),cond_true]
  rw[fT,dt (by decide),cond_true,dJ hi,aa,aIi,aa,rE (by omega) (by simp),aa,e1,fT,dt (by decide),cond_true,dJ hi,aa,aI2,aa,rE (by rw[ai,cn];omega) (by simp),aa,e2,fT,dt (by decide),cond_true,dJ hi,aa,aIj,aa,rE (by simp only[ai,cn];omega) (by simp),aa,e3,fT,df (by decide),cond_false,aa,tO q0.1 q0.2,tO q1.1 q1.2,tO q2.1 q2.2,ap,ap,an,ah hi,dz,trB1 ⟨q0,q1,q2⟩]
  rfl) (λk s=>by rw[jG,aC,df (by omega),cond_false]) (N:=kN+4) (by omega) (s:=[(m.gG.length:Int),(m.gK.length:Int)]++m.gG.flatMap ptB++m.gO.flatMap uvB) (by simp at hlen1 hlen2 ⊢;omega)
 rw[l3,aa,hflat m.gK #v[0,0,0] (trB 1)]
 unfold aLn;rw[aBZ (x:=(m.gG.length:Int)) ⟨by omega,by omega⟩,aBZ (x:=(m.gK.length:Int)) ⟨by omega,by omega⟩]
 simp[ap]
theorem texER(N:Nat)(hN:1000 < N)(t:aI)(g:aOW t)(h0:aFd t=0):oG N t=some (aPn t,0):=by
 unfold oG;have n1:=g.side;have n2:=g.n;have n3:t.gQ*t.gQ<=16*16:=Int.mul_le_mul n1.2 n1.2 (by omega) (by decide)
 rw[aSt N hN t (by omega),h0,aa,show((0:Int) != 0)=false from rfl,cond_false,tO (x:=t.gQ) (by omega) (by omega)]
 have e1:I64 (0+1)=1:=by decide
 have e2:I64 (1+1)=2:=by decide
 have e3:I64 (2+1)=3:=by decide
 obtain⟨kN,rfl⟩:∃k,N=k+4:=⟨N - 4,by omega⟩
 have l3:=mL t.gL.length (by omega) (λi=>trB 1 (t.gL.getD i #v[0,0,0])) (λs i=>s.length<=2000+3*i) (iX (kN+4) t) (by intro s i hi hs;simp[aEU];omega) (λk s i hi hs=>by
  have hp:=g.t _ (ck hi)
  obtain⟨q0,q1,q2⟩:=hp;rw[iX,aC,dt (by omega),cond_true]
  rw[fM,dt (by decide),cond_true,dJ hi,aa,aIi,aa,rE (by omega) (by simp),aa,e1,fM,dt (by decide),cond_true,dJ hi,aa,aI2,aa,rE (by rw[ai,cn];omega) (by simp),aa,e2,fM,dt (by decide),cond_true,dJ hi,aa,aIj,aa,rE (by simp only[ai,cn];omega) (by simp),aa,e3,fM,df (by decide),cond_false,aa,tO q0.1 q0.2,tO q1.1 q1.2,tO q2.1 q2.2,ap,ap,an,ah hi,dz,trB1 ⟨q0,q1,q2⟩]
  rfl) (λk s=>by rw[iX,aC,df (by omega),cond_false]) (N:=kN+4) (by omega) (s:=[t.gQ]) (by simp)
 rw[l3,aa,hflat t.gL #v[0,0,0] (trB 1)]
 unfold aPn;rw[aBZ (x:=t.gQ) ⟨by omega,by omega⟩]
theorem aPs(N:Nat)(hN:1000 < N)(a:aF)(g:aOJ a)(h1:a.gD=1->aCL a.gW=0)(h2:a.gD=2->aFd a.gA1=0):kW N a=some (sK a):=by
 unfold kW sK;rcases g with ⟨k,g⟩ | ⟨k,g⟩ | ⟨k,g⟩ | ⟨k,g⟩
 ·rw[k,show((1:Int)==1)=true from rfl,cond_true,aUv N hN _ g (h1 k),if_pos rfl]
  rfl
 ·rw[k,show((2:Int)==1)=false from rfl,show((2:Int)==2)=true from rfl,cond_false,cond_true,texER N hN _ g (h2 k),if_neg (by decide),if_pos rfl]
  rfl
 ·rw[k,show((3:Int)==1)=false from rfl,show((3:Int)==2)=false from rfl,show((3:Int)==3)=true from rfl,cond_false,cond_false,cond_true,if_neg (by decide),if_neg (by decide),if_pos rfl]
  obtain⟨g1,⟨g2,g3,g4⟩,g5⟩:=g;rw[aTO,aa,g3_0,aa,aSa,aa,g3_1,aa,aSZ,aa,g3_2,aa,tO g1.1 g1.2]
  have l:=mL 4 (by decide) (λi=>leB 2 ([a.gJ.gF[0],a.gJ.gF[1],a.gJ.gF[2],a.gJ.gA5].getD i 0)) (λs i=>s.length<=100+2*i) (kF N a.gJ.gF[0] a.gJ.gF[1] a.gJ.gF[2] a) (by intro s i hi hs;simp[iI];omega) (λk s i hi hs=>by
   have hx:0<=[a.gJ.gF[0],a.gJ.gF[1],a.gJ.gF[2],a.gJ.gA5].getD i 0/\[a.gJ.gF[0],a.gJ.gF[1],a.gJ.gF[2],a.gJ.gA5].getD i 0 < 65536:=by
    have:i=0\/i=1\/i=2\/i=3:=by omega
    rcases this with rfl | rfl | rfl | rfl
    ·exact g2
    ·exact g3
    ·exact g4
    ·exact g5
   rw[kF,dt (by omega),cond_true,tY (by simp;omega),aa,aa,aC,<- aOQ hx,rE (by omega) (by rw[iI];omega),aa]) (λk s=>by rw[kF,df (by omega),cond_false]) (N:=N) (by omega) (s:=[a.gJ.gD]) (by simp)
  rw[l,aa]
  unfold matB trB;rw[aBZ g1]
  rfl
 ·rw[k,show((4:Int)==1)=false from rfl,show((4:Int)==2)=false from rfl,show((4:Int)==3)=false from rfl,cond_false,cond_false,cond_false,if_neg (by decide),if_neg (by decide),if_neg (by decide)]
  obtain⟨g1,⟨g2,g3,g4⟩,g5,g6,g7⟩:=g;rw[tO g1.1 g1.2]
  have l:=mL 3 (by decide) (λi=>leB 4 (a.gE.gF.toList.getD i 0)) (λs i=>s.length<=100+4*i) (kH N a) (by intro s i hi hs;simp[iI];omega) (λk s i hi hs=>by
   have hx:0<=a.gE.gF.toList.getD i 0/\a.gE.gF.toList.getD i 0 < 4294967296:=by
    have:i=0\/i=1\/i=2:=by omega
    rcases this with rfl | rfl | rfl
    ·rw[wN _ 0 (by decide)];exact g2
    ·rw[wN _ 1 (by decide)];exact g3
    ·rw[wN _ 2 (by decide)];exact g4
   have ti:((i:Nat):Int).toNat=i:=rfl;have e:=aMA N (by omega) s 4 (by decide) (by decide) _ hx.1 hx.2 (by omega)
   rw[<- aQW N s 4 (by decide) (by decide) _ (by intro q hq;rw[iy.1 hq];exact⟨hx.1,by omega⟩) (by omega) (by simp) (by omega)] at e;rw[kH,dt (by omega),cond_true,cD (by omega) (by omega),aa,ti,lG (by simp;omega),aa,eJ hx.1 (by omega),show bP N s 4 _=_ from e,aa]) (λk s=>by rw[kH,df (by omega),cond_false]) (N:=N) (by omega) (s:=[a.gE.gD]) (by simp)
  have lw:([a.gE.gD]++(bo 3).flatMap (λi=>leB 4 (a.gE.gF.toList.getD i 0)))=leB 1 a.gE.gD++trB 4 a.gE.gF:=by
   rw[aBZ g1,show(bo 3)=[0,1,2] from rfl]
   simp only[cx,List.flatMap_nil,dq]
   rw[wN _ 0 (by decide),wN _ 1 (by decide),wN _ 2 (by decide)]
   rfl
  rw[l,lw,aa]
  have lt:=aEU 4 a.gE.gF;have l1:=iI 1 a.gE.gD;have la:=aBR a.gE.gAt;have lu:=aBR a.gE.gU;rw[aJi N (by omega) _ _ g5 (by rw[ai];omega),aa,aJi N (by omega) _ _ g6 (by simp only[ai];omega),aa,aJi N (by omega) _ _ g7 (by simp only[ai];omega),aa]
  unfold ligB;simp only[ap]
def aAP(a:aF):Int:=if a.gD=1 then aCL a.gW else if a.gD=2 then aFd a.gA1 else if a.gD=3 then aLw a.gJ else if a.gD=4 then aKr a.gE else 12
theorem aPJ(N:Nat)(hN:1000 < N)(a:aF)(h:aFp a):nT N a=some (aAP a):=by
 unfold nT aAP;rw[yF,yF,yF,yF,aUS N hN _ h.u,texCE N hN _ h.x,matCE N hN,ligCE N hN]
 by_cases k1:a.gD=1
 ·rw[dt k1,if_pos k1];rfl
 rw[df k1,if_neg k1]
 by_cases k2:a.gD=2
 ·rw[dt k2,if_pos k2];rfl
 rw[df k2,if_neg k2]
 by_cases k3:a.gD=3
 ·rw[dt k3,if_pos k3];rfl
 rw[df k3,if_neg k3]
 by_cases k4:a.gD=4
 ·rw[dt k4,if_pos k4];rfl
 rw[df k4,if_neg k4]
 rfl
theorem aVA{a:aF}(k:a.gD=1):tL a↔(a.gA1=aAq/\a.gJ=aBB/\a.gE=aA5):=by
 obtain⟨gk,gm,gt,ga,gl⟩:=a;dsimp only at k;subst k;unfold tL;simp
theorem aTp{a:aF}(k:a.gD=2):tL a↔(a.gW=vI/\a.gJ=aBB/\a.gE=aA5):=by
 obtain⟨gk,gm,gt,ga,gl⟩:=a;dsimp only at k;subst k;unfold tL;simp
theorem aT5{a:aF}(k:a.gD=3):tL a↔(a.gW=vI/\a.gA1=aAq/\a.gE=aA5):=by
 obtain⟨gk,gm,gt,ga,gl⟩:=a;dsimp only at k;subst k;unfold tL;simp
theorem aT1{a:aF}(k:a.gD=4):tL a↔(a.gW=vI/\a.gA1=aAq/\a.gJ=aBB):=by
 obtain⟨gk,gm,gt,ga,gl⟩:=a;dsimp only at k;subst k;unfold tL;simp
theorem tex15(N:Nat)(t:aI):∃b,lI N t=some b/\(b=true↔¬t=aAq):=by
 refine⟨_,rfl,?_⟩
 obtain⟨s,l⟩:=t;show(cond (s != 0) true (decide ((l.length:Int) > 0)))=true↔_;rw[pA,aIA,<- bu,decide_eq_true_eq]
 unfold aAq;rw[aI.mk.injEq,<- f9]
 omega
theorem aU0(N:Nat)(m:aL)(hv:m.gG.length<=500)(hu:m.gO.length<=500)(ht:m.gK.length<=500):∃b,oA N m=some b/\(b=true↔¬m=vI):=by
 refine⟨_,rfl,?_⟩
 obtain⟨v,u,t⟩:=m;dsimp only at hv hu ht ⊢;show decide (I64 (I64 ((v.length:Int)+(u.length:Int))+(t.length:Int)) > 0)=true↔_;rw[aR (x:=(v.length:Int)+(u.length:Int)) (by omega) (by omega),aR (by omega) (by omega),decide_eq_true_eq]
 unfold vI;rw[aL.mk.injEq,<- f9,<- f9,<- f9]
 omega
theorem aPI{b:Bool}{p:Prop}(h:b=true↔p):(!b)=true↔¬p:=by
 rw[<- h];cases b <;> simp
theorem or3{a b c:Bool}{p q r:Prop}(ha:a=true↔¬p)(hb:b=true↔¬q)(hc:c=true↔¬r):(cond a true (cond b true c))=true↔¬(p/\q/\r):=by
 rw[pA,pA,ib,ib,ha,hb,hc]
 constructor
 ·rintro(h | h | h) ⟨h1,h2,h3⟩
  ·exact h h1
  ·exact h h2
  ·exact h h3
 ·intro h;by_cases hp:p
  ·by_cases hq:q
   ·exact .inr (.inr λhr=>h ⟨hp,hq,hr⟩)
   ·exact .inr (.inl hq)
  ·exact .inl hp
theorem aNv(c:Int)(a b d:Bool):(cond a (some (c,true)) (cond b (some (c,true)) (some (c,d))))=some (c,cond a true (cond b true d)):=by cases a <;> cases b <;> rfl
theorem aTx{a:aF}(h1:¬a.gD=1)(h2:¬a.gD=2)(h3:¬a.gD=3)(h4:¬a.gD=4):aAP a=12:=by
 unfold aAP;rw[if_neg h1,if_neg h2,if_neg h3,if_neg h4]
theorem aUU(N:Nat)(hN:1000 < N)(a:aF)(h:aFp a):∃c,nL N a=some c/\nC N a=some c:=by
 have zl:=aPI (aMk a.gE aA5)
 have zm:=aPI (aMF a.gJ aBB)
 obtain⟨bt,et,ht⟩:=tex15 N a.gA1;obtain⟨bm,em,hm⟩:=aU0 N a.gW h.v h.u h.t
 -- what the document has: the error of its own part, and whether there is another
 have key:∃o:Bool,(o=true↔¬tL a/\aAP a≠12\/aAP a=12/\o=true)/\nC N a=(cond (aAP a != 0) (some (aAP a)) (cond o (some 5) (ae (kW N a) λr18=>ae (fX N a.gD) λr19=>aN (decide (((r18.length:Int)) > r19)) λx20=>cond x20 (some 9) (some 0)))):=by
  unfold nC;rw[yF,yF,yF,yF,aPO N hN _ h.u,aSt N hN _ h.x,matCR N hN,ligCR N hN,et,em]
  by_cases k1:a.gD=1
  ·have e:aAP a=aCL a.gW:=by unfold aAP;rw[if_pos k1]
   have o:=or3 ht zm zl;rw[<- aVA k1] at o;refine⟨_,?_,by rw[dt k1,cond_true,aa,aa,aC,aC,aNv,aa,<- e]⟩
   rw[show(cond bt true (cond (!(aG.eq a.gJ (aG.mk 0 (#v[0,0,0]) 0))) true (!(aK.eq a.gE (aK.mk 0 (#v[0,0,0]) (aB.mk 0 0 0) (aB.mk 0 0 0) (aB.mk 0 0 0))))))=true↔¬tL a from o]
   have:aCL a.gW≠12:=by unfold aCL;split;decide;split;decide;split;decide;split <;> decide
   rw[e]
   constructor
   ·intro q;exact .inl ⟨q,this⟩
   ·rintro(q | q)
    ·exact q.1
    ·exact absurd q.1 this
  rw[df k1,cond_false]
  by_cases k2:a.gD=2
  ·have e:aAP a=aFd a.gA1:=by unfold aAP;rw[if_neg k1,if_pos k2]
   have o:=or3 hm zm zl;rw[<- aTp k2] at o;refine⟨_,?_,by rw[dt k2,cond_true,aa,aa,aC,aC,aNv,aa,<- e]⟩
   rw[show(cond bm true (cond (!(aG.eq a.gJ (aG.mk 0 (#v[0,0,0]) 0))) true (!(aK.eq a.gE (aK.mk 0 (#v[0,0,0]) (aB.mk 0 0 0) (aB.mk 0 0 0) (aB.mk 0 0 0))))))=true↔¬tL a from o]
   have:aFd a.gA1≠12:=by unfold aFd;split;decide;split <;> decide
   rw[e]
   constructor
   ·intro q;exact .inl ⟨q,this⟩
   ·rintro(q | q)
    ·exact q.1
    ·exact absurd q.1 this
  rw[df k2,cond_false]
  by_cases k3:a.gD=3
  ·have e:aAP a=aLw a.gJ:=by unfold aAP;rw[if_neg k1,if_neg k2,if_pos k3]
   have o:=or3 hm ht zl;rw[<- aT5 k3] at o;refine⟨_,?_,by rw[dt k3,cond_true,aa,aa,aa,aC,aNv,aa,<- e]⟩
   rw[show(cond bm true (cond bt true (!(aK.eq a.gE (aK.mk 0 (#v[0,0,0]) (aB.mk 0 0 0) (aB.mk 0 0 0) (aB.mk 0 0 0))))))=true↔¬tL a from o]
   have:aLw a.gJ≠12:=by unfold aLw;split <;> decide
   rw[e]
   constructor
   ·intro q;exact .inl ⟨q,this⟩
   ·rintro(q | q)
    ·exact q.1
    ·exact absurd q.1 this
  rw[df k3,cond_false]
  by_cases k4:a.gD=4
  ·have e:aAP a=aKr a.gE:=by unfold aAP;rw[if_neg k1,if_neg k2,if_neg k3,if_pos k4]
   have o:=or3 hm ht zm;rw[<- aT1 k4] at o;refine⟨_,?_,by rw[dt k4,cond_true,aa,aa,aa,aC,aNv,aa,<- e]⟩
   rw[show(cond bm true (cond bt true (!(aG.eq a.gJ (aG.mk 0 (#v[0,0,0]) 0)))))=true↔¬tL a from o]
   have:aKr a.gE≠12:=by unfold aKr;split;decide;split;decide;split <;> decide
   rw[e]
   constructor
   ·intro q;exact .inl ⟨q,this⟩
   ·rintro(q | q)
    ·exact q.1
    ·exact absurd q.1 this
  rw[df k4,cond_false]
  have e:=aTx k1 k2 k3 k4;refine⟨false,?_,by rw[e];rfl⟩
  rw[e]
  simp
 obtain⟨o,ho,hr⟩:=key;by_cases h0:aAP a=0
 ·rw[h0] at ho;have ho:o=true↔¬tL a:=by
   rw[ho];simp
  have own0:nT N a=some 0:=by rw[aPJ N hN a h,h0]
  obtain⟨r1,e1,h1⟩:=ownT N hN a h;have hown:aOJ a:=h1 (by rw[own0] at e1;exact(Option.some.inj e1).symm)
  obtain⟨b,eb,hb1,hb2,hb3⟩:=aSp N a h;obtain⟨r3,e3,h3⟩:=aTD N hN b (zA a.gD) hb1;have h3':r3=true↔tL a:=⟨λq=>hb2 (h3.1 q),λq=>h3.2 (hb3 q hown)⟩
  have hro:(!r3)=o:=by rw[iz,aPI h3',ho]
  have m0:a.gD=1->aCL a.gW=0:=by
   intro k;unfold aAP at h0;rw[if_pos k] at h0;exact h0
  have t0:a.gD=2->aFd a.gA1=0:=by
   intro k;unfold aAP at h0;rw[if_neg (by omega),if_pos k] at h0;exact h0
  have capE:fX N a.gD=some (zO a.gD):=by
   unfold fX zO;rw[yF,yF,yF,yF]
   by_cases k1:a.gD=1
   ·rw[dt k1,if_pos k1];rfl
   rw[df k1,if_neg k1]
   by_cases k2:a.gD=2
   ·rw[dt k2,if_pos k2];rfl
   rw[df k2,if_neg k2]
   by_cases k3:a.gD=3
   ·rw[dt k3,if_pos k3];rfl
   rw[df k3,if_neg k3]
   by_cases k4:a.gD=4
   ·rw[dt k4,if_pos k4];rfl
   rw[df k4,if_neg k4]
   rfl
  refine⟨cond o 5 (cond (decide (((sK a).length:Int) > zO a.gD)) 9 0),?_,?_⟩
  ·unfold nL;rw[own0,aa,show((0:Int) != 0)=false from rfl,cond_false,eb,aa,show sV N b (aF.mk a.gD (aL.mk [] [] []) (aI.mk 0 []) (aG.mk 0 (#v[0,0,0]) 0) (aK.mk 0 (#v[0,0,0]) (aB.mk 0 0 0) (aB.mk 0 0 0) (aB.mk 0 0 0)))=some r3 from e3,aa,hro,assE N hN a hown own0,aa,capP,aa,aC,yH,yH]
  ·rw[hr,h0,show((0:Int) != 0)=false from rfl,cond_false,aPs N hN a hown m0 t0,aa,capE,aa,aC,yH,yH]
 ·refine⟨aAP a,?_,?_⟩
  ·unfold nL;rw[aPJ N hN a h,aa,aIA,dt h0,cond_true]
  ·rw[hr,aIA,dt h0,cond_true]
def aGV(base:Vector Int 8)(n:Int)(i j:Nat):Int:=if j < 8 then base.toList.getD j 0 else if j < 8+i then U8 (shr .i64 n ((8*(j - 8):Nat):Int)) else 0
theorem aTe{n:Int}(h:aDQ n){j:Nat}(hj:j < 4):U8 (shr .u32 (U32 n) ((8*j:Nat):Int))=U8 (shr .i64 n ((8*j:Nat):Int)):=by
 rw[aAg .u32 _ _ (8*j) rfl (by show 8*j<=32;omega),aAg .i64 _ _ (8*j) rfl (by show 8*j<=64;omega),aAz,aAz,aKy]
 rcases(show j=0\/j=1\/j=2\/j=3 by omega) with rfl | rfl | rfl | rfl
 ·rw[show(2:Int) ^ (8*0)=1 from rfl];omega
 ·rw[show(2:Int) ^ (8*1)=256 from rfl];omega
 ·rw[show(2:Int) ^ (8*2)=65536 from rfl];omega
 ·rw[show(2:Int) ^ (8*3)=16777216 from rfl];omega
theorem aM7{base:Vector Int 8}{n:Int}{i:Nat}(hi:i < 4){s:Vector Int 12}(hs:∀j,j < 12->s.toList[j]? = some (aGV base n i j)):∀j,j < 12->(s.setIfInBounds (8+i) (U8 (shr .i64 n ((8*i:Nat):Int)))).toList[j]? = some (aGV base n (i+1) j):=by
 intro j hj;rw[bq,cr]
 unfold aGV;by_cases c:8+i=j
 ·subst c;rw[if_pos rfl,if_pos (by simp;omega),if_neg (by omega),if_pos (by omega),Nat.add_sub_cancel_left]
 ·rw[if_neg c,hs j hj]
  unfold aGV;by_cases c3:j < 8
  ·rw[if_pos c3,if_pos c3]
  ·rw[if_neg c3,if_neg c3]
   by_cases c5:j < 8+i
   ·rw[if_pos c5,if_pos (show j < 8+(i+1) by omega)]
   ·rw[if_neg c5,if_neg (show ¬j < 8+(i+1) by omega)]
theorem nonC(N:Nat)(hN:20 < N)(base:Vector Int 8)(n:Int):T (fV N base n) (λv=>∀j,j < 12->v.toList[j]? = some (aGV base n 4 j)):=by
 have b8:base.toList.length=8:=by simp
 unfold fV;refine T.bind (o:=aEJ 12 0 12) (P:=λ_=>True) ⟨(),rfl,trivial⟩ λ_ _=>?_;rw[show dU base.toList 0 8=some base.toList from aJy (m:=8) _,aa]
 refine T.bind (P:=λv=>∀j,j < 12->v.toList[j]? = some (aGV base n 0 j)) ?_ λv3 h3=>?_
 ·unfold cpV;rw[dif_pos (by decide)]
  refine⟨_,rfl,λj hj=>?_⟩
  unfold cpy aGV;have z:(ag 12 (0:Int)).toList=ak 12 0:=rfl;simp only[z,jq,dm,Nat.zero_add,b8]
  show((base.toList.take (min 12 8))++(ak 12 (0:Int)).drop (min 12 8))[j]? = _;rw[show min 12 8=8 from rfl,ar (by omega)]
  by_cases c:j < 8
  ·rw[if_pos c,List.getElem?_append_left (by omega),lG (by omega)]
  ·rw[if_neg c,if_neg (by omega),List.getElem?_append_right (by omega),List.drop_replicate,cw,if_pos (by omega)]
 ·refine T.bind (T.loop0 (n:=4) (by decide) (λi (v:Vector Int 12)=>∀j,j < 12->v.toList[j]? = some (aGV base n i j)) (F:=iJ N n) (λk s i hi hs Q hk=>?_) (λk s=>by rw[iJ,df (by omega),cond_false]) (by omega) h3) λp1 h=>T.ret h;have ti:((8+i:Nat):Int).toNat=8+i:=rfl;rw[iJ,dt (by omega),cond_true,show(8:Int)=((8:Nat):Int) from rfl,i4 (by omega),ia (by omega),cZ (by omega),kS .i64 (by omega),aa,cD (by omega) (by omega),aa,ti,hs _ (by omega),aa]
  exact hk _ (aM7 hi hs)
theorem aPT(N:Nat)(hN:20 < N){base:Vector Int 8}(hb:aQ base.toList)(n:Int):aQ (aJw N base n).toList:=by
 obtain⟨v,e,h⟩:=nonC N hN base n;rw[nonP N hN] at e;obtain rfl:=Option.some.inj e;intro x hx;obtain⟨j,hj,e⟩:=List.getElem_of_mem hx;have h2:=h j (by simpa using hj)
 rw[ah hj,e] at h2;obtain rfl:=Option.some.inj h2;unfold aGV;split
 ·rename_i c;exact hb _ (List.mem_of_getElem? (lG (by simpa using c)))
 split
 ·exact aIa _
 ·exact⟨by decide,by decide⟩
theorem nonR(N:Nat)(hN:20 < N)(base:Vector Int 8){n:Int}(hn:aDQ n):lB N base n=some (aJw N base n):=by
 have b8:base.toList.length=8:=by simp
 have ec:=nonC N hN base n;have er:T (lB N base n) (λv=>∀j,j < 12->v.toList[j]? = some (aGV base n 4 j)):=by
  unfold lB;refine T.bind (T.loop0 (n:=8) (by decide) (λi (v:Vector Int 12)=>∀j,j < 12->v.toList[j]? = some (if j < i then base.toList.getD j 0 else 0)) (F:=kE N base) (λk s i hi hs Q hk=>?_) (λk s=>by rw[kE,df (by omega),cond_false]) (by omega) (s:=ag 12 0) (λj hj=>?_)) λv1 h1=>?_
  ·have ti:((i:Nat):Int).toNat=i:=rfl;rw[kE,dt (by omega),cond_true,tY (by omega),aa,cD (by omega) (by omega),aa,ti,hs i (by omega),aa,cZ (by omega)]
   refine hk _ λj hj=>?_;rw[bq,cr]
   by_cases c:i=j
   ·subst c;rw[if_pos rfl,if_pos (by simp;omega),if_pos (by omega)]
   ·rw[if_neg c,hs j hj]
    by_cases c3:j < i
    ·rw[if_pos c3,if_pos (by omega)]
    ·rw[if_neg c3,if_neg (show ¬j < i+1 by omega)]
  ·have z:(ag 12 (0:Int)).toList=ak 12 0:=rfl;rw[z,cw,if_pos hj,if_neg (by omega)]
  ·refine T.bind (T.loop0 (n:=4) (by decide) (λi (v:Vector Int 12)=>∀j,j < 12->v.toList[j]? = some (aGV base n i j)) (F:=kI N n) (λk s i hi hs Q hk=>?_) (λk s=>by rw[kI,df (by omega),cond_false]) (by omega) (λj hj=>?_)) λp1 h=>T.ret h
   ·have ti:((8+i:Nat):Int).toNat=8+i:=rfl;rw[kI,dt (by omega),cond_true,show(8:Int)=((8:Nat):Int) from rfl,i4 (by omega),ia (by omega),cZ (by omega),kS .u32 (by omega),aa,cD (by omega) (by omega),aa,ti,hs _ (by omega),aa,aTe hn hi]
    exact hk _ (aM7 hi hs)
   ·rw[h1 j hj]
    unfold aGV;by_cases c:j < 8
    ·rw[if_pos c,if_pos c]
    ·rw[if_neg c,if_neg c,if_neg (by omega)]
 obtain⟨v,e1,h1⟩:=ec;obtain⟨w,e2,h2⟩:=er;have hvw:v=w:=by
  apply Vector.toList_inj.1;apply dp;intro j;by_cases c:j < 12
  ·rw[h1 j c,h2 j c]
  ·rw[bf (by simp;omega),bf (by simp;omega)]
 rw[nonP N hN] at e1;rw[e2,<- hvw,e1]
theorem capE(N:Nat)(k:Int):fX N k=some (zO k):=by
 unfold fX zO;rw[yF,yF,yF,yF]
 by_cases k1:k=1
 ·rw[dt k1,if_pos k1];rfl
 rw[df k1,if_neg k1]
 by_cases k2:k=2
 ·rw[dt k2,if_pos k2];rfl
 rw[df k2,if_neg k2]
 by_cases k3:k=3
 ·rw[dt k3,if_pos k3];rfl
 rw[df k3,if_neg k3]
 by_cases k4:k=4
 ·rw[dt k4,if_pos k4];rfl
 rw[df k4,if_neg k4]
 rfl
theorem aNM(N:Nat){s:Int}:∀(k i:Nat),i<=1000->1000 - i < k->((i:Int)=0\/256*((i:Int) - 1) < s)->∃n:Nat,n<=1000/\jF N s k (i:Int)=some (n:Int)/\(n=0\/256*((n:Int) - 1) < s)/\(s<=256*(n:Int)\/n=1000)
 | 0,_,_,h,_=>by omega
 | k+1,i,h1,h2,h3=>by
  rw[jF,aC,aC,aR (x:=256*(i:Int)) (by omega) (by omega)]
  by_cases c:s > 256*(i:Int)
  ·by_cases d:(i:Int) < 1000
   ·rw[dt c,dt d,cond_true,cond_true,cZ (by omega)]
    exact aNM N k (i+1) (by omega) (by omega) (.inr (by omega))
   ·rw[dt c,df d,cond_true,cond_false]
    exact⟨i,h1,rfl,by omega,by omega⟩
  ·rw[df c,cond_false,cond_false]
   exact⟨i,h1,rfl,by omega,by omega⟩
theorem aNK(N:Nat)(hN:1100 < N){s:Int}(h:aDQ s):mI N s=some (sS s):=by
 unfold mI sS;obtain⟨h0,h1⟩:=h;obtain⟨n,hn,e,g1,g2⟩:=aNM N (s:=s) N 0 (by omega) (by omega) (.inl rfl)
 rw[show jF N s N 0=_ from e,aa,aC,aR (x:=256*(n:Int)) (by omega) (by omega)]
 by_cases c:s > 256*(n:Int)
 ·have e1:cv s 256=s / 256:=dc (by omega)
  have e2:br s 256=s % 256:=cz (by omega)
  rw[dt c,cond_true,aC,aC,e1,e2,aR (x:=s / 256) (by omega) (by omega),if_neg (by omega),aa]
  congr 1;unfold mY;split
  ·rw[aR (by omega) (by omega)];omega
  ·rw[aR (by omega) (by omega)];omega
 ·rw[df c,cond_false,aa]
  by_cases d:s < 1
  ·rw[if_pos d];congr 1;omega
  ·rw[if_neg d];congr 1;omega
theorem mchkR(N:Nat)(hN:1100 < N)(m:aE)(hs:aDQ m.gA0):pT N m=some (tV m):=by
 unfold pT tV;rw[capE,aa]
 by_cases h0:zO m.gD=0
 ·rw[if_pos h0,h0];rfl
 ·rw[if_neg h0,show(zO m.gD==0)=false by simpa using h0,cond_false]
  have hl:iC N m N 0=some (cond (m.gA3.toList.any λe=>decide (e > 15)) (Sum.inr 5) (Sum.inl ())):=by
   refine aAG m.gA3.toList (λe=>decide (e > 15)) (5:Int) (iC N m) (by simp) (λk i h=>?_) (λk=>?_) (by simp;omega)
   ·have h8:i < 8:=by simpa using h
    rw[iC,dt (by omega),cond_true,dJ h,aa,show decide (m.gA3.toList[i]>=16)=decide (m.gA3.toList[i] > 15) by rw[iz,decide_eq_true_eq,decide_eq_true_eq];omega]
   ·rw[iC,df (by simp),cond_false]
  rw[hl,aa]
  cases ha:(m.gA3.toList.any λe=>decide (e > 15)) with
  | true=>rw[if_pos rfl,cond_true];rfl
  | false=>
   rw[if_neg (by decide),cond_false]
   show(aN (decide (m.gA4 > m.gTo)) λx5=>_)=_;rw[aC,aC]
   by_cases h1:m.gA4 > m.gTo\/m.gA0 < 1
   ·rw[if_pos h1]
    rw[show cond (decide (m.gA4 > m.gTo)) true (decide (m.gA0 < 1))=true by rcases h1 with h | h;rw[dt h];rfl;rw[dt h];cases decide (m.gA4 > m.gTo) <;> rfl,aC,cond_true]
   ·rw[if_neg h1,df (show ¬m.gA4 > m.gTo by omega),df (show ¬m.gA0 < 1 by omega),cond_false,aC,cond_false,aa]
    by_cases h2:m.gA0 > zO m.gD
    ·rw[dt h2,cond_true,if_pos h2]
    ·rw[df h2,cond_false,if_neg h2,aNK N hN hs,aa]
     by_cases h3:m.gA7=sS m.gA0
     ·rw[if_neg (by simpa using h3),show(m.gA7 != sS m.gA0)=false by simpa using h3,cond_false]
     ·rw[if_pos h3,show(m.gA7 != sS m.gA0)=true by simpa using h3,cond_true]
theorem u64L1{x:Int}(h:0<=x/\x < 18446744073709551616):aPd [x]:=by
 intro y hy;rw[iy] at hy;rw[hy];exact h
theorem u64L3{x y z:Int}(h:0<=x/\x < 18446744073709551616)(h':0<=y/\y < 18446744073709551616)(h'':0<=z/\z < 18446744073709551616):aPd [x,y,z]:=by
 intro w hw;simp only[List.mem_cons,List.not_mem_nil,or_false] at hw;rcases hw with rfl | rfl | rfl <;> assumption
theorem aKo{w:Nat}(h:w<=8):cH w<=18446744073709551616:=by
 unfold cH;rcases(show w=0\/w=1\/w=2\/w=3\/w=4\/w=5\/w=6\/w=7\/w=8 by omega) with rfl | rfl | rfl | rfl | rfl | rfl | rfl | rfl | rfl <;> decide
theorem aNZ(N:Nat)(hN:100 < N)(b:List Int)(w:Nat)(hw0:1<=w)(hw:w<=8)(x:Int)(hx:0<=x)(hx2:x < cH w)(hb:b.length<=1000000):bP N b (w:Int) [x]=some (b++leB w x,0):=by
 have:=aKo hw;rw[aQW N b w hw0 hw _ (u64L1 ⟨hx,by omega⟩) hb (by simp) hN,aMA N (by omega) b w hw0 hw x hx hx2 hb]
theorem put3R(N:Nat)(hN:100 < N)(b:List Int)(w:Nat)(hw0:1<=w)(hw:w<=8)(x y z:Int)(hx:0<=x/\x < cH w)(hy:0<=y/\y < cH w)(hz:0<=z/\z < cH w)(hb:b.length<=1000000):bP N b (w:Int) [x,y,z]=some (b++(leB w x++(leB w y++leB w z)),0):=by
 have:=aKo hw;rw[aQW N b w hw0 hw _ (u64L3 ⟨hx.1,by omega⟩ ⟨hy.1,by omega⟩ ⟨hz.1,by omega⟩) hb (by simp) hN,put3 N (by omega) b w hw0 hw x y z hx hy hz hb]
theorem mapD{l:List Int}{n:Nat}(h:l.length=n):(bo n).flatMap (λi=>[l.getD i 0])=l:=by
 rw[aAE]
 apply dp;intro i;rw[ci]
 by_cases c:i < n
 ·rw[ez c,lG (by omega)];rfl
 ·rw[bf (by rw[List.length_range];omega),bf (by omega)];rfl
theorem fourR(N:Nat){i n:Nat}(hi:i < 65536)(hn:n < 65536):rA N (i:Int) (n:Int)=some (aFH i n):=by
 unfold rA aFH;rw[aOQ ⟨by omega,by omega⟩,aOQ ⟨by omega,by omega⟩]
 rfl
theorem aQo{m:Nat}(v:Vector Int m):eqV (λa b=>a==b) v v=true:=by
 unfold eqV;exact aLy (λa=>by simp) v.toList
theorem mencR(N:Nat)(hN:1100 < N)(m:aE)(t:aHB m):mO N m=some (if tV m=0 then(aGh m,0) else([],tV m)):=by
 unfold mO;rw[mchkR N hN m t.size,aa]
 have hN':100 < N:=by omega
 by_cases h:tV m=0
 ·have r:=t.r h;rw[if_pos h,h,show((0:Int) != 0)=false from rfl,cond_false]
  have k1:=r.kind;have k2:=r.size;have k3:=r.chunks;have k4:=r.label;have k5:=r.fr;have k6:=r.to;have e1:=aNZ N hN' [] 8 (by decide) (by decide) m.gId r.id.1 r.id.2 (by simp)
  rw[show bP N [] 8 [m.gId]=_ from e1,aa,eJ (x:=m.gD) (by omega) (by omega),eJ (x:=m.gA6) k4.1 (by have:=k4.2;omega),eJ (x:=m.gA4) k5.1 (by have:=k5.2;omega),eJ (x:=m.gTo) k6.1 (by have:=k6.2;omega),eJ (x:=m.gA0) (by omega) (by omega),eJ (x:=m.gA7) (by omega) (by omega)]
  have e2:=aNZ N hN' ([]++leB 8 m.gId) 1 (by decide) (by decide) m.gD k1.1 k1.2 (by simp[iI])
  rw[show bP N ([]++leB 8 m.gId) 1 [m.gD]=_ from e2,aa]
  have e3:=aNZ N hN' ([]++leB 8 m.gId++leB 1 m.gD) 4 (by decide) (by decide) m.gA6 k4.1 k4.2 (by simp[iI])
  rw[show bP N ([]++leB 8 m.gId++leB 1 m.gD) 4 [m.gA6]=_ from e3,aa]
  have el:fP N m N ([]++leB 8 m.gId++leB 1 m.gD++leB 4 m.gA6) 0=some ([]++leB 8 m.gId++leB 1 m.gD++leB 4 m.gA6++m.gA3.toList):=by
   rw[mL 8 (by decide) (λi=>[m.gA3.toList.getD i 0]) (λs i=>s.length=13+i) (fP N m) (λs i _ hs=>by rw[ai,hs];rfl) (λk s i hi hs=>?_) (λk s=>by rw[fP,df (by omega),cond_false]) (by omega) (by simp[iI]),mapD (by simp)]
   rw[fP,dt (by omega),cond_true,tY (by simp;omega),aa,rE (by omega) (by simp),aa]
  rw[el,aa]
  have e4:=put3R N hN' ([]++leB 8 m.gId++leB 1 m.gD++leB 4 m.gA6++m.gA3.toList) 4 (by decide) (by decide) m.gA4 m.gTo m.gA0 ⟨k5.1,k5.2⟩ ⟨k6.1,k6.2⟩ k2 (by simp[iI])
  rw[show bP N ([]++leB 8 m.gId++leB 1 m.gD++leB 4 m.gA6++m.gA3.toList) 4 [m.gA4,m.gTo,m.gA0]=_ from e4,aa]
  have e5:=aNZ N hN' ([]++leB 8 m.gId++leB 1 m.gD++leB 4 m.gA6++m.gA3.toList++(leB 4 m.gA4++(leB 4 m.gTo++leB 4 m.gA0))) 2 (by decide) (by decide) m.gA7 k3.1 k3.2 (by simp[iI])
  rw[show bP N ([]++leB 8 m.gId++leB 1 m.gD++leB 4 m.gA6++m.gA3.toList++(leB 4 m.gA4++(leB 4 m.gTo++leB 4 m.gA0))) 2 [m.gA7]=_ from e5,aa]
  congr 2;unfold aGh;simp[ap]
 ·rw[if_neg h,show(tV m != 0)=true by simpa using h,cond_true]
theorem aSo(N:Nat)(hN:70000 < N){key:Vector Int 32}(hk:aQ key.toList){n:Vector Int 12}(hn:aQ n.toList){a p:List Int}(ha:aQ a)(la:a.length<=16384)(lp:p.length<=16384):nX N key n a p=some (aBs N key n a p,0):=by
 have hx:=aEQ N (by omega) key n (d:=p) (by omega)
 have hm:=(macP N (by omega) key n a (aBw N key n p) (by omega) (by omega)).2;have l16:(aGc N key n a (aBw N key n p)).toList.length=16:=by simp
 unfold nX;rw[aC,aC,df (by omega),df (by omega),cond_false,cond_false,xorR N (by omega) hk hn (by omega),aa,macE N hN hk hn ha (show aQ (aBw N key n p) from aH7 _ _) (by omega) (by omega),aa]
 have main:T (iR N (aGc N key n a (aBw N key n p)) N (aBw N key n p) 0) (λr=>r=aBs N key n a p):=by
  refine T.loopG0 (n:=16) (λi r=>r=aBw N key n p++(aGc N key n a (aBw N key n p)).toList.take i) _ (F:=λk r i=>iR N (aGc N key n a (aBw N key n p)) k r i) (λk r i hi hr hk=>?_) (λk r hr=>?_) (by omega) (s:=aBw N key n p) (by simp)
  ·have ti:((i:Nat):Int).toNat=i:=rfl;rw[iR,dt (by omega),cond_true,cD (by omega) (by omega),aa,ti,ah (by omega),aa,eF (by rw[hr,ai,bp,cn];omega),aa,cZ (by omega)]
   refine hk _ ?_;rw[hr,ap,List.take_succ_eq_append_getElem (by omega)]
  ·rw[iR,df (by omega),cond_false]
   refine T.ret ?_;rw[hr,ar (by omega)]
   rfl
 obtain⟨r,e,rfl⟩:=main;rw[e,aa]
theorem rawL(N:Nat)(hN:70000 < N){key:Vector Int 32}(hk:aQ key.toList){base:Vector Int 8}(hb:aQ base.toList){mark:List Int}(hm:mark.length=16)(hmb:aQ mark){p:List Int}(hp:p.length<=2048):∀(k i:Nat) (s:List Int),nCh (p.drop (256*i)).length < k->i<=9->s.length+300*nCh (p.drop (256*i)).length<=100000 ->
  mJ N p base (mark,0) key k s (i:Int)=some (s++aBA N key base mark (nCh (p.drop (256*i)).length) i (p.drop (256*i)))
 | 0,_,_,h,_,_=>by omega
 | k+1,i,s,h,hi,hs=>by
  have e1:I64 ((i:Int)*256)=((256*i:Nat):Int):=by rw[aR (by omega) (by omega)];omega
  have e2:I64 (((256*i:Nat):Int)+256)=((256*i+256:Nat):Int):=by rw[aR (by omega) (by omega)];omega
  rw[mJ,aC,e1]
  have ld:=ca (i:=256*i) (l:=p)
  by_cases c:256*i < p.length
  ·have hn:nCh (p.drop (256*i)).length=nCh (p.drop (256*(i+1))).length+1:=by unfold nCh;rw[ca,ca];omega
   have sl:dU p ((256*i:Nat):Int) ((min (256*i+256) p.length:Nat):Int)=some ((p.drop (256*i)).take 256):=by
    rw[rP (by omega) (by omega) (by omega),bx,bx,List.drop_take]
    congr 1;by_cases d:256*i+256<=p.length
    ·rw[Nat.min_eq_left d,show 256*i+256 - 256*i=256 by omega]
    ·rw[Nat.min_eq_right (by omega),ar (by omega),ar (by omega)]
   have lt:((p.drop (256*i)).take 256).length<=256:=by rw[bp];omega
   rw[dt (by omega),cond_true,e2,aC,aE3,aC,sl,aa,fourR N (by omega) (by omega),aa,nonR N (by omega) base ⟨aVH _,by have:=aUP ((i:Int)+1);omega⟩,aa,rE (by simp) (by rw[uB];omega),aa,dm]
   dsimp only;rw[rE (by rw[uB];omega) (by omega),aa,aSo N hN hk (aPT N (by omega) hb _) ((aG8 _ _).app hmb) (by rw[ai,uB];omega) (by omega),aa,rE (by omega) (by rw[uB];omega),aa]
   dsimp only;rw[cZ (by omega)]
   have e5:(aFH i ((p.drop (256*i)).take 256).length++aBs N key (aJw N base ((i+1:Nat):Int)) (aFH i ((p.drop (256*i)).take 256).length++mark) ((p.drop (256*i)).take 256))=aFX N key base mark i ((p.drop (256*i)).take 256):=rfl;rw[rE (by rw[ai,uB];omega) (by rw[aCh N (by omega) key _ _ (by omega)];omega),aa,ap,e5,rawL N hN hk hb hm hmb hp k (i+1) _ (by omega) (by omega) (by rw[ai,aD6 N (by omega) key base mark i (by omega)];omega),hn,aBA,List.drop_drop,show 256*i+256=256*(i+1) by omega,ap]
  ·rw[df (by omega),cond_false,show nCh (p.drop (256*i)).length=0 by unfold nCh;omega,aBA,dq]
theorem rawE(N:Nat)(hN:70000 < N){key:Vector Int 32}(hk:aQ key.toList){base:Vector Int 8}(hb:aQ base.toList){m:aE}(r:aOS m){p:List Int}(hp:p.length<=2048):rU N key base (aGh m) p=some (aAa N key base m p):=by
 unfold rU;have el:jW N base N [85,77,66,49] 0=some ([85,77,66,49]++base.toList):=by
  rw[mL 8 (by decide) (λi=>[base.toList.getD i 0]) (λs i=>s.length=4+i) (jW N base) (λs i _ hs=>by rw[ai,hs];rfl) (λk s i hi hs=>?_) (λk s=>by rw[jW,df (by omega),cond_false]) (by omega) rfl,mapD (by simp)]
  rw[jW,dt (by omega),cond_true,tY (by simp;omega),aa,rE (by omega) (by simp),aa]
 have hm:=zV N (by omega) key base m;have hmb:=aGC N (by omega) key base m;rw[el,aa,rE (by simp) (by rw[aG9];omega),aa,show [85,77,66,49]++base.toList++aGh m=xA base m from ap _ _ _,nonR N (by omega) base ⟨by decide,by decide⟩,aa,aSo N hN hk (aPT N (by omega) hb _) (aGI hb r) (by rw[sZ];omega) (by simp),aa]
 dsimp only;rw[show aBs N key (aJw N base 0) (xA base m) []=yK N key base m from rfl,rE (by rw[sZ];omega) (by omega),aa]
 have e:=rawL N hN hk hb hm hmb hp N 0 (xA base m++yK N key base m) (by unfold nCh;rw[ca];omega) (by omega) (by rw[ai,sZ,hm];unfold nCh;rw[ca];omega)
 rw[Nat.mul_zero,eu] at e;rw[show mJ N p base (yK N key base m,0) key N (xA base m++yK N key base m) 0=_ from e,aa]
 unfold aAa;rw[ap]
theorem encE(N:Nat)(hN:1000 < N)(a:aF)(h:aFp a):oF N a=pW N a:=by
 obtain⟨c,e1,e2⟩:=aUU N hN a h;unfold oF pW;rw[e1,e2,aa,aa]
 by_cases c0:c=0
 ·subst c0;obtain⟨c',e',hc⟩:=aQE N hN a h;rw[e1] at e';obtain rfl:=Option.some.inj e';have g:=hc.1 rfl;have own0:aAP a=0:=by have:=g.own0;rw[aPJ N hN a h] at this;exact Option.some.inj this
  rw[show((0:Int) != 0)=false from rfl,cond_false,cond_false,assE N hN a g.own g.own0,aPs N hN a g.own (λk=>by unfold aAP at own0;rw[if_pos k] at own0;exact own0) (λk=>by unfold aAP at own0;rw[if_neg (by omega),if_pos k] at own0;exact own0)]
 ·rw[aIA,dt c0,cond_true,cond_true]
theorem sealE(N:Nat)(hN:70000 < N){key:Vector Int 32}(hk:aQ key.toList){base:Vector Int 8}(hb:aQ base.toList)(m:aE)(a:aF)(t:aHB m)(hA:aFp a):qZ N key base m a=rF N key base m a:=by
 obtain⟨r1,e1,h1⟩:=aNa N (by omega) a hA;obtain⟨r,es,hs⟩:=aTA N (by omega) key base m a t hA;rw[es]
 unfold qZ;unfold rF at es;rw[encE N (by omega) a hA,e1,aa]
 rw[e1,aa] at es;by_cases c:r1.2=0
 rotate_left
 ·rw[show(r1.2 != 0)=true by simpa using c,cond_true] at es ⊢;exact es
 rw[show(r1.2 != 0)=false by simpa using c,cond_false] at es ⊢;by_cases hkd:m.gD=a.gD
 rotate_left
 ·rw[show(m.gD != a.gD)=true by simpa using hkd,cond_true] at es ⊢;exact es
 rw[show(m.gD != a.gD)=false by simpa using hkd,cond_false] at es ⊢;rcases h1 with ⟨_,g,h⟩ | ⟨c',_⟩
 rotate_left
 ·exact absurd c c'
 have hl:=g.len;have e3:=aSi N (by omega) (vG m (sK a).length) (aEo t hl)
 have e4:=mencR N (by omega) (vG m (sK a).length) (aEo t hl)
 rw[h,aKP N ⟨by omega,by omega⟩,aa,aPM,show lP N (aE.mk m.gId m.gD m.gA6 m.gA3 m.gA4 m.gTo ((sK a).length:Int) (nCh (sK a).length:Int))=_ from e3,aa] at es;rw[h,aNK N (by omega) ⟨by omega,by omega⟩,aa,aPM,show mO N (aE.mk m.gId m.gD m.gA6 m.gA3 m.gA4 m.gTo ((sK a).length:Int) (nCh (sK a).length:Int))=_ from e4,aa]
 by_cases hc:tV (vG m (sK a).length)=0
 rotate_left
 ·rw[if_neg hc] at es ⊢;dsimp only at es ⊢;rw[show(tV (vG m (sK a).length) != 0)=true by simpa using hc,cond_true] at es ⊢;exact es
 rw[if_pos hc]
 dsimp only;rw[show((0:Int) != 0)=false from rfl,cond_false,rawE N hN hk hb ((aEo t hl).r hc) hl,aa]
 rcases hs with ⟨q1,_,_,_,q5⟩ | ⟨_,_,q3⟩
 ·rw[<- q5,<- q1]
 ·exact absurd ⟨g,hkd,hc⟩ q3
end Go.UK
