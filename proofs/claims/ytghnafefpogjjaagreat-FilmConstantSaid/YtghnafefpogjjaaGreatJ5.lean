/- A part of the proof: what the functions of the program compute. -/
import Derived.Test.YtghnafefpogjjaaGreatJ4
open Bool renaming eq_iff_iff→lg,not_false→dq,not_true→da
open Int renaming eq_ofNat_of_zero_le→bh,le_antisymm→iv,le_of_mul_le_mul_right→dm,le_refl→dw,lt_of_mul_lt_mul_right→j4,mul_add→fh,mul_comm→dk,mul_le_mul_of_nonneg_left→cm,mul_le_mul_of_nonneg_right→co,mul_lt_mul_of_pos_right→fq,mul_one→fu,mul_sub→gt,mul_zero→f9,natAbs_of_nonneg→k9,sub_mul→iu,toNat_natCast→bj,zero_mul→lk
open List renaming getElem?_drop→fv,getElem?_eq_getElem→af,getElem?_eq_some_iff→eo,getElem?_take_of_lt→j8,getElem_mem→bp,length_take→bn,mem_append→au,mem_of_getElem?→b9,mem_singleton→ca,take_length→j6
open Option renaming bind→aa,bind_some→ae
open Prod renaming ext→ii
namespace Go.UK
open Go Go.Proofs
set_option maxRecDepth 20000
set_option maxHeartbeats 4000000
set_option linter.all false
theorem wvalE{w w':aS}(h:wok w)(h':wok w')(e:oM w=oM w'):w=w':=by
 obtain⟨⟨a1,a2⟩,a3,a4⟩:=h;obtain⟨⟨b1,b2⟩,b3,b4⟩:=h';have e':w.gHi*18446744073709551616+w.gLo=w'.gHi*18446744073709551616+w'.gLo:=e;cases w;cases w';dsimp only at *;congr 1 <;> omega
theorem cmpA(N:Nat){w w':aS}(h:wok w)(h':wok w'):oD N w w'=some (if oM w=oM w' then 0 else if oM w < oM w' then -1 else 1):=by
 unfold oD;have eqv:aS.eq w w'=decide (oM w=oM w'):=by
  rw[lg,decide_eq_true_eq]
  constructor
  ·intro e;unfold aS.eq at e;have:w.gHi=w'.gHi/\w.gLo=w'.gLo:=by simpa using e
   show w.gHi*18446744073709551616+w.gLo=w'.gHi*18446744073709551616+w'.gLo;rw[this.1,this.2]
  ·intro e;rw[wvalE h h' e]
   unfold aS.eq;simp
 rw[eqv]
 by_cases e:oM w=oM w'
 ·rw[dt e,if_pos e];rfl
 ·rw[df e,if_neg e,cond_false]
  obtain⟨⟨a1,a2⟩,a3,a4⟩:=h;obtain⟨⟨b1,b2⟩,b3,b4⟩:=h';have e1:oM w=w.gHi*18446744073709551616+w.gLo:=rfl;have e2:oM w'=w'.gHi*18446744073709551616+w'.gLo:=rfl;simp only[aR]
  by_cases c:w.gHi < w'.gHi
  ·rw[dt c,cond_true,ae,cond_true,if_pos (by omega)]
  ·rw[df c,cond_false]
   by_cases c2:w.gHi=w'.gHi
   ·rw[show(w.gHi==w'.gHi)=true by simpa using c2,cond_true]
    by_cases c3:w.gLo < w'.gLo
    ·rw[dt c3,ae,cond_true,if_pos (by omega)]
    ·rw[df c3,ae,cond_false,if_neg (by omega)]
   ·rw[show(w.gHi==w'.gHi)=false by simpa using c2,cond_false,ae,cond_false,if_neg (by omega)]
theorem aN3(N:Nat){a b c d:Int}(ha:cJ a)(hb:cJ b)(hc:cJ c)(hd:cJ d):(aa (fS N a b) λr1=>aa (fS N c d) λr2=>aa (oD N r1 r2) λr3=>some (decide (r3 < 0)))=some (decide (a*b < c*d)):=by
 obtain⟨w,e,ok,v⟩:=aHk N ha hb;obtain⟨w',e',ok',v'⟩:=aHk N hc hd;rw[e,ae,e',ae,cmpA N ok ok',ae,v,v']
 congr 1;by_cases h:a*b=c*d
 ·rw[if_pos h,df (show ¬a*b < c*d by omega)];rfl
 ·rw[if_neg h]
  by_cases h2:a*b < c*d
  ·rw[if_pos h2,dt h2];rfl
  ·rw[if_neg h2,df h2];rfl
theorem aQU(N:Nat){a b:aY}(ha:rI a)(hb:rI b):eJ N a b=some (decide (a.gn*b.gd < b.gn*a.gd)):=by
 unfold eJ;exact aN3 N ha.1 hb.2 hb.1 ha.2
theorem aQK(N:Nat){m n:aN}(hm:lZ m)(hn:lZ n)(h1:1<=m.gO)(h2:1<=n.gO):rL N m n=some (decide (m.gA3*n.gO < n.gA3*m.gO)):=by
 unfold rL;rw[df (show ¬m.gO < 1 by omega),df (show ¬n.gO < 1 by omega)]
 simp only[aR,cond_false]
 exact aN3 N hm.1 hn.2.1 hn.1 hm.2.1
theorem aJx{a b A B:Int}(ha:-A<=a/\a<=A)(hb:-B<=b/\b<=B) : -(A*B)<=a*b/\a*b<=A*B:=by
 have hA:0<=A:=by omega
 have hB:0<=B:=by omega
 have e:(a*b).natAbs<=A.natAbs*B.natAbs:=by
  rw[Int.natAbs_mul]
  exact Nat.mul_le_mul (by omega) (by omega)
 have e2:((A.natAbs*B.natAbs:Nat):Int)=A*B:=by rw[Int.natCast_mul,k9 hA,k9 hB]
 rw[<- e2]
 generalize A.natAbs*B.natAbs=M at *;omega
def aCS(a b:aC):aC:=⟨a.gX - b.gX,a.gY - b.gY,a.gZ - b.gZ⟩
def uQ(a b:aC):aC:=⟨a.gY*b.gZ - a.gZ*b.gY,a.gZ*b.gX - a.gX*b.gZ,a.gX*b.gY - a.gY*b.gX⟩
def aCk(a b:aC):Int:=a.gX*b.gX+a.gY*b.gY+a.gZ*b.gZ
theorem aPt(N:Nat){a b:aC}{m n:Int}(ha:pwi m a)(hb:pwi n b)(h:m+n<=1000000000000):lO N a b=some (aCS a b)/\pwi (m+n) (aCS a b):=by
 unfold pwi at *;unfold lO aCS;rw[bC (by omega) (by omega),bC (by omega) (by omega),bC (by omega) (by omega)]
 exact⟨rfl,by dsimp only;omega⟩
theorem aNh(N:Nat){a b:aC}{m n:Int}(ha:pwi m a)(hb:pwi n b)(h:m*n<=1000000000000000000):nR N a b=some (uQ a b)/\pwi (2*(m*n)) (uQ a b):=by
 obtain⟨ax,ay,az⟩:=ha;obtain⟨bx,by',bz⟩:=hb;have q1:=aJx ay bz;have q2:=aJx az by'
 have q3:=aJx az bx;have q4:=aJx ax bz;have q5:=aJx ax by'
 have q6:=aJx ay bx;unfold nR uQ pwi;simp only[aR]
 generalize a.gY*b.gZ=c1 at *;generalize a.gZ*b.gY=c2 at *;generalize a.gZ*b.gX=c3 at *;generalize a.gX*b.gZ=c4 at *;generalize a.gX*b.gY=c5 at *;generalize a.gY*b.gX=c6 at *;generalize m*n=M at *;rw[bC (x:=c1) (by omega) (by omega),bC (x:=c2) (by omega) (by omega),bC (x:=c3) (by omega) (by omega),bC (x:=c4) (by omega) (by omega),bC (x:=c5) (by omega) (by omega),bC (x:=c6) (by omega) (by omega),bC (x:=c1 - c2) (by omega) (by omega),bC (x:=c3 - c4) (by omega) (by omega),bC (x:=c5 - c6) (by omega) (by omega)]
 exact⟨rfl,by omega⟩
theorem aN0(N:Nat){a b:aC}{m n:Int}(ha:pwi m a)(hb:pwi n b)(h:m*n<=1000000000000000000):rW N a b=some (aCk a b) /\ -(3*(m*n))<=aCk a b/\aCk a b<=3*(m*n):=by
 obtain⟨ax,ay,az⟩:=ha;obtain⟨bx,by',bz⟩:=hb;have q1:=aJx ax bx;have q2:=aJx ay by'
 have q3:=aJx az bz;unfold rW aCk;simp only[aR]
 generalize a.gX*b.gX=c1 at *;generalize a.gY*b.gY=c2 at *;generalize a.gZ*b.gZ=c3 at *;generalize m*n=M at *;rw[bC (x:=c1) (by omega) (by omega),bC (x:=c2) (by omega) (by omega),bC (x:=c3) (by omega) (by omega),bC (x:=c1+c2) (by omega) (by omega),bC (x:=c1+c2+c3) (by omega) (by omega)]
 exact⟨rfl,by omega⟩
def qC(s d e f:aC):aN:=
 let m:aN:=⟨aCk f (uQ s e),aCk e (uQ d f),aCk s (uQ d f),aCk d (uQ s e)⟩
 if m.gO < 0 then⟨-m.gA3,-m.gO,-m.gU,-m.gV⟩ else m
theorem cr1(sx sy sz dx dy dz ex ey ez fx fy fz:Int) :
  (ex*(dy*fz - dz*fy)+ey*(dz*fx - dx*fz)+ez*(dx*fy - dy*fx))*sx+(fx*(sy*ez - sz*ey)+fy*(sz*ex - sx*ez)+fz*(sx*ey - sy*ex))*dx=(sx*(dy*fz - dz*fy)+sy*(dz*fx - dx*fz)+sz*(dx*fy - dy*fx))*ex+(dx*(sy*ez - sz*ey)+dy*(sz*ex - sx*ez)+dz*(sx*ey - sy*ex))*fx:=by
 grind
theorem cr2(sx sy sz dx dy dz ex ey ez fx fy fz:Int) :
  (ex*(dy*fz - dz*fy)+ey*(dz*fx - dx*fz)+ez*(dx*fy - dy*fx))*sy+(fx*(sy*ez - sz*ey)+fy*(sz*ex - sx*ez)+fz*(sx*ey - sy*ex))*dy=(sx*(dy*fz - dz*fy)+sy*(dz*fx - dx*fz)+sz*(dx*fy - dy*fx))*ey+(dx*(sy*ez - sz*ey)+dy*(sz*ex - sx*ez)+dz*(sx*ey - sy*ex))*fy:=by
 grind
theorem cr3(sx sy sz dx dy dz ex ey ez fx fy fz:Int) :
  (ex*(dy*fz - dz*fy)+ey*(dz*fx - dx*fz)+ez*(dx*fy - dy*fx))*sz+(fx*(sy*ez - sz*ey)+fy*(sz*ex - sx*ez)+fz*(sx*ey - sy*ex))*dz=(sx*(dy*fz - dz*fy)+sy*(dz*fx - dx*fz)+sz*(dx*fy - dy*fx))*ez+(dx*(sy*ez - sz*ey)+dy*(sz*ex - sx*ez)+dz*(sx*ey - sy*ex))*fz:=by
 grind
theorem aTH(s d e f:aC):(qC s d e f).gO*s.gX+(qC s d e f).gA3*d.gX=(qC s d e f).gU*e.gX+(qC s d e f).gV*f.gX/\(qC s d e f).gO*s.gY+(qC s d e f).gA3*d.gY=(qC s d e f).gU*e.gY+(qC s d e f).gV*f.gY/\(qC s d e f).gO*s.gZ+(qC s d e f).gA3*d.gZ=(qC s d e f).gU*e.gZ+(qC s d e f).gV*f.gZ:=by
 obtain⟨sx,sy,sz⟩:=s;obtain⟨dx,dy,dz⟩:=d;obtain⟨ex,ey,ez⟩:=e;obtain⟨fx,fy,fz⟩:=f;have h1:=cr1 sx sy sz dx dy dz ex ey ez fx fy fz;have h2:=cr2 sx sy sz dx dy dz ex ey ez fx fy fz;have h3:=cr3 sx sy sz dx dy dz ex ey ez fx fy fz;unfold qC aCk uQ;dsimp only;generalize (ex*(dy*fz - dz*fy)+ey*(dz*fx - dx*fz)+ez*(dx*fy - dy*fx))=D at *;generalize (fx*(sy*ez - sz*ey)+fy*(sz*ex - sx*ez)+fz*(sx*ey - sy*ex))=M at *;generalize (sx*(dy*fz - dz*fy)+sy*(dz*fx - dx*fz)+sz*(dx*fy - dy*fx))=U at *;generalize (dx*(sy*ez - sz*ey)+dy*(sz*ex - sx*ez)+dz*(sx*ey - sy*ex))=V at *;split
 ·dsimp only;simp only[Int.neg_mul]
  omega
 ·exact⟨h1,h2,h3⟩
structure Geo(o d:aC)(P:Vector aC 3)(m:aN):Prop where
 ho:pwi 65536 o
 hd:pwi 131072 d
 pts:∀p∈P.toList,pwi 65536 p
 det:1<=m.gO
 num:0 < m.gA3
 u:0<=m.gU
 v:0<=m.gV
 uv:m.gU+m.gV<=m.gO
 x:m.gO*(o.gX - P[0].gX)+m.gA3*d.gX=m.gU*(P[1].gX - P[0].gX)+m.gV*(P[2].gX - P[0].gX)
 y:m.gO*(o.gY - P[0].gY)+m.gA3*d.gY=m.gU*(P[1].gY - P[0].gY)+m.gV*(P[2].gY - P[0].gY)
 z:m.gO*(o.gZ - P[0].gZ)+m.gA3*d.gZ=m.gU*(P[1].gZ - P[0].gZ)+m.gV*(P[2].gZ - P[0].gZ)
theorem aSA{s d e f:aC}{B:Int}(h1:-B<=aCk f (uQ s e)/\aCk f (uQ s e)<=B)(h2:-B<=aCk e (uQ d f)/\aCk e (uQ d f)<=B)(h3:-B<=aCk s (uQ d f)/\aCk s (uQ d f)<=B)(h4:-B<=aCk d (uQ s e)/\aCk d (uQ s e)<=B) :
  (-B<=(qC s d e f).gA3/\(qC s d e f).gA3<=B)/\(-B<=(qC s d e f).gO/\(qC s d e f).gO<=B)/\(-B<=(qC s d e f).gU/\(qC s d e f).gU<=B) /\ -B<=(qC s d e f).gV/\(qC s d e f).gV<=B:=by
 unfold qC;dsimp only;split
 ·dsimp only;omega
 ·dsimp only;omega
theorem aO7{s d e f:aC}(h:(qC s d e f).gO≠0):1<=(qC s d e f).gO:=by
 unfold qC at *;dsimp only at *;split at h
 ·rename_i c;rw[if_pos c];dsimp only at *;omega
 ·rename_i c;rw[if_neg c];dsimp only at *;omega
theorem hitG(N:Nat)(hN:3 < N)(o d:aC)(P:Vector aC 3):T (qI N o d P) (λr=>lZ r.1/\(r.2=true->Geo o d P r.1)):=by
 unfold qI;refine T.bind (P:=λr=>r=false->pwi 65536 o/\pwi 131072 d/\∀p∈P.toList,pwi 65536 p) ?_ λp1 h1=>?_
 ·refine T.bind (aLR N o d) λr2 h2=>?_;refine T.cond (λ_=>T.ret λh=>by cases h) (λhc=>?_)
  obtain⟨a,b,_⟩:=h2 (by simpa using hc)
  refine T.bind (T.slc3 P) λs3 h3=>?_;subst h3;exact T.bind (aS0 N _ (by simpa using hN) (by simp)) λr4 h4=>T.ret λe=>⟨a,b,h4 e⟩
 refine T.cond (λ_=>T.ret ⟨yE,λh=>by cases h⟩) (λhc=>?_)
 obtain⟨ho,hd,hP⟩:=h1 hc;have q0:=hP _ (aKL P (show 0 < 3 by decide))
 have q1:=hP _ (aKL P (show 1 < 3 by decide))
 have q2:=hP _ (aKL P (show 2 < 3 by decide))
 have i0:idx P.toList 0=some P[0]:=by rw[show(0:Int)=((0:Nat):Int) from rfl,eK];exact aBN P 0 (by decide)
 have i1:idx P.toList 1=some P[1]:=by rw[show(1:Int)=((1:Nat):Int) from rfl,eK];exact aBN P 1 (by decide)
 have i2:idx P.toList 2=some P[2]:=by rw[show(2:Int)=((2:Nat):Int) from rfl,eK];exact aBN P 2 (by decide)
 obtain⟨E,be⟩:=aPt N q1 q0 (by decide)
 obtain⟨F,bf⟩:=aPt N q2 q0 (by decide)
 obtain⟨S,bs⟩:=aPt N ho q0 (by decide)
 obtain⟨Q,bq⟩:=aNh N hd bf (by decide)
 obtain⟨W,bw⟩:=aNh N bs be (by decide)
 obtain⟨D1,b1⟩:=aN0 N bf bw (by decide)
 obtain⟨D2,b2⟩:=aN0 N be bq (by decide)
 obtain⟨D3,b3⟩:=aN0 N bs bq (by decide)
 obtain⟨D4,b4⟩:=aN0 N hd bw (by decide)
 simp only[i0,i1,i2,E,F,S,Q,W,D1,D2,D3,D4,ae]
 have cr:=aTH (aCS o P[0]) d (aCS P[1] P[0]) (aCS P[2] P[0])
 have bb:=aSA (B:=20000000000000000) (s:=aCS o P[0]) (d:=d) (e:=aCS P[1] P[0]) (f:=aCS P[2] P[0]) ⟨by omega,by omega⟩ ⟨by omega,by omega⟩ ⟨by omega,by omega⟩ ⟨by omega,by omega⟩
 have dd:=aO7 (s:=aCS o P[0]) (d:=d) (e:=aCS P[1] P[0]) (f:=aCS P[2] P[0])
 refine T.bind (P:=λp=>p=qC (aCS o P[0]) d (aCS P[1] P[0]) (aCS P[2] P[0])) ?_ λm' hm'=>?_
 ·unfold qC;dsimp only;refine T.cond (λh=>T.ret ?_) (λh=>T.ret ?_)
  ·rw[if_pos (of_decide_eq_true h),bC (by omega) (by omega),bC (by omega) (by omega),bC (by omega) (by omega),bC (by omega) (by omega)]
   simp only[Int.zero_sub]
  ·rw[if_neg (of_decide_eq_false h)]
 subst hm';simp only[aR]
 generalize qC (aCS o P[0]) d (aCS P[1] P[0]) (aCS P[2] P[0])=m at *;obtain⟨⟨n1,n2⟩,⟨n3,n4⟩,⟨n5,n6⟩,n7,n8⟩:=bb;have m64:lZ m:=⟨⟨by omega,by omega⟩,⟨by omega,by omega⟩,⟨by omega,by omega⟩,by omega,by omega⟩
 rw[bC (x:=m.gU+m.gV) (by omega) (by omega)]
 refine T.cond (λ_=>T.ret ⟨yE,λh=>by cases h⟩) (λhc=>T.ret ⟨m64,λ_=>?_⟩)
 have o5:¬m.gO=0/\0<=m.gU/\0<=m.gV/\m.gU+m.gV<=m.gO/\0 < m.gA3:=by
  have oo:∀{a:Prop} [Decidable a] {b:Bool},cond b true (decide a)=false->b=false/\¬a:=by
   intro a _ b h;cases b with
   | true=>cases h
   | false=>exact⟨rfl,of_decide_eq_false h⟩
  obtain⟨hc,c5⟩:=oo hc;obtain⟨hc,c4⟩:=oo hc;obtain⟨hc,c3⟩:=oo hc;obtain⟨hc,c2⟩:=oo hc;have c1:¬m.gO=0:=by simpa using hc
  exact⟨c1,by omega,by omega,by omega,by omega⟩
 obtain⟨c1,c2,c3,c4,c5⟩:=o5;exact⟨ho,hd,hP,dd c1,c5,c2,c3,c4,cr.1,cr.2.1,cr.2.2⟩
theorem conv{D u v a b c X lo hi:Int}(hu:0<=u)(hv:0<=v)(huv:u+v<=D)(ha:lo<=a/\a<=hi)(hb:lo<=b/\b<=hi)(hc:lo<=c/\c<=hi)(hX:X=D*a+u*(b - a)+v*(c - a)):D*lo<=X/\X<=D*hi:=by
 have hw:0<=D - u - v:=by omega
 have e:X=(D - u - v)*a+u*b+v*c:=by rw[hX];grind
 have l1:=cm ha.1 hw;have l2:=cm hb.1 hu;have l3:=cm hc.1 hv;have m1:=cm ha.2 hw;have m2:=cm hb.2 hu;have m3:=cm hc.2 hv;have e1:D*lo=(D - u - v)*lo+u*lo+v*lo:=by grind
 have e2:D*hi=(D - u - v)*hi+u*hi+v*hi:=by grind
 omega
def Thru(o d lo hi:aC)(n D:Int):Prop:=(D*lo.gX<=D*o.gX+n*d.gX/\D*o.gX+n*d.gX<=D*hi.gX)/\(D*lo.gY<=D*o.gY+n*d.gY/\D*o.gY+n*d.gY<=D*hi.gY)/\D*lo.gZ<=D*o.gZ+n*d.gZ/\D*o.gZ+n*d.gZ<=D*hi.gZ
theorem Geo.thru{o d:aC}{P:Vector aC 3}{m:aN}(g:Geo o d P m){lo hi:aC}(h:∀p∈P.toList,ple lo p/\ple p hi):Thru o d lo hi m.gA3 m.gO:=by
 have h0:=h _ (aKL P (show 0 < 3 by decide))
 have h1:=h _ (aKL P (show 1 < 3 by decide))
 have h2:=h _ (aKL P (show 2 < 3 by decide))
 unfold ple at h0 h1 h2;refine⟨conv g.u g.v g.uv (a:=P[0].gX) (b:=P[1].gX) (c:=P[2].gX) ⟨h0.1.1,h0.2.1⟩ ⟨h1.1.1,h1.2.1⟩ ⟨h2.1.1,h2.2.1⟩ ?_,conv g.u g.v g.uv (a:=P[0].gY) (b:=P[1].gY) (c:=P[2].gY) ⟨h0.1.2.1,h0.2.2.1⟩ ⟨h1.1.2.1,h1.2.2.1⟩ ⟨h2.1.2.1,h2.2.2.1⟩ ?_,conv g.u g.v g.uv (a:=P[0].gZ) (b:=P[1].gZ) (c:=P[2].gZ) ⟨h0.1.2.2,h0.2.2.2⟩ ⟨h1.1.2.2,h1.2.2.2⟩ ⟨h2.1.2.2,h2.2.2.2⟩ ?_⟩
 ·have:=g.x;rw[gt] at this;omega
 ·have:=g.y;rw[gt] at this;omega
 ·have:=g.z;rw[gt] at this;omega
theorem spanG(N:Nat)(hN:10 < N){lo hi o d:aC}(hl:pwi 65536 lo)(hh:pwi 65536 hi)(ho:pwi 65536 o)(hd:pwi 131072 d){n D:Int}(hD:1<=D)(hn:0 < n)(th:Thru o d lo hi n D) :
  T (pB N lo hi o d) (λr=>rI r.1/\r.2=true/\0 < r.1.gd/\r.1.gn*D<=n*r.1.gd):=by
 unfold pB;have z1:rI (aY.mk 0 1):=⟨z64,by decide,by decide⟩
 have z0:rI (aY.mk 0 0):=⟨z64,z64⟩
 let I:aY×aY×Bool->Prop:=λs=>(rI s.1/\0 < s.1.gd/\s.1.gn*D<=n*s.1.gd)/\rI s.2.1/\(s.2.2=true->0 < s.2.1.gd/\n*s.2.1.gd<=s.2.1.gn*D)
 refine T.bind (T.loopG0 (n:=3) (λ_ s=>I s) (λo=>match o with | .inl p=>I p | .inr p=>False) (F:=λk (s:aY×aY×Bool) i=>kK N lo hi o d k s.1 s.2.1 s.2.2 i) (λk s i hi' hs hk=>?_) (λk s hs=>?_) (by omega) (s:=(aY.mk 0 1,aY.mk 0 0,false)) ⟨⟨z1,by decide,by show 0*D<=n*1;omega⟩,z0,λh=>by cases h⟩) λq hq=>?_
 ·rw[kK,dt (by omega),cond_true]
  refine T.bind (P:=λo=>match o with | .inl p=>I (p.1,p.2.1,p.2.2.2) | .inr p=>False) ?_ λq hq=>?_
  ·refine T.bind (P:=λe:Vector Int 4=>∃l h oo dd,e=#v[l,h,oo,dd]/\(-65536<=l/\l<=65536)/\(-65536<=h/\h<=65536)/\(-65536<=oo/\oo<=65536)/\(-131072<=dd/\dd<=131072)/\D*l<=D*oo+n*dd/\D*oo+n*dd<=D*h) ?_ λe7 h7=>?_
   ·unfold pwi at hl hh ho hd;have:i=0\/i=1\/i=2:=by omega
    rcases this with rfl | rfl | rfl
    ·exact⟨_,rfl,_,_,_,_,rfl,hl.1,hh.1,ho.1,hd.1,th.1⟩
    ·exact⟨_,rfl,_,_,_,_,rfl,hl.2.1,hh.2.1,ho.2.1,hd.2.1,th.2.1⟩
    ·exact⟨_,rfl,_,_,_,_,rfl,hl.2.2,hh.2.2,ho.2.2,hd.2.2,th.2.2⟩
   obtain⟨l,h,oo,dd,rfl,b1,b2,b3,b4,t1,t2⟩:=h7;refine T.bind (T.inRO (by decide) (by decide)) λ_ _=>T.eq (a:=l) rfl (T.bind (T.inRO (by decide) (by decide)) λ_ _=>T.eq (a:=oo) rfl ?_)
   refine T.bind (T.inRO (by decide) (by decide)) λ_ _=>T.eq (a:=h) rfl (T.bind (T.inRO (by decide) (by decide)) λ_ _=>T.eq (a:=oo) rfl ?_)
   refine T.bind (T.inRO (by decide) (by decide)) λ_ _=>T.eq (a:=dd) rfl ?_;simp only[aR]
   rw[bC (x:=l - oo) (by omega) (by omega),bC (x:=h - oo) (by omega) (by omega)]
   have near:(l - oo)*D<=n*dd:=by rw[iu,dk l,dk oo];omega
   have far:n*dd<=(h - oo)*D:=by rw[iu,dk h,dk oo];omega
   have nf:l - oo<=h - oo:=by
    have:(l - oo)*D<=(h - oo)*D:=by omega
    exact dm this (by omega)
   rw[df (show ¬l - oo > h - oo by omega),cond_false]
   have r1:∀a b:Int,(-1000000<=a/\a<=1000000)->(-1000000<=b/\b<=1000000)->rI (aY.mk a b):=λa b h h'=>⟨⟨by dsimp only;omega,by dsimp only;omega⟩,by dsimp only;omega,by dsimp only;omega⟩
   by_cases d0:dd=0
   ·rw[show(dd==0)=true by simpa using d0,cond_true]
    rw[d0,f9] at near far;have n0:l - oo<=0:=by
     have:(l - oo)*D<=0*D:=by omega
     exact dm this (by omega)
    have f0:0<=h - oo:=by
     have:0*D<=(h - oo)*D:=by omega
     exact dm this (by omega)
    rw[df (show ¬l - oo > 0 by omega),df (show ¬h - oo < 0 by omega)]
    exact T.ret hs
   ·rw[show(dd==0)=false by simpa using d0,cond_false,ae,cond_false,cond_false]
    refine T.cond (λhc=>?_) (λhc=>?_)
    ·have dn:=of_decide_eq_true hc;rw[bC (x:=0 - (h - oo)) (by omega) (by omega),bC (x:=0 - (l - oo)) (by omega) (by omega),bC (x:=0 - dd) (by omega) (by omega)]
     have e1:0 < 0 - dd/\(0 - (h - oo))*D<=n*(0 - dd):=⟨by omega,by rw[iu,gt,lk,f9];omega⟩
     have e2:0 < 0 - dd/\n*(0 - dd)<=(0 - (l - oo))*D:=⟨by omega,by rw[iu,gt,lk,f9];omega⟩
     have g1:=r1 (0 - (h - oo)) (0 - dd) ⟨by omega,by omega⟩ ⟨by omega,by omega⟩
     have g2:=r1 (0 - (l - oo)) (0 - dd) ⟨by omega,by omega⟩ ⟨by omega,by omega⟩
     refine T.bind (P:=λr=>rI r/\0 < r.gd/\r.gn*D<=n*r.gd) (T.bind (aBK N hs.1.1 g1) λ_ _=>T.cond (λ_=>T.ret ⟨g1,e1⟩) (λ_=>T.ret hs.1)) λp24 h24=>?_;refine T.bind (P:=λ_=>True) (T.cond (λ_=>T.ret trivial) (λ_=>T.bind (aBK N g2 hs.2.1) λ_ _=>T.ret trivial)) λp26 _=>?_;exact T.cond (λ_=>T.ret ⟨h24,g2,λ_=>e2⟩) (λ_=>T.ret ⟨h24,hs.2⟩)
    ·have dp:=of_decide_eq_false hc;have e1:0 < dd/\(l - oo)*D<=n*dd:=⟨by omega,near⟩
     have e2:0 < dd/\n*dd<=(h - oo)*D:=⟨by omega,far⟩
     have g1:=r1 (l - oo) dd ⟨by omega,by omega⟩ ⟨by omega,by omega⟩
     have g2:=r1 (h - oo) dd ⟨by omega,by omega⟩ ⟨by omega,by omega⟩
     refine T.bind (P:=λr=>rI r/\0 < r.gd/\r.gn*D<=n*r.gd) (T.bind (aBK N hs.1.1 g1) λ_ _=>T.cond (λ_=>T.ret ⟨g1,e1⟩) (λ_=>T.ret hs.1)) λp24 h24=>?_;refine T.bind (P:=λ_=>True) (T.cond (λ_=>T.ret trivial) (λ_=>T.bind (aBK N g2 hs.2.1) λ_ _=>T.ret trivial)) λp26 _=>?_;exact T.cond (λ_=>T.ret ⟨h24,g2,λ_=>e2⟩) (λ_=>T.ret ⟨h24,hs.2⟩)
  ·cases q with
   | inl p=>rw[dI (by omega)];exact hk (_,_,_) hq
   | inr p=>exact hq.elim
 ·rw[kK,df (by omega),cond_false];exact T.ret hs
 ·cases q with
  | inr p=>exact hq.elim
  | inl p=>
   obtain⟨⟨a1,a2,a3⟩,a4,a5⟩:=hq;refine T.bind (P:=λr=>r=true) (T.cond (λ_=>T.ret rfl) (λhc=>?_)) λp32 h32=>T.ret ⟨a1,h32,a2,a3⟩
   have hf:p.2.2=true:=by cases h:p.2.2 with
    | true=>rfl
    | false=>rw[h] at hc;cases hc
   obtain⟨b1,b2⟩:=a5 hf;refine T.eq (aQU N a4 a1) (T.ret ?_)
   have:¬p.2.1.gn*p.1.gd < p.1.gn*p.2.1.gd:=by
    have q1:p.1.gn*D*p.2.1.gd<=n*p.1.gd*p.2.1.gd:=co a3 (by omega)
    have q2:n*p.2.1.gd*p.1.gd<=p.2.1.gn*D*p.1.gd:=co b2 (by omega)
    have q3:(p.1.gn*p.2.1.gd)*D<=(p.2.1.gn*p.1.gd)*D:=by
     have e1:p.1.gn*D*p.2.1.gd=(p.1.gn*p.2.1.gd)*D:=by grind
     have e2:n*p.1.gd*p.2.1.gd=n*p.2.1.gd*p.1.gd:=by grind
     have e3:p.2.1.gn*D*p.1.gd=(p.2.1.gn*p.1.gd)*D:=by grind
     omega
    have:=dm q3 (by omega)
    omega
   rw[df this];rfl
def xU(N:Nat)(R:List aH)(o d:aC)(m s i:Int):Option aN:=
 match R[i.toNat]? with
 | none=>none
 | some t=>cond ((fI .u8 t.gC0 m)==0) none (cond (i==s) none (match qI N o d t.gP with | some (x,true)=>some x | _=>none))
theorem vB{N:Nat}(hN:3 < N){R:List aH}{o d:aC}{m s i:Int}{y:aN}(h:xU N R o d m s i=some y):lZ y/\∃t,R[i.toNat]? = some t/\Geo o d t.gP y:=by
 unfold xU at h;cases ht:R[i.toNat]? with
 | none=>rw[ht] at h;cases h
 | some t=>
  rw[ht] at h;dsimp only at h;cases h1:(fI .u8 t.gC0 m==0) with
  | true=>rw[h1] at h;cases h
  | false=>
   cases h2:(i==s) with
   | true=>rw[h1,h2] at h;cases h
   | false=>
    rw[h1,h2,cond_false,cond_false] at h;obtain⟨⟨x,b⟩,e,g1,g2⟩:=hitG N hN o d t.gP;rw[e] at h;cases b with
    | false=>cases h
    | true=>cases h;exact⟨g1,t,rfl,g2 rfl⟩
def tE(x:aN)(i:Int)(y:aN)(j:Int):Prop:=x.gA3*y.gO < y.gA3*x.gO\/(x.gA3*y.gO=y.gA3*x.gO/\i < j)
theorem aL2{a b c d e f:Int}(hd:0 < d)(hf:0 < f)(hb:0 < b)(h:a*d < c*b)(g:c*f<=e*d):a*f < e*b:=by
 have q1:a*d*f < c*b*f:=fq h hf;have q2:c*f*b<=e*d*b:=co g (by omega)
 have e1:a*d*f=a*f*d:=by grind
 have e2:c*b*f=c*f*b:=by grind
 have e3:e*d*b=e*b*d:=by grind
 have q3:a*f*d < e*b*d:=by omega
 exact j4 q3 (by omega)
theorem aRc{a b c d e f:Int}(hd:0 < d)(hf:0 < f)(hb:0 < b)(h:a*d<=c*b)(g:c*f < e*d):a*f < e*b:=by
 have q1:a*d*f<=c*b*f:=co h (by omega)
 have q2:c*f*b < e*d*b:=fq g hb;have e1:a*d*f=a*f*d:=by grind
 have e2:c*b*f=c*f*b:=by grind
 have e3:e*d*b=e*b*d:=by grind
 have q3:a*f*d < e*b*d:=by omega
 exact j4 q3 (by omega)
theorem aUG{a b c d e f:Int}(hd:0 < d)(h:a*d=c*b)(g:c*f=e*d):a*f=e*b:=by
 have q3:a*f*d=e*b*d:=by
  have e1:a*f*d=a*d*f:=by grind
  have e2:e*b*d=e*d*b:=by grind
  rw[e1,e2,h,<- g];grind
 exact Int.eq_of_mul_eq_mul_right (by omega) q3
theorem aRG{x y z:aN}{i j k:Int}(hx:1<=x.gO)(hy:1<=y.gO)(hz:1<=z.gO)(h:tE x i y j)(g:tE y j z k):tE x i z k:=by
 unfold tE at *;rcases h with h | ⟨h,h'⟩
 ·rcases g with g | ⟨g,g'⟩
  ·exact Or.inl (aL2 (by omega) (by omega) (by omega) h (by omega))
  ·exact Or.inl (aL2 (by omega) (by omega) (by omega) h (by omega))
 ·rcases g with g | ⟨g,g'⟩
  ·exact Or.inl (aRc (by omega) (by omega) (by omega) (by omega) g)
  ·exact Or.inr ⟨aUG (by omega) h g,by omega⟩
def wT(N:Nat)(R:List aH)(o d:aC)(m s:Int)(Dn:Int->Prop)(x:Int)(mt:aN):Prop:=
 (x = -1/\mt=aN.mk 0 0 0 0/\∀j,Dn j->xU N R o d m s j=none)\/((0<=x/\x < (R.length:Int))/\xU N R o d m s x=some mt/\∀j,Dn j->∀y,xU N R o d m s j=some y->j=x\/tE mt x y j)
def aFh(N:Nat)(R:List aH)(o d:aC)(m s x:Int)(mt:aN):Prop:=wT N R o d m s (λj=>0<=j/\j < (R.length:Int)) x mt
theorem aFh.uniq{N:Nat}{R:List aH}{o d:aC}{m s:Int}{x x':Int}{mt mt':aN}(h:aFh N R o d m s x mt)(h':aFh N R o d m s x' mt'):x=x'/\mt=mt':=by
 rcases h with ⟨a1,a2,a3⟩ | ⟨a1,a2,a3⟩ <;> rcases h' with ⟨b1,b2,b3⟩ | ⟨b1,b2,b3⟩
 ·exact⟨by omega,by rw[a2,b2]⟩
 ·rw[a3 x' b1] at b2;cases b2
 ·rw[b3 x a1] at a2;cases a2
 ·rcases a3 x' b1 mt' b2 with e | e
  ·subst e;rw[a2] at b2;cases b2;exact⟨rfl,rfl⟩
  ·rcases b3 x a1 mt a2 with e' | e'
   ·subst e';rw[a2] at b2;cases b2;exact⟨rfl,rfl⟩
   ·exfalso;unfold tE at e e';omega
theorem wT.miss{N:Nat}{R:List aH}{o d:aC}{m s:Int}{Dn:Int->Prop}{x:Int}{mt:aN}(h:wT N R o d m s Dn x mt){D':Int->Prop}(hD:∀j,D' j->Dn j\/∀y,xU N R o d m s j=some y->0<=x/\(j=x\/tE mt x y j)):wT N R o d m s D' x mt:=by
 rcases h with ⟨a1,a2,a3⟩ | ⟨a1,a2,a3⟩
 ·refine Or.inl ⟨a1,a2,λj hj=>?_⟩
  rcases hD j hj with g | g
  ·exact a3 j g
  ·cases hh:xU N R o d m s j with
   | none=>rfl
   | some y=>have:=(g y hh).1;omega
 ·refine Or.inr ⟨a1,a2,λj hj y hy=>?_⟩
  rcases hD j hj with g | g
  ·exact a3 j g y hy
  ·exact(g y hy).2
theorem wT.take{N:Nat}(hN:3 < N){R:List aH}{o d:aC}{m s:Int}{Dn:Int->Prop}{x:Int}{mt:aN}(h:wT N R o d m s Dn x mt){e:Int}{y:aN}(he:0<=e/\e < (R.length:Int))(hy:xU N R o d m s e=some y)(hb:x < 0\/tE y e mt x){D':Int->Prop}(hD:∀j,D' j->Dn j\/j=e):wT N R o d m s D' e y:=by
 refine Or.inr ⟨he,hy,λj hj z hz=>?_⟩
 rcases(hD j hj).symm with g | g
 ·exact Or.inl g
 rcases h with ⟨a1,a2,a3⟩ | ⟨a1,a2,a3⟩
 ·rw[a3 j g] at hz;cases hz
 ·have hb':tE y e mt x:=by rcases hb with hb | hb;omega;exact hb
  rcases a3 j g z hz with q | q
  ·subst q;rw[a2] at hz;cases hz;exact Or.inr hb'
  ·obtain⟨_,t1,_,g1⟩:=vB hN hy;obtain⟨_,t2,_,g2⟩:=vB hN a2;obtain⟨_,t3,_,g3⟩:=vB hN hz;exact Or.inr (aRG g1.det g2.det g3.det hb' q)
def aIL(R gl:List aH):Prop:=∀i,i < R.length->gl[i]? = R[i]?
theorem aQ2(N:Nat)(hN:3 < N){R gl:List aH}(h:aBx R.length gl)(he:aIL R gl)(o d:aC)(m s:Int){j:Nat}(hj:j < gl.length)(t:Int) :
  T (dD N o d m s (j:Int) (swp gl t)) (λa=>lZ a.1/\(a.2=true->j < R.length/\xU N R o d m s (j:Int)=some a.1)/\(a.2=false->j < R.length->xU N R o d m s (j:Int)=none)):=by
 have hg:idx gl (j:Int)=some gl[j]:=by rw[eK];exact af hj
 unfold dD mL swp;refine T.eq rfl (T.eq hg ?_)
 obtain⟨⟨x,b⟩,e,g1,g2⟩:=hitG N hN o d gl[j].gP;refine T.eq e ?_;have un:j < R.length->xU N R o d m s (j:Int)=cond ((fI .u8 gl[j].gC0 m)==0) none (cond ((j:Int)==s) none (cond b (some x) none)):=by
  intro hn;unfold xU;rw[bj,<- he j hn,af hj]
  dsimp only;rw[e]
  cases b <;> rfl
 have zero:¬j < R.length->(fI .u8 gl[j].gC0 m)=0:=by
  intro hn;rw[h.2 j (by omega) gl[j] (af hj)]
  unfold fI;have:BitVec.ofInt IntKind.u8.bits 0 &&& BitVec.ofInt IntKind.u8.bits m=0:=by
   rw[show BitVec.ofInt IntKind.u8.bits 0=0 from rfl]
   exact BitVec.zero_and
  rw[this];rfl
 cases b with
 | false=>
  refine T.bind (P:=λp=>p=false) ⟨_,rfl,rfl⟩ λp hp=>T.ret ⟨g1,?_,?_⟩
  ·intro h;rw[hp] at h;cases h
  ·intro _ hn;rw[un hn];cases ((fI .u8 gl[j].gC0 m)==0) <;> cases ((j:Int)==s) <;> rfl
 | true=>
  refine T.bind (P:=λp=>p=(!((fI .u8 gl[j].gC0 m)==0) && !((j:Int)==s))) ?_ λp hp=>T.ret ⟨g1,?_,?_⟩
  ·dsimp only;rw[cond_true]
   refine T.eq hg ?_;rw[aR]
   cases hb:(fI .u8 gl[j].gC0 m != 0) with
   | true=>rw[cond_true];refine T.ret ?_;rw[show((fI .u8 gl[j].gC0 m)==0)=false by simpa using hb];rfl
   | false=>rw[cond_false];refine T.ret ?_;rw[show((fI .u8 gl[j].gC0 m)==0)=true by simpa using hb];rfl
  ·intro hc;dsimp only at hc;rw[hp] at hc;simp only[Bool.and_eq_true,Bool.not_eq_true'] at hc;have hn:j < R.length:=Classical.byContradiction λhn=>by rw[zero hn] at hc;cases hc.1
   exact⟨hn,by rw[un hn,hc.1,hc.2];rfl⟩
  ·intro hc hn;dsimp only at hc;rw[hp] at hc;rw[un hn]
   cases h1:((fI .u8 gl[j].gC0 m)==0) with
   | true=>rfl
   | false=>
    rw[h1] at hc;cases h2:((j:Int)==s) with
    | true=>rfl
    | false=>rw[h2] at hc;cases hc
theorem aJK(N:Nat)(hN:4100 < N){R gl:List aH}(h:aBx R.length gl)(he:aIL R gl)(o d:aC)(m s t:Int) :
  T (cA N o d m s (swp gl t)) (λr=>aFh N R o d m s r.2.1 r.2.2):=by
 unfold cA eZ;refine T.eq (a:=false) rfl ?_;rw[cond_false]
 have h4:=h.1;refine T.bind (P:=λr=>aFh N R o d m s r.2.2 r.2.1) ?_ λr hr=>T.ret hr;refine T.loopG0 (n:=gl.length) (λj (x:Int×aN×Int)=>wT N R o d m s (λi=>0<=i/\i < (j:Int)/\i < (R.length:Int)) x.2.2 x.2.1/\x.2.2 < (j:Int)) _ (F:=λk (x:Int×aN×Int) j=>bW N (swp gl t) o d m s k (swp gl x.1) x.2.1 x.2.2 j) (λk x j hj hx hk=>?_) (λk x hx=>?_) (by omega) (s:=(t,aN.mk 0 0 0 0,-1)) ⟨Or.inl ⟨rfl,rfl,λj hj=>by omega⟩,by show(-1:Int) < 0;decide⟩
 ·rw[bW,aR]
  rw[dt (show(j:Int) < ((swp gl t).gl.length:Int) by show(j:Int) < (gl.length:Int);omega),cond_true]
  obtain⟨hx,hxj⟩:=hx;refine T.bind (P:=λp=>wT N R o d m s (λi=>0<=i/\i < ((j+1:Nat):Int)/\i < (R.length:Int)) p.2.2 p.1/\p.2.2 < ((j+1:Nat):Int)) ?_ λp hp=>?_
  ·refine T.bind (aQ2 N (by omega) h he o d m s hj x.1) λa ha=>?_;obtain⟨a1,a2,a3⟩:=ha;refine T.bind (P:=λq=>a.2=true->(q=true->x.2.2 < 0\/tE a.1 (j:Int) x.2.1 x.2.2)/\(q=false->0<=x.2.2/\tE x.2.1 x.2.2 a.1 (j:Int))) ?_ λq hq=>?_
   ·refine T.cond (λhc=>T.ret λ_=>⟨λ_=>Or.inl (of_decide_eq_true hc),λh=>by cases h⟩) (λhc=>?_)
    have x0:=of_decide_eq_false hc;rcases hx with ⟨b1,_,_⟩ | ⟨b1,b2,_⟩
    ·omega
    obtain⟨m1,_,_,g1⟩:=vB (by omega) b2;cases h2:a.2 with
    | false=>exact T.bind (aNw N a1 m1) λ_ _=>T.ret λh=>by cases h
    | true=>
     obtain⟨_,_,_,g2⟩:=vB (by omega) (a2 h2).2;refine T.eq (aQK N a1 m1 g2.det g1.det) (T.ret λ_=>⟨λh=>Or.inr (Or.inl (of_decide_eq_true h)),λh=>⟨by omega,?_⟩⟩)
     have:=of_decide_eq_false h;unfold tE;omega
   ·refine T.cond (λhc=>?_) (λhc=>?_)
    ·have h2:a.2=true/\q=true:=by cases h2:a.2 <;> cases h3:q <;> rw[h2,h3] at hc <;> first | exact⟨rfl,rfl⟩ | cases hc
     obtain⟨hn,hh⟩:=a2 h2.1;exact T.ret ⟨hx.take (by omega) ⟨by omega,by omega⟩ hh ((hq h2.1).1 h2.2) λi hi=>by omega,by dsimp only;omega⟩
    ·refine T.ret ⟨hx.miss λi hi=>?_,by dsimp only;omega⟩
     by_cases c:i < (j:Int)
     ·exact Or.inl ⟨hi.1,c,hi.2.2⟩
     ·refine Or.inr λy hy=>?_;obtain rfl:i=(j:Int):=by omega
      cases h2:a.2 with
      | false=>rw[a3 h2 (by omega)] at hy;cases hy
      | true=>
       rw[(a2 h2).2] at hy;cases hy;have h3:q=false:=by cases h3:q with
        | false=>rfl
        | true=>rw[h2,h3] at hc;cases hc
       have:=(hq h2).2 h3;exact⟨this.1,Or.inr this.2⟩
  ·rw[dI (by omega)]
   exact hk (I64 (x.1+1),p.1,p.2.2) hp
 ·rw[bW,aR]
  rw[df (show ¬(gl.length:Int) < ((swp gl t).gl.length:Int) by show ¬(gl.length:Int) < (gl.length:Int);omega),cond_false]
  refine T.ret (hx.1.miss λj hj=>Or.inl ⟨hj.1,?_,hj.2⟩)
  have:R.length<=gl.length:=by
   by_cases c:R.length=0
   ·omega
   ·have:=he (R.length - 1) (by omega)
    rw[af (l:=R) (by omega)] at this;obtain⟨q,_⟩:=eo.1 this;omega
  omega
def aMK(N:Nat)(R:List aH)(o d:aC)(m s:Int)(w r:Bool):Prop:=r=true↔∃j:Int,(0<=j/\j < (R.length:Int))/\∃y,xU N R o d m s j=some y/\(w=true->y.gA3 < y.gO)
theorem aMK.uniq{N:Nat}{R:List aH}{o d:aC}{m s:Int}{w r r':Bool}(h:aMK N R o d m s w r)(h':aMK N R o d m s w r'):r=r':=by
 rw[lg];exact h.trans h'.symm
theorem aSd(N:Nat)(hN:4100 < N){R gl:List aH}(h:aBx R.length gl)(he:aIL R gl)(o d:aC)(m s:Int)(w:Bool)(t:Int) :
  T (cH N o d m s w (swp gl t)) (λr=>aMK N R o d m s w r.2):=by
 unfold cH eZ;refine T.eq (a:=false) rfl ?_;rw[cond_false]
 have h4:=h.1;refine T.bind (P:=λr=>aMK N R o d m s w r.2) ?_ λr hr=>T.ret hr;refine T.loopG0 (n:=gl.length) (λj (x:Int×Bool)=>x.2=true↔∃i:Int,(0<=i/\i < (j:Int)/\i < (R.length:Int))/\∃y,xU N R o d m s i=some y/\(w=true->y.gA3 < y.gO)) _ (F:=λk (x:Int×Bool) j=>bZ N (swp gl t) o d m s w k (swp gl x.1) x.2 j) (λk x j hj hx hk=>?_) (λk x hx=>?_) (by omega) (s:=(t,false)) ⟨(λh=>by cases h),λ⟨i,hi,_⟩=>by omega⟩
 ·rw[bZ,aR]
  rw[dt (show(j:Int) < ((swp gl t).gl.length:Int) by show(j:Int) < (gl.length:Int);omega),cond_true]
  refine T.bind (aQ2 N (by omega) h he o d m s hj x.1) λa ha=>?_;obtain⟨a1,a2,a3⟩:=ha;have up:∀b:Bool,(b=true↔(x.2=true\/(a.2=true/\(w=true->a.1.gA3 < a.1.gO))))->(b=true↔∃i:Int,(0<=i/\i < ((j+1:Nat):Int)/\i < (R.length:Int))/\∃y,xU N R o d m s i=some y/\(w=true->y.gA3 < y.gO)):=by
   intro b hb;rw[hb,hx]
   constructor
   ·rintro(⟨i,hi,y,hy⟩ | ⟨g1,g2⟩)
    ·exact⟨i,by omega,y,hy⟩
    ·obtain⟨hn,hh⟩:=a2 g1;exact⟨(j:Int),by omega,a.1,hh,g2⟩
   ·rintro⟨i,hi,y,hy,g⟩
    by_cases c:i < (j:Int)
    ·exact Or.inl ⟨i,by omega,y,hy,g⟩
    ·obtain rfl:i=(j:Int):=by omega
     right;cases h2:a.2 with
     | false=>rw[a3 h2 (by omega)] at hy;cases hy
     | true=>rw[(a2 h2).2] at hy;cases hy;exact⟨rfl,g⟩
  refine T.cond (λhc=>?_) (λhc=>?_)
  ·simp only[aR]
   rw[dI (by omega)]
   refine hk (I64 (x.1+1),_) (up _ ?_)
   rw[hc]
   by_cases g:a.1.gA3 < a.1.gO
   ·rw[dt g];cases w <;> cases x.2 <;> simp[g]
   ·rw[df g];cases w <;> cases x.2 <;> simp[g]
  ·rw[dI (by omega)]
   exact hk (I64 (x.1+1),x.2) (up _ (by rw[hc];simp))
 ·rw[bZ,aR]
  rw[df (show ¬(gl.length:Int) < ((swp gl t).gl.length:Int) by show ¬(gl.length:Int) < (gl.length:Int);omega),cond_false]
  have:R.length<=gl.length:=by
   by_cases c:R.length=0
   ·omega
   ·have:=he (R.length - 1) (by omega)
    rw[af (l:=R) (by omega)] at this;obtain⟨q,_⟩:=eo.1 this;omega
  refine T.ret (hx.trans ⟨λ⟨i,hi,g⟩=>⟨i,by omega,g⟩,λ⟨i,hi,g⟩=>⟨i,by omega,g⟩⟩)
def inN(R:List aH)(b:aX)(i j:Int):Prop:=∃f c,Cv R b.gC2 b.gA0 (λ_=>True) i f c []/\∃p:Nat,f<=p/\p < f+c/\b.gC2[p]? = some j
theorem aQI(N:Nat)(hN:3 < N)(b:aX){R:List aH}(o d:aC)(m s:Int){j:Int}(hj:0<=j/\j < (R.length:Int))(t:Int) :
  T (cI N o d m s j (wlk b R t)) (λa=>lZ a.1/\xU N R o d m s j=cond a.2 (some a.1) none):=by
 have hg:idx R j=some R[j.toNat]:=aBc hj.1 (by omega)
 unfold cI wlk;refine T.eq hg ?_;obtain⟨⟨x,h⟩,e,g1,g2⟩:=hitG N hN o d R[j.toNat].gP;have un:xU N R o d m s j=cond ((fI .u8 R[j.toNat].gC0 m)==0) none (cond (j==s) none (cond h (some x) none)):=by
  unfold xU;rw[af (show j.toNat < R.length by omega)]
  dsimp only;rw[e]
  cases h <;> rfl
 simp only[aR]
 rw[un]
 cases h1:((fI .u8 R[j.toNat].gC0 m)==0) with
 | true=>exact T.ret ⟨yE,rfl⟩
 | false=>
  cases h2:(j==s) with
  | true=>exact T.ret ⟨yE,rfl⟩
  | false=>exact T.eq hg (T.eq e (T.ret ⟨g1,rfl⟩))
theorem aUX(N:Nat)(hN:100 < N){b:aX}{R:List aH}(o d:aC)(m s t0:Int){l:List Int}(hl:ord R.length l)(hl':l.length<=20)(t:Int){Dn:Int->Prop}{x:Int}{mt:aN}(hm:wT N R o d m s Dn x mt) :
  T (bP N l o d m s (wlk b R t0) N t mt x 0) (λr=>wT N R o d m s (λj=>Dn j\/j∈l) r.2.2 r.2.1):=by
 refine T.loopG0 (n:=l.length) (λj (q:Int×aN×Int)=>wT N R o d m s (λi=>Dn i\/i∈l.take j) q.2.2 q.2.1) _ (F:=λk (q:Int×aN×Int) j=>bP N l o d m s (wlk b R t0) k q.1 q.2.1 q.2.2 j) (λk q j hj hx hk=>?_) (λk q hx=>?_) (by omega) (s:=(t,mt,x)) (hm.miss λj hj=>Or.inl (by simpa using hj))
 ·rw[bP,aR,dt (by omega),cond_true]
  refine T.bind (P:=λp=>wT N R o d m s (λi=>Dn i\/i∈l.take (j+1)) p.2.2 p.1) ?_ λp hp=>by rw[dI (by omega)];exact hk (I64 (q.1+1),p.1,p.2.2) hp
  rw[eK,af hj,ae]
  have he:=hl _ (bp hj)
  have tk:∀i,i∈l.take (j+1)->i∈l.take j\/i=l[j]:=by
   intro i hi;rw[pV (af hj),au,ca] at hi;exact hi
  generalize l[j]=e at *;refine T.bind (aQI N (by omega) b o d m s he _) λa ha=>?_;obtain⟨a1,a2⟩:=ha;refine T.bind (P:=λp33=>(p33=true->a.2=true/\(q.2.2 < 0\/tE a.1 e q.2.1 q.2.2))/\(p33=false->a.2=true->0<=q.2.2/\(e=q.2.2\/tE q.2.1 q.2.2 a.1 e))) ?_ λp33 h33=>?_
  ·refine T.cond (λhc=>?_) (λhc=>T.ret ⟨(λh=>by cases h),λ_ h=>by rw[hc] at h;cases h⟩)
   refine T.cond (λhc2=>T.ret ⟨λ_=>⟨hc,Or.inl (of_decide_eq_true hc2)⟩,λh=>by cases h⟩) (λhc2=>?_)
   have x0:=of_decide_eq_false hc2;rcases hx with ⟨b1,_,_⟩ | ⟨b1,b2,_⟩
   ·omega
   obtain⟨m1,_,_,g1⟩:=vB (by omega) b2;rw[hc,cond_true] at a2;obtain⟨_,_,_,g2⟩:=vB (by omega) a2;refine T.eq (aQK N a1 m1 g2.det g1.det) ?_;refine T.cond (λh=>T.ret ⟨λ_=>⟨hc,Or.inr (Or.inl (of_decide_eq_true h))⟩,λh=>by cases h⟩) (λh=>?_)
   have n1:=of_decide_eq_false h;refine T.cond (λh3=>?_) (λh3=>?_)
   ·have lt:=of_decide_eq_true h3;refine T.eq (aQK N m1 a1 g1.det g2.det) (T.ret ⟨λh4=>⟨hc,Or.inr (Or.inr ⟨?_,lt⟩)⟩,λh4 _=>⟨by omega,Or.inr (Or.inl ?_)⟩⟩)
    ·have:¬q.2.1.gA3*a.1.gO < a.1.gA3*q.2.1.gO:=of_decide_eq_false (by simpa using h4)
     omega
    ·have:decide (q.2.1.gA3*a.1.gO < a.1.gA3*q.2.1.gO)=true:=by simpa using h4
     exact of_decide_eq_true this
   ·have ge:=of_decide_eq_false h3;refine T.ret ⟨(λh=>by cases h),λ_ _=>⟨by omega,?_⟩⟩
    by_cases c:e=q.2.2
    ·exact Or.inl c
    ·right;unfold tE;omega
  ·refine T.cond (λhc=>?_) (λhc=>?_)
   ·obtain⟨g1,g2⟩:=h33.1 hc;rw[g1,cond_true] at a2;exact T.ret (hx.take (by omega) he a2 g2 λi hi=>by
     rcases hi with hi | hi
     ·exact Or.inl (Or.inl hi)
     ·rcases tk i hi with hi | hi
      ·exact Or.inl (Or.inr hi)
      ·exact Or.inr hi)
   ·refine T.ret (hx.miss λi hi=>?_)
    have last:i=e->∀y,xU N R o d m s i=some y->0<=q.2.2/\(i=q.2.2\/tE q.2.1 q.2.2 y i):=by
     intro e' y hy;subst e';rw[a2] at hy;cases h2:a.2 with
     | false=>rw[h2] at hy;cases hy
     | true=>rw[h2] at hy;cases hy;exact h33.2 hc h2
    rcases hi with hi | hi
    ·exact Or.inl (Or.inl hi)
    ·rcases tk i hi with hi | hi
     ·exact Or.inl (Or.inr hi)
     ·exact Or.inr (last hi)
 ·rw[bP,aR,df (by omega),cond_false]
  rw[j6] at hx;exact T.ret hx
theorem Cv.nil{R:List aH}{o:List Int}{d:List bD}{D:Int->Prop}{i:Int}{f c:Nat}(h:Cv R o d D i f c []):∃nd,d[i.toNat]? = some nd/\aCL R o f c nd.gLo nd.gHi/\aPG nd/\((nd.gB2 < 0/\nd.gC5=(f:Int)/\nd.gD1=(c:Int))\/(0<=nd.gB2/\∃c1 c2:Nat,c=c1+c2/\Cv R o d D nd.gB2 f c1 []/\Cv R o d D nd.gB4 (f+c1) c2 [])):=by
 generalize hL:([]:List bA)=L at h;cases h with
 | pend t _ _ h1 h2=>cases hL
 | leaf _ _ _ nd h1 h2 h3 h4 h5 h6 h7=>exact⟨nd,h2,h6,h7,Or.inl ⟨h3,h4,h5⟩⟩
 | node _ _ c1 c2 nd L1 L2 h1 h2 h3 g1 g2 h6 h7=>
  have:=List.append_eq_nil_iff.1 hL.symm;obtain⟨rfl,rfl⟩:=this;exact⟨nd,h2,h6,h7,Or.inr ⟨h3,c1,c2,rfl,g1,g2⟩⟩
theorem aM7(N:Nat)(hN:10 < N){R:List aH}{b:aX}{o d:aC}{m s:Int}{e:Int}{nd:bD}(hnd:b.gA0[e.toNat]? = some nd){r:aY×Bool}(hr:pB N nd.gLo nd.gHi o d=some r){j:Int}(hj:inN R b e j){y:aN}(hy:xU N R o d m s j=some y):r.2=true/\0 < r.1.gd/\r.1.gn*y.gO<=y.gA3*r.1.gd:=by
 obtain⟨f,c,cv,p,p1,p2,p3⟩:=hj;obtain⟨nd',h1,h2,h3,_⟩:=cv.nil;obtain rfl:=cW hnd h1;obtain⟨_,t,ht,g⟩:=vB (by omega) hy;have th:=g.thru (h2 p p1 p2 j p3 t ht)
 obtain⟨r',e',q⟩:=spanG N hN h3.1 h3.2 g.ho g.hd g.det g.num th;obtain rfl:=cW hr e';exact q.2
theorem aUD(N:Nat)(hN:100 < N){b:aX}{R:List aH}(hb:yT R.length b)(h20:R.length<=20)(o:aC){d:aC}(hd:pin d)(m s t0:Int):∀(k:Nat) (st:List Int) (t:Int) (mt:aN) (x:Int) (l:Nat),l<=st.length->aJU b (st.take l)->wW (st.take l) < k->wW (st.take l) < 1000000000000 ->
  (∃Dn:Int->Prop,wT N R o d m s Dn x mt/\(∀i∈st.take l,∃f c,Cv R b.gC2 b.gA0 (λ_=>True) i f c [])/\∀j,(0<=j/\j < (R.length:Int))->Dn j\/∃i∈st.take l,inN R b i j) ->
  T (cL N (wlk b R t0) o d m s k st t mt x l) (λr=>aFh N R o d m s r.2.2.2 r.2.2.1):=by
 obtain⟨b1,b2,b3,b4⟩:=hb;intro k
 induction k with
 | zero=>intro st t mt x l _ _ h;omega
 | succ k ih=>
  intro st t mt x l hl hn hw hw' hinv;obtain⟨Dn,hm,hcv,hcov⟩:=hinv;rw[cL]
  simp only[aR]
  have lenT:(st.take l).length=l:=by rw[bn];omega
  have wl:=aCy b3 hn;rw[lenT] at wl;refine T.cond (λhc=>?_) (λhc=>?_)
  ·obtain⟨l,rfl⟩:∃l',l=l'+1:=⟨l - 1,by have:=of_decide_eq_true hc;omega⟩
   have im:I64 (((l+1:Nat):Int) - 1)=(l:Int):=by rw[bC (by omega) (by omega)];omega
   simp only[im,bj]
   obtain⟨e,et⟩:∃e,st[l]? = some e:=⟨_,af (by omega)⟩
   have hs:=pV et;rw[hs] at hn hw hw' hcv hcov;rw[xN] at hw hw';have he:=hn e (by simp)
   have hn':aJU b (st.take l):=λy hy=>hn y (by simp[hy])
   have hcv':∀i∈st.take l,∃f c,Cv R b.gC2 b.gA0 (λ_=>True) i f c []:=λi hi=>hcv i (by simp[hi])
   have w1:=aHp (x:=e) ⟨he.1,by omega⟩
   have wl':=aCy b3 hn';rw[show(st.take l).length=l by rw[bn];omega] at wl';have cov:∀{Dn':Int->Prop},(∀j,Dn j->Dn' j)->(∀j,inN R b e j->Dn' j)->∀j,(0<=j/\j < (R.length:Int))->Dn' j\/∃i∈st.take l,inN R b i j:=by
    intro Dn' h1 h2 j hj;rcases hcov j hj with h | ⟨i,hi,h⟩
    ·exact Or.inl (h1 j h)
    ·rw[au,ca] at hi;rcases hi with hi | rfl
     ·exact Or.inr ⟨i,hi,h⟩
     ·exact Or.inl (h2 j h)
   refine T.bind (T.inRS (by omega) (by omega) (by omega)) λ_ _=>T.eq et ?_;have hidx:e.toNat < b.gA0.length:=by omega
   refine T.eq (a:=b.gA0[e.toNat]) (aBc he.1 hidx) ?_;have gd:=b4 e.toNat hidx;have hnd:b.gA0[e.toNat]? = some b.gA0[e.toNat]:=af hidx;generalize b.gA0[e.toNat]=nd at *;refine T.bind (T.slcG (by omega) (by omega) (by omega) (by omega) (Or.inl rfl)) λ_ _=>?_;obtain⟨r18,e18,h18⟩:=aNA N (by omega) nd.gLo nd.gHi o hd;refine T.eq e18 ?_;have out:=λj (hj:inN R b e j) y (hy:xU N R o d m s j=some y)=>aM7 N (by omega) hnd e18 hj hy;refine T.bind (P:=λp=>p=true->∀j,inN R b e j->∀y,xU N R o d m s j=some y->0<=x/\(j=x\/tE mt x y j)) ?_ λp19 h19=>?_
   ·refine T.cond (λhc=>T.ret λ_ j hj y hy=>?_) (λhc=>?_)
    ·rw[(out j hj y hy).1] at hc;cases hc
    ·refine T.cond (λhx=>?_) (λ_=>T.ret λh=>by cases h)
     have x0:=of_decide_eq_true hx;rcases hm with ⟨q1,_,_⟩ | ⟨q1,q2,_⟩
     ·omega
     obtain⟨m1,_,_,g1⟩:=vB (by omega) q2;refine T.eq (aQU N (a:=aY.mk mt.gA3 mt.gO) ⟨m1.1,m1.2.1⟩ h18) (T.ret λh j hj y hy=>⟨q1.1,Or.inr (Or.inl ?_)⟩)
     obtain⟨_,o2,o3⟩:=out j hj y hy;obtain⟨_,_,_,g2⟩:=vB (by omega) hy;exact aL2 o2 (by have:=g2.det;omega) (by have:=g1.det;omega) (of_decide_eq_true h) o3
   refine T.cond (λhp=>?_) (λ_=>T.cond (λhc=>?_) (λhc=>?_))
   ·refine ih st (I64 (t+1)) mt x l (by omega) hn' (by omega) (by omega) ⟨λj=>Dn j\/inN R b e j,hm.miss λj hj=>?_,hcv',cov (λ_ h=>Or.inl h) (λ_ h=>Or.inr h)⟩
    rcases hj with hj | hj
    ·exact Or.inl hj
    ·exact Or.inr (h19 hp j hj)
   ·have lp:=of_decide_eq_true hc;have g:=gd.1 lp;have w2:=aKK (x:=e) (a:=nd.gB4) (b:=nd.gB2) he.1 ⟨by omega,by omega⟩ ⟨by omega,by omega⟩
    refine T.bind (T.appG (by omega) (show(l+2)*8<=140737488355328 by omega)) λz hz=>?_;subst hz;have tk:(uA st l [nd.gB4,nd.gB2]).take (l+2)=st.take l++[nd.gB4,nd.gB2]:=aBh st l [_,_] (by omega)
    refine ih _ (I64 (t+1)) mt x (l+2) (aEH st l [_,_] (by omega)) ?_ ?_ ?_ ⟨Dn,hm,?_,?_⟩
    ·rw[tk]
     intro y hy;rw[au] at hy;rcases hy with hy | hy
     ·exact hn' y hy
     ·simp at hy;rcases hy with rfl | rfl <;> omega
    ·rw[tk,xN];omega
    ·rw[tk,xN];omega
    ·rw[tk]
     intro i hi;rw[au] at hi;rcases hi with hi | hi
     ·exact hcv' i hi
     ·obtain⟨f,c,cv⟩:=hcv e (by simp)
      obtain⟨nd',q1,_,_,q4⟩:=cv.nil;obtain rfl:=cW hnd q1;rcases q4 with ⟨q4,_⟩ | ⟨_,c1,c2,_,v1,v2⟩
      ·omega
      ·simp at hi;rcases hi with rfl | rfl
       ·exact⟨_,_,v2⟩
       ·exact⟨_,_,v1⟩
    ·rw[tk]
     intro j hj;rcases hcov j hj with h | ⟨i,hi,h⟩
     ·exact Or.inl h
     ·right;rw[au,ca] at hi;rcases hi with hi | rfl
      ·exact⟨i,by simp[hi],h⟩
      ·obtain⟨f,c,cv,p,p1,p2,p3⟩:=h;obtain⟨nd',q1,_,_,q4⟩:=cv.nil;obtain rfl:=cW hnd q1;rcases q4 with ⟨q4,_⟩ | ⟨_,c1,c2,q5,v1,v2⟩
       ·omega
       ·by_cases hp:p < f+c1
        ·exact⟨nd.gB2,by simp,f,c1,v1,p,p1,hp,p3⟩
        ·exact⟨nd.gB4,by simp,f+c1,c2,v2,p,by omega,by omega,p3⟩
   ·have ln:=of_decide_eq_false hc;have g:=gd.2 (by omega)
    rw[bC (x:=nd.gC5+nd.gD1) (by omega) (by omega)]
    refine T.bind (T.slcN (l:=b.gC2) g.1 (by omega) (by omega)) λs23 h23=>?_;refine T.bind (aUX N hN o d m s t0 (λy hy=>b1 y (h23.2.1 y hy)) (by omega) (I64 (t+1)) hm) λp24 h24=>?_;refine ih st p24.1 p24.2.1 p24.2.2 l (by omega) hn' (by omega) (by omega) ⟨_,h24,hcv',cov (λ_ h=>Or.inl h) (λj h=>Or.inr ?_)⟩
    obtain⟨f,c,cv,p,p1,p2,p3⟩:=h;obtain⟨nd',q1,_,_,q4⟩:=cv.nil;obtain rfl:=cW hnd q1;rcases q4.symm with ⟨q5,_⟩ | ⟨_,q5,q6⟩
    ·omega
    rw[h23.1]
    refine b9 (i:=p - f) ?_;rw[fv,show nd.gC5.toNat+(p - f)=p by omega,j8 (by omega)]
    exact p3
  ·have l0:l=0:=by have:=of_decide_eq_false hc;omega
   subst l0;refine T.ret (hm.miss λj hj=>?_)
   rcases hcov j hj with h | ⟨i,hi,_⟩
   ·exact Or.inl h
   ·exact absurd hi (by simp)
theorem aUI(N:Nat)(hN:3 < N){o d:aC}(h:qU N o d=some false)(P:Vector aC 3):qI N o d P=some (aN.mk 0 0 0 0,false):=by
 unfold qI;rw[h]
 rfl
theorem aSy(N:Nat)(hN:3 < N){o d:aC}(h:qU N o d=some false)(R:List aH)(m s j:Int):xU N R o d m s j=none:=by
 unfold xU;cases R[j.toNat]? with
 | none=>rfl
 | some t=>
  dsimp only;rw[aUI N hN h]
  cases ((fI .u8 t.gC0 m)==0) <;> cases (j==s) <;> rfl
theorem aNH{R:List aH}{b:aX}(ht:vJ R b)(h:0 < R.length):0 < b.gA0.length/\Cv R b.gC2 b.gA0 (λ_=>True) 0 0 R.length []/\∀j,(0<=j/\j < (R.length:Int))->inN R b 0 j:=by
 rcases ht with ⟨h0,_⟩ | ⟨_,h1,h2⟩
 ·omega
 ·refine⟨?_,h2,λj hj=>?_⟩
  ·obtain⟨nd,q,_⟩:=h2.nil;obtain⟨q',_⟩:=eo.1 q;omega
  ·obtain⟨p,p1,p2⟩:=h1 j.toNat (by omega)
   refine⟨0,R.length,h2,p,by omega,by omega,?_⟩
   rw[p2];congr 1;omega
theorem nearC(N:Nat)(hN:1000000000000 < N){b:aX}{R:List aH}(hb:yT R.length b)(ht:vJ R b)(h20:R.length<=20)(o d:aC)(m s t:Int) :
  T (dJ N o d m s (wlk b R t)) (λr=>aFh N R o d m s r.2.1 r.2.2):=by
 unfold dJ fV;refine T.bind (P:=λp=>(p=true->∀j,(0<=j/\j < (R.length:Int))->xU N R o d m s j=none)/\(p=false->pin d/\0 < R.length)) ?_ λp1 h1=>T.cond (λhc=>T.ret (Or.inl ⟨rfl,rfl,h1.1 hc⟩)) (λhc=>?_)
 ·refine T.eq (a:=false) rfl ?_;simp only[aR,cond_false]
  show T (cond ((b.gA0.length:Int)==0) _ _) _;refine T.cond (λhc=>T.ret ⟨λ_ j hj=>?_,λh=>by cases h⟩) (λhc=>?_)
  ·exfalso;have:(b.gA0.length:Int)=0:=by simpa using hc
   have:=(aNH ht (by omega)).1;omega
  ·have nz:(b.gA0.length:Int)≠0:=by simpa using hc
   obtain⟨r4,e4,h4⟩:=aLR N o d;refine T.eq e4 (T.ret ⟨λh j hj=>aSy N (by omega) (by rw[e4];congr 1;simpa using h) R m s j,λh=>⟨aD2 (h4 (by simpa using h)).2.1 (by decide),?_⟩⟩)
   rcases ht with ⟨_,h0⟩ | ⟨h0,_⟩
   ·rw[h0] at nz;exact absurd rfl nz
   ·exact h0
 ·obtain⟨hd,h0⟩:=h1.2 hc;obtain⟨n0,cv,cov⟩:=aNH ht h0;refine T.bind (aUD N (by omega) hb h20 o hd m s t N [0] t (aN.mk 0 0 0 0) (-1) 1 (by simp) ?_ ?_ ?_ ⟨λ_=>False,Or.inl ⟨rfl,rfl,λ_ h=>h.elim⟩,?_,?_⟩) λr hr=>T.ret hr
  ·intro x hx;have:x=0:=by simpa using hx
   subst this;omega
  ·show(2 ^ 39 - 1+0) < N;omega
  ·show(2 ^ 39 - 1+0) < 1000000000000;decide
  ·intro i hi;have:i=0:=by simpa using hi
   subst this;exact⟨_,_,cv⟩
  ·intro j hj;exact Or.inr ⟨0,by simp,cov j hj⟩
def aF9(N:Nat)(R:List aH)(o d:aC)(m s:Int)(w:Bool)(j:Int):Prop:=∃y,xU N R o d m s j=some y/\(w=true->y.gA3 < y.gO)
theorem anyC2(N:Nat)(hN:100 < N){b:aX}{R:List aH}(o d:aC)(m s:Int)(w:Bool)(t0:Int){l:List Int}(hl:ord R.length l)(hl':l.length<=20)(t:Int) :
  T (bY N l o d m s (wlk b R t0) w N t 0) (λq=>match q with | .inl _=>∀j∈l,¬aF9 N R o d m s w j | .inr r=>r.2=true/\∃j,(0<=j/\j < (R.length:Int))/\aF9 N R o d m s w j):=by
 refine T.loopG0 (n:=l.length) (λj (q:Int)=>∀i∈l.take j,¬aF9 N R o d m s w i) _ (F:=λk (q:Int) j=>bY N l o d m s (wlk b R t0) w k q j) (λk q j hj hx hk=>?_) (λk q hx=>?_) (by omega) (s:=t) (λi hi=>absurd hi (by simp))
 ·rw[bY,aR,dt (by omega),cond_true,eK,af hj,ae]
  have he:=hl _ (bp hj)
  have tk:∀i,i∈l.take (j+1)->i∈l.take j\/i=l[j]:=by
   intro i hi;rw[pV (af hj),au,ca] at hi;exact hi
  generalize l[j]=e at *;refine T.bind (aQI N (by omega) b o d m s he _) λa ha=>?_;obtain⟨a1,a2⟩:=ha;refine T.bind (P:=λp=>p=true↔aF9 N R o d m s w e) ?_ λp hp=>?_
  ·unfold aF9;refine T.cond (λhc=>?_) (λhc=>T.ret ⟨(λh=>by cases h),λ⟨y,hy,_⟩=>by rw[a2,hc] at hy;cases hy⟩)
   rw[hc,cond_true] at a2;rw[aR]
   refine T.ret ⟨λh=>⟨a.1,a2,λhw=>?_⟩,λ⟨y,hy,g⟩=>?_⟩
   ·rw[hw] at h;exact of_decide_eq_true h
   ·rw[a2] at hy;cases hy;cases w with
    | false=>rfl
    | true=>exact dt (g rfl)
  ·refine T.cond (λhc=>T.ret ⟨rfl,e,he,hp.1 hc⟩) (λhc=>?_)
   rw[dI (by omega)]
   refine hk (I64 (q+1)) λi hi=>?_;rcases tk i hi with hi | rfl
   ·exact hx i hi
   ·intro g;rw[hp.2 g] at hc;cases hc
 ·rw[bY,aR,df (by omega),cond_false]
  rw[j6] at hx;exact T.ret hx
theorem anyC1(N:Nat)(hN:100 < N){b:aX}{R:List aH}(hb:yT R.length b)(h20:R.length<=20)(o:aC){d:aC}(hd:pin d)(m s:Int)(w:Bool)(t0:Int):∀(k:Nat) (st:List Int) (t:Int) (l:Nat),l<=st.length->aJU b (st.take l)->wW (st.take l) < k->wW (st.take l) < 1000000000000 ->
  (∃Dn:Int->Prop,(∀j,Dn j->¬aF9 N R o d m s w j)/\(∀i∈st.take l,∃f c,Cv R b.gC2 b.gA0 (λ_=>True) i f c [])/\∀j,(0<=j/\j < (R.length:Int))->Dn j\/∃i∈st.take l,inN R b i j) ->
  T (dK N (wlk b R t0) o d m s w k st t l) (λq=>match q with | .inl _=>∀j,(0<=j/\j < (R.length:Int))->¬aF9 N R o d m s w j | .inr r=>r.2=true/\∃j,(0<=j/\j < (R.length:Int))/\aF9 N R o d m s w j):=by
 obtain⟨b1,b2,b3,b4⟩:=hb;intro k
 induction k with
 | zero=>intro st t l _ _ h;omega
 | succ k ih=>
  intro st t l hl hn hw hw' hinv;obtain⟨Dn,hm,hcv,hcov⟩:=hinv;rw[dK]
  simp only[aR]
  have lenT:(st.take l).length=l:=by rw[bn];omega
  have wl:=aCy b3 hn;rw[lenT] at wl;refine T.cond (λhc=>?_) (λhc=>?_)
  ·obtain⟨l,rfl⟩:∃l',l=l'+1:=⟨l - 1,by have:=of_decide_eq_true hc;omega⟩
   have im:I64 (((l+1:Nat):Int) - 1)=(l:Int):=by rw[bC (by omega) (by omega)];omega
   simp only[im,bj]
   obtain⟨e,et⟩:∃e,st[l]? = some e:=⟨_,af (by omega)⟩
   have hs:=pV et;rw[hs] at hn hw hw' hcv hcov;rw[xN] at hw hw';have he:=hn e (by simp)
   have hn':aJU b (st.take l):=λy hy=>hn y (by simp[hy])
   have hcv':∀i∈st.take l,∃f c,Cv R b.gC2 b.gA0 (λ_=>True) i f c []:=λi hi=>hcv i (by simp[hi])
   have w1:=aHp (x:=e) ⟨he.1,by omega⟩
   have wl':=aCy b3 hn';rw[show(st.take l).length=l by rw[bn];omega] at wl';have cov:∀{Dn':Int->Prop},(∀j,Dn j->Dn' j)->(∀j,inN R b e j->Dn' j)->∀j,(0<=j/\j < (R.length:Int))->Dn' j\/∃i∈st.take l,inN R b i j:=by
    intro Dn' h1 h2 j hj;rcases hcov j hj with h | ⟨i,hi,h⟩
    ·exact Or.inl (h1 j h)
    ·rw[au,ca] at hi;rcases hi with hi | rfl
     ·exact Or.inr ⟨i,hi,h⟩
     ·exact Or.inl (h2 j h)
   refine T.bind (T.inRS (by omega) (by omega) (by omega)) λ_ _=>T.eq et ?_;have hidx:e.toNat < b.gA0.length:=by omega
   refine T.eq (a:=b.gA0[e.toNat]) (aBc he.1 hidx) ?_;have gd:=b4 e.toNat hidx;have hnd:b.gA0[e.toNat]? = some b.gA0[e.toNat]:=af hidx;generalize b.gA0[e.toNat]=nd at *;refine T.bind (T.slcG (by omega) (by omega) (by omega) (by omega) (Or.inl rfl)) λ_ _=>?_;obtain⟨r18,e18,h18⟩:=aNA N (by omega) nd.gLo nd.gHi o hd;refine T.eq e18 ?_;refine T.cond (λhp=>?_) (λ_=>T.cond (λhc=>?_) (λhc=>?_))
   ·refine ih st (I64 (t+1)) l (by omega) hn' (by omega) (by omega) ⟨λj=>Dn j\/inN R b e j,λj hj=>?_,hcv',cov (λ_ h=>Or.inl h) (λ_ h=>Or.inr h)⟩
    rcases hj with hj | hj
    ·exact hm j hj
    ·rintro⟨y,hy,_⟩
     rw[(aM7 N (by omega) hnd e18 hj hy).1] at hp;cases hp
   ·have lp:=of_decide_eq_true hc;have g:=gd.1 lp;have w2:=aKK (x:=e) (a:=nd.gB4) (b:=nd.gB2) he.1 ⟨by omega,by omega⟩ ⟨by omega,by omega⟩
    refine T.bind (T.appG (by omega) (show(l+2)*8<=140737488355328 by omega)) λz hz=>?_;subst hz;have tk:(uA st l [nd.gB4,nd.gB2]).take (l+2)=st.take l++[nd.gB4,nd.gB2]:=aBh st l [_,_] (by omega)
    refine ih _ (I64 (t+1)) (l+2) (aEH st l [_,_] (by omega)) ?_ ?_ ?_ ⟨Dn,hm,?_,?_⟩
    ·rw[tk]
     intro y hy;rw[au] at hy;rcases hy with hy | hy
     ·exact hn' y hy
     ·simp at hy;rcases hy with rfl | rfl <;> omega
    ·rw[tk,xN];omega
    ·rw[tk,xN];omega
    ·rw[tk]
     intro i hi;rw[au] at hi;rcases hi with hi | hi
     ·exact hcv' i hi
     ·obtain⟨f,c,cv⟩:=hcv e (by simp)
      obtain⟨nd',q1,_,_,q4⟩:=cv.nil;obtain rfl:=cW hnd q1;rcases q4 with ⟨q4,_⟩ | ⟨_,c1,c2,_,v1,v2⟩
      ·omega
      ·simp at hi;rcases hi with rfl | rfl
       ·exact⟨_,_,v2⟩
       ·exact⟨_,_,v1⟩
    ·rw[tk]
     intro j hj;rcases hcov j hj with h | ⟨i,hi,h⟩
     ·exact Or.inl h
     ·right;rw[au,ca] at hi;rcases hi with hi | rfl
      ·exact⟨i,by simp[hi],h⟩
      ·obtain⟨f,c,cv,p,p1,p2,p3⟩:=h;obtain⟨nd',q1,_,_,q4⟩:=cv.nil;obtain rfl:=cW hnd q1;rcases q4 with ⟨q4,_⟩ | ⟨_,c1,c2,q5,v1,v2⟩
       ·omega
       ·by_cases hp:p < f+c1
        ·exact⟨nd.gB2,by simp,f,c1,v1,p,p1,hp,p3⟩
        ·exact⟨nd.gB4,by simp,f+c1,c2,v2,p,by omega,by omega,p3⟩
   ·have ln:=of_decide_eq_false hc;have g:=gd.2 (by omega)
    rw[bC (x:=nd.gC5+nd.gD1) (by omega) (by omega)]
    refine T.bind (T.slcN (l:=b.gC2) g.1 (by omega) (by omega)) λs23 h23=>?_;refine T.bind (anyC2 N hN o d m s w t0 (λy hy=>b1 y (h23.2.1 y hy)) (by omega) (I64 (t+1))) λq hq=>?_;cases q with
    | inr r=>exact T.ret hq
    | inl p18=>
     refine ih st p18 l (by omega) hn' (by omega) (by omega) ⟨λj=>Dn j\/j∈s23,λj hj=>?_,hcv',cov (λ_ h=>Or.inl h) (λj h=>Or.inr ?_)⟩
     ·rcases hj with hj | hj
      ·exact hm j hj
      ·exact hq j hj
     ·obtain⟨f,c,cv,p,p1,p2,p3⟩:=h;obtain⟨nd',q1,_,_,q4⟩:=cv.nil;obtain rfl:=cW hnd q1;rcases q4.symm with ⟨q5,_⟩ | ⟨_,q5,q6⟩
      ·omega
      rw[h23.1]
      refine b9 (i:=p - f) ?_;rw[fv,show nd.gC5.toNat+(p - f)=p by omega,j8 (by omega)]
      exact p3
  ·have l0:l=0:=by have:=of_decide_eq_false hc;omega
   subst l0;refine T.ret λj hj=>?_;rcases hcov j hj with h | ⟨i,hi,_⟩
   ·exact hm j h
   ·exact absurd hi (by simp)
theorem anyC(N:Nat)(hN:1000000000000 < N){b:aX}{R:List aH}(hb:yT R.length b)(ht:vJ R b)(h20:R.length<=20)(o d:aC)(m s:Int)(w:Bool)(t:Int) :
  T (dQ N o d m s w (wlk b R t)) (λr=>aMK N R o d m s w r.2):=by
 unfold dQ fV;refine T.bind (P:=λp=>(p=true->∀j,(0<=j/\j < (R.length:Int))->xU N R o d m s j=none)/\(p=false->pin d/\0 < R.length)) ?_ λp1 h1=>T.cond (λhc=>T.ret ⟨(λh=>by cases h),λ⟨j,hj,y,hy,_⟩=>by rw[h1.1 hc j hj] at hy;cases hy⟩) (λhc=>?_)
 ·refine T.eq (a:=false) rfl ?_;simp only[aR,cond_false]
  show T (cond ((b.gA0.length:Int)==0) _ _) _;refine T.cond (λhc=>T.ret ⟨λ_ j hj=>?_,λh=>by cases h⟩) (λhc=>?_)
  ·exfalso;have:(b.gA0.length:Int)=0:=by simpa using hc
   have:=(aNH ht (by omega)).1;omega
  ·have nz:(b.gA0.length:Int)≠0:=by simpa using hc
   obtain⟨r4,e4,h4⟩:=aLR N o d;refine T.eq e4 (T.ret ⟨λh j hj=>aSy N (by omega) (by rw[e4];congr 1;simpa using h) R m s j,λh=>⟨aD2 (h4 (by simpa using h)).2.1 (by decide),?_⟩⟩)
   rcases ht with ⟨_,h0⟩ | ⟨h0,_⟩
   ·rw[h0] at nz;exact absurd rfl nz
   ·exact h0
 ·obtain⟨hd,h0⟩:=h1.2 hc;obtain⟨n0,cv,cov⟩:=aNH ht h0;refine T.bind (anyC1 N (by omega) hb h20 o hd m s w t N [0] t 1 (by simp) ?_ ?_ ?_ ⟨λ_=>False,λ_ h=>h.elim,?_,?_⟩) λq hq=>?_
  ·intro x hx;have:x=0:=by simpa using hx
   subst this;omega
  ·show(2 ^ 39 - 1+0) < N;omega
  ·show(2 ^ 39 - 1+0) < 1000000000000;decide
  ·intro i hi;have:i=0:=by simpa using hi
   subst this;exact⟨_,_,cv⟩
  ·intro j hj;exact Or.inr ⟨0,by simp,cov j hj⟩
  ·cases q with
   | inl p=>exact T.ret ⟨(λh=>by cases h),λ⟨j,hj,y,hy⟩=>absurd ⟨y,hy⟩ (hq j hj)⟩
   | inr p=>exact T.ret ⟨λ_=>hq.2,λ_=>hq.1⟩
def drV(N:Nat)(sd fi se dep x:Int):Int:=((aa (oH N fi se dep x) λr=>aa (iU N r sd) λb=>oQ N b x).getD 0)
def nJ(N:Nat)(sd fi se:Int)(s:aB):Prop:=s.gA=true/\s.gC=sd/\s.gB=fi/\s.gD=se/\(s.gD4.gis=true->iU N s.gD4.gE8 sd=some s.gD4.gE9)
theorem aSC{a b:bL}(h:bL.eq a b=true):a=b:=by
 unfold bL.eq at h;cases a;cases b;simp at h;simp[h]
theorem aSs(N:Nat)(hN:20 < N){sd fi se:Int}{s:aB}(h:nJ N sd fi se s)(dep x:Int):T (eF N dep x s) (λr=>r.2=drV N sd fi se dep x/\nJ N sd fi se (aB.mk r.1 s.gA s.gC s.gB s.gD)):=by
 obtain⟨h1,h2,h3,h4,h5⟩:=h;unfold eF;rw[h1,h2,h3,h4]
 rw[show(!true)=false from rfl,cond_false]
 obtain⟨w,ew⟩:∃w,oH N fi se dep x=some w:=by unfold oH;exact⟨_,rfl⟩
 obtain⟨bl,eb,_⟩:=aPs N hN w sd;obtain⟨v,ev,_⟩:=aM8 N bl x;have dv:drV N sd fi se dep x=v:=by unfold drV;rw[ew,ae,eb,ae,ev];rfl
 rw[ew,ae]
 refine T.bind (P:=λp=>p.1.gE9=bl/\nJ N sd fi se (aB.mk p.1 true sd fi se)) ?_ λp hp=>?_
 ·refine T.bind (P:=λq=>q=false->s.gD4.gis=true/\w=s.gD4.gE8) ?_ λq hq=>?_
  ·refine T.cond (λ_=>T.ret λh=>by cases h) (λhc=>T.ret λh=>⟨by simpa using hc,aSC (by simpa using h)⟩)
  ·refine T.cond (λ_=>?_) (λhc=>?_)
   ·exact T.eq eb (T.ret ⟨rfl,rfl,rfl,rfl,rfl,λ_=>eb⟩)
   ·obtain⟨q1,q2⟩:=hq hc;have:=h5 q1;rw[<- q2,eb] at this;exact T.ret ⟨(Option.some.inj this).symm,rfl,rfl,rfl,rfl,h5⟩
 ·refine T.eq (a:=v) (by rw[hp.1];exact ev) (T.ret ⟨dv.symm,hp.2⟩)
structure Fnd where
 near:aC->aC->Int->Int->Int×aN
 any:aC->aC->Int->Int->Bool->Bool
def aD4(N:Nat)(F:Fnd)(b:List (List aD))(s:aG)(ray:aJ)(dep:Int)(ov:Bool)(sm:aF):Option (aF×aT×Bool):=
 aa (cond (dep==0) (some 9) (some 4)) λp1=>
 cond (decide ((F.near ray.go ray.gd p1 ray.gD2).1 < 0)) (
  some (sm,aT.mk 0 (aC.mk 0 0 0) (aA.mk 0 0 0) (aA.mk 0 0 0) (aP.mk 0 (#v[0,0,0]) 0) false,false)) (
  aa (idx s.gE (F.near ray.go ray.gd p1 ray.gD2).1) λe4=>
  aa (lO N e4.gP[1] e4.gP[0]) λr9=>
  aa (lO N e4.gP[2] e4.gP[0]) λr14=>
  aa (nR N r9 r14) λr15=>
  aa (fT N r15) λr16=>
  aa (aa (rG N ray.go ray.gd (F.near ray.go ray.gd p1 ray.gD2).2) λr18=>
  aa (kA N r16 ray.gd) λr19=>
  aa (idx s.gA6 e4.gD0) λe20=>
  cond (dep==0) (
   aU ((fI .u8 e4.gC0 8) != 0) λx21=>
   some (aT.mk (F.near ray.go ray.gd p1 ray.gD2).1 r18 r19 (aA.mk 0 0 0) e20 x21)) (
   some (aT.mk (F.near ray.go ray.gd p1 ray.gD2).1 r18 r19 (aA.mk 0 0 0) e20 false))) λp17=>
  aa (cond (decide (e4.gB3>=0)) (idx b e4.gB3) (some [])) λlv=>
  aa (lC N p17.gG.gB5 lv e4.gUv (F.near ray.go ray.gd p1 ray.gD2).2 dep) λr24=>
  aa (aU (cond (dep==0) (!ov) false) λx26=>
  cond x26 (
   aa (nH N p17.gat) λr27=>
   aa (nH N ray.go) λr28=>
   aa (tZ N r27 r28) λr29=>
   aa (nN N r29) λr30=>
   cond p17.gB7 (
    some (aF.mk (aA.mk 0 0 0) 0 r30 p17.gn e4.gA4)) (
    some (aF.mk (aA.mk 0 0 0) 1 r30 p17.gn e4.gA4))) (
   some sm)) λp25=>
  some (p25,aT.mk p17.gi p17.gat p17.gn r24 p17.gG p17.gB7,true))
def aBV(N:Nat)(c:List aA)(f l:aA):Option aA:=
 aa (iA N (f :: c)) λr2=>aa (kC N [l,r2]) λr3=>some r3
def jI(N:Nat)(F:Fnd)(dr:Int->Int)(ls:List aQ)(pl:aT)(f:aA):Nat->aA->Int->Option aA
 | 0,_,_=>none
 | k+1,l,j=>
  cond (decide (j < (ls.length:Int))) (
   aa (idx ls j) λe8=>
   aa (nW N e8 pl.gat pl.gn (#v[dr (I64 (8+(I64 (2*j)))),dr (I64 (9+(I64 (2*j))))])) λr13=>
   aa (cond (cond r13.gC3 true (F.any pl.gat r13.gC7 2 pl.gi (!r13.gC8))) (some l) (aBV N [pl.gc,r13.gC4] f l)) λl'=>
   jI N F dr ls pl f k l' (I64 (j+1))) (
   some l)
def aB3(N:Nat)(F:Fnd)(dr:Int->Int->Int)(b:List (List aD))(s:aG)(depth:Int)(sky:aA)(ray:aJ)(f l:aA)(dep:Int)(sm:aF):Option (aJ×aA×aA×Bool×aF):=
 aa (aD4 N F b s ray dep false sm) λr1=>
 cond (!r1.2.2) (aa (aBV N [sky] f l) λl'=>some (ray,f,l',true,r1.1)) (
 cond r1.2.1.gB7 (cond (r1.2.1.gG.gJ==4) (some (ray,f,l,true,r1.1)) (some (ray,f,l,true,r1.1))) (
 cond (r1.2.1.gG.gJ==4) (aa (aBV N [r1.2.1.gc] f l) λl'=>some (ray,f,l',true,r1.1)) (
 aa (cond (r1.2.1.gG.gJ==0) (jI N F (dr dep) s.gF r1.2.1 f N l 0) (some l)) λl'=>
 cond (dep==depth) (some (ray,f,l',true,r1.1)) (
 aa (jK N r1.2.1.gG r1.2.1.gc r1.2.1.gn ray.gd (#v[dr dep 4,dr dep 5])) λr18=>
 aa (iA N [f,r18.gC4]) λr19=>
 aa (cond (decide (dep>=2)) (aa (fB N r19 (dr dep 7)) λr23=>some (r23.1,cond r18.gB9 true (!r23.2))) (some (r19,r18.gB9))) λp21=>
 some (aJ.mk r1.2.1.gat r18.gD7 r1.2.1.gi,p21.1,l',p21.2,r1.1)))))
def aEj(N:Nat)(F:Fnd)(dr:Int->Int->Int)(b:List (List aD))(s:aG)(depth:Int)(sky:aA):Nat->aJ->aA->aA->Int->Bool->aF->Option (aA×aF)
 | 0,_,_,_,_,_,_=>none
 | k+1,ray,f,l,dep,ov,sm=>
  cond (cond (decide (dep<=depth)) (!ov) false) (
   aa (aB3 N F dr b s depth sky ray f l dep sm) λa=>
   aEj N F dr b s depth sky k a.1 a.2.1 a.2.2.1 (I64 (dep+1)) a.2.2.2.1 a.2.2.2.2) (
   some (l,sm))
def iC(N:Nat)(R:List aH):Fnd:=⟨λo d m s=>((cA N o d m s (swp R 0)).getD (swp R 0,-1,aN.mk 0 0 0 0)).2,λo d m s w=>((cH N o d m s w (swp R 0)).getD (swp R 0,false)).2⟩
theorem aKA{R:List aH}(h:R.length<=20):aBx R.length R/\aIL R R:=⟨⟨by omega,λi hi t ht=>by rw[List.getElem?_eq_none hi] at ht;cases ht⟩,λ_ _=>rfl⟩
theorem aNU(N:Nat)(hN:4100 < N){R:List aH}(h:R.length<=20)(o d:aC)(m s:Int):aFh N R o d m s ((iC N R).near o d m s).1 ((iC N R).near o d m s).2:=by
 obtain⟨r,e,hr⟩:=aJK N hN (aKA h).1 (aKA h).2 o d m s 0;unfold iC;dsimp only;rw[e]
 exact hr
theorem aPg(N:Nat)(hN:4100 < N){R:List aH}(h:R.length<=20)(o d:aC)(m s:Int)(w:Bool):aMK N R o d m s w ((iC N R).any o d m s w):=by
 obtain⟨r,e,hr⟩:=aSd N hN (aKA h).1 (aKA h).2 o d m s w 0;unfold iC;dsimp only;rw[e]
 exact hr
section
variable {ι:Type} {N:Nat}
def opt0(t:ι->Int):Option ι->Int:=λi=>match i with | none=>0 | some i=>t i
theorem aTo(hN:4100 < N){R gl:List aH}(h20:R.length<=20)(h:aBx R.length gl)(he:aIL R gl)(o d:aC)(m s:Int)(t:ι->Int) :
  TU (λi=>cA N o d m s (swp gl (t i))) (λa:Int×aN=>a=(iC N R).near o d m s/\a.1 < (R.length:Int)/\lZ a.2) (λi a r=>∃t',r=(swp gl t',a)/\fC (t i) t' (gl.length:Int)):=by
 obtain⟨a,⟨a1,a2⟩,ha⟩:=aLs N hN h o d m s (opt0 t)
 obtain⟨r,e,t',rfl,_⟩:=ha none;obtain⟨r',e',hr'⟩:=aJK N hN h he o d m s 0;have e1:cA N o d m s (swp gl 0)=some (swp gl t',a):=e;rw[e1] at e';cases e';obtain⟨q1,q2⟩:=hr'.uniq (aNU N hN h20 o d m s)
 exact⟨a,⟨ii q1 q2,a1,a2⟩,λi=>ha (some i)⟩
theorem aTj(hN:1000000000000 < N){b:aX}{R:List aH}(hb:yT R.length b)(ht:vJ R b)(h20:R.length<=20)(o d:aC)(m s:Int)(t:ι->Int) :
  TU (λi=>dJ N o d m s (wlk b R (t i))) (λa:Int×aN=>a=(iC N R).near o d m s/\a.1 < (R.length:Int)/\lZ a.2) (λi a r=>∃t',r=(t',a)):=by
 obtain⟨a,⟨a1,a2⟩,ha⟩:=aPZ N hN hb h20 o d m s (opt0 t)
 obtain⟨r,e,t',rfl⟩:=ha none;obtain⟨r',e',hr'⟩:=nearC N hN hb ht h20 o d m s 0;have e1:dJ N o d m s (wlk b R 0)=some (t',a):=e;rw[e1] at e';cases e';obtain⟨q1,q2⟩:=hr'.uniq (aNU N (by omega) h20 o d m s)
 exact⟨a,⟨ii q1 q2,a1,a2⟩,λi=>ha (some i)⟩
theorem anyFS(hN:4100 < N){R gl:List aH}(h20:R.length<=20)(h:aBx R.length gl)(he:aIL R gl)(o d:aC)(m s:Int)(w:Bool)(t:ι->Int) :
  TU (λi=>cH N o d m s w (swp gl (t i))) (λa:Bool=>a=(iC N R).any o d m s w) (λi a r=>∃t',r=(swp gl t',a)/\fC (t i) t' (gl.length:Int)):=by
 obtain⟨a,_,ha⟩:=anyU N hN h o d m s w (opt0 t)
 obtain⟨r,e,t',rfl,_⟩:=ha none;obtain⟨r',e',hr'⟩:=aSd N hN h he o d m s w 0;have e1:cH N o d m s w (swp gl 0)=some (swp gl t',a):=e;rw[e1] at e';cases e';exact⟨a,hr'.uniq (aPg N hN h20 o d m s w),λi=>ha (some i)⟩
theorem anyFW(hN:1000000000000 < N){b:aX}{R:List aH}(hb:yT R.length b)(ht:vJ R b)(h20:R.length<=20)(o d:aC)(m s:Int)(w:Bool)(t:ι->Int) :
  TU (λi=>dQ N o d m s w (wlk b R (t i))) (λa:Bool=>a=(iC N R).any o d m s w) (λi a r=>∃t',r=(t',a)):=by
 obtain⟨a,_,ha⟩:=anyW N hN hb h20 o d m s w (opt0 t)
 obtain⟨r,e,t',rfl⟩:=ha none;obtain⟨r',e',hr'⟩:=anyC N hN hb ht h20 o d m s w 0;have e1:dQ N o d m s w (wlk b R 0)=some (t',a):=e;rw[e1] at e';cases e';exact⟨a,hr'.uniq (aPg N (by omega) h20 o d m s w),λi=>ha (some i)⟩
end
theorem TU.te{ι ρ α β:Type}{o:Option α}{B:ι->α->Option ρ}{P:α->Prop}{Q:β->Prop}{S:ι->β->ρ->Prop}(h:T o P)(hf:∀a,o=some a->P a->TU (λi=>B i a) Q S):TU (λi=>aa o (B i)) Q S:=by
 obtain⟨a,e,pa⟩:=h;rw[show(λi=>aa o (B i))=λi=>B i a from funext λi=>by rw[e];rfl]
 exact hf a e pa
section
variable {ι:Type} {N:Nat} (hN:4100 < N) {b:List (List aD)} {s:aG} {v:aI} {sky:aA} (hr:Rdy b s v sky)
include hN hr
theorem aUP{gl:List aH}(hsw:aBx s.gE.length gl)(heq:aIL s.gE gl)(hcon:v.gT=true)(hfit:(s.gF.length:Int)<=(cV v.gL).2){ray:aJ}(hray:aBT ray)(f l:aA)(dep:Int)(ov:Bool)(sm:aF)(st:ι->aE)(src:aB)(t:ι->Int) :
  TU (λi=>iI N b ray f l dep ov sm s v sky (st i) src (swp gl (t i))) (λa:aF×aT×Bool=>(aC9 a.2.1/\(a.2.1.gG∈s.gA6\/a.2.1.gG.gJ=0))/\aD4 N (iC N s.gE) b s ray dep ov sm=some a/\(ov=true->a.1=sm)/\(a.2.2=false->a.2.1.gG.gJ=0)) (λi a r=>∃x t',r=(a.1,x,swp gl t',a.2.1,a.2.2)/\fC (t i) t' (gl.length:Int)/\fC (st i).gQ x 4):=by
 unfold iI;refine TU.te (P:=λ_=>True) (T.cond (λ_=>T.ret trivial) (λ_=>T.ret trivial)) λp1 ep1 _=>?_;refine TU.bind (aTo (by omega) hr.few hsw heq ray.go ray.gd p1 ray.gD2 t) λa ha r hr'=>?_;obtain⟨hF,ha⟩:=ha;have h':∃t':ι->Int,∀i,r i=(swp gl (t' i),a)/\fC (t i) (t' i) (gl.length:Int):=⟨λi=>(hr' i).choose,λi=>(hr' i).choose_spec⟩
 obtain⟨t',e''⟩:=h';have e':∀i,r i=(swp gl (t' i),a):=λi=>(e'' i).1;simp only[e']
 have hx:∀i,∃x,(cond v.gT (some (I64 ((st i).gQ+4))) (some (st i).gQ))=some x/\fC (st i).gQ x 4:=λi=>⟨_,by rw[hcon];rfl,bC (aJR _) (aJT _),λ_=>dM _⟩
 have hx':∃x:ι->Int,∀i,(cond v.gT (some (I64 ((st i).gQ+4))) (some (st i).gQ))=some (x i)/\fC (st i).gQ (x i) 4:=⟨λi=>(hx i).choose,λi=>(hx i).choose_spec⟩
 obtain⟨x,ex⟩:=hx';simp only[λi=>(ex i).1,ae]
 refine TU.cond (λhc=>?_) (λhc=>?_)
 ·exact TU.ret (sm,aT.mk 0 (aC.mk 0 0 0) (aA.mk 0 0 0) (aA.mk 0 0 0) (aP.mk 0 (#v[0,0,0]) 0) false,false) ⟨⟨⟨⟨z64,z64,z64⟩,aCK,aCK,mat0⟩,Or.inr rfl⟩,by unfold aD4;rw[ep1,ae,<- hF,hc,cond_true],λ_=>rfl,λ_=>rfl⟩ λi=>⟨x i,t' i,rfl,(e'' i).2,(ex i).2⟩
 have h0:=of_decide_eq_false hc;refine TU.te (T.idx (by omega) (by omega)) λe4 ee4 h4=>?_;have ht:=hr.tri e4 (b9 h4)
 refine TU.te (T.inRO (by decide) (by decide)) λ_ _ _=>TU.e (a:=e4.gP[1]) (λi=>aBN e4.gP 1 (by decide)) (TU.te (T.inRO (by decide) (by decide)) λ_ _ _=>TU.e (a:=e4.gP[0]) (λi=>aBN e4.gP 0 (by decide)) (TU.te (aIk N _ _) λr9 e9 _=>?_))
 refine TU.te (T.inRO (by decide) (by decide)) λ_ _ _=>TU.e (a:=e4.gP[2]) (λi=>aBN e4.gP 2 (by decide)) (TU.te (T.inRO (by decide) (by decide)) λ_ _ _=>TU.e (a:=e4.gP[0]) (λi=>aBN e4.gP 0 (by decide)) (TU.te (aIk N _ _) λr14 e14 _=>?_))
 refine TU.te (aH4 N _ _) λr15 e15 _=>TU.te (aKY (by omega) r15) λr16 e16 h16=>?_;refine TU.te (P:=λp:aT=>pin p.gat/\vin p.gn/\aBS p.gG/\p.gG∈s.gA6) ?_ λp17 e17 h17=>?_
 ·refine T.bind (aMZ (by omega) hray.1 hray.2 ha.2) λr18 h18=>T.bind (aKG (by omega) h16 ray.gd) λr19 h19=>T.bind (T.idx ht.1.1 ht.1.2) λe20 h20=>?_;have hm:=b9 h20;refine T.cond (λ_=>?_) (λ_=>T.ret ⟨h18,h19,hr.mat _ hm,hm⟩)
  rw[aR]
  exact T.ret ⟨h18,h19,hr.mat _ hm,hm⟩
 have hy:∃(lv:List aD),(aFZ lv/\cond (decide (e4.gB3>=0)) (idx b e4.gB3) (some [])=some lv)/\∀i,∃y,(cond (decide (e4.gB3>=0)) (aa (idx b e4.gB3) λe23=>cond (!v.gT) (some ((I64 (x i+4),e23))) (some ((x i,e23)))) (some ((x i,[]))))=some (y,lv)/\fC (st i).gQ y 4:=by
  by_cases h:e4.gB3>=0
  ·obtain⟨lv,e,hl⟩:=T.idx h ht.2.1;refine⟨lv,⟨hr.lev lv (b9 hl),by rw[dt h,cond_true,e]⟩,λi=>?_⟩
   rw[dt h,cond_true,e,ae,hcon]
   exact⟨x i,rfl,(ex i).2⟩
  ·refine⟨[],⟨⟨by simp,λt h=>absurd h (by simp)⟩,by rw[df h,cond_false]⟩,λi=>?_⟩
   rw[df h,cond_false]
   exact⟨x i,rfl,(ex i).2⟩
 obtain⟨lv,⟨hlv,elv⟩,hy⟩:=hy;have hy':∃y:ι->Int,∀i,(cond (decide (e4.gB3>=0)) (aa (idx b e4.gB3) λe23=>cond (!v.gT) (some ((I64 (x i+4),e23))) (some ((x i,e23)))) (some ((x i,[]))))=some (y i,lv)/\fC (st i).gQ (y i) 4:=⟨λi=>(hy i).choose,λi=>(hy i).choose_spec⟩
 obtain⟨y,ey⟩:=hy';simp only[λi=>(ey i).1,ae]
 refine TU.te (aHi (by omega) h17.2.2.1.1 hlv ht.2.2.1 ha.2 _) λr24 e24 h24=>?_;refine TU.te (P:=λ_=>True) ?_ λp25 e25 _=>?_
 ·rw[aR]
  refine T.cond (λ_=>?_) (λ_=>T.ret trivial)
  refine T.eq (zK _ h17.1) (T.eq (zK _ hray.1) (T.eq (aEU _ (zD _) (zD _)) (T.bind (aKj (by omega) (aD9 _ _)) λ_ _=>T.cond (λ_=>T.ret trivial) (λ_=>T.ret trivial))))
 ·exact TU.ret (p25,aT.mk p17.gi p17.gat p17.gn r24 p17.gG p17.gB7,true) ⟨⟨⟨h17.1,h17.2.1,h24,h17.2.2.1⟩,Or.inl h17.2.2.2⟩,by
   unfold aD4;rw[ep1,ae,<- hF,hc,cond_false,ee4,ae,e9,ae,e14,ae,e15,ae,e16,ae,e17,ae,elv,ae,e24,ae,e25,ae],λh=>by subst h;cases hd:(dep==0) <;> rw[hd] at e25 <;> exact(Option.some.inj e25).symm,λh=>by cases h⟩ λi=>⟨y i,t' i,rfl,(e'' i).2,(ey i).2⟩
end
section
variable {ι:Type} {N:Nat} (hN:1000000000000 < N) {b:List (List aD)} {s:aG} {v:aI} {sky:aA} (hr:Rdy b s v sky)
include hN hr
theorem aS2{bv:aX}{gl:List aH}(hbv:yT gl.length bv)(htr:vJ s.gE bv)(hgl:gl=s.gE)(hcon:v.gT=false){ray:aJ}(hray:aBT ray)(f l:aA)(dep:Int)(ov:Bool)(sm:aF)(st:ι->aE)(src:aB)(t:ι->Int) :
  TU (λi=>nI N b ray f l dep ov sm s v sky (st i) src (wlk bv gl (t i))) (λa:aF×aT×Bool=>(aC9 a.2.1/\(a.2.1.gG∈s.gA6\/a.2.1.gG.gJ=0))/\aD4 N (iC N s.gE) b s ray dep ov sm=some a/\(ov=true->a.1=sm)/\(a.2.2=false->a.2.1.gG.gJ=0)) (λi a r=>∃x t',r=(a.1,x,t',a.2.1,a.2.2)/\noR (t i) t' 0/\noR (st i).gQ x 4):=by
 unfold nI;refine TU.te (P:=λ_=>True) (T.cond (λ_=>T.ret trivial) (λ_=>T.ret trivial)) λp1 ep1 _=>?_;subst hgl;refine TU.bind (aTj (by omega) hbv htr hr.few ray.go ray.gd p1 ray.gD2 t) λa ha r hr'=>?_;obtain⟨hF,ha⟩:=ha;have h':∃t':ι->Int,∀i,r i=(t' i,a):=⟨λi=>(hr' i).choose,λi=>(hr' i).choose_spec⟩
 obtain⟨t',e'⟩:=h';simp only[e']
 have hx:∀i,∃x,(cond v.gT (some (I64 ((st i).gQ+4))) (some (st i).gQ))=some x/\noR (st i).gQ x 4:=λi=>⟨_,by rw[hcon];rfl,trivial⟩
 have hx':∃x:ι->Int,∀i,(cond v.gT (some (I64 ((st i).gQ+4))) (some (st i).gQ))=some (x i)/\noR (st i).gQ (x i) 4:=⟨λi=>(hx i).choose,λi=>(hx i).choose_spec⟩
 obtain⟨x,ex⟩:=hx';simp only[λi=>(ex i).1,ae]
 refine TU.cond (λhc=>?_) (λhc=>?_)
 ·exact TU.ret (sm,aT.mk 0 (aC.mk 0 0 0) (aA.mk 0 0 0) (aA.mk 0 0 0) (aP.mk 0 (#v[0,0,0]) 0) false,false) ⟨⟨⟨⟨z64,z64,z64⟩,aCK,aCK,mat0⟩,Or.inr rfl⟩,by unfold aD4;rw[ep1,ae,<- hF,hc,cond_true],λ_=>rfl,λ_=>rfl⟩ λi=>⟨x i,t' i,rfl,trivial,(ex i).2⟩
 have h0:=of_decide_eq_false hc;refine TU.te (T.idx (by omega) (by omega)) λe4 ee4 h4=>?_;have ht:=hr.tri e4 (b9 h4)
 refine TU.te (T.inRO (by decide) (by decide)) λ_ _ _=>TU.e (a:=e4.gP[1]) (λi=>aBN e4.gP 1 (by decide)) (TU.te (T.inRO (by decide) (by decide)) λ_ _ _=>TU.e (a:=e4.gP[0]) (λi=>aBN e4.gP 0 (by decide)) (TU.te (aIk N _ _) λr9 e9 _=>?_))
 refine TU.te (T.inRO (by decide) (by decide)) λ_ _ _=>TU.e (a:=e4.gP[2]) (λi=>aBN e4.gP 2 (by decide)) (TU.te (T.inRO (by decide) (by decide)) λ_ _ _=>TU.e (a:=e4.gP[0]) (λi=>aBN e4.gP 0 (by decide)) (TU.te (aIk N _ _) λr14 e14 _=>?_))
 refine TU.te (aH4 N _ _) λr15 e15 _=>TU.te (aKY (by omega) r15) λr16 e16 h16=>?_;refine TU.te (P:=λp:aT=>pin p.gat/\vin p.gn/\aBS p.gG/\p.gG∈s.gA6) ?_ λp17 e17 h17=>?_
 ·refine T.bind (aMZ (by omega) hray.1 hray.2 ha.2) λr18 h18=>T.bind (aKG (by omega) h16 ray.gd) λr19 h19=>T.bind (T.idx ht.1.1 ht.1.2) λe20 h20=>?_;have hm:=b9 h20;refine T.cond (λ_=>?_) (λ_=>T.ret ⟨h18,h19,hr.mat _ hm,hm⟩)
  rw[aR]
  exact T.ret ⟨h18,h19,hr.mat _ hm,hm⟩
 have hy:∃(lv:List aD),(aFZ lv/\cond (decide (e4.gB3>=0)) (idx b e4.gB3) (some [])=some lv)/\∀i,∃y,(cond (decide (e4.gB3>=0)) (aa (idx b e4.gB3) λe23=>cond (!v.gT) (some ((I64 (x i+4),e23))) (some ((x i,e23)))) (some ((x i,[]))))=some (y,lv)/\noR (st i).gQ y 4:=by
  by_cases h:e4.gB3>=0
  ·obtain⟨lv,e,hl⟩:=T.idx h ht.2.1;refine⟨lv,⟨hr.lev lv (b9 hl),by rw[dt h,cond_true,e]⟩,λi=>?_⟩
   rw[dt h,cond_true,e,ae,hcon]
   exact⟨_,rfl,trivial⟩
  ·refine⟨[],⟨⟨by simp,λt h=>absurd h (by simp)⟩,by rw[df h,cond_false]⟩,λi=>?_⟩
   rw[df h,cond_false]
   exact⟨x i,rfl,(ex i).2⟩
 obtain⟨lv,⟨hlv,elv⟩,hy⟩:=hy;have hy':∃y:ι->Int,∀i,(cond (decide (e4.gB3>=0)) (aa (idx b e4.gB3) λe23=>cond (!v.gT) (some ((I64 (x i+4),e23))) (some ((x i,e23)))) (some ((x i,[]))))=some (y i,lv)/\noR (st i).gQ (y i) 4:=⟨λi=>(hy i).choose,λi=>(hy i).choose_spec⟩
 obtain⟨y,ey⟩:=hy';simp only[λi=>(ey i).1,ae]
 refine TU.te (aHi (by omega) h17.2.2.1.1 hlv ht.2.2.1 ha.2 _) λr24 e24 h24=>?_;refine TU.te (P:=λ_=>True) ?_ λp25 e25 _=>?_
 ·rw[aR]
  refine T.cond (λ_=>?_) (λ_=>T.ret trivial)
  refine T.eq (zK _ h17.1) (T.eq (zK _ hray.1) (T.eq (aEU _ (zD _) (zD _)) (T.bind (aKj (by omega) (aD9 _ _)) λ_ _=>T.cond (λ_=>T.ret trivial) (λ_=>T.ret trivial))))
 ·exact TU.ret (p25,aT.mk p17.gi p17.gat p17.gn r24 p17.gG p17.gB7,true) ⟨⟨⟨h17.1,h17.2.1,h24,h17.2.2.1⟩,Or.inl h17.2.2.2⟩,by
   unfold aD4;rw[ep1,ae,<- hF,hc,cond_false,ee4,ae,e9,ae,e14,ae,e15,ae,e16,ae,e17,ae,elv,ae,e24,ae,e25,ae],λh=>by subst h;cases hd:(dep==0) <;> rw[hd] at e25 <;> exact(Option.some.inj e25).symm,λh=>by cases h⟩ λi=>⟨y i,t' i,rfl,trivial,(ey i).2⟩
end
section
variable {ι:Type} {N:Nat} (hN:4100 < N) {b:List (List aD)} {s:aG} {v:aI} {sky:aA} (hr:Rdy b s v sky)
include hN
theorem aFW{sd fi se:Int}(x:Int)(ray:ι->aJ)(f l:ι->aA)(dep:Int)(ov:ι->Bool)(sm:ι->aF)(st:ι->aE){src:aB}(hs:nJ N sd fi se src)(sw:ι->aK) :
  TC (λi=>cM N b x (ray i) (f i) (l i) dep (ov i) (sm i) s v sky (st i) src (sw i)) (λr=>r.2=drV N sd fi se dep x/\nJ N sd fi se (aB.mk r.1 src.gA src.gC src.gB src.gD)):=by
 obtain⟨a,e,h⟩:=aSs N (by omega) hs dep x;refine⟨(a.1,a.2),h,λi=>?_⟩
 unfold cM;rw[e];rfl
theorem aPy{c:List aA}(hc:∀x∈c,vin x)(hl:c.length<=2)(ray:ι->aJ){f l:aA}(hf:vin f)(hlv:vin l)(dep:Int)(ov:Bool)(sm:ι->aF)(st:ι->aE)(src:ι->aB)(sw:ι->aK) :
  TC (λi=>eP N b c (ray i) f l dep ov (sm i) s v sky (st i) (src i) (sw i)) (λr=>vin r/\(ov=false->aBV N c f l=some r)/\(ov=true->r=l)):=by
 unfold eP aBV;cases ov with
 | true=>exact TC.ret _ ⟨hlv,(λh=>by cases h),λ_=>rfl⟩
 | false=>
  refine TC.t (P:=λz=>z=[f]++c) ⟨_,hJ (l:=[f]) (r:=c) (by simp;omega),rfl⟩ λz hz=>?_;subst hz;obtain⟨r2,e2,h2⟩:=aFF (N:=N) (by omega) ([f]++c) (by intro x hx;simp at hx;rcases hx with rfl | hx;exact hf;exact hc x hx) (by simp;omega)
  refine TC.t (P:=λr=>r=r2) ⟨_,e2,rfl⟩ λr hr=>?_;subst hr;refine TC.t (P:=λr'=>r'=aGR l r) ⟨_,aLh (by omega) hlv h2,rfl⟩ λr3 h3=>TC.ret _ ⟨by rw[h3];exact sL _ _,λ_=>?_,λh=>by cases h⟩
  rw[show f :: c=[f]++c from rfl,e2,ae,aLh (by omega) hlv h2,h3];rfl
include hr
theorem aRj{gl:List aH}(hsw:aBx s.gE.length gl)(heq:aIL s.gE gl)(hcon:v.gT=true)(hfit:(s.gF.length:Int)<=(cV v.gL).2){sd fi se:Int}{pl:aT}(hp:aC9 pl)(ray:aJ){f l:aA}(hf:vin f)(hl:vin l)(dep:Int)(ov:Bool)(sm:aF)(st:ι->aE){src:aB}(hs:nJ N sd fi se src)(t:ι->Int) :
  TU (λi=>fL N b pl ray f l dep ov sm s v sky (st i) src (swp gl (t i))) (λa:aA×aB=>vin a.1/\nJ N sd fi se a.2/\((ov=false/\pl.gG.gJ=0)->jI N (iC N s.gE) (drV N sd fi se dep) s.gF pl f N l 0=some a.1)/\(¬(ov=false/\pl.gG.gJ=0)->a.1=l)) (λi a r=>∃t',r=(a.1,a.2,swp gl t')/\fC (t i) t' ((gl.length:Int)*(cV v.gL).2)):=by
 skip
 unfold fL;have l5:=hr.lights;simp only[aR]
 refine TU.bind (P:=λa:aA×aB=>vin a.1/\nJ N sd fi se a.2/\((ov=false/\pl.gG.gJ=0)->jI N (iC N s.gE) (drV N sd fi se dep) s.gF pl f N l 0=some a.1)/\(¬(ov=false/\pl.gG.gJ=0)->a.1=l)) (S:=λi a r=>∃t',r=(a.1,a.2,swp gl t')/\fC (t i) t' ((gl.length:Int)*(s.gF.length:Int))) ?_ λa ha r hr'=>?_
 ·refine TU.loop0 (n:=s.gF.length) (λj (x:aA×aB) t'=>(vin x.1/\nJ N sd fi se x.2/\((ov=false/\pl.gG.gJ=0)->jI N (iC N s.gE) (drV N sd fi se dep) s.gF pl f N l 0=jI N (iC N s.gE) (drV N sd fi se dep) s.gF pl f (N - j) x.1 (j:Int))/\(¬(ov=false/\pl.gG.gJ=0)->x.1=l))/\∀i,fC (t i) (t' i) ((gl.length:Int)*(j:Int))) (F:=λi k t' (x:aA×aB) j=>dC N (s.gF.length:Int) s b ray f dep ov sm v sky (st i) pl k x.1 x.2 (swp gl t') j) (λk t' x j hj hx hk=>?_) (λk t' x hx=>?_) (by omega) (s:=(l,src)) (h:=t) ⟨⟨hl,hs,λ_=>rfl,λ_=>rfl⟩,λi=>by rw[show((0:Nat):Int)=0 from rfl,f9];exact vK _⟩
  ·have hlj:=hr.light _ (bp hj)
   obtain⟨⟨x1,x2,x3,x4⟩,x5⟩:=hx;simp only[dC,dt (show(j:Int) < (s.gF.length:Int) by omega),cond_true,aR]
   refine TU.bind (P:=λa:aA×aB×aQ×jH=>vin a.1/\nJ N sd fi se a.2.1/\((ov=false/\pl.gG.gJ=0)->jI N (iC N s.gE) (drV N sd fi se dep) s.gF pl f (N - j) x.1 (j:Int)=jI N (iC N s.gE) (drV N sd fi se dep) s.gF pl f (N - (j+1)) a.1 ((j+1:Nat):Int))/\(¬(ov=false/\pl.gG.gJ=0)->a.1=x.1)) (S:=λi a r=>∃tn,r=(a.1,a.2.1,swp gl (tn),a.2.2.1,a.2.2.2)/\fC (t' i) tn (gl.length:Int)) ?_ λa ha r hr'=>?_
   ·refine TU.e (a:=s.gF[j]) (λi=>by rw[eK,af hj]) ?_;refine TU.c (aFW hN _ _ _ _ _ _ _ _ x2 _) λr10 h10=>TU.c (aFW hN _ _ _ _ _ _ _ _ h10.2 _) λr12 h12=>?_;refine TU.te (aPp (by omega) hlj pl.gat hp.2.1 _) λr13 e13 h13=>?_;rw[h10.1,h12.1] at e13;have sp:∀l',(cond (cond r13.gC3 true ((iC N s.gE).any pl.gat r13.gC7 2 pl.gi (!r13.gC8))) (some x.1) (aBV N [pl.gc,r13.gC4] f x.1))=some l'->jI N (iC N s.gE) (drV N sd fi se dep) s.gF pl f (N - j) x.1 (j:Int)=jI N (iC N s.gE) (drV N sd fi se dep) s.gF pl f (N - (j+1)) l' ((j+1:Nat):Int):=by
     intro l' hl';rw[show N - j=(N - (j+1))+1 by omega,jI,dt (show(j:Int) < (s.gF.length:Int) by omega),cond_true,eK,af hj,ae,e13,ae,hl',ae,dI (by omega)]
    refine TU.cond (λhc=>by rw[hcon] at hc;cases hd:r13.gC3 <;> rw[hd] at hc <;> cases hc) (λhdark=>?_)
    refine TU.bind (P:=λq:Bool=>q=(!((iC N s.gE).any pl.gat r13.gC7 2 pl.gi (!r13.gC8))&&(!r13.gC3&&(pl.gG.gJ==0)))) (S:=λi a r=>∃tn,r=(swp gl (tn),a)/\fC (t' i) tn (gl.length:Int)) ?_ λan ean ra hra=>?_
    ·refine TU.bind (anyFS (by omega) hr.few hsw heq pl.gat r13.gC7 2 pl.gi (!r13.gC8) t') λan ean ra hra=>?_;have hn:∃tn:ι->Int,∀i,ra i=(swp gl (tn i),an)/\fC (t' i) (tn i) (gl.length:Int):=⟨λi=>(hra i).choose,λi=>(hra i).choose_spec⟩
     obtain⟨tn,en⟩:=hn;simp only[λi=>(en i).1]
     subst ean;refine TU.cond (λh1=>TU.cond (λh2=>TU.ret (pl.gG.gJ==0) (by rw[h1,h2];rfl) λi=>⟨tn i,rfl,(en i).2⟩) (λh2=>TU.ret false (by rw[h1,h2];rfl) λi=>⟨tn i,rfl,(en i).2⟩)) (λh1=>TU.ret false (by rw[h1];rfl) λi=>⟨tn i,rfl,(en i).2⟩)
    ·have hn:∃tn:ι->Int,∀i,ra i=(swp gl (tn i),an)/\fC (t' i) (tn i) (gl.length:Int):=⟨λi=>(hra i).choose,λi=>(hra i).choose_spec⟩
     obtain⟨tn,en⟩:=hn;simp only[λi=>(en i).1]
     refine TU.cond (λhc=>?_) (λhc=>TU.ret (_,_,_,_) ⟨x1,h12.2,λhA=>sp _ ?_,λ_=>rfl⟩ λi=>⟨tn i,rfl,(en i).2⟩)
     ·have ha3:((iC N s.gE).any pl.gat r13.gC7 2 pl.gi (!r13.gC8))=false/\r13.gC3=false/\pl.gG.gJ=0:=by
       rw[ean] at hc;simpa using hc
      refine TU.c (aPy hN (by intro y hy;simp at hy;rcases hy with rfl | rfl;exact hp.2.2.1;exact h13) (by simp) _ hf x1 _ _ _ _ _ _) λr17 h17=>TU.ret (_,_,_,_) ⟨h17.1,h12.2,λhA=>sp _ (by rw[ha3.1,ha3.2.1];exact h17.2.1 hA.1),λhA=>h17.2.2 ?_⟩ λi=>⟨tn i,rfl,(en i).2⟩
      cases hov:ov with
      | true=>rfl
      | false=>exact absurd ⟨hov,ha3.2.2⟩ hA
     ·rw[hc] at ean;have k0:(pl.gG.gJ==0)=true:=by simpa using hA.2
      rw[k0] at ean;cases hd:r13.gC3 with
      | true=>rfl
      | false=>
       rw[hd] at ean;have:((iC N s.gE).any pl.gat r13.gC7 2 pl.gi (!r13.gC8))=true:=by simpa using ean
       rw[this];rfl
   ·have hn:∃tn:ι->Int,∀i,r i=(a.1,a.2.1,swp gl (tn i),a.2.2.1,a.2.2.2)/\fC (t' i) (tn i) (gl.length:Int):=⟨λi=>(hr' i).choose,λi=>(hr' i).choose_spec⟩
    obtain⟨tn,en⟩:=hn;simp only[λi=>(en i).1]
    rw[dI (by omega)]
    obtain⟨y1,y2,y3,y4⟩:=ha;exact hk (a.1,a.2.1) tn ⟨⟨y1,y2,λhA=>(x3 hA).trans (y3 hA),λhA=>(y4 hA).trans (x4 hA)⟩,λi=>aKb (zG (x5 i) (en i).2) (by rw[show((j+1:Nat):Int)=(j:Int)+1 from by omega,fh,fu])⟩
  ·simp only[dC,df (show ¬(s.gF.length:Int) < (s.gF.length:Int) by omega),cond_false]
   obtain⟨⟨x1,x2,x3,x4⟩,x5⟩:=hx;refine TU.ret x ⟨x1,x2,λhA=>(x3 hA).trans ?_,x4⟩ λi=>⟨t' i,rfl,x5 i⟩
   rw[show N - s.gF.length=(N - s.gF.length - 1)+1 by omega,jI,df (by omega),cond_false]
 have h2:∃t2:ι->Int,∀i,r i=(a.1,a.2,swp gl (t2 i))/\fC (t i) (t2 i) ((gl.length:Int)*(s.gF.length:Int)):=⟨λi=>(hr' i).choose,λi=>(hr' i).choose_spec⟩
 obtain⟨t2,e2⟩:=h2;simp only[λi=>(e2 i).1]
 simp only[hcon,da,cond_false,aGz,ae,aR]
 obtain⟨n,hn⟩:=bh (show 0<=(cV v.gL).2 - (s.gF.length:Int) by omega)
 have cl:(cV v.gL).2 < 1000:=by unfold cV;cases (v.gL==0) <;> cases (v.gL==1) <;> cases (v.gL==2) <;> decide
 have ig:I64 ((cV v.gL).2 - (s.gF.length:Int))=(n:Int):=by rw[hn,bC (by omega) (by omega)]
 refine TU.bind (P:=λ_:Unit=>True) (S:=λi _ r=>∃t',r=swp gl t'/\fC (t2 i) t' ((gl.length:Int)*(n:Int))) ?_ λ_ _ r hr'=>?_
 ·refine TU.loop0 (n:=n) (λj (_:Unit) t'=>∀i,fC (t2 i) (t' i) ((gl.length:Int)*(j:Int))) (F:=λi k t' (_:Unit) j=>cZ N (cV v.gL) (s.gF.length:Int) pl k (swp gl t') j) (λk t' _ j hj hx hk=>?_) (λk t' _ hx=>?_) (by omega) (s:=()) (h:=t2) (λi=>by rw[show((0:Nat):Int)=0 from rfl,f9];exact vK _)
  ·simp only[cZ,aR,ig,dt (show(j:Int) < (n:Int) by omega),cond_true]
   refine TU.bind (anyU N (by omega) hsw pl.gat (aC.mk 0 0 0) 2 pl.gi false t') λan _ ra hra=>?_;have hn:∃tn:ι->Int,∀i,ra i=(swp gl (tn i),an)/\fC (t' i) (tn i) (gl.length:Int):=⟨λi=>(hra i).choose,λi=>(hra i).choose_spec⟩
   obtain⟨tn,en⟩:=hn;simp only[λi=>(en i).1]
   rw[dI (by omega)]
   exact hk () tn λi=>aKb (zG (hx i) (en i).2) (by rw[show((j+1:Nat):Int)=(j:Int)+1 from by omega,fh,fu])
  ·simp only[cZ,aR,ig,df (show ¬(n:Int) < (n:Int) by omega),cond_false]
   exact TU.ret () trivial λi=>⟨t' i,rfl,hx i⟩
 ·have h3:∃t3:ι->Int,∀i,r i=swp gl (t3 i)/\fC (t2 i) (t3 i) ((gl.length:Int)*(n:Int)):=⟨λi=>(hr' i).choose,λi=>(hr' i).choose_spec⟩
  obtain⟨t3,e3⟩:=h3;simp only[λi=>(e3 i).1]
  exact TU.ret a ha λi=>⟨t3 i,rfl,aKb (zG (e2 i).2 (e3 i).2) (by rw[<- fh];congr 1;omega)⟩
end
section
variable {ι:Type} {N:Nat} (hN:1000000000000 < N) {b:List (List aD)} {s:aG} {v:aI} {sky:aA} (hr:Rdy b s v sky)
include hN
theorem aFc{sd fi se:Int}(x:Int)(ray:ι->aJ)(f l:ι->aA)(dep:Int)(ov:ι->Bool)(sm:ι->aF)(st:ι->aE){src:aB}(hs:nJ N sd fi se src)(sw:ι->aL) :
  TC (λi=>eE N b x (ray i) (f i) (l i) dep (ov i) (sm i) s v sky (st i) src (sw i)) (λr=>r.2=drV N sd fi se dep x/\nJ N sd fi se (aB.mk r.1 src.gA src.gC src.gB src.gD)):=by
 obtain⟨a,e,h⟩:=aSs N (by omega) hs dep x;refine⟨(a.1,a.2),h,λi=>?_⟩
 unfold eE;rw[e];rfl
theorem aQm{c:List aA}(hc:∀x∈c,vin x)(hl:c.length<=2)(ray:ι->aJ){f l:aA}(hf:vin f)(hlv:vin l)(dep:Int)(ov:Bool)(sm:ι->aF)(st:ι->aE)(src:ι->aB)(sw:ι->aL) :
  TC (λi=>jE N b c (ray i) f l dep ov (sm i) s v sky (st i) (src i) (sw i)) (λr=>vin r/\(ov=false->aBV N c f l=some r)/\(ov=true->r=l)):=by
 unfold jE aBV;cases ov with
 | true=>exact TC.ret _ ⟨hlv,(λh=>by cases h),λ_=>rfl⟩
 | false=>
  refine TC.t (P:=λz=>z=[f]++c) ⟨_,hJ (l:=[f]) (r:=c) (by simp;omega),rfl⟩ λz hz=>?_;subst hz;obtain⟨r2,e2,h2⟩:=aFF (N:=N) (by omega) ([f]++c) (by intro x hx;simp at hx;rcases hx with rfl | hx;exact hf;exact hc x hx) (by simp;omega)
  refine TC.t (P:=λr=>r=r2) ⟨_,e2,rfl⟩ λr hr=>?_;subst hr;refine TC.t (P:=λr'=>r'=aGR l r) ⟨_,aLh (by omega) hlv h2,rfl⟩ λr3 h3=>TC.ret _ ⟨by rw[h3];exact sL _ _,λ_=>?_,λh=>by cases h⟩
  rw[show f :: c=[f]++c from rfl,e2,ae,aLh (by omega) hlv h2,h3];rfl
include hr
theorem aRh{bv:aX}{gl:List aH}(hbv:yT gl.length bv)(htr:vJ s.gE bv)(hgl:gl=s.gE)(hcon:v.gT=false){sd fi se:Int}{pl:aT}(hp:aC9 pl)(ray:aJ){f l:aA}(hf:vin f)(hl:vin l)(dep:Int)(ov:Bool)(sm:aF)(st:ι->aE){src:aB}(hs:nJ N sd fi se src)(t:ι->Int) :
  TU (λi=>lI N b pl ray f l dep ov sm s v sky (st i) src (wlk bv gl (t i))) (λa:aA×aB=>vin a.1/\nJ N sd fi se a.2/\((ov=false/\pl.gG.gJ=0)->jI N (iC N s.gE) (drV N sd fi se dep) s.gF pl f N l 0=some a.1)/\(¬(ov=false/\pl.gG.gJ=0)->a.1=l)) (λi a r=>∃t',r=(a.1,a.2,wlk bv gl t')/\noR (t i) t' ((0:Int)*(cV v.gL).2)):=by
 subst hgl;unfold lI;have l5:=hr.lights;simp only[aR]
 refine TU.bind (P:=λa:aA×aB=>vin a.1/\nJ N sd fi se a.2/\((ov=false/\pl.gG.gJ=0)->jI N (iC N s.gE) (drV N sd fi se dep) s.gF pl f N l 0=some a.1)/\(¬(ov=false/\pl.gG.gJ=0)->a.1=l)) (S:=λi a r=>∃t',r=(a.1,a.2,wlk bv s.gE t')/\noR (t i) t' ((0:Int)*(s.gF.length:Int))) ?_ λa ha r hr'=>?_
 ·refine TU.loop0 (n:=s.gF.length) (λj (x:aA×aB) t'=>(vin x.1/\nJ N sd fi se x.2/\((ov=false/\pl.gG.gJ=0)->jI N (iC N s.gE) (drV N sd fi se dep) s.gF pl f N l 0=jI N (iC N s.gE) (drV N sd fi se dep) s.gF pl f (N - j) x.1 (j:Int))/\(¬(ov=false/\pl.gG.gJ=0)->x.1=l))/\∀i,noR (t i) (t' i) ((0:Int)*(j:Int))) (F:=λi k t' (x:aA×aB) j=>hK N (s.gF.length:Int) s b ray f dep ov sm v sky (st i) pl k x.1 x.2 (wlk bv s.gE t') j) (λk t' x j hj hx hk=>?_) (λk t' x hx=>?_) (by omega) (s:=(l,src)) (h:=t) ⟨⟨hl,hs,λ_=>rfl,λ_=>rfl⟩,λi=>by rw[show((0:Nat):Int)=0 from rfl,f9];exact noR_0 _⟩
  ·have hlj:=hr.light _ (bp hj)
   obtain⟨⟨x1,x2,x3,x4⟩,x5⟩:=hx;simp only[hK,dt (show(j:Int) < (s.gF.length:Int) by omega),cond_true,aR]
   refine TU.bind (P:=λa:aA×aB×aQ×jH=>vin a.1/\nJ N sd fi se a.2.1/\((ov=false/\pl.gG.gJ=0)->jI N (iC N s.gE) (drV N sd fi se dep) s.gF pl f (N - j) x.1 (j:Int)=jI N (iC N s.gE) (drV N sd fi se dep) s.gF pl f (N - (j+1)) a.1 ((j+1:Nat):Int))/\(¬(ov=false/\pl.gG.gJ=0)->a.1=x.1)) (S:=λi a r=>∃tn,r=(a.1,a.2.1,(tn),a.2.2.1,a.2.2.2)/\noR (t' i) tn (0:Int)) ?_ λa ha r hr'=>?_
   ·refine TU.e (a:=s.gF[j]) (λi=>by rw[eK,af hj]) ?_;refine TU.c (aFc hN _ _ _ _ _ _ _ _ x2 _) λr10 h10=>TU.c (aFc hN _ _ _ _ _ _ _ _ h10.2 _) λr12 h12=>?_;refine TU.te (aPp (by omega) hlj pl.gat hp.2.1 _) λr13 e13 h13=>?_;rw[h10.1,h12.1] at e13;have sp:∀l',(cond (cond r13.gC3 true ((iC N s.gE).any pl.gat r13.gC7 2 pl.gi (!r13.gC8))) (some x.1) (aBV N [pl.gc,r13.gC4] f x.1))=some l'->jI N (iC N s.gE) (drV N sd fi se dep) s.gF pl f (N - j) x.1 (j:Int)=jI N (iC N s.gE) (drV N sd fi se dep) s.gF pl f (N - (j+1)) l' ((j+1:Nat):Int):=by
     intro l' hl';rw[show N - j=(N - (j+1))+1 by omega,jI,dt (show(j:Int) < (s.gF.length:Int) by omega),cond_true,eK,af hj,ae,e13,ae,hl',ae,dI (by omega)]
    refine TU.cond (λhc=>TU.ret (x.1,aB.mk r12.1 ((aB.mk r10.1 x.2.gA x.2.gC x.2.gB x.2.gD).gA) ((aB.mk r10.1 x.2.gA x.2.gC x.2.gB x.2.gD).gC) ((aB.mk r10.1 x.2.gA x.2.gC x.2.gB x.2.gD).gB) ((aB.mk r10.1 x.2.gA x.2.gC x.2.gB x.2.gD).gD),s.gF[j],r13) ⟨x1,h12.2,λhA=>sp _ (by have hd:r13.gC3=true:=(by cases hd:r13.gC3 with | true=>rfl | false=>rw[hd] at hc;cases hc);rw[hd];rfl),λ_=>rfl⟩ λi=>⟨t' i,rfl,trivial⟩) (λhdark=>?_)
    refine TU.bind (P:=λq:Bool=>q=(!((iC N s.gE).any pl.gat r13.gC7 2 pl.gi (!r13.gC8))&&(!r13.gC3&&(pl.gG.gJ==0)))) (S:=λi a r=>∃tn,r=((tn),a)/\noR (t' i) tn (0:Int)) ?_ λan ean ra hra=>?_
    ·refine TU.bind (anyFW (by omega) hbv htr hr.few pl.gat r13.gC7 2 pl.gi (!r13.gC8) t') λan ean ra hra=>?_;have hn:∃tn:ι->Int,∀i,ra i=(tn i,an)/\noR (t' i) (tn i) 0:=⟨λi=>(hra i).choose,λi=>⟨(hra i).choose_spec,trivial⟩⟩
     obtain⟨tn,en⟩:=hn;simp only[λi=>(en i).1]
     subst ean;refine TU.cond (λh1=>TU.cond (λh2=>TU.ret (pl.gG.gJ==0) (by rw[h1,h2];rfl) λi=>⟨tn i,rfl,(en i).2⟩) (λh2=>TU.ret false (by rw[h1,h2];rfl) λi=>⟨tn i,rfl,(en i).2⟩)) (λh1=>TU.ret false (by rw[h1];rfl) λi=>⟨tn i,rfl,(en i).2⟩)
    ·have hn:∃tn:ι->Int,∀i,ra i=((tn i),an)/\noR (t' i) (tn i) (0:Int):=⟨λi=>(hra i).choose,λi=>(hra i).choose_spec⟩
     obtain⟨tn,en⟩:=hn;simp only[λi=>(en i).1]
     refine TU.cond (λhc=>?_) (λhc=>TU.ret (_,_,_,_) ⟨x1,h12.2,λhA=>sp _ ?_,λ_=>rfl⟩ λi=>⟨tn i,rfl,(en i).2⟩)
     ·have ha3:((iC N s.gE).any pl.gat r13.gC7 2 pl.gi (!r13.gC8))=false/\r13.gC3=false/\pl.gG.gJ=0:=by
       rw[ean] at hc;simpa using hc
      refine TU.c (aQm hN (by intro y hy;simp at hy;rcases hy with rfl | rfl;exact hp.2.2.1;exact h13) (by simp) _ hf x1 _ _ _ _ _ _) λr17 h17=>TU.ret (_,_,_,_) ⟨h17.1,h12.2,λhA=>sp _ (by rw[ha3.1,ha3.2.1];exact h17.2.1 hA.1),λhA=>h17.2.2 ?_⟩ λi=>⟨tn i,rfl,(en i).2⟩
      cases hov:ov with
      | true=>rfl
      | false=>exact absurd ⟨hov,ha3.2.2⟩ hA
     ·rw[hc] at ean;have k0:(pl.gG.gJ==0)=true:=by simpa using hA.2
      rw[k0] at ean;cases hd:r13.gC3 with
      | true=>rfl
      | false=>
       rw[hd] at ean;have:((iC N s.gE).any pl.gat r13.gC7 2 pl.gi (!r13.gC8))=true:=by simpa using ean
       rw[this];rfl
   ·have hn:∃tn:ι->Int,∀i,r i=(a.1,a.2.1,(tn i),a.2.2.1,a.2.2.2)/\noR (t' i) (tn i) (0:Int):=⟨λi=>(hr' i).choose,λi=>(hr' i).choose_spec⟩
    obtain⟨tn,en⟩:=hn;simp only[λi=>(en i).1]
    rw[dI (by omega)]
    obtain⟨y1,y2,y3,y4⟩:=ha;exact hk (a.1,a.2.1) tn ⟨⟨y1,y2,λhA=>(x3 hA).trans (y3 hA),λhA=>(y4 hA).trans (x4 hA)⟩,λi=>noR_e (noR_t (x5 i) (en i).2) (by rw[show((j+1:Nat):Int)=(j:Int)+1 from by omega,fh,fu])⟩
  ·simp only[hK,df (show ¬(s.gF.length:Int) < (s.gF.length:Int) by omega),cond_false]
   obtain⟨⟨x1,x2,x3,x4⟩,x5⟩:=hx;refine TU.ret x ⟨x1,x2,λhA=>(x3 hA).trans ?_,x4⟩ λi=>⟨t' i,rfl,x5 i⟩
   rw[show N - s.gF.length=(N - s.gF.length - 1)+1 by omega,jI,df (by omega),cond_false]
 have h2:∃t2:ι->Int,∀i,r i=(a.1,a.2,wlk bv s.gE (t2 i))/\noR (t i) (t2 i) ((0:Int)*(s.gF.length:Int)):=⟨λi=>(hr' i).choose,λi=>(hr' i).choose_spec⟩
 obtain⟨t2,e2⟩:=h2;simp only[λi=>(e2 i).1]
 simp only[hcon,dq,cond_true]
 exact TU.ret a ha λi=>⟨t2 i,rfl,trivial⟩
end
section
variable {ι:Type} {N:Nat} (hN:4100 < N) {b:List (List aD)} {s:aG} {v:aI} {sky:aA} (hr:Rdy b s v sky)
include hN hr
theorem aUU{gl:List aH}(hsw:aBx s.gE.length gl)(heq:aIL s.gE gl)(hcon:v.gT=true)(hfit:(s.gF.length:Int)<=(cV v.gL).2){sd fi se:Int}{ray:aJ}(hray:aBT ray){f l:aA}(hf:vin f)(hl:vin l)(dep:Int)(ov:Bool)(sm:aF)(st:ι->aE){src:aB}(hsrc:nJ N sd fi se src)(t:ι->Int) :
  TU (λi=>iH N b ray f l dep ov sm s v sky (st i) src (swp gl (t i))) (λa:aJ×aA×aA×Bool×aF×aB=>(aBT a.1/\vin a.2.1/\vin a.2.2.1/\nJ N sd fi se a.2.2.2.2.2)/\(ov=true->a.2.2.1=l/\a.2.2.2.1=true/\a.2.2.2.2.1=sm)/\(ov=false->∃q,aB3 N (iC N s.gE) (drV N sd fi se) b s v.gK sky ray f l dep sm=some q/\a.2.2.1=q.2.2.1/\a.2.2.2.1=q.2.2.2.1/\a.2.2.2.2.1=q.2.2.2.2/\(q.2.2.2.1=false->a.1=q.1/\a.2.1=q.2.1))) (λi a r=>∃x t',r=(a.1,a.2.1,a.2.2.1,a.2.2.2.1,a.2.2.2.2.1,x,a.2.2.2.2.2,swp gl t')):=by
 unfold iH;refine TU.bind (aUP hN hr hsw heq hcon hfit hray f l dep ov sm st src t) λa ha r hr'=>?_;have h1:∃(x t1:ι->Int),∀i,r i=(a.1,x i,swp gl (t1 i),a.2.1,a.2.2)/\fC (t i) (t1 i) (gl.length:Int)/\fC (st i).gQ (x i) 4:=⟨λi=>(hr' i).choose,λi=>(hr' i).choose_spec.choose,λi=>(hr' i).choose_spec.choose_spec⟩
 obtain⟨x,t1,e1⟩:=h1;simp only[λi=>(e1 i).1]
 obtain⟨⟨hp,hm⟩,hsp,hsm,hk0⟩:=ha;obtain⟨sm',pl,hit⟩:=a;dsimp only at *;refine TU.c (P:=λp:aA×Bool=>vin p.1/\(ov=true->p.1=l/\p.2=true)/\(ov=false->(hit=false->aBV N [sky] f l=some p.1/\p.2=true)/\(hit=true->p.1=l/\p.2=false))) (TC.cond (λhc=>TC.bind (aPy hN (by intro y hy;simp at hy;rcases hy with rfl;exact hr.sky) (by simp) _ hf hl _ _ _ _ _ _) λr3 h3=>TC.bind (aGB _ _ _ _ _ _ _ _ _ _) λ_ _=>TC.ret _ ⟨h3.1,λh=>⟨h3.2.2 h,by rw[h];rfl⟩,λh=>⟨λ_=>⟨h3.2.1 h,by rw[h];rfl⟩,(λhh=>by rw[hh] at hc;cases hc)⟩⟩) (λhc=>TC.ret _ ⟨hl,λh=>⟨rfl,h⟩,λh=>⟨(λhh=>by rw[hh] at hc;cases hc),λ_=>⟨rfl,h⟩⟩⟩)) λp2 h2=>?_;refine TU.c (aGB _ _ _ _ _ _ _ _ _ _) λ_ _=>?_;simp only[aR]
 refine TU.c (P:=λp:aA×Bool=>vin p.1/\(ov=true->p.1=l/\p.2=true)/\(ov=false->(hit=false->p.1=p2.1/\p.2=true)/\(hit=true->(pl.gB7=true->p.1=l/\p.2=true)/\(pl.gB7=false->(pl.gG.gJ=4->aBV N [pl.gc] f l=some p.1/\p.2=true)/\(pl.gG.gJ≠4->p.1=l/\p.2=false))))) (TC.cond (λhc=>TC.bind (aPy hN (by intro y hy;simp at hy;rcases hy with rfl;exact hp.2.2.1) (by simp) _ hf h2.1 _ _ _ _ _ _) λr3 h3=>TC.bind (aGB _ _ _ _ _ _ _ _ _ _) λ_ _=>TC.ret _ ⟨h3.1,λh=>?_,λh=>⟨λhh=>?_,λhh=>⟨λg=>?_,λg=>⟨λ_=>?_,λg4=>?_⟩⟩⟩⟩) (λhc=>TC.ret _ ⟨h2.1,λh=>?_,λh=>⟨λhh=>?_,λhh=>⟨λg=>?_,λg=>⟨λg4=>?_,λ_=>?_⟩⟩⟩⟩)) λp6 p6l=>?_
 ·obtain⟨a1,a2⟩:=h2.2.1 h;exact⟨(h3.2.2 (by rw[a2];rfl)).trans a1,by rw[a2];rfl⟩
 ·have k4:pl.gG.gJ=4:=by simpa using hc
  rw[hk0 hh] at k4;cases k4
 ·obtain⟨a1,a2⟩:=(h2.2.2 h).2 hh;exact⟨(h3.2.2 (by rw[a2,g];rfl)).trans a1,by rw[a2,g];rfl⟩
 ·obtain⟨a1,a2⟩:=(h2.2.2 h).2 hh;have:=h3.2.1 (by rw[a2,g];rfl)
  rw[a1] at this;exact⟨this,by rw[a2,g];rfl⟩
 ·exact absurd (by simpa using hc) g4
 ·obtain⟨a1,a2⟩:=h2.2.1 h;exact⟨a1,by rw[a2];rfl⟩
 ·obtain⟨a1,a2⟩:=(h2.2.2 h).1 hh;exact⟨rfl,by rw[a2];rfl⟩
 ·obtain⟨a1,a2⟩:=(h2.2.2 h).2 hh;exact⟨a1,by rw[a2,g];rfl⟩
 ·rw[g4] at hc;cases hc
 ·obtain⟨a1,a2⟩:=(h2.2.2 h).2 hh;exact⟨a1,by rw[a2,g];rfl⟩
 refine TU.bind (P:=λz:aA×aB=>vin z.1/\nJ N sd fi se z.2/\((p6.2=false/\pl.gG.gJ=0)->jI N (iC N s.gE) (drV N sd fi se dep) s.gF pl f N p6.1 0=some z.1)/\(¬(p6.2=false/\pl.gG.gJ=0)->z.1=p6.1)) (S:=λi z r=>∃t2,r=(z.1,z.2,swp gl t2)/\fC (t1 i) t2 ((gl.length:Int)*(cV v.gL).2)) ?_ λz hz rz hrz=>?_
 ·simp only[hcon,cond_true,ae]
  refine TU.bind (aRj hN hr hsw heq hcon hfit hp (ι:=ι) ray hf p6l.1 dep p6.2 sm' _ hsrc t1) λz hz rz hrz=>?_;have h2:∃t2:ι->Int,∀i,rz i=(z.1,z.2,swp gl (t2 i))/\fC (t1 i) (t2 i) ((gl.length:Int)*(cV v.gL).2):=⟨λi=>(hrz i).choose,λi=>(hrz i).choose_spec⟩
  obtain⟨t2,e2⟩:=h2;simp only[λi=>(e2 i).1]
  exact TU.ret (z.1,z.2) hz λi=>⟨t2 i,rfl,(e2 i).2⟩
 have h2':∃t2:ι->Int,∀i,rz i=(z.1,z.2,swp gl (t2 i))/\fC (t1 i) (t2 i) ((gl.length:Int)*(cV v.gL).2):=⟨λi=>(hrz i).choose,λi=>(hrz i).choose_spec⟩
 obtain⟨t2,e2⟩:=h2';simp only[λi=>(e2 i).1]
 -- an end
 have stop:∀m:Bool,m=true->(p6.2=true\/(dep==v.gK)=true)->(ov=true->z.1=l/\m=true/\sm'=sm)/\(ov=false->∃q,aB3 N (iC N s.gE) (drV N sd fi se) b s v.gK sky ray f l dep sm=some q/\z.1=q.2.2.1/\m=q.2.2.2.1/\sm'=q.2.2.2.2/\(q.2.2.2.1=false->ray=q.1/\f=q.2.1)):=by
  intro m hm1 hs;refine⟨λh=>?_,λh=>?_⟩
  ·obtain⟨a1,a2⟩:=p6l.2.1 h;exact⟨(hz.2.2.2 (λhA=>by rw[a2] at hA;cases hA.1)).trans a1,hm1,hsm h⟩
  ·rw[h] at hsp;unfold aB3;rw[hsp,ae]
   have p6h:=p6l.2.2 h;have p2h:=h2.2.2 h;cases hh:hit with
   | false=>
    obtain⟨a1,a2⟩:=p6h.1 hh;obtain⟨b1,b2⟩:=p2h.1 hh;refine⟨(ray,f,p2.1,true,sm'),by simp only[dq,cond_true,b1,ae],(hz.2.2.2 (λhA=>by rw[a2] at hA;cases hA.1)).trans a1,hm1,rfl,λh=>by cases h⟩
   | true=>
    obtain⟨c1,c2⟩:=p6h.2 hh;simp only[da,cond_false]
    cases hho:pl.gB7 with
    | true=>
     obtain⟨a1,a2⟩:=c1 hho;refine⟨(ray,f,l,true,sm'),by rw[cond_true];cases (pl.gG.gJ==4) <;> rfl,(hz.2.2.2 (λhA=>by rw[a2] at hA;cases hA.1)).trans a1,hm1,rfl,λh=>by cases h⟩
    | false=>
     rw[cond_false]
     obtain⟨d1,d2⟩:=c2 hho;by_cases k4:pl.gG.gJ=4
     ·obtain⟨a1,a2⟩:=d1 k4;refine⟨(ray,f,p6.1,true,sm'),by rw[show(pl.gG.gJ==4)=true by simpa using k4,cond_true,a1,ae],hz.2.2.2 (λhA=>by rw[a2] at hA;cases hA.1),hm1,rfl,λh=>by cases h⟩
     ·obtain⟨a1,a2⟩:=d2 k4;have hd:(dep==v.gK)=true:=by rcases hs with h | h;rw[a2] at h;cases h;exact h
      refine⟨(ray,f,z.1,true,sm'),?_,rfl,hm1,rfl,λh=>by cases h⟩
      rw[show(pl.gG.gJ==4)=false by simpa using k4,cond_false]
      by_cases k0:pl.gG.gJ=0
      ·have:=hz.2.2.1 ⟨a2,k0⟩
       rw[a1] at this;rw[show(pl.gG.gJ==0)=true by simpa using k0,cond_true,this,ae,hd,cond_true]
      ·have:=hz.2.2.2 (λhA=>k0 hA.2)
       rw[a1] at this;rw[show(pl.gG.gJ==0)=false by simpa using k0,cond_false,ae,hd,cond_true,this]
 refine TU.te (P:=λp=>p=true↔(p6.2=true\/(dep==v.gK)=true)) (T.cond (λh=>T.ret ⟨λ_=>Or.inl h,λ_=>rfl⟩) (λh=>T.ret ⟨λh'=>Or.inr h',λh'=>by rcases h' with h' | h';rw[h] at h';cases h';exact h'⟩)) λp14 _ h14=>TU.cond (λhc=>?_) (λhc=>?_)
 ·exact TU.c (aGB _ _ _ _ _ _ _ _ _ _) λ_ _=>TU.ret (ray,f,z.1,cond p6.2 true true,sm',z.2) ⟨⟨hray,hf,hz.1,hz.2.1⟩,stop _ (by cases p6.2 <;> rfl) (h14.1 hc)⟩ λi=>⟨x i,t2 i,rfl⟩
 have n6:p6.2=false:=by cases h:p6.2 with
  | false=>rfl
  | true=>rw[h14.2 (Or.inl h)] at hc;cases hc
 have nd:(dep==v.gK)=false:=by cases h:(dep==v.gK) with
  | false=>rfl
  | true=>rw[h14.2 (Or.inr h)] at hc;cases hc
 refine TU.c (aFW hN _ _ _ _ _ _ _ _ hz.2.1 _) λr16 h16=>TU.c (aFW hN _ _ _ _ _ _ _ _ h16.2 _) λr17 h17=>?_;refine TU.te (aHu (by omega) hp.2.2.2 hp.2.2.1 hp.2.1 ray.gd _) λr18 e18 h18=>TU.te (aFF (by omega) _ (by intro y hy;simp at hy;rcases hy with rfl | rfl;exact hf;exact h18.2) (by simp)) λr19 e19 h19=>?_;rw[h16.1,h17.1] at e18;refine TU.c (aGB _ _ _ _ _ _ _ _ _ _) λ_ _=>?_;refine TU.c (P:=λp:aA×Bool×aB=>vin p.1/\nJ N sd fi se p.2.2/\(cond (decide (dep>=2)) (aa (fB N r19 (drV N sd fi se dep 7)) λr23=>some (r23.1,cond r18.gB9 true (!r23.2))) (some (r19,r18.gB9)))=some (p.1,p.2.1)) ?_ λp21 h21=>?_
 ·refine TC.cond (λh2d=>TC.bind (aFW hN _ _ _ _ _ _ _ _ h17.2 _) λr22 h22=>?_) (λh2d=>TC.ret _ ⟨h19,h17.2,by rw[h2d,n6];rfl⟩)
  obtain⟨r23,e23,h23⟩:=aFd (N:=N) (by omega) h19 r22.2;refine TC.t (P:=λr=>r=r23) ⟨_,e23,rfl⟩ λr hr=>?_;subst hr;rw[h22.1] at e23;exact TC.bind (aGB _ _ _ _ _ _ _ _ _ _) λ_ _=>TC.ret _ ⟨h23,h22.2,by rw[h2d,n6,cond_true,e23];rfl⟩
 ·refine TU.ret (aJ.mk pl.gat r18.gD7 pl.gi,p21.1,z.1,p21.2.1,sm',p21.2.2) ⟨⟨⟨hp.1,h18.1⟩,h21.1,hz.1,h21.2.1⟩,λh=>?_,λh=>?_⟩ λi=>⟨x i,t2 i,rfl⟩
  ·obtain⟨a1,a2⟩:=p6l.2.1 h;rw[n6] at a2;cases a2
  ·refine⟨(aJ.mk pl.gat r18.gD7 pl.gi,p21.1,z.1,p21.2.1,sm'),?_,rfl,rfl,rfl,λ_=>⟨rfl,rfl⟩⟩
   rw[h] at hsp;unfold aB3;rw[hsp,ae]
   have p6h:=p6l.2.2 h;cases hh:hit with
   | false=>have:=(p6h.1 hh).2;rw[n6] at this;cases this
   | true=>
    obtain⟨c1,c2⟩:=p6h.2 hh;simp only[da,cond_false]
    cases hho:pl.gB7 with
    | true=>have:=(c1 hho).2;rw[n6] at this;cases this
    | false=>
     rw[cond_false]
     obtain⟨d1,d2⟩:=c2 hho;by_cases k4:pl.gG.gJ=4
     ·have:=(d1 k4).2;rw[n6] at this;cases this
     ·obtain⟨a1,a2⟩:=d2 k4;rw[show(pl.gG.gJ==4)=false by simpa using k4,cond_false]
      have hl':(cond (pl.gG.gJ==0) (jI N (iC N s.gE) (drV N sd fi se dep) s.gF pl f N l 0) (some l))=some z.1:=by
       by_cases k0:pl.gG.gJ=0
       ·have:=hz.2.2.1 ⟨a2,k0⟩
        rw[a1] at this;rw[show(pl.gG.gJ==0)=true by simpa using k0,cond_true,this]
       ·have:=hz.2.2.2 (λhA=>k0 hA.2)
        rw[a1] at this;rw[show(pl.gG.gJ==0)=false by simpa using k0,cond_false,this]
      rw[hl',ae,nd,cond_false,e18,ae,e19,ae,h21.2.2,ae]
end
section
variable {ι:Type} {N:Nat} (hN:1000000000000 < N) {b:List (List aD)} {s:aG} {v:aI} {sky:aA} (hr:Rdy b s v sky)
include hN hr
theorem aTC{bv:aX}{gl:List aH}(hbv:yT gl.length bv)(htr:vJ s.gE bv)(hgl:gl=s.gE)(hcon:v.gT=false){sd fi se:Int}{ray:aJ}(hray:aBT ray){f l:aA}(hf:vin f)(hl:vin l)(dep:Int)(ov:Bool)(sm:aF)(st:ι->aE){src:aB}(hsrc:nJ N sd fi se src)(t:ι->Int) :
  TU (λi=>nG N b ray f l dep ov sm s v sky (st i) src (wlk bv gl (t i))) (λa:aJ×aA×aA×Bool×aF×aB=>(aBT a.1/\vin a.2.1/\vin a.2.2.1/\nJ N sd fi se a.2.2.2.2.2)/\(ov=true->a.2.2.1=l/\a.2.2.2.1=true/\a.2.2.2.2.1=sm)/\(ov=false->∃q,aB3 N (iC N s.gE) (drV N sd fi se) b s v.gK sky ray f l dep sm=some q/\a.2.2.1=q.2.2.1/\a.2.2.2.1=q.2.2.2.1/\a.2.2.2.2.1=q.2.2.2.2/\(q.2.2.2.1=false->a.1=q.1/\a.2.1=q.2.1))) (λi a r=>∃x t',r=(a.1,a.2.1,a.2.2.1,a.2.2.2.1,a.2.2.2.2.1,x,a.2.2.2.2.2,wlk bv gl t')):=by
 unfold nG;refine TU.bind (aS2 hN hr hbv htr hgl hcon hray f l dep ov sm st src t) λa ha r hr'=>?_;have h1:∃(x t1:ι->Int),∀i,r i=(a.1,x i,(t1 i),a.2.1,a.2.2)/\noR (t i) (t1 i) 0/\noR (st i).gQ (x i) 4:=⟨λi=>(hr' i).choose,λi=>(hr' i).choose_spec.choose,λi=>(hr' i).choose_spec.choose_spec⟩
 obtain⟨x,t1,e1⟩:=h1;simp only[λi=>(e1 i).1]
 obtain⟨⟨hp,hm⟩,hsp,hsm,hk0⟩:=ha;obtain⟨sm',pl,hit⟩:=a;dsimp only at *;refine TU.c (P:=λp:aA×Bool=>vin p.1/\(ov=true->p.1=l/\p.2=true)/\(ov=false->(hit=false->aBV N [sky] f l=some p.1/\p.2=true)/\(hit=true->p.1=l/\p.2=false))) (TC.cond (λhc=>TC.bind (aQm hN (by intro y hy;simp at hy;rcases hy with rfl;exact hr.sky) (by simp) _ hf hl _ _ _ _ _ _) λr3 h3=>TC.bind (aO2 _ _ _ _ _ _ _ _ _ _) λ_ _=>TC.ret _ ⟨h3.1,λh=>⟨h3.2.2 h,by rw[h];rfl⟩,λh=>⟨λ_=>⟨h3.2.1 h,by rw[h];rfl⟩,(λhh=>by rw[hh] at hc;cases hc)⟩⟩) (λhc=>TC.ret _ ⟨hl,λh=>⟨rfl,h⟩,λh=>⟨(λhh=>by rw[hh] at hc;cases hc),λ_=>⟨rfl,h⟩⟩⟩)) λp2 h2=>?_;refine TU.c (aO2 _ _ _ _ _ _ _ _ _ _) λ_ _=>?_;simp only[aR]
 refine TU.c (P:=λp:aA×Bool=>vin p.1/\(ov=true->p.1=l/\p.2=true)/\(ov=false->(hit=false->p.1=p2.1/\p.2=true)/\(hit=true->(pl.gB7=true->p.1=l/\p.2=true)/\(pl.gB7=false->(pl.gG.gJ=4->aBV N [pl.gc] f l=some p.1/\p.2=true)/\(pl.gG.gJ≠4->p.1=l/\p.2=false))))) (TC.cond (λhc=>TC.bind (aQm hN (by intro y hy;simp at hy;rcases hy with rfl;exact hp.2.2.1) (by simp) _ hf h2.1 _ _ _ _ _ _) λr3 h3=>TC.bind (aO2 _ _ _ _ _ _ _ _ _ _) λ_ _=>TC.ret _ ⟨h3.1,λh=>?_,λh=>⟨λhh=>?_,λhh=>⟨λg=>?_,λg=>⟨λ_=>?_,λg4=>?_⟩⟩⟩⟩) (λhc=>TC.ret _ ⟨h2.1,λh=>?_,λh=>⟨λhh=>?_,λhh=>⟨λg=>?_,λg=>⟨λg4=>?_,λ_=>?_⟩⟩⟩⟩)) λp6 p6l=>?_
 ·obtain⟨a1,a2⟩:=h2.2.1 h;exact⟨(h3.2.2 (by rw[a2];rfl)).trans a1,by rw[a2];rfl⟩
 ·have k4:pl.gG.gJ=4:=by simpa using hc
  rw[hk0 hh] at k4;cases k4
 ·obtain⟨a1,a2⟩:=(h2.2.2 h).2 hh;exact⟨(h3.2.2 (by rw[a2,g];rfl)).trans a1,by rw[a2,g];rfl⟩
 ·obtain⟨a1,a2⟩:=(h2.2.2 h).2 hh;have:=h3.2.1 (by rw[a2,g];rfl)
  rw[a1] at this;exact⟨this,by rw[a2,g];rfl⟩
 ·exact absurd (by simpa using hc) g4
 ·obtain⟨a1,a2⟩:=h2.2.1 h;exact⟨a1,by rw[a2];rfl⟩
 ·obtain⟨a1,a2⟩:=(h2.2.2 h).1 hh;exact⟨rfl,by rw[a2];rfl⟩
 ·obtain⟨a1,a2⟩:=(h2.2.2 h).2 hh;exact⟨a1,by rw[a2,g];rfl⟩
 ·rw[g4] at hc;cases hc
 ·obtain⟨a1,a2⟩:=(h2.2.2 h).2 hh;exact⟨a1,by rw[a2,g];rfl⟩
 refine TU.bind (P:=λz:aA×aB=>vin z.1/\nJ N sd fi se z.2/\((p6.2=false/\pl.gG.gJ=0)->jI N (iC N s.gE) (drV N sd fi se dep) s.gF pl f N p6.1 0=some z.1)/\(¬(p6.2=false/\pl.gG.gJ=0)->z.1=p6.1)) (S:=λi z r=>∃t2,r=(z.1,z.2,wlk bv gl t2)/\noR (t1 i) t2 ((0:Int)*(cV v.gL).2)) ?_ λz hz rz hrz=>?_
 ·refine TU.t (P:=λp11=>p11=(!p6.2&&(pl.gG.gJ==0))) (by rw[hcon];cases p6.2 <;> exact⟨_,rfl,rfl⟩) λp11 e11=>TU.cond (λ_=>?_) (λh11=>TU.ret (p6.1,src) ⟨p6l.1,hsrc,(λhA=>by rw[e11,hA.1,hA.2] at h11;cases h11),λ_=>rfl⟩ λi=>⟨t1 i,rfl,trivial⟩)
  refine TU.bind (aRh hN hr hbv htr hgl hcon hp (ι:=ι) ray hf p6l.1 dep p6.2 sm' _ hsrc t1) λz hz rz hrz=>?_;have h2:∃t2:ι->Int,∀i,rz i=(z.1,z.2,wlk bv gl (t2 i))/\noR (t1 i) (t2 i) ((0:Int)*(cV v.gL).2):=⟨λi=>(hrz i).choose,λi=>(hrz i).choose_spec⟩
  obtain⟨t2,e2⟩:=h2;simp only[λi=>(e2 i).1]
  exact TU.ret (z.1,z.2) hz λi=>⟨t2 i,rfl,(e2 i).2⟩
 have h2':∃t2:ι->Int,∀i,rz i=(z.1,z.2,wlk bv gl (t2 i))/\noR (t1 i) (t2 i) ((0:Int)*(cV v.gL).2):=⟨λi=>(hrz i).choose,λi=>(hrz i).choose_spec⟩
 obtain⟨t2,e2⟩:=h2';simp only[λi=>(e2 i).1]
 -- an end
 have stop:∀m:Bool,m=true->(p6.2=true\/(dep==v.gK)=true)->(ov=true->z.1=l/\m=true/\sm'=sm)/\(ov=false->∃q,aB3 N (iC N s.gE) (drV N sd fi se) b s v.gK sky ray f l dep sm=some q/\z.1=q.2.2.1/\m=q.2.2.2.1/\sm'=q.2.2.2.2/\(q.2.2.2.1=false->ray=q.1/\f=q.2.1)):=by
  intro m hm1 hs;refine⟨λh=>?_,λh=>?_⟩
  ·obtain⟨a1,a2⟩:=p6l.2.1 h;exact⟨(hz.2.2.2 (λhA=>by rw[a2] at hA;cases hA.1)).trans a1,hm1,hsm h⟩
  ·rw[h] at hsp;unfold aB3;rw[hsp,ae]
   have p6h:=p6l.2.2 h;have p2h:=h2.2.2 h;cases hh:hit with
   | false=>
    obtain⟨a1,a2⟩:=p6h.1 hh;obtain⟨b1,b2⟩:=p2h.1 hh;refine⟨(ray,f,p2.1,true,sm'),by simp only[dq,cond_true,b1,ae],(hz.2.2.2 (λhA=>by rw[a2] at hA;cases hA.1)).trans a1,hm1,rfl,λh=>by cases h⟩
   | true=>
    obtain⟨c1,c2⟩:=p6h.2 hh;simp only[da,cond_false]
    cases hho:pl.gB7 with
    | true=>
     obtain⟨a1,a2⟩:=c1 hho;refine⟨(ray,f,l,true,sm'),by rw[cond_true];cases (pl.gG.gJ==4) <;> rfl,(hz.2.2.2 (λhA=>by rw[a2] at hA;cases hA.1)).trans a1,hm1,rfl,λh=>by cases h⟩
    | false=>
     rw[cond_false]
     obtain⟨d1,d2⟩:=c2 hho;by_cases k4:pl.gG.gJ=4
     ·obtain⟨a1,a2⟩:=d1 k4;refine⟨(ray,f,p6.1,true,sm'),by rw[show(pl.gG.gJ==4)=true by simpa using k4,cond_true,a1,ae],hz.2.2.2 (λhA=>by rw[a2] at hA;cases hA.1),hm1,rfl,λh=>by cases h⟩
     ·obtain⟨a1,a2⟩:=d2 k4;have hd:(dep==v.gK)=true:=by rcases hs with h | h;rw[a2] at h;cases h;exact h
      refine⟨(ray,f,z.1,true,sm'),?_,rfl,hm1,rfl,λh=>by cases h⟩
      rw[show(pl.gG.gJ==4)=false by simpa using k4,cond_false]
      by_cases k0:pl.gG.gJ=0
      ·have:=hz.2.2.1 ⟨a2,k0⟩
       rw[a1] at this;rw[show(pl.gG.gJ==0)=true by simpa using k0,cond_true,this,ae,hd,cond_true]
      ·have:=hz.2.2.2 (λhA=>k0 hA.2)
       rw[a1] at this;rw[show(pl.gG.gJ==0)=false by simpa using k0,cond_false,ae,hd,cond_true,this]
 refine TU.te (P:=λp=>p=true↔(p6.2=true\/(dep==v.gK)=true)) (T.cond (λh=>T.ret ⟨λ_=>Or.inl h,λ_=>rfl⟩) (λh=>T.ret ⟨λh'=>Or.inr h',λh'=>by rcases h' with h' | h';rw[h] at h';cases h';exact h'⟩)) λp14 _ h14=>TU.cond (λhc=>?_) (λhc=>?_)
 ·exact TU.c (aO2 _ _ _ _ _ _ _ _ _ _) λ_ _=>TU.ret (ray,f,z.1,cond p6.2 true true,sm',z.2) ⟨⟨hray,hf,hz.1,hz.2.1⟩,stop _ (by cases p6.2 <;> rfl) (h14.1 hc)⟩ λi=>⟨x i,t2 i,rfl⟩
 have n6:p6.2=false:=by cases h:p6.2 with
  | false=>rfl
  | true=>rw[h14.2 (Or.inl h)] at hc;cases hc
 have nd:(dep==v.gK)=false:=by cases h:(dep==v.gK) with
  | false=>rfl
  | true=>rw[h14.2 (Or.inr h)] at hc;cases hc
 refine TU.c (aFc hN _ _ _ _ _ _ _ _ hz.2.1 _) λr16 h16=>TU.c (aFc hN _ _ _ _ _ _ _ _ h16.2 _) λr17 h17=>?_;refine TU.te (aHu (by omega) hp.2.2.2 hp.2.2.1 hp.2.1 ray.gd _) λr18 e18 h18=>TU.te (aFF (by omega) _ (by intro y hy;simp at hy;rcases hy with rfl | rfl;exact hf;exact h18.2) (by simp)) λr19 e19 h19=>?_;rw[h16.1,h17.1] at e18;refine TU.c (aO2 _ _ _ _ _ _ _ _ _ _) λ_ _=>?_;refine TU.c (P:=λp:aA×Bool×aB=>vin p.1/\nJ N sd fi se p.2.2/\(cond (decide (dep>=2)) (aa (fB N r19 (drV N sd fi se dep 7)) λr23=>some (r23.1,cond r18.gB9 true (!r23.2))) (some (r19,r18.gB9)))=some (p.1,p.2.1)) ?_ λp21 h21=>?_
 ·refine TC.cond (λh2d=>TC.bind (aFc hN _ _ _ _ _ _ _ _ h17.2 _) λr22 h22=>?_) (λh2d=>TC.ret _ ⟨h19,h17.2,by rw[h2d,n6];rfl⟩)
  obtain⟨r23,e23,h23⟩:=aFd (N:=N) (by omega) h19 r22.2;refine TC.t (P:=λr=>r=r23) ⟨_,e23,rfl⟩ λr hr=>?_;subst hr;rw[h22.1] at e23;exact TC.bind (aO2 _ _ _ _ _ _ _ _ _ _) λ_ _=>TC.ret _ ⟨h23,h22.2,by rw[h2d,n6,cond_true,e23];rfl⟩
 ·refine TU.ret (aJ.mk pl.gat r18.gD7 pl.gi,p21.1,z.1,p21.2.1,sm',p21.2.2) ⟨⟨⟨hp.1,h18.1⟩,h21.1,hz.1,h21.2.1⟩,λh=>?_,λh=>?_⟩ λi=>⟨x i,t2 i,rfl⟩
  ·obtain⟨a1,a2⟩:=p6l.2.1 h;rw[n6] at a2;cases a2
  ·refine⟨(aJ.mk pl.gat r18.gD7 pl.gi,p21.1,z.1,p21.2.1,sm'),?_,rfl,rfl,rfl,λ_=>⟨rfl,rfl⟩⟩
   rw[h] at hsp;unfold aB3;rw[hsp,ae]
   have p6h:=p6l.2.2 h;cases hh:hit with
   | false=>have:=(p6h.1 hh).2;rw[n6] at this;cases this
   | true=>
    obtain⟨c1,c2⟩:=p6h.2 hh;simp only[da,cond_false]
    cases hho:pl.gB7 with
    | true=>have:=(c1 hho).2;rw[n6] at this;cases this
    | false=>
     rw[cond_false]
     obtain⟨d1,d2⟩:=c2 hho;by_cases k4:pl.gG.gJ=4
     ·have:=(d1 k4).2;rw[n6] at this;cases this
     ·obtain⟨a1,a2⟩:=d2 k4;rw[show(pl.gG.gJ==4)=false by simpa using k4,cond_false]
      have hl':(cond (pl.gG.gJ==0) (jI N (iC N s.gE) (drV N sd fi se dep) s.gF pl f N l 0) (some l))=some z.1:=by
       by_cases k0:pl.gG.gJ=0
       ·have:=hz.2.2.1 ⟨a2,k0⟩
        rw[a1] at this;rw[show(pl.gG.gJ==0)=true by simpa using k0,cond_true,this]
       ·have:=hz.2.2.2 (λhA=>k0 hA.2)
        rw[a1] at this;rw[show(pl.gG.gJ==0)=false by simpa using k0,cond_false,this]
      rw[hl',ae,nd,cond_false,e18,ae,e19,ae,h21.2.2,ae]
end
def aFP(N:Nat)(b:List (List aD))(s:aG)(v:aI)(sky:aA)(x y z:Int):Option aF:=
 aa (tF N v.gC9 v.gW v.gH x y (#v[drV N v.gS (I64 (I64 (y*v.gW)+x)) z 0 0,drV N v.gS (I64 (I64 (y*v.gW)+x)) z 0 1,drV N v.gS (I64 (I64 (y*v.gW)+x)) z 0 2,drV N v.gS (I64 (I64 (y*v.gW)+x)) z 0 3])) λr15=>
 aa (aEj N (iC N s.gE) (drV N v.gS (I64 (I64 (y*v.gW)+x)) z) b s v.gK sky N (aJ.mk r15.1 r15.2.1 (-1)) (aA.mk 4294967296 4294967296 4294967296) (aA.mk 0 0 0) 0 false (aF.mk (aA.mk 0 0 0) 0 0 (aA.mk 0 0 0) (-1))) λq=>
 some (aF.mk q.1 q.2.gB6 q.2.gK q.2.gC6 q.2.gA4)
def inV(v:aI)(x y z:Int):Prop:=(0<=x/\x < v.gW)/\(0<=y/\y < v.gH)/\0<=z/\z < v.gB1
theorem vec4{v:Vector Int 4}{a b c d:Int}(h0:v[0]=a)(h1:v[1]=b)(h2:v[2]=c)(h3:v[3]=d):v=#v[a,b,c,d]:=by
 apply Vector.ext;intro i hi;have:i=0\/i=1\/i=2\/i=3:=by omega
 rcases this with rfl | rfl | rfl | rfl
 ·exact h0
 ·exact h1
 ·exact h2
 ·exact h3
theorem uI(N:Nat)(F:Fnd)(dr:Int->Int->Int)(b:List (List aD))(s:aG)(depth:Int)(sky:aA)(k:Nat)(ray:aJ)(f l:aA)(dep:Int)(sm:aF):aEj N F dr b s depth sky (k+1) ray f l dep true sm=some (l,sm):=by
 rw[aEj]
 cases decide (dep<=depth) <;> rfl
section
variable {ι:Type} {N:Nat} (hN:4100 < N) {b:List (List aD)} {s:aG} {v:aI} {sky:aA} (hr:Rdy b s v sky)
include hN hr
theorem aUa{gl:List aH}(hsw:aBx s.gE.length gl)(heq:aIL s.gE gl)(hcon:v.gT=true)(hfit:(s.gF.length:Int)<=(cV v.gL).2)(x y z:Int)(st:ι->aE)(t:ι->Int) :
  TU (λi=>dW N b x y z s v sky (st i) (swp gl (t i))) (λa:aF×Int=>(inV v x y z->a.2=0/\aFP N b s v sky x y z=some a.1)/\(¬inV v x y z->a=(aF.mk (aA.mk 0 0 0) 0 0 (aA.mk 0 0 0) 0,2))) (λi a r=>∃st' t',r=(st',swp gl t',a.1,a.2)):=by
 unfold dW rM;simp only[aR,ae]
 refine TU.cond (λhc=>TU.ret (aF.mk (aA.mk 0 0 0) 0 0 (aA.mk 0 0 0) 0,2) ⟨λh=>?_,λ_=>rfl⟩ λi=>⟨st i,t i,rfl⟩) (λhc=>?_)
 ·exfalso;obtain⟨⟨h1,h2⟩,⟨h3,h4⟩,h5,h6⟩:=h;rw[df (show ¬x < 0 by omega),df (show ¬x>=v.gW by omega),df (show ¬y < 0 by omega),df (show ¬y>=v.gH by omega),df (show ¬z < 0 by omega),df (show ¬z>=v.gB1 by omega)] at hc;cases hc
 have inr:inV v x y z:=by
  have oo:∀{a:Prop} [Decidable a] {b:Bool},cond b true (decide a)=false->b=false/\¬a:=by
   intro a _ b h;cases b with
   | true=>cases h
   | false=>exact⟨rfl,of_decide_eq_false h⟩
  obtain⟨hc,c6⟩:=oo hc;obtain⟨hc,c5⟩:=oo hc;obtain⟨hc,c4⟩:=oo hc;obtain⟨hc,c3⟩:=oo hc;obtain⟨hc,c2⟩:=oo hc;have c1:=of_decide_eq_false hc;exact⟨⟨by omega,by omega⟩,⟨by omega,by omega⟩,by omega,by omega⟩
 generalize hpix:I64 (I64 (y*v.gW)+x)=pix;refine TU.c (P:=λp:aB×Vector Int 4=>nJ N v.gS pix z p.1/\p.2=#v[drV N v.gS pix z 0 0,drV N v.gS pix z 0 1,drV N v.gS pix z 0 2,drV N v.gS pix z 0 3]) ?_ λp8 hp8=>?_
 ·have main:∀(k j:Nat) (src:aB) (q:Vector Int 4),4 - j < k->j<=4->nJ N v.gS pix z src->(∀i,(h:i < 4)->i < j->q[i]=drV N v.gS pix z 0 (i:Int))->TC (λi=>dS N b s v sky (st i) (swp gl (t i)) k src q (j:Int)) (λp:aB×Vector Int 4=>nJ N v.gS pix z p.1/\p.2=#v[drV N v.gS pix z 0 0,drV N v.gS pix z 0 1,drV N v.gS pix z 0 2,drV N v.gS pix z 0 3]):=by
   intro k
   induction k with
   | zero=>intro j src q h;omega
   | succ k ih=>
    intro j src q hk hj hs hq;simp only[dS]
    refine TC.cond (λhc=>?_) (λhc=>TC.ret _ ⟨hs,?_⟩)
    ·have hj4:j < 4:=by have:=of_decide_eq_true hc;omega
     refine TC.bind (aFW (by omega) _ _ _ _ _ _ _ _ hs _) λr12 h12=>TC.t (T.inRO (by omega) (by omega)) λ_ _=>TC.t (T.vgI hj4) λ_ _=>?_;rw[dI (by omega)]
     refine ih (j+1) _ _ (by omega) (by omega) h12.2 λi hi hij=>?_;rw[bj,Vector.getElem_setIfInBounds hi]
     by_cases c:j=i
     ·subst c;rw[if_pos rfl,h12.1]
     ·rw[if_neg c];exact hq i hi (by omega)
    ·have:j=4:=by have:=of_decide_eq_false hc;omega
     subst this;exact vec4 (hq 0 (by decide) (by decide)) (hq 1 (by decide) (by decide)) (hq 2 (by decide) (by decide)) (hq 3 (by decide) (by decide))
  exact main N 0 _ _ (by omega) (by decide) ⟨rfl,rfl,rfl,rfl,λh=>by cases h⟩ λi _ h=>absurd h (by omega)
 refine TU.te (rayN (by omega) _ _ _ _ _ _) λr15 e15 h15=>?_;rw[hp8.2] at e15;obtain⟨_,_,⟨d0,d8⟩,_⟩:=hr.view;obtain⟨n,hn⟩:=bh (show 0<=v.gK+1 by omega)
 refine TU.bind (P:=λa:aB×aJ×aA×aA×Bool×aF=>aEj N (iC N s.gE) (drV N v.gS pix z) b s v.gK sky N (aJ.mk r15.1 r15.2.1 (-1)) (aA.mk 4294967296 4294967296 4294967296) (aA.mk 0 0 0) 0 false (aF.mk (aA.mk 0 0 0) 0 0 (aA.mk 0 0 0) (-1))=some (a.2.2.2.1,a.2.2.2.2.2)) (S:=λi a r=>∃(st':aE) (t':Int),∃dd:Int,r=(st',swp gl t',a.1,a.2.1,a.2.2.1,a.2.2.2.1,dd,a.2.2.2.2.1,a.2.2.2.2.2)) ?_ λa ha r hr'=>?_
 ·refine TU.loop0 (n:=n) (λj (x:aB×aJ×aA×aA×Bool×aF) (h:ι->aE×Int)=>(aBT x.2.1/\vin x.2.2.1/\vin x.2.2.2.1/\nJ N v.gS pix z x.1)/\aEj N (iC N s.gE) (drV N v.gS pix z) b s v.gK sky N (aJ.mk r15.1 r15.2.1 (-1)) (aA.mk 4294967296 4294967296 4294967296) (aA.mk 0 0 0) 0 false (aF.mk (aA.mk 0 0 0) 0 0 (aA.mk 0 0 0) (-1))=aEj N (iC N s.gE) (drV N v.gS pix z) b s v.gK sky (N - j) x.2.1 x.2.2.1 x.2.2.2.1 (j:Int) x.2.2.2.2.1 x.2.2.2.2.2) (F:=λi k (h:aE×Int) (x:aB×aJ×aA×aA×Bool×aF) j=>cD N v b s sky k h.1 (swp gl h.2) x.1 x.2.1 x.2.2.1 x.2.2.2.1 j x.2.2.2.2.1 x.2.2.2.2.2) (λk h x j hj hx hk=>?_) (λk h x hx=>?_) (by omega) (s:=(p8.1,aJ.mk r15.1 r15.2.1 (-1),aA.mk 4294967296 4294967296 4294967296,aA.mk 0 0 0,false,aF.mk (aA.mk 0 0 0) 0 0 (aA.mk 0 0 0) (-1))) (h:=λi=>(st i,t i)) ⟨⟨h15,aRA,aCK,hp8.1⟩,rfl⟩
  ·simp only[cD,aR,dt (show(j:Int)<=v.gK by omega),cond_true]
   simp only[hcon]
   refine TU.t (P:=λr=>r=true) (by cases x.2.2.2.2.1 <;> exact⟨_,rfl,rfl⟩) λp26 h26=>?_;rw[h26]
   simp only[cond_true]
   obtain⟨⟨x1,x2,x3,x4⟩,x5⟩:=hx;refine TU.bind (aUU hN hr hsw heq hcon hfit x1 x2 x3 (j:Int) x.2.2.2.2.1 x.2.2.2.2.2 (λi=>(h i).1) x4 (λi=>(h i).2)) λa ha r hr'=>?_;have h1:∃(y t1:ι->Int),∀i,r i=(a.1,a.2.1,a.2.2.1,a.2.2.2.1,a.2.2.2.2.1,y i,a.2.2.2.2.2,swp gl (t1 i)):=⟨λi=>(hr' i).choose,λi=>(hr' i).choose_spec.choose,λi=>(hr' i).choose_spec.choose_spec⟩
   obtain⟨y,t1,e1⟩:=h1;simp only[e1]
   rw[dI (by omega)]
   obtain⟨⟨a1,a2,a3,a4⟩,a5,a6⟩:=ha;refine hk (a.2.2.2.2.2,a.1,a.2.1,a.2.2.1,a.2.2.2.1,a.2.2.2.2.1) (λi=>(aE.mk (h i).1.gN (y i) (I64 ((h i).1.gM+1)),t1 i)) ⟨⟨a1,a2,a3,a4⟩,x5.trans ?_⟩
   dsimp only;cases ho:x.2.2.2.2.1 with
   | true=>
    obtain⟨b1,b2,b3⟩:=a5 ho;rw[b1,b2,b3,show N - j=(N - j - 1)+1 by omega,uI,show N - (j+1)=(N - (j+1) - 1)+1 by omega,uI]
   | false=>
    obtain⟨q,q1,q2,q3,q4,q5⟩:=a6 ho;rw[show N - j=(N - (j+1))+1 by omega,aEj,dt (show(j:Int)<=v.gK by omega)]
    simp only[dq,cond_true,q1,ae]
    rw[dI (by omega),q2,q3,q4]
    cases hq:q.2.2.2.1 with
    | true=>rw[show N - (j+1)=(N - (j+1) - 1)+1 by omega,uI,uI]
    | false=>
     obtain⟨c1,c2⟩:=q5 hq;rw[c1,c2]
  ·simp only[cD,aR,df (show ¬(n:Int)<=v.gK by omega),cond_false,ae]
   refine TU.ret x ?_ λi=>⟨_,_,_,rfl⟩
   rw[hx.2,show N - n=(N - n - 1)+1 by omega,aEj,df (show ¬(n:Int)<=v.gK by omega)]
   rfl
 ·have h1:∃(st':ι->aE) (t':ι->Int) (dd:ι->Int),∀i,r i=(st' i,swp gl (t' i),a.1,a.2.1,a.2.2.1,a.2.2.2.1,dd i,a.2.2.2.2.1,a.2.2.2.2.2):=⟨λi=>(hr' i).choose,λi=>(hr' i).choose_spec.choose,λi=>(hr' i).choose_spec.choose_spec.choose,λi=>(hr' i).choose_spec.choose_spec.choose_spec⟩
  obtain⟨st',t',dd,e1⟩:=h1;simp only[e1]
  refine TU.ret (aF.mk a.2.2.2.1 a.2.2.2.2.2.gB6 a.2.2.2.2.2.gK a.2.2.2.2.2.gC6 a.2.2.2.2.2.gA4,0) ⟨λ_=>⟨rfl,?_⟩,λh=>absurd inr h⟩ λi=>⟨st' i,t' i,rfl⟩
  unfold aFP;rw[hpix,e15,ae,ha,ae]
end
section
variable {ι:Type} {N:Nat} (hN:1000000000000 < N) {b:List (List aD)} {s:aG} {v:aI} {sky:aA} (hr:Rdy b s v sky)
include hN hr
theorem aTb{bv:aX}{gl:List aH}(hbv:yT gl.length bv)(htr:vJ s.gE bv)(hgl:gl=s.gE)(hcon:v.gT=false)(x y z:Int)(st:ι->aE)(t:ι->Int) :
  TU (λi=>hO N b x y z s v sky (st i) (wlk bv gl (t i))) (λa:aF×Int=>(inV v x y z->a.2=0/\aFP N b s v sky x y z=some a.1)/\(¬inV v x y z->a=(aF.mk (aA.mk 0 0 0) 0 0 (aA.mk 0 0 0) 0,2))) (λi a r=>∃st' t',r=(st',wlk bv gl t',a.1,a.2)):=by
 unfold hO rM;simp only[aR,ae]
 refine TU.cond (λhc=>TU.ret (aF.mk (aA.mk 0 0 0) 0 0 (aA.mk 0 0 0) 0,2) ⟨λh=>?_,λ_=>rfl⟩ λi=>⟨st i,t i,rfl⟩) (λhc=>?_)
 ·exfalso;obtain⟨⟨h1,h2⟩,⟨h3,h4⟩,h5,h6⟩:=h;rw[df (show ¬x < 0 by omega),df (show ¬x>=v.gW by omega),df (show ¬y < 0 by omega),df (show ¬y>=v.gH by omega),df (show ¬z < 0 by omega),df (show ¬z>=v.gB1 by omega)] at hc;cases hc
 have inr:inV v x y z:=by
  have oo:∀{a:Prop} [Decidable a] {b:Bool},cond b true (decide a)=false->b=false/\¬a:=by
   intro a _ b h;cases b with
   | true=>cases h
   | false=>exact⟨rfl,of_decide_eq_false h⟩
  obtain⟨hc,c6⟩:=oo hc;obtain⟨hc,c5⟩:=oo hc;obtain⟨hc,c4⟩:=oo hc;obtain⟨hc,c3⟩:=oo hc;obtain⟨hc,c2⟩:=oo hc;have c1:=of_decide_eq_false hc;exact⟨⟨by omega,by omega⟩,⟨by omega,by omega⟩,by omega,by omega⟩
 generalize hpix:I64 (I64 (y*v.gW)+x)=pix;refine TU.c (P:=λp:aB×Vector Int 4=>nJ N v.gS pix z p.1/\p.2=#v[drV N v.gS pix z 0 0,drV N v.gS pix z 0 1,drV N v.gS pix z 0 2,drV N v.gS pix z 0 3]) ?_ λp8 hp8=>?_
 ·have main:∀(k j:Nat) (src:aB) (q:Vector Int 4),4 - j < k->j<=4->nJ N v.gS pix z src->(∀i,(h:i < 4)->i < j->q[i]=drV N v.gS pix z 0 (i:Int))->TC (λi=>iN N b s v sky (st i) (wlk bv gl (t i)) k src q (j:Int)) (λp:aB×Vector Int 4=>nJ N v.gS pix z p.1/\p.2=#v[drV N v.gS pix z 0 0,drV N v.gS pix z 0 1,drV N v.gS pix z 0 2,drV N v.gS pix z 0 3]):=by
   intro k
   induction k with
   | zero=>intro j src q h;omega
   | succ k ih=>
    intro j src q hk hj hs hq;simp only[iN]
    refine TC.cond (λhc=>?_) (λhc=>TC.ret _ ⟨hs,?_⟩)
    ·have hj4:j < 4:=by have:=of_decide_eq_true hc;omega
     refine TC.bind (aFc (by omega) _ _ _ _ _ _ _ _ hs _) λr12 h12=>TC.t (T.inRO (by omega) (by omega)) λ_ _=>TC.t (T.vgI hj4) λ_ _=>?_;rw[dI (by omega)]
     refine ih (j+1) _ _ (by omega) (by omega) h12.2 λi hi hij=>?_;rw[bj,Vector.getElem_setIfInBounds hi]
     by_cases c:j=i
     ·subst c;rw[if_pos rfl,h12.1]
     ·rw[if_neg c];exact hq i hi (by omega)
    ·have:j=4:=by have:=of_decide_eq_false hc;omega
     subst this;exact vec4 (hq 0 (by decide) (by decide)) (hq 1 (by decide) (by decide)) (hq 2 (by decide) (by decide)) (hq 3 (by decide) (by decide))
  exact main N 0 _ _ (by omega) (by decide) ⟨rfl,rfl,rfl,rfl,λh=>by cases h⟩ λi _ h=>absurd h (by omega)
 refine TU.te (rayN (by omega) _ _ _ _ _ _) λr15 e15 h15=>?_;rw[hp8.2] at e15;obtain⟨_,_,⟨d0,d8⟩,_⟩:=hr.view;obtain⟨n,hn⟩:=bh (show 0<=v.gK+1 by omega)
 refine TU.bind (P:=λa:aB×aJ×aA×aA×Bool×aF=>aEj N (iC N s.gE) (drV N v.gS pix z) b s v.gK sky N (aJ.mk r15.1 r15.2.1 (-1)) (aA.mk 4294967296 4294967296 4294967296) (aA.mk 0 0 0) 0 false (aF.mk (aA.mk 0 0 0) 0 0 (aA.mk 0 0 0) (-1))=some (a.2.2.2.1,a.2.2.2.2.2)) (S:=λi a r=>∃(st':aE) (t':Int),∃dd:Int,r=(st',wlk bv gl t',a.1,a.2.1,a.2.2.1,a.2.2.2.1,dd,a.2.2.2.2.1,a.2.2.2.2.2)) ?_ λa ha r hr'=>?_
 ·refine TU.loop0 (n:=n) (λj (x:aB×aJ×aA×aA×Bool×aF) (h:ι->aE×Int)=>(aBT x.2.1/\vin x.2.2.1/\vin x.2.2.2.1/\nJ N v.gS pix z x.1)/\aEj N (iC N s.gE) (drV N v.gS pix z) b s v.gK sky N (aJ.mk r15.1 r15.2.1 (-1)) (aA.mk 4294967296 4294967296 4294967296) (aA.mk 0 0 0) 0 false (aF.mk (aA.mk 0 0 0) 0 0 (aA.mk 0 0 0) (-1))=aEj N (iC N s.gE) (drV N v.gS pix z) b s v.gK sky (N - j) x.2.1 x.2.2.1 x.2.2.2.1 (j:Int) x.2.2.2.2.1 x.2.2.2.2.2) (F:=λi k (h:aE×Int) (x:aB×aJ×aA×aA×Bool×aF) j=>fF N v b s sky k h.1 (wlk bv gl h.2) x.1 x.2.1 x.2.2.1 x.2.2.2.1 j x.2.2.2.2.1 x.2.2.2.2.2) (λk h x j hj hx hk=>?_) (λk h x hx=>?_) (by omega) (s:=(p8.1,aJ.mk r15.1 r15.2.1 (-1),aA.mk 4294967296 4294967296 4294967296,aA.mk 0 0 0,false,aF.mk (aA.mk 0 0 0) 0 0 (aA.mk 0 0 0) (-1))) (h:=λi=>(st i,t i)) ⟨⟨h15,aRA,aCK,hp8.1⟩,rfl⟩
  ·simp only[fF,aR,dt (show(j:Int)<=v.gK by omega),cond_true]
   refine TU.t (P:=λq=>q=(!x.2.2.2.2.1)) (by rw[hcon];cases x.2.2.2.2.1 <;> exact⟨_,rfl,rfl⟩) λp26 h26=>TU.cond (λ_=>?_) (λhc=>TU.ret x ?_ λi=>⟨_,_,_,rfl⟩)
   case refine_2=>
    have ho:x.2.2.2.2.1=true:=by cases h:x.2.2.2.2.1 with
     | true=>rfl
     | false=>rw[h26,h] at hc;cases hc
    obtain⟨_,x5⟩:=hx;rw[x5,ho,show N - j=(N - j - 1)+1 by omega,uI]
   obtain⟨⟨x1,x2,x3,x4⟩,x5⟩:=hx;refine TU.bind (aTC hN hr hbv htr hgl hcon x1 x2 x3 (j:Int) x.2.2.2.2.1 x.2.2.2.2.2 (λi=>(h i).1) x4 (λi=>(h i).2)) λa ha r hr'=>?_;have h1:∃(y t1:ι->Int),∀i,r i=(a.1,a.2.1,a.2.2.1,a.2.2.2.1,a.2.2.2.2.1,y i,a.2.2.2.2.2,wlk bv gl (t1 i)):=⟨λi=>(hr' i).choose,λi=>(hr' i).choose_spec.choose,λi=>(hr' i).choose_spec.choose_spec⟩
   obtain⟨y,t1,e1⟩:=h1;simp only[e1]
   rw[dI (by omega)]
   obtain⟨⟨a1,a2,a3,a4⟩,a5,a6⟩:=ha;refine hk (a.2.2.2.2.2,a.1,a.2.1,a.2.2.1,a.2.2.2.1,a.2.2.2.2.1) (λi=>(aE.mk (h i).1.gN (y i) (I64 ((h i).1.gM+1)),t1 i)) ⟨⟨a1,a2,a3,a4⟩,x5.trans ?_⟩
   dsimp only;cases ho:x.2.2.2.2.1 with
   | true=>
    obtain⟨b1,b2,b3⟩:=a5 ho;rw[b1,b2,b3,show N - j=(N - j - 1)+1 by omega,uI,show N - (j+1)=(N - (j+1) - 1)+1 by omega,uI]
   | false=>
    obtain⟨q,q1,q2,q3,q4,q5⟩:=a6 ho;rw[show N - j=(N - (j+1))+1 by omega,aEj,dt (show(j:Int)<=v.gK by omega)]
    simp only[dq,cond_true,q1,ae]
    rw[dI (by omega),q2,q3,q4]
    cases hq:q.2.2.2.1 with
    | true=>rw[show N - (j+1)=(N - (j+1) - 1)+1 by omega,uI,uI]
    | false=>
     obtain⟨c1,c2⟩:=q5 hq;rw[c1,c2]
  ·simp only[fF,aR,df (show ¬(n:Int)<=v.gK by omega),cond_false,ae]
   refine TU.ret x ?_ λi=>⟨_,_,_,rfl⟩
   rw[hx.2,show N - n=(N - n - 1)+1 by omega,aEj,df (show ¬(n:Int)<=v.gK by omega)]
   rfl
 ·have h1:∃(st':ι->aE) (t':ι->Int) (dd:ι->Int),∀i,r i=(st' i,wlk bv gl (t' i),a.1,a.2.1,a.2.2.1,a.2.2.2.1,dd i,a.2.2.2.2.1,a.2.2.2.2.2):=⟨λi=>(hr' i).choose,λi=>(hr' i).choose_spec.choose,λi=>(hr' i).choose_spec.choose_spec.choose,λi=>(hr' i).choose_spec.choose_spec.choose_spec⟩
  obtain⟨st',t',dd,e1⟩:=h1;simp only[e1]
  refine TU.ret (aF.mk a.2.2.2.1 a.2.2.2.2.2.gB6 a.2.2.2.2.2.gK a.2.2.2.2.2.gC6 a.2.2.2.2.2.gA4,0) ⟨λ_=>⟨rfl,?_⟩,λh=>absurd inr h⟩ λi=>⟨st' i,t' i,rfl⟩
  unfold aFP;rw[hpix,e15,ae,ha,ae]
end
theorem aH7.uniq{N:Nat}{s:aG}{v:aI}{a b:Int}(h:aH7 N s v a)(h':aH7 N s v b):a=b:=by
 rcases h with ⟨h1,h2⟩ | ⟨h1,h2,h3⟩ | ⟨h1,h2,h3⟩ <;> rcases h' with ⟨g1,g2⟩ | ⟨g1,g2,g3⟩ | ⟨g1,g2,g3⟩
 ·exact cW h1 g1
 ·exact absurd (cW h1 g1) h2
 ·exact absurd (cW h1 g1) h2
 ·exact absurd (cW g1 h1) g2
 ·exact cW h2 g2
 ·exact absurd (cW h2 g2) h3
 ·exact absurd (cW g1 h1) g2
 ·exact absurd (cW g2 h2) g3
 ·exact cW h3 g3
theorem filmP{N:Nat}(hN:1000000000000 < N){s:aG}{v:aI}{r:(List aH)×(List aP)×(List aQ)×(List (List aD))×aA×aX×aL×Int}(e:kE N s v=some (.inr (.inr (.inr (.inr r)))))(hn:newW s v r){W H S:Nat}(hd:Dim v W H S){A:Nat->Nat->Nat->Pa}{Q:Nat->Nat->Px}(hQ:PxF N s A W H S Q)(hA:∀x y k,x < W->y < H->k < S->aQd N r.2.2.2.1 s v r.2.2.2.2.1 r.2.2.2.2.2.1 s.gE x y k (A x y k)) :
  ∃(st':aE) (t':Int),mC N s v=some (aIu Q W H,aE.mk t' st'.gQ st'.gM,0):=by
 obtain⟨A1,B1,D1,b,sky,bv,w,e1⟩:=r;obtain⟨rfl,rfl,rfl,_,⟨_,hw⟩,he,_⟩:=hn;dsimp only at he hA hw;subst he hw;obtain⟨q,eq,hq1,hq2,t',hq3,hq4⟩:=rowsP hN (A1:=s.gE) (B1:=s.gA6) (D1:=s.gF) (bv1:=bv) (wv:=aL.mk bv true s.gE 0) (e1:=0) hd hQ hA (aE.mk 0 0 0) 0;obtain⟨b1,a1,d1,n1,c1,l1,sc,st1,fd⟩:=q;dsimp only at hq1 hq2 hq3 hq4;subst hq2 hq3;refine⟨st1,t',?_⟩
 unfold pls at hq1;simp only[Prod.mk.injEq] at hq1;obtain⟨rfl,rfl,rfl,rfl,rfl,rfl⟩:=hq1;unfold mC;rw[e,ae]
 simp only[pD,bne_self_eq_false,cond_false]
 have q':(wlk bv sc.gE 0)=aL.mk bv true sc.gE 0:=rfl;rw[q'] at eq;rw[eq,ae]
 show aa (kS N b sc v sky st1 (wlk bv sc.gE t')) _=_;unfold kS aIu pls;rw[hd.w,hd.h]
 rfl
theorem aUV{A:Nat->Nat->Nat->Pa}{W S n:Nat}{c:C3}(h:∀j k,j < n->k < S->(A (j % W) (j / W) k).2=c):yK A W S n=aDQ n (aDQ S c):=by
 have hb:=aSN (A:=A) (W:=W) (S:=S) (n:=n) (lo:=c) (hi:=c) λj k hj hk=>by
  rw[h j k hj hk]
  exact⟨⟨dw _,dw _⟩,⟨dw _,dw _⟩,dw _,dw _⟩
 obtain⟨⟨h1,h2⟩,⟨h3,h4⟩,h5,h6⟩:=hb;exact ii (iv h2 h1) (ii (iv h4 h3) (iv h6 h5))
theorem aIm(N:Nat)(hN:1000000000000 < N)(hw:lV N=some true)(s:aG)(v:aI):jC N s v=some true:=by
 have main:T (jC N s v) (λr=>r=true):=by
  unfold jC;refine T.bind (fewT2 N (by omega) s) λr1 h0=>T.eq (aRY N v) ?_;obtain⟨h1,_,_,hid⟩:=h0;dsimp only;generalize hv1:aI.mk (fN v.gW 3) (fN v.gH 3) (fN v.gB1 2) (fN v.gK 3) v.gL v.gS v.gC9 false=v1;generalize hv2:aI.mk (fN v.gW 3) (fN v.gH 3) (fN v.gB1 2) (fN v.gK 3) v.gL v.gS v.gC9 true=v2;have c1:v1.gT=false:=by subst hv1;rfl
  have c2:v2.gT=true:=by subst hv2;rfl
  have nv:∀e,aH7 N r1 v2 e->aH7 N r1 v1 e:=by intro e h;subst hv1 hv2;exact h
  have rend:∀{u r},mC N r1 u=some r->sF N r1 u=some (r.1,cond (!u.gT) (aE.mk 0 0 0) r.2.1,r.2.2):=by
   intro u r e;unfold sF;rw[e];cases u.gT <;> rfl
  obtain⟨q,eq,hq⟩:=newT N (by omega) r1 v1 h1;obtain⟨q',eq',hq'⟩:=newT N (by omega) r1 v2 h1;rcases q with e | r | r | r | r
  ·rcases q' with e' | r' | r' | r' | r'
   ·obtain rfl:=hq.2.uniq (nv _ hq'.2)
    refine T.eq (rend (aSl eq hq.1)) (T.eq (rend (aSl eq' hq'.1)) ?_)
    rw[c1,c2]
    simp only[da,dq,cond_true,cond_false,aR,show(e != 0)=true by simpa using hq.1,beq_self_eq_true,aSe N (by omega) (Or.inl rfl),ae,stEq,hw]
    exact⟨true,rfl,rfl⟩
   ·exact hq'.elim
   ·exact absurd (hq.2.uniq (nv _ hq'.2.1)) hq.1
   ·exact hq'.elim
   ·exact absurd (c2.symm.trans hq'.1.2.2.2.2.2.2.1) (by decide)
  ·exact hq.elim
  ·exact absurd (hq.1.2.2.2.2.2.2.1.symm.trans c1) (by decide)
  ·exact hq.elim
  ·rcases q' with e' | r' | r' | r' | r'
   ·exact absurd ((nv _ hq'.2).uniq hq.2.1) hq'.1
   ·exact hq'.elim
   ·obtain⟨hn,nv1,l1,l2⟩:=hq;obtain⟨hn',nv2,k1,k2⟩:=hq';have hnA:=hn;have hnB:=hn';obtain⟨_,_,_,hr,⟨hb,_⟩,he,hcon,ht⟩:=hn;obtain⟨_,_,_,hr',hsw,he',hcon',hlen,hfit,heq⟩:=hn';obtain⟨ck,_⟩:=aRO nv2;obtain⟨ho,hlab⟩:=objsT N (by omega) h1 ck;obtain⟨W,H,S,hd⟩:=dimV hr'.view;have hd1:Dim v1 W H S:=by subst hv1 hv2;exact⟨hd.w,hd.h,hd.s,hd.w1,hd.h1,hd.s1⟩
    obtain⟨A,hA⟩:=aS3 (N:=N) (by omega) hr' hsw hcon' hfit.2 ho hd;obtain⟨Q,hQ⟩:=pxF N (by omega) hid hlab hd.s1 λx y k hx hy hk=>(hA x y k hx hy hk).2.1;obtain⟨st',t',hc,er'⟩:=filmS (by omega) eq' hnB hd hQ λx y k hx hy hk=>(hA x y k hx hy hk).1;have key:∀x y k,x < W->y < H->k < S->aQd N r.2.2.2.1 r1 v1 r.2.2.2.2.1 r.2.2.2.2.2.1 r1.gE x y k (A x y k):=by
     intro x y k hx hy hk st t;obtain⟨c,⟨pc,_⟩,hc⟩:=aUa (ι:=Unit) (N:=N) (by omega) hr' hsw heq hcon' hfit.2 (x:Int) (y:Int) (k:Int) (λ_=>aE.mk 0 0 0) (λ_=>0)
     obtain⟨a,⟨pa,_⟩,ha⟩:=aTb (ι:=Unit) hN hr hb ht rfl hcon (x:Int) (y:Int) (k:Int) (λ_=>st) (λ_=>t)
     obtain⟨_,e2,s2,t2,rfl⟩:=hc ()
     obtain⟨_,e1,s1,t1,rfl⟩:=ha ()
     obtain⟨s3,t3,e3,_⟩:=(hA x y k hx hy hk).1 (aE.mk 0 0 0) 0;have g:inV v2 (x:Int) (y:Int) (k:Int):=⟨⟨by omega,by rw[hd.w];omega⟩,⟨by omega,by rw[hd.h];omega⟩,by omega,by rw[hd.s];omega⟩
     have g1:inV v1 (x:Int) (y:Int) (k:Int):=by subst hv1 hv2;exact g
     obtain⟨a1,a2⟩:=pa g1;obtain⟨d1,d2⟩:=pc g;have sp:aFP N r.2.2.2.1 r1 v1 r.2.2.2.2.1 (x:Int) (y:Int) (k:Int)=aFP N r'.2.2.2.1 r1 v2 r'.2.2.2.2.1 (x:Int) (y:Int) (k:Int):=by
      rw[cW l1 k1,cW l2 k2]
      subst hv1 hv2;rfl
     rw[sp] at a2;have q1:=cW e2 e3;simp only[Prod.mk.injEq] at q1;refine⟨s1,t1,e1.trans ?_,trivial⟩
     rw[<- q1.2.2.1,<- q1.2.2.2,cW a2 d2,a1,d1]
    obtain⟨st1,t1,er⟩:=filmP hN eq hnA hd1 hQ key;obtain⟨⟨m1,m2⟩,⟨m3,m4⟩,m5,m6⟩:=aNF hr'.view;have ce:yK A W S (H*W)=aDQ (H*W) (aDQ S (qW v2)):=aUV λj k hj hk=>by
     obtain⟨_,_,p1,p2,p3⟩:=hA _ _ k (jdiv hj).1 (jdiv hj).2 hk;refine ii (p1.trans ?_) (ii p2 p3)
     rw[hlen];unfold qW;dsimp only;ac_rfl
    rw[ce] at hc;rw[cntB hc ⟨aHc hd (by omega) (by omega),aHc hd (by omega) (by omega),aHc hd (by omega) (by omega)⟩] at er';refine T.eq (rend er) (T.eq (rend er') ?_)
    rw[c1,c2]
    simp only[bne_self_eq_false,da,dq,cond_true,cond_false,aR,aSe N (by omega) (Or.inr ⟨Q,W,H,(dimM hd).1.2,rfl⟩),ae,stEq,costV N hr'.view (aT3 nv2) hd,hw]
    exact⟨true,rfl,rfl⟩
   ·exact hq'.elim
   ·exact absurd (c2.symm.trans hq'.1.2.2.2.2.2.2.1) (by decide)
 obtain⟨r,e,rfl⟩:=main;exact e
end Go.UK
