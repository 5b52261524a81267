/- A part of the proof: what the functions of the program compute. -/
import Derived.Test.YtghnafefpogjjaaGreatJ3
open BitVec renaming ofInt→ba
open Int renaming ediv_lt_of_lt_mul→jm,ediv_nonneg→cu,eq_ofNat_of_zero_le→bh,mul_add→fh,mul_le_mul→gs,mul_nonneg→ef,mul_one→fu,mul_zero→f9,tdiv→bo,zero_add→gw
open List renaming getElem?_eq_getElem→af,getElem_mem→bp,map_append→dc,mem_of_getElem?→b9,range→bu,range_succ→jc
open Nat renaming add_comm→ib,add_mul_div_right→jp,add_mul_mod_self_right→j3,div_eq_of_lt→lf,le_trans→f8,mod_eq_of_lt→le,mul_le_mul→j7,succ_mul→lh,zero_mul→ic
open Option renaming bind→aa,bind_some→ae
namespace Go.UK
open Go Go.Proofs
set_option maxRecDepth 20000
set_option maxHeartbeats 2000000
set_option linter.all false
theorem TU.map{ι ρ α β:Type}{f:ι->Option ρ}{P:α->Prop}{P':β->Prop}{S:ι->α->ρ->Prop}{S':ι->β->ρ->Prop}(h:TU f P S)(g:α->β)(hp:∀a,P a->P' (g a))(hs:∀i a r,P a->S i a r->S' i (g a) r):TU f P' S':=by
 obtain⟨a,pa,h⟩:=h;refine⟨g a,hp a pa,λi=>?_⟩
 obtain⟨r,e,s⟩:=h i;exact⟨r,e,hs i a r pa s⟩
def exC(c n:Int):Prop:=c=n
theorem aNZ{a b n m:Int}(h:exC a n)(h':exC b m):exC (a+b) (n+m):=by unfold exC at *;omega
theorem aHl{a n m:Int}(h:exC a n)(e:n=m):exC a m:=e▸h
theorem aRH : exC 0 0:=rfl
def aE7(s:aG)(m:aF):Prop:=((m.gA4 = -1/\m.gB6=0)\/((0<=m.gA4/\m.gA4 < (s.gR.length:Int))/\(m.gB6=0\/m.gB6=1)))/\cJ m.gK/\vin m.gC6
def aIq(s:aG):Prop:=∀t∈s.gE,0<=t.gA4/\t.gA4 < (s.gR.length:Int)
theorem sm0(s:aG):aE7 s (aF.mk (aA.mk 0 0 0) 0 0 (aA.mk 0 0 0) (-1)):=⟨Or.inl ⟨rfl,rfl⟩,z64,z64,z64,z64⟩
set_option maxHeartbeats 4000000
section
variable {ι:Type} {N:Nat} (hN:4100 < N) {b:List (List aD)} {s:aG} {v:aI} {sky:aA} (hr:Rdy b s v sky)
structure DrkS(D:Prop)(s:aG)(sky:aA):Prop where
 sky:D->sky=v0
 lights:D->s.gF=[]
 mats:D->∀m∈s.gA6,m.gJ≠4
include hN
theorem aIp(x:Int)(ray:ι->aJ)(f l:ι->aA)(dep:Int)(ov:ι->Bool)(sm:ι->aF)(st:ι->aE)(src:aB)(sw:ι->aK) :
  TC (λi=>cM N b x (ray i) (f i) (l i) dep (ov i) (sm i) s v sky (st i) src (sw i)) (λ_=>True):=by
 obtain⟨a,e,_⟩:=nextT N (by omega) dep x src;refine⟨(a.1,a.2),trivial,λi=>?_⟩
 unfold cM;rw[e];rfl
theorem addS(D:Prop){c:List aA}(hc:∀x∈c,vin x)(hl:c.length<=2)(ray:ι->aJ){f l:aA}(hf:vin f)(hlv:vin l)(hd:D->l=v0/\c=[v0])(dep:Int)(ov:Bool)(sm:ι->aF)(st:ι->aE)(src:ι->aB)(sw:ι->aK) :
  TC (λi=>eP N b c (ray i) f l dep ov (sm i) s v sky (st i) (src i) (sw i)) (λr=>vin r/\(D->r=v0)):=by
 unfold eP;refine TC.cond (λ_=>?_) (λ_=>TC.ret _ ⟨hlv,λh=>(hd h).1⟩)
 refine TC.t (P:=λz=>z=[f]++c) ⟨_,hJ (by simp;omega),rfl⟩ λz hz=>?_;subst hz;refine TC.t (P:=λr=>vin r/\(D->r=v0)) ?_ λr2 h2=>?_
 ·by_cases hD:D
  ·rw[(hd hD).2]
   exact⟨_,aTK (by omega) hf,aCK,λ_=>rfl⟩
  ·exact(aFF (by omega) _ (by intro x hx;simp at hx;rcases hx with rfl | hx;exact hf;exact hc x hx) (by simp;omega)).mono λr h=>⟨h,λh=>absurd h hD⟩
 ·refine TC.t (P:=λr=>r=aGR l r2) ⟨_,aLh (by omega) hlv h2.1,rfl⟩ λr3 h3=>TC.ret _ ⟨by rw[h3];exact sL _ _,λh=>?_⟩
  rw[h3,h2.2 h,(hd h).1];rfl
omit hN in
theorem aGB(x:ι->Bool)(ray:ι->aJ)(f l:ι->aA)(dep:Int)(ov:ι->Bool)(sm:ι->aF)(st:ι->aE)(src:ι->aB)(sw:ι->aK) :
  TC (λi=>eQ N b (x i) (ray i) (f i) (l i) dep (ov i) (sm i) s v sky (st i) (src i) (sw i)) (λ_=>True):=⟨(),trivial,λi=>rfl⟩
include hr
theorem meetS{gl:List aH}(hsw:aBx s.gE.length gl)(hcon:v.gT=true)(hfit:(s.gF.length:Int)<=(cV v.gL).2)(hobj:aIq s){ray:aJ}(hray:aBT ray)(f l:aA)(dep:Int)(ov:Bool){sm:aF}(hsm:aE7 s sm)(st:ι->aE)(src:aB)(t:ι->Int) :
  TU (λi=>iI N b ray f l dep ov sm s v sky (st i) src (swp gl (t i))) (λa:(aF×aT×Bool)×Int×Int=>(aC9 a.1.2.1/\(a.1.2.1.gG∈s.gA6\/a.1.2.1.gG.gJ=0)/\aE7 s a.1.1)/\exC a.2.1 (gl.length:Int)/\exC a.2.2 4) (λi a r=>∃x t',r=(a.1.1,x,swp gl t',a.1.2.1,a.1.2.2)/\fC (t i) t' a.2.1/\fC (st i).gQ x a.2.2):=by
 unfold iI;refine TU.t (P:=λ_=>True) (T.cond (λ_=>T.ret trivial) (λ_=>T.ret trivial)) λp1 _=>?_;refine TU.bind (aLs N (by omega) hsw ray.go ray.gd p1 ray.gD2 t) λa ha r hr'=>?_;have h':∃t':ι->Int,∀i,r i=(swp gl (t' i),a)/\fC (t i) (t' i) (gl.length:Int):=⟨λi=>(hr' i).choose,λi=>(hr' i).choose_spec⟩
 obtain⟨t',e''⟩:=h';have e':∀i,r i=(swp gl (t' i),a):=λi=>(e'' i).1;simp only[e']
 have hx:∀i,∃x,(cond v.gT (some (I64 ((st i).gQ+4))) (some (st i).gQ))=some x/\fC (st i).gQ x 4:=λi=>⟨_,by rw[hcon];rfl,bC (aJR _) (aJT _),λ_=>dM _⟩
 have hx':∃x:ι->Int,∀i,(cond v.gT (some (I64 ((st i).gQ+4))) (some (st i).gQ))=some (x i)/\fC (st i).gQ (x i) 4:=⟨λi=>(hx i).choose,λi=>(hx i).choose_spec⟩
 obtain⟨x,ex⟩:=hx';simp only[λi=>(ex i).1,ae]
 refine TU.cond (λ_=>?_) (λhc=>?_)
 ·exact TU.ret ((sm,aT.mk 0 (aC.mk 0 0 0) (aA.mk 0 0 0) (aA.mk 0 0 0) (aP.mk 0 (#v[0,0,0]) 0) false,false),(gl.length:Int),4) ⟨⟨⟨⟨z64,z64,z64⟩,aCK,aCK,mat0⟩,Or.inr rfl,hsm⟩,rfl,rfl⟩ λi=>⟨x i,t' i,rfl,(e'' i).2,(ex i).2⟩
 have h0:=of_decide_eq_false hc;refine TU.t (T.idx (by omega) (by omega)) λe4 h4=>?_;have ht:=hr.tri e4 (b9 h4)
 refine TU.t (T.inRO (by decide) (by decide)) λ_ _=>TU.t (T.vg (i:=1) (by decide)) λe6 _=>TU.t (T.inRO (by decide) (by decide)) λ_ _=>TU.t (T.vg (i:=0) (by decide)) λe8 _=>TU.t (aIk N _ _) λr9 _=>?_;refine TU.t (T.inRO (by decide) (by decide)) λ_ _=>TU.t (T.vg (i:=2) (by decide)) λe11 _=>TU.t (T.inRO (by decide) (by decide)) λ_ _=>TU.t (T.vg (i:=0) (by decide)) λe13 _=>TU.t (aIk N _ _) λr14 _=>?_;refine TU.t (aH4 N _ _) λr15 _=>TU.t (aKY (by omega) r15) λr16 h16=>?_;refine TU.t (P:=λp:aT=>pin p.gat/\vin p.gn/\aBS p.gG/\p.gG∈s.gA6) ?_ λp17 h17=>?_
 ·refine T.bind (aMZ (by omega) hray.1 hray.2 ha.2) λr18 h18=>T.bind (aKG (by omega) h16 ray.gd) λr19 h19=>T.bind (T.idx ht.1.1 ht.1.2) λe20 h20=>?_;have hm:=b9 h20;refine T.cond (λ_=>?_) (λ_=>T.ret ⟨h18,h19,hr.mat _ hm,hm⟩)
  rw[aR]
  exact T.ret ⟨h18,h19,hr.mat _ hm,hm⟩
 have hy:∃(lv:List aD) (tc:Int),(aFZ lv/\exC tc 4)/\∀i,∃y,(cond (decide (e4.gB3>=0)) (aa (idx b e4.gB3) λe23=>cond (!v.gT) (some ((I64 (x i+4),e23))) (some ((x i,e23)))) (some ((x i,[]))))=some (y,lv)/\fC (st i).gQ y tc:=by
  by_cases h:e4.gB3>=0
  ·obtain⟨lv,e,hl⟩:=T.idx h ht.2.1;refine⟨lv,4,⟨hr.lev lv (b9 hl),rfl⟩,λi=>?_⟩
   rw[dt h,cond_true,e,ae,hcon]
   exact⟨x i,rfl,(ex i).2⟩
  ·refine⟨[],4,⟨⟨by simp,λt h=>absurd h (by simp)⟩,rfl⟩,λi=>?_⟩
   rw[df h,cond_false]
   exact⟨x i,rfl,(ex i).2⟩
 obtain⟨lv,tc,⟨hlv,htc⟩,hy⟩:=hy;have hy':∃y:ι->Int,∀i,(cond (decide (e4.gB3>=0)) (aa (idx b e4.gB3) λe23=>cond (!v.gT) (some ((I64 (x i+4),e23))) (some ((x i,e23)))) (some ((x i,[]))))=some (y i,lv)/\fC (st i).gQ (y i) tc:=⟨λi=>(hy i).choose,λi=>(hy i).choose_spec⟩
 obtain⟨y,ey⟩:=hy';simp only[λi=>(ey i).1,ae]
 refine TU.t (aHi (by omega) h17.2.2.1.1 hlv ht.2.2.1 ha.2 _) λr24 h24=>?_;refine TU.t (P:=aE7 s) ?_ λp25 h25=>?_
 ·rw[aR]
  have ho:=hobj e4 (b9 h4)
  refine T.cond (λ_=>?_) (λ_=>T.ret hsm)
  refine T.eq (zK _ h17.1) (T.eq (zK _ hray.1) (T.eq (aEU _ (zD _) (zD _)) (T.bind (aKj (by omega) (aD9 _ _)) λr hr=>T.cond (λ_=>T.ret ⟨Or.inr ⟨ho,Or.inl rfl⟩,hr,h17.2.1⟩) (λ_=>T.ret ⟨Or.inr ⟨ho,Or.inr rfl⟩,hr,h17.2.1⟩))))
 ·exact TU.ret ((p25,aT.mk p17.gi p17.gat p17.gn r24 p17.gG p17.gB7,true),(gl.length:Int),tc) ⟨⟨⟨h17.1,h17.2.1,h24,h17.2.2.1⟩,Or.inl h17.2.2.2,h25⟩,rfl,htc⟩ λi=>⟨y i,t' i,rfl,(e'' i).2,(ey i).2⟩
end
section
variable {ι:Type} {N:Nat} (hN:1000000000000 < N) {b:List (List aD)} {s:aG} {v:aI} {sky:aA} (hr:Rdy b s v sky)
include hN
omit hN in
theorem aO2(x:ι->Bool)(ray:ι->aJ)(f l:ι->aA)(dep:Int)(ov:ι->Bool)(sm:ι->aF)(st:ι->aE)(src:ι->aB)(sw:ι->aL) :
  TC (λi=>fJ N b (x i) (ray i) (f i) (l i) dep (ov i) (sm i) s v sky (st i) (src i) (sw i)) (λ_=>True):=⟨(),trivial,λi=>rfl⟩
include hr
end
section
variable {ι:Type} {N:Nat} (hN:4100 < N) {b:List (List aD)} {s:aG} {v:aI} {sky:aA} (hr:Rdy b s v sky)
include hN hr
theorem aS1{gl:List aH}(hsw:aBx s.gE.length gl)(hcon:v.gT=true)(hfit:(s.gF.length:Int)<=(cV v.gL).2){D:Prop}(hD:DrkS D s sky){pl:aT}(hp:aC9 pl)(ray:aJ){f l:aA}(hf:vin f)(hl:vin l)(hl0:D->l=v0)(dep:Int)(ov:Bool)(sm:aF)(st:ι->aE)(src:aB)(t:ι->Int) :
  TU (λi=>fL N b pl ray f l dep ov sm s v sky (st i) src (swp gl (t i))) (λa:(aA×aB)×Int=>(vin a.1.1/\(D->a.1.1=v0))/\exC a.2 ((gl.length:Int)*(cV v.gL).2)) (λi a r=>∃t',r=(a.1.1,a.1.2,swp gl t')/\fC (t i) t' a.2):=by
 unfold fL;have l5:=hr.lights;simp only[aR]
 refine TU.bind (P:=λa:(aA×aB)×Int=>(vin a.1.1/\(D->a.1.1=v0))/\exC a.2 ((gl.length:Int)*(s.gF.length:Int))) (S:=λi a r=>∃t',r=(a.1.1,a.1.2,swp gl t')/\fC (t i) t' a.2) ?_ λa ha r hr'=>?_
 ·refine TU.loop0 (n:=s.gF.length) (λj (x:(aA×aB)×Int) t'=>((vin x.1.1/\(D->x.1.1=v0))/\exC x.2 ((gl.length:Int)*(j:Int)))/\∀i,fC (t i) (t' i) x.2) (F:=λi k t' (x:(aA×aB)×Int) j=>dC N (s.gF.length:Int) s b ray f dep ov sm v sky (st i) pl k x.1.1 x.1.2 (swp gl t') j) (λk t' x j hj hx hk=>?_) (λk t' x hx=>?_) (by omega) (s:=((l,src),0)) (h:=t) ⟨⟨⟨hl,hl0⟩,aHl aRH (by rw[show((0:Nat):Int)=0 from rfl,f9])⟩,λi=>vK _⟩
  ·have nd:¬D:=λh=>by have:=hD.lights h;rw[this] at hj;exact absurd hj (by simp)
   have hlj:=hr.light _ (bp hj)
   simp only[dC,dt (show(j:Int) < (s.gF.length:Int) by omega),cond_true,aR]
   refine TU.bind (P:=λa:(aA×aB×aQ×jH)×Int=>(vin a.1.1/\(D->a.1.1=v0))/\exC a.2 (gl.length:Int)) (S:=λi a r=>∃tn,r=(a.1.1,a.1.2.1,swp gl (tn),a.1.2.2.1,a.1.2.2.2)/\fC (t' i) tn a.2) ?_ λa ha r hr'=>?_
   ·refine TU.e (a:=s.gF[j]) (λi=>by rw[eK,af hj]) ?_;refine TU.c (aIp hN _ _ _ _ _ _ _ _ _ _) λr10 _=>TU.c (aIp hN _ _ _ _ _ _ _ _ _ _) λr12 _=>?_;refine TU.t (aPp (by omega) hlj pl.gat hp.2.1 _) λr13 h13=>?_;refine TU.cond (λhc=>by rw[hcon] at hc;cases hd:r13.gC3 <;> rw[hd] at hc <;> cases hc) (λ_=>?_)
    refine TU.bind (P:=λa:Bool×Int=>exC a.2 (gl.length:Int)) (S:=λi a r=>∃tn,r=(swp gl (tn),a.1)/\fC (t' i) tn a.2) ?_ λan han ra hra=>?_
    ·refine TU.bind (anyU N (by omega) hsw pl.gat r13.gC7 2 pl.gi (!r13.gC8) t') λan _ ra hra=>?_;have hnc:exC (gl.length:Int) (gl.length:Int):=rfl;have hn:∃tn:ι->Int,∀i,ra i=(swp gl (tn i),an)/\fC (t' i) (tn i) (gl.length:Int):=⟨λi=>(hra i).choose,λi=>(hra i).choose_spec⟩
     obtain⟨tn,en⟩:=hn;simp only[λi=>(en i).1]
     exact TU.cond (λ_=>TU.cond (λ_=>TU.ret (_,(gl.length:Int)) hnc λi=>⟨tn i,rfl,(en i).2⟩) (λ_=>TU.ret (false,(gl.length:Int)) hnc λi=>⟨tn i,rfl,(en i).2⟩)) (λ_=>TU.ret (false,(gl.length:Int)) hnc λi=>⟨tn i,rfl,(en i).2⟩)
    ·have hn:∃tn:ι->Int,∀i,ra i=(swp gl (tn i),an.1)/\fC (t' i) (tn i) an.2:=⟨λi=>(hra i).choose,λi=>(hra i).choose_spec⟩
     obtain⟨tn,en⟩:=hn;simp only[λi=>(en i).1]
     refine TU.cond (λ_=>?_) (λ_=>TU.ret ((_,_,_,_),an.2) ⟨hx.1.1,han⟩ λi=>⟨tn i,rfl,(en i).2⟩)
     refine TU.c (addS hN D (by intro y hy;simp at hy;rcases hy with rfl | rfl;exact hp.2.2.1;exact h13) (by simp) _ hf hx.1.1.1 (λh=>absurd h nd) _ _ _ _ _ _) λr17 h17=>TU.ret ((_,_,_,_),an.2) ⟨h17,han⟩ λi=>⟨tn i,rfl,(en i).2⟩
   ·have hn:∃tn:ι->Int,∀i,r i=(a.1.1,a.1.2.1,swp gl (tn i),a.1.2.2.1,a.1.2.2.2)/\fC (t' i) (tn i) a.2:=⟨λi=>(hr' i).choose,λi=>(hr' i).choose_spec⟩
    obtain⟨tn,en⟩:=hn;simp only[λi=>(en i).1]
    rw[dI (by omega)]
    exact hk ((a.1.1,a.1.2.1),x.2+a.2) tn ⟨⟨ha.1,aHl (aNZ hx.1.2 ha.2) (by rw[show((j+1:Nat):Int)=(j:Int)+1 from by omega,fh,fu])⟩,λi=>zG (hx.2 i) (en i).2⟩
  ·simp only[dC,df (show ¬(s.gF.length:Int) < (s.gF.length:Int) by omega),cond_false]
   exact TU.ret x hx.1 λi=>⟨t' i,rfl,hx.2 i⟩
 have h2:∃t2:ι->Int,∀i,r i=(a.1.1,a.1.2,swp gl (t2 i))/\fC (t i) (t2 i) a.2:=⟨λi=>(hr' i).choose,λi=>(hr' i).choose_spec⟩
 obtain⟨t2,e2⟩:=h2;simp only[λi=>(e2 i).1]
 simp only[hcon,Bool.not_true,cond_false,aGz,ae,aR]
 obtain⟨n,hn⟩:=bh (show 0<=(cV v.gL).2 - (s.gF.length:Int) by omega)
 have cl:(cV v.gL).2 < 1000:=by unfold cV;cases (v.gL==0) <;> cases (v.gL==1) <;> cases (v.gL==2) <;> decide
 have ig:I64 ((cV v.gL).2 - (s.gF.length:Int))=(n:Int):=by rw[hn,bC (by omega) (by omega)]
 refine TU.bind (P:=λ_:Unit=>True) (S:=λi _ r=>∃t',r=swp gl t'/\fC (t2 i) t' ((gl.length:Int)*(n:Int))) ?_ λ_ _ r hr'=>?_
 ·refine TU.loop0 (n:=n) (λj (_:Unit) t'=>∀i,fC (t2 i) (t' i) ((gl.length:Int)*(j:Int))) (F:=λi k t' (_:Unit) j=>cZ N (cV v.gL) (s.gF.length:Int) pl k (swp gl t') j) (λk t' _ j hj hx hk=>?_) (λk t' _ hx=>?_) (by omega) (s:=()) (h:=t2) (λi=>by rw[show((0:Nat):Int)=0 from rfl,f9];exact vK _)
  ·simp only[cZ,aR,ig,dt (show(j:Int) < (n:Int) by omega),cond_true]
   refine TU.bind (anyU N (by omega) hsw pl.gat (aC.mk 0 0 0) 2 pl.gi false t') λan _ ra hra=>?_;have hn:∃tn:ι->Int,∀i,ra i=(swp gl (tn i),an)/\fC (t' i) (tn i) (gl.length:Int):=⟨λi=>(hra i).choose,λi=>(hra i).choose_spec⟩
   obtain⟨tn,en⟩:=hn;simp only[λi=>(en i).1]
   rw[dI (by omega)]
   exact hk () tn λi=>aKb (zG (hx i) (en i).2) (by rw[show((j+1:Nat):Int)=(j:Int)+1 from by omega,fh,fu])
  ·simp only[cZ,aR,ig,df (show ¬(n:Int) < (n:Int) by omega),cond_false]
   exact TU.ret () trivial λi=>⟨t' i,rfl,hx i⟩
 ·have h3:∃t3:ι->Int,∀i,r i=swp gl (t3 i)/\fC (t2 i) (t3 i) ((gl.length:Int)*(n:Int)):=⟨λi=>(hr' i).choose,λi=>(hr' i).choose_spec⟩
  obtain⟨t3,e3⟩:=h3;simp only[λi=>(e3 i).1]
  exact TU.ret (a.1,a.2+(gl.length:Int)*(n:Int)) ⟨ha.1,by have h:=ha.2;unfold exC at *;dsimp only;rw[h,<- fh];congr 1;omega⟩ λi=>⟨t3 i,rfl,zG (e2 i).2 (e3 i).2⟩
end
section
variable {ι:Type} {N:Nat} (hN:1000000000000 < N) {b:List (List aD)} {s:aG} {v:aI} {sky:aA} (hr:Rdy b s v sky)
include hN hr
end
section
variable {ι:Type} {N:Nat} (hN:4100 < N) {b:List (List aD)} {s:aG} {v:aI} {sky:aA} (hr:Rdy b s v sky)
include hN hr
theorem stepS{gl:List aH}(hsw:aBx s.gE.length gl)(hcon:v.gT=true)(hfit:(s.gF.length:Int)<=(cV v.gL).2)(hobj:aIq s){D:Prop}(hD:DrkS D s sky){ray:aJ}(hray:aBT ray){f l:aA}(hf:vin f)(hl:vin l)(hl0:D->l=v0)(dep:Int)(ov:Bool){sm:aF}(hsm:aE7 s sm)(st:ι->aE)(src:aB)(t:ι->Int) :
  TU (λi=>iH N b ray f l dep ov sm s v sky (st i) src (swp gl (t i))) (λa:(aJ×aA×aA×Bool×aF×aB)×Int×Int=>(aBT a.1.1/\vin a.1.2.1/\vin a.1.2.2.1/\(D->a.1.2.2.1=v0)/\aE7 s a.1.2.2.2.2.1)/\exC a.2.1 ((gl.length:Int)*(1+(cV v.gL).2))/\exC a.2.2 4) (λi a r=>∃x t',r=(a.1.1,a.1.2.1,a.1.2.2.1,a.1.2.2.2.1,a.1.2.2.2.2.1,x,a.1.2.2.2.2.2,swp gl t')/\fC (t i) t' a.2.1/\fC (st i).gQ x a.2.2):=by
 unfold iH;refine TU.bind (meetS hN hr hsw hcon hfit hobj hray f l dep ov hsm st src t) λa ha r hr'=>?_;obtain⟨a,mc,tc⟩:=a;obtain⟨ha,hmc,htc⟩:=ha;dsimp only at ha hmc htc hr';have h1:∃(x t1:ι->Int),∀i,r i=(a.1,x i,swp gl (t1 i),a.2.1,a.2.2)/\fC (t i) (t1 i) mc/\fC (st i).gQ (x i) tc:=⟨λi=>(hr' i).choose,λi=>(hr' i).choose_spec.choose,λi=>(hr' i).choose_spec.choose_spec⟩
 obtain⟨x,t1,e1⟩:=h1;simp only[λi=>(e1 i).1]
 obtain⟨hp,hm,hs⟩:=ha;have nd:∀h:(a.2.1.gG.gJ==4)=true,¬D:=λh d=>by
  have h4:a.2.1.gG.gJ=4:=by simpa using h
  rcases hm with hm | hm
  ·exact hD.mats d _ hm h4
  ·rw[hm] at h4;cases h4
 generalize a.2.1=pl at *;refine TU.c (P:=λp:aA×Bool=>vin p.1/\(D->p.1=v0)) (TC.cond (λ_=>TC.bind (addS hN D (by intro y hy;simp at hy;rcases hy with rfl;exact hr.sky) (by simp) _ hf hl (λd=>⟨hl0 d,by rw[hD.sky d]⟩) _ _ _ _ _ _) λr3 h3=>TC.bind (aGB _ _ _ _ _ _ _ _ _ _) λ_ _=>TC.ret _ h3) (λ_=>TC.ret _ ⟨hl,hl0⟩)) λp2 h2=>?_;refine TU.c (aGB _ _ _ _ _ _ _ _ _ _) λ_ _=>?_;simp only[aR]
 refine TU.c (P:=λp:aA×Bool=>vin p.1/\(D->p.1=v0)) (TC.cond (λhc=>TC.bind (addS hN D (by intro y hy;simp at hy;rcases hy with rfl;exact hp.2.2.1) (by simp) _ hf h2.1 (λd=>absurd d (nd hc)) _ _ _ _ _ _) λr3 h3=>TC.bind (aGB _ _ _ _ _ _ _ _ _ _) λ_ _=>TC.ret _ h3) (λ_=>TC.ret _ h2)) λp6 p6l=>?_;refine TU.bind (P:=λz:(aA×aB)×Int=>(vin z.1.1/\(D->z.1.1=v0))/\exC z.2 ((gl.length:Int)*(cV v.gL).2)) (S:=λi z r=>∃t2,r=(z.1.1,z.1.2,swp gl t2)/\fC (t1 i) t2 z.2) ?_ λz hz rz hrz=>?_
 ·simp only[hcon,cond_true,ae]
  refine TU.bind (aS1 hN hr hsw hcon hfit hD hp (ι:=ι) ray hf p6l.1 p6l.2 dep p6.2 a.1 _ src t1) λz hz rz hrz=>?_;have h2:∃t2:ι->Int,∀i,rz i=(z.1.1,z.1.2,swp gl (t2 i))/\fC (t1 i) (t2 i) z.2:=⟨λi=>(hrz i).choose,λi=>(hrz i).choose_spec⟩
  obtain⟨t2,e2⟩:=h2;simp only[λi=>(e2 i).1]
  exact TU.ret ((z.1.1,z.1.2),z.2) hz λi=>⟨t2 i,rfl,(e2 i).2⟩
 have h2':∃t2:ι->Int,∀i,rz i=(z.1.1,z.1.2,swp gl (t2 i))/\fC (t1 i) (t2 i) z.2:=⟨λi=>(hrz i).choose,λi=>(hrz i).choose_spec⟩
 obtain⟨t2,e2⟩:=h2';simp only[λi=>(e2 i).1]
 obtain⟨z,zc⟩:=z;obtain⟨hz,hzc⟩:=hz;dsimp only at hz hzc e2;have rt:∀i,fC (t i) (t2 i) (mc+zc):=λi=>zG (e1 i).2.1 (e2 i).2;have rc:exC (mc+zc) ((gl.length:Int)*(1+(cV v.gL).2)):=aHl (aNZ hmc hzc) (by rw[fh,fu])
 refine TU.t (P:=λ_=>True) (T.cond (λ_=>T.ret trivial) (λ_=>T.ret trivial)) λp14 _=>TU.cond (λ_=>?_) (λ_=>?_)
 ·exact TU.c (aGB _ _ _ _ _ _ _ _ _ _) λ_ _=>TU.ret ((ray,f,z.1,_,a.1,z.2),mc+zc,tc) ⟨⟨hray,hf,hz.1,hz.2,hs⟩,rc,htc⟩ λi=>⟨x i,t2 i,rfl,rt i,(e1 i).2.2⟩
 refine TU.c (aIp hN _ _ _ _ _ _ _ _ _ _) λr16 _=>TU.c (aIp hN _ _ _ _ _ _ _ _ _ _) λr17 _=>?_;refine TU.t (aHu (by omega) hp.2.2.2 hp.2.2.1 hp.2.1 ray.gd _) λr18 h18=>TU.t (aFF (by omega) _ (by intro y hy;simp at hy;rcases hy with rfl | rfl;exact hf;exact h18.2) (by simp)) λr19 h19=>?_;refine TU.c (aGB _ _ _ _ _ _ _ _ _ _) λ_ _=>?_;refine TU.c (P:=λp:aA×Bool×aB=>vin p.1) ?_ λp21 h21=>?_
 ·refine TC.cond (λ_=>TC.bind (aIp hN _ _ _ _ _ _ _ _ _ _) λr22 _=>TC.t (aFd (by omega) h19 _) λr23 h23=>TC.bind (aGB _ _ _ _ _ _ _ _ _ _) λ_ _=>TC.ret _ h23) (λ_=>TC.ret _ h19)
 ·exact TU.ret ((_,p21.1,z.1,p21.2.1,a.1,p21.2.2),mc+zc,tc) ⟨⟨⟨hp.1,h18.1⟩,h21,hz.1,hz.2,hs⟩,rc,htc⟩ λi=>⟨x i,t2 i,rfl,rt i,(e1 i).2.2⟩
def inVS(v:aI)(x y z:Int):Prop:=(0<=x/\x < v.gW)/\(0<=y/\y < v.gH)/\0<=z/\z < v.gB1
theorem pathS{gl:List aH}(hsw:aBx s.gE.length gl)(hcon:v.gT=true)(hfit:(s.gF.length:Int)<=(cV v.gL).2)(hobj:aIq s){D:Prop}(hD:DrkS D s sky)(x y z:Int)(st:ι->aE)(t:ι->Int) :
  TU (λi=>dW N b x y z s v sky (st i) (swp gl (t i))) (λa:(aF×Int)×Int×Int×Int=>(D->a.1.1.gB5=v0)/\(inVS v x y z->a.1.2=0)/\(a.1.2=0/\(aE7 s a.1.1/\vin a.1.1.gB5)/\exC a.2.1 ((gl.length:Int)*(1+(cV v.gL).2)*(v.gK+1))/\exC a.2.2.1 (4*(v.gK+1))/\exC a.2.2.2 (v.gK+1)\/a.1.2=2)) (λi a r=>∃st' t',r=(st',swp gl t',a.1.1,a.1.2)/\st'.gN=(st i).gN/\fC (t i) t' a.2.1/\fC (st i).gQ st'.gQ a.2.2.1/\fC (st i).gM st'.gM a.2.2.2):=by
 unfold dW rM;simp only[aR,ae]
 refine TU.cond (λhc=>TU.ret ((aF.mk (aA.mk 0 0 0) 0 0 (aA.mk 0 0 0) 0,2),0,0,0) ⟨λ_=>rfl,λh=>?_,Or.inr rfl⟩ λi=>⟨st i,t i,rfl,rfl,vK _,vK _,vK _⟩) (λ_=>?_)
 ·exfalso;obtain⟨⟨h1,h2⟩,⟨h3,h4⟩,h5,h6⟩:=h;rw[df (show ¬x < 0 by omega),df (show ¬x>=v.gW by omega),df (show ¬y < 0 by omega),df (show ¬y>=v.gH by omega),df (show ¬z < 0 by omega),df (show ¬z>=v.gB1 by omega)] at hc;cases hc
 refine TU.c (P:=λ_=>True) ?_ λp8 _=>?_
 ·have main:∀(k j:Nat) (src:aB) (q:Vector Int 4),4 - j < k->j<=4->TC (λi=>dS N b s v sky (st i) (swp gl (t i)) k src q (j:Int)) (λ_=>True):=by
   intro k
   induction k with
   | zero=>intro j src q h;omega
   | succ k ih=>
    intro j src q hk hj;simp only[dS]
    refine TC.cond (λhc=>?_) (λ_=>TC.ret _ trivial)
    have hj4:j < 4:=by have:=of_decide_eq_true hc;omega
    refine TC.bind (aIp (by omega) _ _ _ _ _ _ _ _ _ _) λr12 _=>TC.t (T.inRO (by omega) (by omega)) λ_ _=>TC.t (T.vgI hj4) λ_ _=>?_;rw[dI (by omega)]
    exact ih (j+1) _ _ (by omega) (by omega)
  exact main N 0 _ _ (by omega) (by decide)
 refine TU.t (rayN (by omega) _ _ _ _ _ _) λr15 h15=>?_;obtain⟨_,_,⟨d0,d8⟩,_⟩:=hr.view;obtain⟨n,hn⟩:=bh (show 0<=v.gK+1 by omega)
 refine TU.bind (P:=λa:(aB×aJ×aA×aA×Bool×aF)×Int×Int×Int=>(aBT a.1.2.1/\vin a.1.2.2.1/\vin a.1.2.2.2.1/\(D->a.1.2.2.2.1=v0)/\aE7 s a.1.2.2.2.2.2)/\exC a.2.1 ((gl.length:Int)*(1+(cV v.gL).2)*(n:Int))/\exC a.2.2.1 (4*(n:Int))/\exC a.2.2.2 (n:Int)) (S:=λi a r=>∃(st':aE) (t':Int),∃dd:Int,r=(st',swp gl t',a.1.1,a.1.2.1,a.1.2.2.1,a.1.2.2.2.1,dd,a.1.2.2.2.2.1,a.1.2.2.2.2.2)/\st'.gN=(st i).gN/\fC (t i) t' a.2.1/\fC (st i).gQ st'.gQ a.2.2.1/\fC (st i).gM st'.gM a.2.2.2) ?_ λa ha r hr'=>?_
 ·refine TU.loop0 (n:=n) (λj (x:(aB×aJ×aA×aA×Bool×aF)×Int×Int) (h:ι->aE×Int)=>(((aBT x.1.2.1/\vin x.1.2.2.1/\vin x.1.2.2.2.1/\(D->x.1.2.2.2.1=v0)/\aE7 s x.1.2.2.2.2.2)/\exC x.2.1 ((gl.length:Int)*(1+(cV v.gL).2)*(j:Int))/\exC x.2.2 (4*(j:Int))))/\∀i,(h i).1.gN=(st i).gN/\fC (t i) (h i).2 x.2.1/\fC (st i).gQ (h i).1.gQ x.2.2/\fC (st i).gM (h i).1.gM (j:Int)) (F:=λi k (h:aE×Int) (x:(aB×aJ×aA×aA×Bool×aF)×Int×Int) j=>cD N v b s sky k h.1 (swp gl h.2) x.1.1 x.1.2.1 x.1.2.2.1 x.1.2.2.2.1 j x.1.2.2.2.2.1 x.1.2.2.2.2.2) (λk h x j hj hx hk=>?_) (λk h x hx=>?_) (by omega) (s:=((p8.1,aJ.mk r15.1 r15.2.1 (-1),aA.mk 4294967296 4294967296 4294967296,aA.mk 0 0 0,false,aF.mk (aA.mk 0 0 0) 0 0 (aA.mk 0 0 0) (-1)),0,0)) (h:=λi=>(st i,t i)) ⟨⟨⟨h15,aRA,aCK,λ_=>rfl,sm0 s⟩,aHl aRH (by rw[show((0:Nat):Int)=0 from rfl,f9]),aHl aRH (by rfl)⟩,λi=>⟨rfl,vK _,vK _,vK _⟩⟩
  ·simp only[cD,aR,dt (show(j:Int)<=v.gK by omega),cond_true]
   simp only[hcon]
   refine TU.t (P:=λr=>r=true) (by cases x.1.2.2.2.2.1 <;> exact⟨_,rfl,rfl⟩) λp26 h26=>?_;rw[h26]
   simp only[cond_true]
   obtain⟨⟨⟨x1,x2,x3,x4,x6⟩,x7,x8⟩,x5⟩:=hx;refine TU.bind (stepS hN hr hsw hcon hfit hobj hD x1 x2 x3 x4 (j:Int) x.1.2.2.2.2.1 x6 (λi=>(h i).1) x.1.1 (λi=>(h i).2)) λa ha r hr'=>?_;have h1:∃(y t1:ι->Int),∀i,r i=(a.1.1,a.1.2.1,a.1.2.2.1,a.1.2.2.2.1,a.1.2.2.2.2.1,y i,a.1.2.2.2.2.2,swp gl (t1 i))/\fC (h i).2 (t1 i) a.2.1/\fC (h i).1.gQ (y i) a.2.2:=⟨λi=>(hr' i).choose,λi=>(hr' i).choose_spec.choose,λi=>(hr' i).choose_spec.choose_spec⟩
   obtain⟨y,t1,e1⟩:=h1;simp only[λi=>(e1 i).1]
   rw[dI (by omega)]
   obtain⟨ha,hc1,hc2⟩:=ha;refine hk ((a.1.2.2.2.2.2,a.1.1,a.1.2.1,a.1.2.2.1,a.1.2.2.2.1,a.1.2.2.2.2.1),x.2.1+a.2.1,x.2.2+a.2.2) (λi=>(aE.mk (h i).1.gN (y i) (I64 ((h i).1.gM+1)),t1 i)) ⟨⟨ha,?_,?_⟩,λi=>⟨(x5 i).1,zG (x5 i).2.1 (e1 i).2.1,zG (x5 i).2.2.1 (e1 i).2.2,aKh (x5 i).2.2.2⟩⟩
   ·refine aHl (aNZ x7 hc1) ?_;generalize (gl.length:Int)*(1+(cV v.gL).2)=X;rw[show((j+1:Nat):Int)=(j:Int)+1 from by omega,fh,fu]
   ·exact aHl (aNZ x8 hc2) (by omega)
  ·simp only[cD,aR,df (show ¬(n:Int)<=v.gK by omega),cond_false,ae]
   exact TU.ret (x.1,x.2.1,x.2.2,(n:Int)) ⟨hx.1.1,hx.1.2.1,hx.1.2.2,rfl⟩ λi=>⟨_,_,_,rfl,hx.2 i⟩
 ·have h1:∃(st':ι->aE) (t':ι->Int) (dd:ι->Int),∀i,r i=(st' i,swp gl (t' i),a.1.1,a.1.2.1,a.1.2.2.1,a.1.2.2.2.1,dd i,a.1.2.2.2.2.1,a.1.2.2.2.2.2)/\(st' i).gN=(st i).gN/\fC (t i) (t' i) a.2.1/\fC (st i).gQ (st' i).gQ a.2.2.1/\fC (st i).gM (st' i).gM a.2.2.2:=⟨λi=>(hr' i).choose,λi=>(hr' i).choose_spec.choose,λi=>(hr' i).choose_spec.choose_spec.choose,λi=>(hr' i).choose_spec.choose_spec.choose_spec⟩
  obtain⟨st',t',dd,e1⟩:=h1;simp only[λi=>(e1 i).1]
  rw[hn]
  exact TU.ret ((aF.mk a.1.2.2.2.1 a.1.2.2.2.2.2.gB6 a.1.2.2.2.2.2.gK a.1.2.2.2.2.2.gC6 a.1.2.2.2.2.2.gA4,0),a.2) ⟨ha.1.2.2.2.1,λ_=>rfl,Or.inl ⟨rfl,⟨ha.1.2.2.2.2,ha.1.2.2.1⟩,ha.2⟩⟩ λi=>⟨st' i,t' i,rfl,(e1 i).2⟩
end
section
variable {ι:Type} {N:Nat} (hN:1000000000000 < N) {b:List (List aD)} {s:aG} {v:aI} {sky:aA} (hr:Rdy b s v sky)
include hN hr
end
set_option maxHeartbeats 2000000
theorem objT(N:Nat)(hN:10 < N)(s:aG)(t:aH):T (lW N s t) (λr=>r=0->0<=t.gA4/\t.gA4 < (s.gR.length:Int)):=by
 obtain⟨r,e,_⟩:=triT N hN s t;refine⟨r,e,λh=>?_⟩
 subst h;unfold lW at e;simp only[aR] at e;have tt:∀b:Bool,cond b true true=true:=λb=>by cases b <;> rfl
 by_cases h1:t.gA4 < 0
 ·rw[dt h1,tt] at e;cases e
 ·by_cases h2:t.gA4>=(s.gR.length:Int)
  ·rw[dt h2,tt] at e;cases e
  ·omega
theorem objsT(N:Nat)(hN:300 < N){s:aG}(h:few s)(e:jQ N s=some 0):aIq s/\s.gB0.length=s.gR.length:=by
 have h1:=h.1;have f:T (dU N s.gE s) (λr=>r=0->aIq s):=by
  unfold dU;refine aGy s.gE (λt=>jW N t s) (λt=>0<=t.gA4/\t.gA4 < (s.gR.length:Int)) (λk i=>by rw[eT]) (λt _=>?_) (by omega) (by omega)
  unfold jW;exact T.bind (objT N (by omega) s t) λr h=>T.ret h
 obtain⟨r,e1,hr⟩:=f;unfold jQ at e;simp only[aR] at e;cases c:((s.gB0.length:Int) != (s.gR.length:Int)) with
 | true=>rw[c] at e;cases e
 | false=>
  rw[c,cond_false,e1,ae] at e;have c':(s.gB0.length:Int)=(s.gR.length:Int):=by simpa using c
  refine⟨?_,by omega⟩
  cases d:(r != 0) with
  | true=>rw[d,cond_true] at e;cases e;cases d
  | false=>exact hr (by simpa using d)
theorem aRO{N:Nat}{s:aG}{v:aI}(h:aH7 N s v 0):jQ N s=some 0/\fits s v.gL:=by
 have f:∀{c:Int},oE N s c=some 0->fits s c:=by
  intro c e;obtain⟨r,e',h⟩:=aSa N s c;exact h (cW e' e)
 rcases h with ⟨_,h⟩ | ⟨_,_,h⟩ | ⟨h1,_,h3⟩
 ·exact absurd rfl h
 ·exact absurd rfl h
 ·exact⟨h1,f h3⟩
def rg(x:Int):Prop:=0<=x/\x<=65535
theorem aFG(N:Nat)(a:Int):tK N a=some (a / 4294967296):=by unfold tK;rw[aPz]
theorem aEb(k:Nat){a y:Int}(ha:cJ a)(hy:cJ y):T (iZ (k+3) a y) cJ:=by
 by_cases h:y=0
 ·subst h;unfold iZ;exact T.cond (λ_=>T.cond (λ_=>T.ret ⟨by decide,by decide⟩) (λ_=>T.cond (λ_=>T.ret ⟨by decide,by decide⟩) (λ_=>T.ret z64))) (λh=>by cases h)
 ·exact⟨_,wQ k ha hy h,eH _⟩
theorem o64 : cJ 4294967296:=⟨by decide,by decide⟩
theorem aQu(k:Nat){a:Int}(ha:cJ a):T (rH (k+3) a) rg:=by
 unfold rH;refine T.cond (λ_=>T.ret ⟨by decide,by decide⟩) (λhc=>?_)
 have h0:=of_decide_eq_false hc;have ha':=ha;obtain⟨a1,a2⟩:=ha';have s:0 < S64 (a+4294967296)/\a*4294967296 < 4294967297*S64 (a+4294967296):=by
  by_cases h:a+4294967296<=9223372036854775807
  ·rw[rA ⟨by omega,h⟩];omega
  ·have:S64 (a+4294967296)=9223372036854775807:=by unfold S64;rw[if_neg (by omega),if_pos (by omega)]
   rw[this];omega
 refine T.eq (aAw k ha o64) ?_;have si:=eH (a+4294967296)
 generalize S64 (a+4294967296)=y at *;refine T.eq (wQ k ha si (by omega)) ?_;have e:aKN (ab a*4294967296) (ab y) (!(decide (a < 0)==decide (y < 0)))=a*4294967296 / y:=by
  rw[df (show ¬a < 0 by omega),df (show ¬y < 0 by omega)]
  unfold aKN ab;simp only[beq_self_eq_true,Bool.not_true,cond_false]
  rw[if_neg (by omega),if_neg (by omega)]
 rw[e]
 have q1:0<=a*4294967296 / y:=cu (by omega) (by omega)
 have q2:a*4294967296 / y < 4294967297:=jm s.1 s.2;generalize a*4294967296 / y=q at *;refine T.eq (rP _ (a:=65535) ⟨by decide,by decide⟩) ?_;rw[rA (z:=q) ⟨by omega,by omega⟩,show S64 (65535*4294967296)=65535*4294967296 by decide]
 refine T.eq (aEx k (a:=q) (b:=65535*4294967296) ⟨by omega,by omega⟩ ⟨by decide,by decide⟩) (T.eq (aFG _ _) (T.ret ?_))
 rw[show q*(65535*4294967296) / 4294967296=q*65535 by omega,rA ⟨by omega,by omega⟩]
 unfold rg;omega
theorem aMz(k:Nat)(a:Int):T (rJ (k+3) a) rg:=by
 unfold rJ;refine T.eq (rP _ (a:=32767) ⟨by decide,by decide⟩) ?_;refine T.bind (P:=λc => -4294967296<=c/\c<=4294967296) ?_ λc hc=>?_
 ·unfold wC;refine T.ret ?_;unfold fN jR;constructor <;> (repeat' split) <;> omega
 rw[show S64 (32767*4294967296)=32767*4294967296 by decide]
 refine T.eq (aAw k o64 (b:=c) ⟨by omega,by omega⟩) ?_;rw[rA (z:=4294967296+c) ⟨by omega,by omega⟩]
 refine T.eq (aEx k (a:=32767*4294967296) (b:=4294967296+c) ⟨by decide,by decide⟩ ⟨by omega,by omega⟩) (T.eq (aFG _ _) (T.ret ?_))
 rw[show 32767*4294967296*(4294967296+c) / 4294967296=32767*(4294967296+c) by omega,rA ⟨by omega,by omega⟩]
 unfold rg;omega
theorem farT'(N:Nat)(a:Int):T (xG N a) rg:=by
 unfold xG;refine T.eq (aFG N a) (T.ret ?_)
 unfold rg fN jR;constructor <;> (repeat' split) <;> omega
theorem rg3{a b c:Int}(ha:rg a)(hb:rg b)(hc:rg c):∀x∈(#v[a,b,c]:Vector Int 3).toList,rg x:=by
 intro x hx;simp at hx;rcases hx with rfl | rfl | rfl
 ·exact ha
 ·exact hb
 ·exact hc
theorem aL0(k:Nat){v:aA}(hv:vin v):T (pC (k+3) v) (λr=>∀x∈r.toList,rg x):=by
 unfold pC;exact T.bind (aQu k hv.1) λa ha=>T.bind (aQu k hv.2.1) λb hb=>T.bind (aQu k hv.2.2) λc hc=>T.ret (rg3 ha hb hc)
theorem aMn(k:Nat)(v:aA):T (pM (k+3) v) (λr=>∀x∈r.toList,rg x):=by
 unfold pM;exact T.bind (aMz k v.gX) λa ha=>T.bind (aMz k v.gY) λb hb=>T.bind (aMz k v.gZ) λc hc=>T.ret (rg3 ha hb hc)
theorem unitT(k:Nat){v:aA}(hv:vin v):T (aAd (k+65) v) vin:=by
 unfold aAd;refine T.cond (λ_=>T.ret hv) (λ_=>T.bind (aNp k hv) λr hr=>T.bind (P:=vin) ?_ λu hu=>T.ret hu)
 unfold wY;exact T.bind (aEb (k+62) hv.1 hr) λa ha=>T.bind (aEb (k+62) hv.2.1 hr) λb hb=>T.bind (aEb (k+62) hv.2.2 hr) λc hc=>T.ret ⟨ha,hb,hc⟩
theorem aSK(a:Int):rg (I64 (fI .u32 a 65535)):=by
 have e:fI .u32 a 65535=IntKind.u32.wrap ((ba 32 a &&& ba 32 65535).toNat:Int):=rfl;have h:(ba 32 a &&& ba 32 65535).toNat<=65535:=by
  rw[BitVec.toNat_and,show(ba 32 65535).toNat=65535 by decide]
  exact Nat.and_le_right
 generalize (ba 32 a &&& ba 32 65535).toNat=m at *;have w:IntKind.u32.wrap (m:Int)=(m:Int):=by
  show((ba 32 (m:Int)).toNat:Int)=(m:Int)
  rw[BitVec.toNat_ofInt]
  omega
 rw[e,w,bC (by omega) (by omega)]
 unfold rg;omega
def smL(s:aG)(l:List aF):Prop:=(1<=l.length/\l.length<=16)/\∀x∈l,aE7 s x/\vin x.gB5
abbrev Px:=Vector Int 3×Int×Int×Vector Int 3×Int×Int
def pxI(p:Px):cK:=cK.mk 1 1 [p.1] [p.2.1] [p.2.2.1] [p.2.2.2.1] [p.2.2.2.2.1] [p.2.2.2.2.2]
def pxOk(n:Nat)(p:Px):Prop:=(∀x∈p.1.toList,rg x)/\rg p.2.1/\rg p.2.2.1/\(∀x∈p.2.2.2.1.toList,rg x)/\rg p.2.2.2.2.1/\rg p.2.2.2.2.2/\p.2.2.2.2.1<=(n:Int)/\(p.2.2.2.2.1=0->p.2.1=0/\p.2.2.1=0)
theorem aQ3(N:Nat)(hN:20 < N){s:aG}(hlab:s.gB0.length=s.gR.length){l:List aF}(h:smL s l):xH N l s=some 0:=by
 obtain⟨⟨h1,h16⟩,hl⟩:=h;have main:T (xH N l s) (λr=>r=0):=by
  unfold xH;simp only[aR]
  refine T.cond (λhc=>?_) (λ_=>?_)
  ·exfalso;rw[show((l.length:Int)==0)=false from beq_eq_false_iff_ne.2 (by omega),df (show ¬(l.length:Int) > 16 by omega)] at hc;cases hc
  ·refine T.bind (P:=λo=>o=Sum.inl ()) ?_ λo ho=>by subst ho;exact T.ret rfl
   refine T.loopG0 (n:=l.length) (λ_ (_:Unit)=>True) _ (F:=λk (_:Unit) i=>sG N l s k i) (λk _ i hi _ hk=>?_) (λk _ _=>?_) (by omega) (s:=()) trivial
   ·rw[sG,aR,dt (by omega),cond_true,eK,af hi,ae]
    obtain⟨⟨ho,_⟩,_⟩:=hl _ (bp hi)
    generalize l[i]=x at *;simp only[aR]
    have e:fN (s.gR.length:Int) (s.gB0.length:Int)=(s.gR.length:Int):=by unfold fN;rw[hlab];split <;> rfl
    rw[e]
    have c1:cond (decide (x.gA4 < -1)) true (decide (x.gA4>=(s.gR.length:Int)))=false:=by
     rcases ho with ⟨h,_⟩ | ⟨⟨h,h'⟩,_⟩
     ·rw[df (show ¬x.gA4 < -1 by omega),df (show ¬x.gA4>=(s.gR.length:Int) by omega)];rfl
     ·rw[df (show ¬x.gA4 < -1 by omega),df (show ¬x.gA4>=(s.gR.length:Int) by omega)];rfl
    have c2:cond (x.gB6 != 0) (x.gB6 != 1) false=false:=by
     have:x.gB6=0\/x.gB6=1:=by
      rcases ho with ⟨_,h⟩ | ⟨_,h⟩
      ·exact Or.inl h
      ·exact h
     rcases this with h | h <;> rw[h] <;> rfl
    rw[c1,cond_false,c2,ae,cond_false,dI (by omega)]
    exact hk () trivial
   ·rw[sG,aR,df (by omega),cond_false];exact T.ret rfl
 obtain⟨r,e,rfl⟩:=main;exact e
theorem aTa(N:Nat)(hN:1000 < N){s:aG}(hid:s.gR.length<=20)(hlab:s.gB0.length=s.gR.length){l:List aF}(h:smL s l):T (pI N l s) (λr=>∃p,pxOk s.gR.length p/\r=(pxI p,0)):=by
 have may:=aQ3 N (by omega) hlab h;obtain⟨⟨h1,h16⟩,hl⟩:=h;obtain⟨k,rfl⟩:=nk (show 65<=N by omega)
 unfold pI;refine T.eq may ?_;simp only[bne_self_eq_false,cond_false]
 refine T.bind (P:=λp:aA×aA×Int×Int×Int×Int=>vin p.1/\vin p.2.1/\cJ p.2.2.1/\(0<=p.2.2.2.1/\p.2.2.2.1<=(l.length:Int))/\(0<=p.2.2.2.2.1/\p.2.2.2.2.1<=(l.length:Int))/\(p.2.2.2.2.1=0->p.2.2.2.1=0/\p.2.2.2.2.2 < 0)/\(0 < p.2.2.2.2.1->0<=p.2.2.2.2.2/\p.2.2.2.2.2 < (s.gR.length:Int))) ?_ λp hp=>?_
 ·refine T.loopG0 (n:=l.length) (λi (p:aA×aA×Int×Int×Int×Int)=>vin p.1/\vin p.2.1/\cJ p.2.2.1/\(0<=p.2.2.2.1/\p.2.2.2.1<=(i:Int))/\(0<=p.2.2.2.2.1/\p.2.2.2.2.1<=(i:Int))/\(p.2.2.2.2.1=0->p.2.2.2.1=0/\p.2.2.2.2.2 < 0)/\(0 < p.2.2.2.2.1->0<=p.2.2.2.2.2/\p.2.2.2.2.2 < (s.gR.length:Int))) _ (F:=λm (p:aA×aA×Int×Int×Int×Int) i=>oU (k+65) l m p.1 p.2.1 p.2.2.1 p.2.2.2.1 p.2.2.2.2.1 p.2.2.2.2.2 i) (λm p i hi hp hk=>?_) (λm p hp=>?_) (by omega) (s:=(aA.mk 0 0 0,aA.mk 0 0 0,0,0,0,-1)) ⟨aCK,aCK,z64,⟨by decide,by decide⟩,⟨by decide,by decide⟩,λ_=>⟨rfl,by decide⟩,λh=>absurd h (by decide)⟩
  ·rw[oU,aR,dt (by omega),cond_true,eK,af hi,ae]
   obtain⟨⟨ho,hd,hn⟩,hcol⟩:=hl _ (bp hi)
   generalize l[i]=x at *;obtain⟨p1,p2,p3,⟨p4,p4'⟩,⟨p5,p5'⟩,p6,p7⟩:=hp;obtain⟨c,n,d,al,met,fi⟩:=p;dsimp only at *;rw[show k+65=(k+62)+3 by omega,aHM (k+62) p1 hcol,ae,aHM (k+62) p2 hn,ae,aAw (k+62) p3 hd,ae]
   have al':0<=x.gB6/\x.gB6<=1:=by
    rcases ho with ⟨_,h⟩ | ⟨_,h | h⟩ <;> omega
   rw[bC (x:=al+x.gB6) (by omega) (by omega),bC (x:=met+1) (by omega) (by omega)]
   by_cases g:x.gA4>=0
   ·have ob:0<=x.gA4/\x.gA4 < (s.gR.length:Int):=by
     rcases ho with ⟨h,_⟩ | ⟨h,_⟩
     ·omega
     ·exact h
    rw[dt g,cond_true]
    by_cases f:fi < 0
    ·rw[dt f,cond_true,ae,dI (by omega)]
     exact hk (_,_,_,_,_,_) ⟨sL _ _,sL _ _,eH _,by dsimp only;omega,by dsimp only;omega,λh=>by dsimp only at h;omega,λ_=>ob⟩
    ·rw[df f,cond_false,ae,dI (by omega)]
     refine hk (_,_,_,_,_,_) ⟨sL _ _,sL _ _,eH _,by dsimp only;omega,by dsimp only;omega,λh=>by dsimp only at h;omega,λ_=>?_⟩
     refine p7 ?_;by_cases z:met=0
     ·have:=p6 z;omega
     ·omega
   ·have a0:x.gB6=0:=by
     rcases ho with ⟨_,h⟩ | ⟨h,_⟩
     ·exact h
     ·omega
    rw[df g,cond_false,ae,dI (by omega),a0]
    exact hk (_,_,_,_,_,_) ⟨sL _ _,sL _ _,eH _,by dsimp only;omega,by dsimp only;omega,λh=>by have:=p6 h;dsimp only;omega,p7⟩
  ·rw[oU,aR,df (by omega),cond_false];exact T.ret hp
 obtain⟨p1,p2,p3,⟨p4,p4'⟩,⟨p5,p5'⟩,p6,p7⟩:=hp;obtain⟨c,n,d,al,met,fi⟩:=p;dsimp only at *;have ln:cJ (l.length:Int):=⟨by omega,by omega⟩
 refine T.eq (rP _ ln) (T.bind (aEb (k+62) o64 (eH _)) λr17 h17=>T.eq (qK (k+62) p1 h17) (T.bind (aL0 (k+62) (oS _ _)) λr19 h19=>?_))
 rw[aR,bC (x:=65535*al) (by omega) (by omega)]
 refine T.eq (aDF .i64 (by omega)) (T.bind (unitT k p2) λr22 h22=>T.bind (aMn (k+62) r22) λr23 h23=>?_)
 have q:0<=bo (65535*al) (l.length:Int)/\bo (65535*al) (l.length:Int)<=65535/\(al=0->bo (65535*al) (l.length:Int)=0):=by
  rw[Int.tdiv_eq_ediv_of_nonneg (by omega)]
  refine⟨cu (by omega) (by omega),?_,λh=>by rw[h];simp⟩
  have:65535*al / (l.length:Int) < 65536:=jm (by omega) (by omega)
  omega
 generalize bo (65535*al) (l.length:Int)=X at *;have wX:IntKind.i64.wrap X=X:=bC (by omega) (by omega)
 rw[wX]
 refine T.bind (P:=λt:List Int×List Int×List Int=>∃u v w,t=([u],[v],[w])/\rg u/\rg v/\rg w/\v<=(s.gR.length:Int)/\(v=0->X=0/\u=0)) ?_ λt ht=>?_
 ·rw[aR]
  refine T.cond (λhc=>?_) (λhc=>?_)
  ·have m0:=of_decide_eq_true hc;obtain⟨f0,f1⟩:=p7 m0;refine T.eq (rP _ (a:=met) ⟨by omega,by omega⟩) (T.bind (aEb (k+62) p3 (eH _)) λr27 h27=>T.bind (farT' _ r27) λr28 h28=>?_)
   refine T.bind (T.inRO (by decide) (by decide)) λ_ _=>T.eq rfl ?_;simp only[aR]
   rw[bC (x:=fi+1) (by omega) (by omega)]
   refine T.bind (T.idx (by omega) (by omega)) λe32 _=>?_;refine T.bind (T.inRO (by decide) (by decide)) λ_ _=>T.eq rfl (T.bind (T.inRO (by decide) (by decide)) λ_ _=>T.eq rfl (T.ret ⟨_,_,_,rfl,h28,?_,aSK _,?_,λh=>?_⟩))
   ·unfold rg fN;split <;> omega
   ·unfold fN;split <;> omega
   ·exfalso;unfold fN at h;split at h <;> omega
  ·have m0:met=0:=by have:=of_decide_eq_false hc;omega
   exact T.ret ⟨0,0,0,rfl,⟨by decide,by decide⟩,⟨by decide,by decide⟩,⟨by decide,by decide⟩,by omega,λ_=>⟨q.2.2 (p6 m0).1,rfl⟩⟩
 ·obtain⟨u,v,w,rfl,hu,hv,hw,hvi,hv0⟩:=ht;refine T.bind (T.lenO rfl) λ_ _=>T.bind (T.lenO rfl) λ_ _=>T.bind (T.lenO rfl) λ_ _=>T.ret ⟨(r19,X,u,r23,v,w),⟨h19,⟨q.1,q.2.1⟩,hu,h23,hv,hw,hvi,hv0⟩,rfl⟩
abbrev C3:=Int×Int×Int
abbrev Pa:=(aF×Int)×C3
def aIb(c d:C3):C3:=(c.1+d.1,c.2.1+d.2.1,c.2.2+d.2.2)
def aGA(f:Nat->C3):Nat->C3
 | 0=>(0,0,0)
 | n+1=>aIb (aGA f n) (f n)
def Cnt(st:aE)(t:Int)(st':aE)(t':Int)(c:C3):Prop:=st'.gN=st.gN/\fC t t' c.1/\fC st.gQ st'.gQ c.2.1/\fC st.gM st'.gM c.2.2
theorem Cnt.zero(st:aE)(t:Int):Cnt st t st t (0,0,0):=⟨rfl,vK _,vK _,vK _⟩
theorem Cnt.add{st st' st'':aE}{t t' t'':Int}{c d:C3}(h:Cnt st t st' t' c)(h':Cnt st' t' st'' t'' d):Cnt st t st'' t'' (aIb c d):=⟨h'.1.trans h.1,zG h.2.1 h'.2.1,zG h.2.2.1 h'.2.2.1,zG h.2.2.2 h'.2.2.2⟩
def aE3(A:Nat->Nat->Nat->Pa)(x y n:Nat):List aF:=(bu n).map λk=>(A x y k).1.1
theorem aPd(A:Nat->Nat->Nat->Pa)(x y n:Nat):aE3 A x y (n+1)=aE3 A x y n++[(A x y n).1.1]:=by unfold aE3;rw[jc,dc];rfl
theorem aMp(A:Nat->Nat->Nat->Pa)(x y n:Nat):(aE3 A x y n).length=n:=by unfold aE3;simp
def aCe{α:Type}(f:Px->α)(Q:Nat->Nat->Px)(W n:Nat):List α:=(bu n).map λj=>f (Q (j % W) (j / W))
theorem vH{α:Type}(f:Px->α)(Q:Nat->Nat->Px){W x:Nat}(y:Nat)(h:x < W):aCe f Q W (y*W+x+1)=aCe f Q W (y*W+x)++[f (Q x y)]:=by
 unfold aCe;rw[jc,dc]
 have e1:(y*W+x) % W=x:=by rw[ib,j3,le h]
 have e2:(y*W+x) / W=y:=by rw[ib,jp _ _ (by omega),lf h];omega
 simp only[List.map_cons,List.map_nil,e1,e2]
theorem uK{α:Type}(f:Px->α)(Q:Nat->Nat->Px)(W n:Nat):(aCe f Q W n).length=n:=by unfold aCe;simp
abbrev Pls:=List (Vector Int 3)×List Int×List Int×List (Vector Int 3)×List Int×List Int
def pls(Q:Nat->Nat->Px)(W n:Nat):Pls:=(aCe (·.1) Q W n,aCe (·.2.1) Q W n,aCe (·.2.2.1) Q W n,aCe (·.2.2.2.1) Q W n,aCe (·.2.2.2.2.1) Q W n,aCe (·.2.2.2.2.2) Q W n)
def yK(A:Nat->Nat->Nat->Pa)(W S n:Nat):C3:=aGA (λj=>aGA (λk=>(A (j % W) (j / W) k).2) S) n
theorem aP2(A:Nat->Nat->Nat->Pa){W x:Nat}(y S:Nat)(h:x < W):yK A W S (y*W+x+1)=aIb (yK A W S (y*W+x)) (aGA (λk=>(A x y k).2) S):=by
 unfold yK;have e1:(y*W+x) % W=x:=by rw[ib,j3,le h]
 have e2:(y*W+x) / W=y:=by rw[ib,jp _ _ (by omega),lf h];omega
 conv=>lhs;rw[aGA,e1,e2]
structure Dim(v:aI)(W H S:Nat):Prop where
 w:v.gW=(W:Int)
 h:v.gH=(H:Int)
 s:v.gB1=(S:Int)
 w1:1<=W/\W<=64
 h1:1<=H/\H<=64
 s1:1<=S/\S<=16
theorem dimV{v:aI}(h:aHX v):∃W H S,Dim v W H S:=by
 obtain⟨⟨⟨a1,a2⟩,⟨b1,b2⟩,_⟩,⟨s1,s2⟩,_⟩:=h;exact⟨v.gW.toNat,v.gH.toNat,v.gB1.toNat,by omega,by omega,by omega,by omega,by omega,by omega⟩
def PxF(N:Nat)(s:aG)(A:Nat->Nat->Nat->Pa)(W H S:Nat)(Q:Nat->Nat->Px):Prop:=∀x y,x < W->y < H->pI N (aE3 A x y S) s=some (pxI (Q x y),0)/\pxOk s.gR.length (Q x y)
theorem pxF(N:Nat)(hN:1000 < N){s:aG}(hid:s.gR.length<=20)(hlab:s.gB0.length=s.gR.length){A:Nat->Nat->Nat->Pa}{W H S:Nat}(hS:1<=S/\S<=16)(h:∀x y k,x < W->y < H->k < S->aE7 s (A x y k).1.1/\vin (A x y k).1.1.gB5):∃Q,PxF N s A W H S Q:=by
 have key:∀x y,∃p,x < W->y < H->pI N (aE3 A x y S) s=some (pxI p,0)/\pxOk s.gR.length p:=by
  intro x y;by_cases c:x < W/\y < H
  ·obtain⟨r,e,p,hp,rfl⟩:=aTa N hN hid hlab (l:=aE3 A x y S) ⟨by rw[aMp];exact hS,λm hm=>by
    unfold aE3 at hm;rw[List.mem_map] at hm;obtain⟨k,hk,rfl⟩:=hm;exact h x y k c.1 c.2 (List.mem_range.1 hk)⟩
   exact⟨p,λ_ _=>⟨e,hp⟩⟩
  ·exact⟨(#v[0,0,0],0,0,#v[0,0,0],0,0),λh1 h2=>absurd ⟨h1,h2⟩ c⟩
 exact⟨λx y=>(key x y).choose,λx y=>(key x y).choose_spec⟩
set_option maxHeartbeats 4000000
def aOz(N:Nat)(b:List (List aD))(s:aG)(v:aI)(sky:aA)(gl:List aH)(x y z:Int)(a:Pa):Prop:=∀st t,∃st' t',dW N b x y z s v sky st (swp gl t)=some (st',swp gl t',a.1.1,a.1.2)/\Cnt st t st' t' a.2
section
variable {N:Nat} (hN:4100 < N) {b:List (List aD)} {s:aG} {v:aI} {sky:aA}
include hN
theorem aS3(hr:Rdy b s v sky){gl:List aH}(hsw:aBx s.gE.length gl)(hcon:v.gT=true)(hfit:(s.gF.length:Int)<=(cV v.gL).2)(hobj:aIq s){W H S:Nat}(hd:Dim v W H S):∃A:Nat->Nat->Nat->Pa,∀x y k,x < W->y < H->k < S->aOz N b s v sky gl x y k (A x y k)/\(aE7 s (A x y k).1.1/\vin (A x y k).1.1.gB5)/\exC (A x y k).2.1 ((gl.length:Int)*(1+(cV v.gL).2)*(v.gK+1))/\exC (A x y k).2.2.1 (4*(v.gK+1))/\exC (A x y k).2.2.2 (v.gK+1):=by
 have key:∀x y k:Nat,∃a:Pa,x < W->y < H->k < S->aOz N b s v sky gl x y k a/\(aE7 s a.1.1/\vin a.1.1.gB5)/\exC a.2.1 ((gl.length:Int)*(1+(cV v.gL).2)*(v.gK+1))/\exC a.2.2.1 (4*(v.gK+1))/\exC a.2.2.2 (v.gK+1):=by
  intro x y k;obtain⟨a,⟨_,p1,p2⟩,h⟩:=pathS (ι:=aE×Int) hN hr hsw hcon hfit hobj (D:=False) ⟨λh=>h.elim,λh=>h.elim,λh=>h.elim⟩ (x:Int) (y:Int) (k:Int) (λi=>i.1) (λi=>i.2)
  refine⟨a,λhx hy hk=>⟨λst t=>?_,?_⟩⟩
  ·obtain⟨r,e,st',t',rfl,c⟩:=h (st,t)
   exact⟨st',t',e,c⟩
  ·have z:=p1 ⟨⟨by omega,by rw[hd.w];omega⟩,⟨by omega,by rw[hd.h];omega⟩,by omega,by rw[hd.s];omega⟩
   rcases p2 with ⟨_,q⟩ | q
   ·exact q
   ·rw[z] at q;cases q
 exact⟨λx y k=>(key x y k).choose,λx y k=>(key x y k).choose_spec⟩
theorem sampS{gl:List aH}{A1:List aH}{B1:List aP}{D1:List aQ}{e1:Int}{W H S:Nat}(hd:Dim v W H S){A:Nat->Nat->Nat->Pa}{x y:Nat}(hA:∀k,k < S->aOz N b s v sky gl x y k (A x y k))(st:aE)(t:Int) :
  T (nB N v (A1,B1,D1,b,sky,gl,e1) (x:Int) (y:Int) s N [] st (swp gl t) 0) (λr=>r.1=aE3 A x y S/\∃t',r.2.2=swp gl t'/\Cnt st t r.2.1 t' (aGA (λk=>(A x y k).2) S)):=by
 have s1:=hd.s1;refine T.loopG0 (n:=S) (λk (q:List aF×aE×Int)=>q.1=aE3 A x y k/\Cnt st t q.2.1 q.2.2 (aGA (λk=>(A x y k).2) k)) _ (F:=λm (q:List aF×aE×Int) i=>nB N v (A1,B1,D1,b,sky,gl,e1) (x:Int) (y:Int) s m q.1 q.2.1 (swp gl q.2.2) i) (λm q i hi hq hk=>?_) (λm q hq=>?_) (by omega) (s:=([],st,t)) ⟨rfl,Cnt.zero _ _⟩
 ·rw[nB,aR,dt (show(i:Int) < v.gB1 by rw[hd.s];omega),cond_true]
  obtain⟨st',t',e,c⟩:=hA i hi q.2.1 q.2.2;refine T.eq e (T.eq (hJ (by rw[hq.1];simp[aMp];omega)) ?_)
  rw[dI (by omega)]
  exact hk (_,st',t') ⟨by rw[hq.1,aPd],hq.2.add c⟩
 ·rw[nB,aR,df (show ¬(S:Int) < v.gB1 by rw[hd.s];omega),cond_false]
  exact T.ret ⟨hq.1,_,rfl,hq.2⟩
theorem rowS{gl:List aH}{A1:List aH}{B1:List aP}{D1:List aQ}{e1:Int}{W H S:Nat}(hd:Dim v W H S){A:Nat->Nat->Nat->Pa}{Q:Nat->Nat->Px}(hQ:PxF N s A W H S Q){y:Nat}(hy:y < H)(hA:∀x k,x < W->k < S->aOz N b s v sky gl x y k (A x y k))(st0:aE)(t0:Int){p:Pls}(hp:p=pls Q W (y*W)){st:aE}{t:Int}(hc:Cnt st0 t0 st t (yK A W S (y*W))) :
  T (mZ N v (A1,B1,D1,b,sky,gl,e1) (y:Int) s N p.1 p.2.1 p.2.2.1 p.2.2.2.1 p.2.2.2.2.1 p.2.2.2.2.2 s st (swp gl t) 0) (λr=>(r.1,r.2.1,r.2.2.1,r.2.2.2.1,r.2.2.2.2.1,r.2.2.2.2.2.1)=pls Q W ((y+1)*W)/\r.2.2.2.2.2.2.1=s/\∃t',r.2.2.2.2.2.2.2.2=swp gl t'/\Cnt st0 t0 r.2.2.2.2.2.2.2.1 t' (yK A W S ((y+1)*W))):=by
 have hw1:=hd.w1;have s1:=hd.s1;have h1:=hd.h1;have yw:y*W<=4096:=f8 (j7 (show y<=64 by omega) hw1.2) (by decide)
 have e2:(y+1)*W=y*W+W:=lh _ _;rw[e2]
 refine T.loopG0 (n:=W) (λi (q:Pls×aE×Int)=>q.1=pls Q W (y*W+i)/\Cnt st0 t0 q.2.1 q.2.2 (yK A W S (y*W+i))) _ (F:=λm (q:Pls×aE×Int) i=>mZ N v (A1,B1,D1,b,sky,gl,e1) (y:Int) s m q.1.1 q.1.2.1 q.1.2.2.1 q.1.2.2.2.1 q.1.2.2.2.2.1 q.1.2.2.2.2.2 s q.2.1 (swp gl q.2.2) i) (λm q i hi hq hk=>?_) (λm q hq=>?_) (by omega) (s:=(p,st,t)) ⟨hp,hc⟩
 ·rw[mZ,dt (show(i:Int) < v.gW by rw[hd.w];omega),cond_true]
  refine T.bind (sampS hN hd (λk hk'=>hA i k hi hk') q.2.1 q.2.2) λr hr=>?_;obtain⟨hr1,t',hr2,hr3⟩:=hr;obtain⟨l,st',fd⟩:=r;dsimp only at hr1 hr2 hr3;subst hr1 hr2;obtain⟨e,_⟩:=hQ i y hi hy;refine T.eq e ?_;obtain⟨⟨b0,a0,d0,n0,s0,l0⟩,st1,t1⟩:=q;obtain⟨hq1,hq2⟩:=hq;unfold pls at hq1;simp only[Prod.mk.injEq] at hq1;obtain⟨rfl,rfl,rfl,rfl,rfl,rfl⟩:=hq1;refine T.eq (hJ (by simp[uK,pxI];omega)) (T.eq (hJ (by simp[uK,pxI];omega)) (T.eq (hJ (by simp[uK,pxI];omega)) (T.eq (hJ (by simp[uK,pxI];omega)) (T.eq (hJ (by simp[uK,pxI];omega)) (T.eq (hJ (by simp[uK,pxI];omega)) ?_)))))
  rw[dI (by omega)]
  refine hk ((_,_,_,_,_,_),st',t') ⟨?_,?_⟩
  ·unfold pls;rw[show y*W+(i+1)=y*W+i+1 from rfl,vH _ Q y hi,vH _ Q y hi,vH _ Q y hi,vH _ Q y hi,vH _ Q y hi,vH _ Q y hi]
   rfl
  ·rw[show y*W+(i+1)=y*W+i+1 from rfl,aP2 A y S hi]
   exact hq2.add hr3
 ·rw[mZ,df (show ¬(W:Int) < v.gW by rw[hd.w];omega),cond_false]
  exact T.ret ⟨hq.1,rfl,_,rfl,hq.2⟩
theorem rowsS{gl:List aH}{A1:List aH}{B1:List aP}{D1:List aQ}{e1:Int}{W H S:Nat}(hd:Dim v W H S){A:Nat->Nat->Nat->Pa}{Q:Nat->Nat->Px}(hQ:PxF N s A W H S Q)(hA:∀x y k,x < W->y < H->k < S->aOz N b s v sky gl x y k (A x y k))(st0:aE)(t0:Int) :
  T (nA N v (A1,B1,D1,b,sky,gl,e1) s N [] [] [] [] [] [] s.gE s.gA6 s.gA2 s.gF s.gR s.gB0 s.gB8 s.gC1 s.gTo st0 (swp gl t0) 0) (λr=>(r.1,r.2.1,r.2.2.1,r.2.2.2.1,r.2.2.2.2.1,r.2.2.2.2.2.1)=pls Q W (H*W)/\r.2.2.2.2.2.2.1=s/\∃t',r.2.2.2.2.2.2.2.2=swp gl t'/\Cnt st0 t0 r.2.2.2.2.2.2.2.1 t' (yK A W S (H*W))):=by
 have h1:=hd.h1;refine T.loopG0 (n:=H) (λi (q:Pls×aG×aE×Int)=>q.1=pls Q W (i*W)/\q.2.1=s/\Cnt st0 t0 q.2.2.1 q.2.2.2 (yK A W S (i*W))) _ (F:=λm (q:Pls×aG×aE×Int) i=>nA N v (A1,B1,D1,b,sky,gl,e1) s m q.1.1 q.1.2.1 q.1.2.2.1 q.1.2.2.2.1 q.1.2.2.2.2.1 q.1.2.2.2.2.2 q.2.1.gE q.2.1.gA6 q.2.1.gA2 q.2.1.gF q.2.1.gR q.2.1.gB0 q.2.1.gB8 q.2.1.gC1 q.2.1.gTo q.2.2.1 (swp gl q.2.2.2) i) (λm q i hi hq hk=>?_) (λm q hq=>?_) (by omega) (s:=(([],[],[],[],[],[]),s,st0,t0)) ⟨by rw[ic];rfl,rfl,by rw[ic];exact Cnt.zero _ _⟩
 ·rw[nA,dt (show(i:Int) < v.gH by rw[hd.h];omega),cond_true]
  obtain⟨p,sc,st,t⟩:=q;obtain⟨hp,hsc,hc⟩:=hq;dsimp only at hp hsc hc;subst hsc;refine T.bind (rowS hN hd hQ hi (λx k hx hk'=>hA x i k hx hi hk') st0 t0 hp hc) λr hr=>?_;obtain⟨hr1,hr2,t',hr3,hr4⟩:=hr;obtain⟨b1,a1,d1,n1,c1,l1,sc,st1,fd⟩:=r;dsimp only at hr1 hr2 hr3 hr4;subst hr2 hr3;rw[dI (by omega)]
  exact hk ((b1,a1,d1,n1,c1,l1),sc,st1,t') ⟨hr1,rfl,hr4⟩
 ·rw[nA,df (show ¬(H:Int) < v.gH by rw[hd.h];omega),cond_false]
  exact T.ret ⟨hq.1,hq.2.1,_,rfl,hq.2.2⟩
end
section
variable {N:Nat} (hN:1000000000000 < N) {b:List (List aD)} {s:aG} {v:aI} {sky:aA}
include hN
end
def aIu(Q:Nat->Nat->Px)(W H:Nat):cK:=cK.mk W H (pls Q W (H*W)).1 (pls Q W (H*W)).2.1 (pls Q W (H*W)).2.2.1 (pls Q W (H*W)).2.2.2.1 (pls Q W (H*W)).2.2.2.2.1 (pls Q W (H*W)).2.2.2.2.2
def img0 : cK:=cK.mk 0 0 [] [] [] [] [] []
theorem aSl{N:Nat}{s:aG}{v:aI}{e:Int}(h:kE N s v=some (.inl e))(he:e≠0):mC N s v=some (img0,aE.mk 0 0 0,e):=by
 unfold mC;rw[h,ae]
 simp only[pD,show(e != 0)=true by simpa using he,cond_true]
 rfl
theorem filmS{N:Nat}(hN:4100 < N){s:aG}{v:aI}{r:(List aH)×(List aP)×(List aQ)×(List (List aD))×aA×(List aH)×Int}(e:kE N s v=some (.inr (.inr (.inl r))))(hn:newS s v r){W H S:Nat}(hd:Dim v W H S){A:Nat->Nat->Nat->Pa}{Q:Nat->Nat->Px}(hQ:PxF N s A W H S Q)(hA:∀x y k,x < W->y < H->k < S->aOz N r.2.2.2.1 s v r.2.2.2.2.1 r.2.2.2.2.2.1 x y k (A x y k)) :
  ∃st' t',Cnt (aE.mk 0 0 0) 0 st' t' (yK A W S (H*W))/\mC N s v=some (aIu Q W H,aE.mk t' st'.gQ st'.gM,0):=by
 obtain⟨A1,B1,D1,b,sky,gl,e1⟩:=r;obtain⟨rfl,rfl,rfl,_,_,he,_⟩:=hn;dsimp only at he hA;subst he;obtain⟨q,eq,hq1,hq2,t',hq3,hq4⟩:=rowsS hN (A1:=s.gE) (B1:=s.gA6) (D1:=s.gF) (e1:=0) hd hQ hA (aE.mk 0 0 0) 0;obtain⟨b1,a1,d1,n1,c1,l1,sc,st1,fd⟩:=q;dsimp only at hq1 hq2 hq3 hq4;subst hq2 hq3;refine⟨st1,t',hq4,?_⟩
 unfold pls at hq1;simp only[Prod.mk.injEq] at hq1;obtain⟨rfl,rfl,rfl,rfl,rfl,rfl⟩:=hq1;unfold mC;rw[e,ae]
 simp only[pD,bne_self_eq_false,cond_false]
 have q':(swp gl 0)=aK.mk (kG.mk 0) true gl:=rfl;rw[<- q',eq,ae]
 show aa (jN N b sc v sky st1 (swp gl t')) _=_;unfold jN aIu pls;rw[hd.w,hd.h]
 rfl
def aKn(lo c hi:C3):Prop:=(lo.1<=c.1/\c.1<=hi.1)/\(lo.2.1<=c.2.1/\c.2.1<=hi.2.1)/\lo.2.2<=c.2.2/\c.2.2<=hi.2.2
def aDQ(n:Nat)(c:C3):C3:=((n:Int)*c.1,(n:Int)*c.2.1,(n:Int)*c.2.2)
theorem aPb(n:Nat)(c:C3):aDQ (n+1) c=aIb (aDQ n c) c:=by
 unfold aDQ aIb;rw[show((n+1:Nat):Int)=(n:Int)+1 from rfl]
 simp only[Int.add_mul,Int.one_mul]
theorem aUE{a b c x y z:C3}(h:aKn a b c)(h':aKn x y z):aKn (aIb a x) (aIb b y) (aIb c z):=by
 obtain⟨⟨h1,h2⟩,⟨h3,h4⟩,h5,h6⟩:=h;obtain⟨⟨g1,g2⟩,⟨g3,g4⟩,g5,g6⟩:=h';unfold aKn aIb;dsimp only;exact⟨⟨by omega,by omega⟩,⟨by omega,by omega⟩,by omega,by omega⟩
theorem aMI{lo hi:C3}{f:Nat->C3}:∀{n:Nat},(∀k,k < n->aKn lo (f k) hi)->aKn (aDQ n lo) (aGA f n) (aDQ n hi)
 | 0,_=>by
  unfold aDQ aGA aKn;rw[show((0:Nat):Int)=0 from rfl]
  simp only[Int.zero_mul]
  decide
 | n+1,h=>by
  rw[aPb,aPb,aGA]
  exact aUE (aMI λk hk=>h k (by omega)) (h n (by omega))
theorem aSN{A:Nat->Nat->Nat->Pa}{W S n:Nat}{lo hi:C3}(h:∀j k,j < n->k < S->aKn lo (A (j % W) (j / W) k).2 hi):aKn (aDQ n (aDQ S lo)) (yK A W S n) (aDQ n (aDQ S hi)):=
 aMI λj hj=>aMI λk hk=>h j k hj hk
def qW(v:aI):C3:=((v.gK+1)*((cV v.gL).1*(1+(cV v.gL).2)),4*(v.gK+1),v.gK+1)
def aRC(c:C3):aE:=aE.mk c.1 c.2.1 c.2.2
theorem aNF{v:aI}(h:aHX v):(16<=(qW v).1/\(qW v).1<=21000)/\(4<=(qW v).2.1/\(qW v).2.1<=36)/\1<=(qW v).2.2/\(qW v).2.2<=9:=by
 obtain⟨hc,hs,⟨d0,d8⟩,c0,c2⟩:=h;have cl:v.gL=0\/v.gL=1\/v.gL=2:=by omega
 unfold qW;dsimp only;rcases cl with h | h | h <;> rw[h] <;> simp only[cV] <;> refine⟨⟨?_,?_⟩,⟨by omega,by omega⟩,by omega,by omega⟩
 all_goals
  first
  | (show 16<=(v.gK+1)*80;omega)
  | (show(v.gK+1)*80<=21000;omega)
  | (show 16<=(v.gK+1)*320;omega)
  | (show(v.gK+1)*320<=21000;omega)
  | (show 16<=(v.gK+1)*2304;omega)
  | (show(v.gK+1)*2304<=21000;omega)
theorem dimM{v:aI}{W H S:Nat}(hd:Dim v W H S):(1<=H*W/\H*W<=4096)/\1<=S/\S<=16:=by
 obtain⟨_,_,_,hw,hh,hs⟩:=hd;exact⟨⟨Nat.mul_pos (by omega) (by omega),f8 (j7 hh.2 hw.2) (by decide)⟩,hs⟩
theorem aPW{n:Nat}{x B C:Int}(h:n<=B.toNat)(h0:0<=B)(hx:0<=x)(hx':x<=C):0<=(n:Int)*x/\(n:Int)*x<=B*C:=
 ⟨ef (by omega) hx,gs (by omega) hx' hx h0⟩
theorem aHc{v:aI}{W H S:Nat}(hd:Dim v W H S){x:Int}(h0:0<=x)(h1:x<=100000):0<=((H*W:Nat):Int)*((S:Int)*x)/\((H*W:Nat):Int)*((S:Int)*x)<=6553600000:=by
 obtain⟨⟨_,m⟩,_,s⟩:=dimM hd;have a:=aPW (n:=S) (B:=16) (C:=100000) s (by decide) h0 h1;have b:=aPW (n:=H*W) (B:=4096) (C:=1600000) m (by decide) a.1 (by omega)
 exact⟨b.1,by omega⟩
theorem costV(N:Nat){v:aI}(hv:aHX v)(hm:nV N v=some 0){W H S:Nat}(hd:Dim v W H S):wI N v=some (aRC (aDQ (H*W) (aDQ S (qW v)))):=by
 obtain⟨⟨k1,k2⟩,⟨k3,k4⟩,k5,k6⟩:=aNF hv;obtain⟨_,_,⟨d0,d8⟩,c0,c2⟩:=hv;have cl:v.gL=0\/v.gL=1\/v.gL=2:=by omega
 have m1:=aHc hd (x:=(qW v).1) (by omega) (by omega)
 have m2:=aHc hd (x:=(qW v).2.1) (by omega) (by omega)
 have m3:=aHc hd (x:=(qW v).2.2) (by omega) (by omega)
 have m4:=aHc hd (x:=1) (by decide) (by decide)
 have q:=aPW (n:=H*W) (B:=4096) (C:=1) (dimM hd).1.2 (by decide) (by decide) (Int.le_refl 1)
 have e1:v.gW*v.gH=((H*W:Nat):Int)*1:=by rw[hd.w,hd.h,Int.natCast_mul];ac_rfl
 have e2:((H*W:Nat):Int)*1*v.gB1=((H*W:Nat):Int)*((S:Int)*1):=by rw[hd.s];ac_rfl
 have e3:((H*W:Nat):Int)*((S:Int)*1)*(v.gK+1)=((H*W:Nat):Int)*((S:Int)*(qW v).2.2):=by unfold qW;dsimp only;rw[fu];ac_rfl
 have e4:4*(((H*W:Nat):Int)*((S:Int)*(qW v).2.2))=((H*W:Nat):Int)*((S:Int)*(qW v).2.1):=by unfold qW;dsimp only;ac_rfl
 have e5:((H*W:Nat):Int)*((S:Int)*(qW v).2.2)*(cV v.gL).1*(1+(cV v.gL).2)=((H*W:Nat):Int)*((S:Int)*(qW v).1):=by unfold qW;dsimp only;ac_rfl
 have cb:(0<=(cV v.gL).1/\(cV v.gL).1<=256)/\0<=(cV v.gL).2/\(cV v.gL).2<=8:=by
  rcases cl with h | h | h <;> rw[h] <;> decide
 unfold wI;rw[hm,ae]
 simp only[bne_self_eq_false,cond_false,aGz,ae,aR]
 rw[e1,bC (x:=((H*W:Nat):Int)*1) (by omega) (by omega),e2,bC (x:=((H*W:Nat):Int)*((S:Int)*1)) (by omega) (by omega),bC (x:=v.gK+1) (by omega) (by omega),e3,bC (x:=((H*W:Nat):Int)*((S:Int)*(qW v).2.2)) (by omega) (by omega),e4,bC (x:=((H*W:Nat):Int)*((S:Int)*(qW v).2.1)) (by omega) (by omega),bC (x:=1+(cV v.gL).2) (by omega) (by omega)]
 have m5:0<=((H*W:Nat):Int)*((S:Int)*(qW v).2.2)*(cV v.gL).1/\((H*W:Nat):Int)*((S:Int)*(qW v).2.2)*(cV v.gL).1<=6553600000*256:=⟨ef m3.1 cb.1.1,gs m3.2 cb.1.2 cb.1.1 (by decide)⟩
 rw[bC (x:=((H*W:Nat):Int)*((S:Int)*(qW v).2.2)*(cV v.gL).1) (by omega) (by omega),e5,bC (x:=((H*W:Nat):Int)*((S:Int)*(qW v).1)) (by omega) (by omega)]
 rfl
theorem aJw(N:Nat)(l:List Int)(hl:l.length < N)(h6:l.length < 4611686018427387904):jY N l l=some true:=by
 have main:T (jF N l l N 0) (λo=>o=Sum.inl ()):=by
  refine T.loopG0 (n:=l.length) (λ_ (_:Unit)=>True) _ (F:=λk (_:Unit) i=>jF N l l k i) (λk _ i hi _ hk=>?_) (λk _ _=>?_) (by omega) (s:=()) trivial
  ·rw[jF,aR,dt (by omega),cond_true,eK,af hi,ae,ae,bne_self_eq_false,cond_false,dI (by omega)]
   exact hk () trivial
  ·rw[jF,aR,df (by omega),cond_false];exact T.ret rfl
 obtain⟨r,e,rfl⟩:=main;unfold jY;rw[aR,bne_self_eq_false,cond_false,e]
 rfl
theorem eqV_r(v:Vector Int 3):eqV (λa b=>a==b) v v=true:=by
 have h:∀l:List Int,eqL (λa b=>a==b) l l=true:=by
  intro l
  induction l with
  | nil=>rfl
  | cons a l ih=>unfold eqL;rw[ih];simp
 exact h _
theorem aNk(N:Nat)(l:List (Vector Int 3))(hl:l.length < N)(h6:l.length < 4611686018427387904):lX N l l=some true:=by
 have main:T (iK N l l N 0) (λo=>o=Sum.inl ()):=by
  refine T.loopG0 (n:=l.length) (λ_ (_:Unit)=>True) _ (F:=λk (_:Unit) i=>iK N l l k i) (λk _ i hi _ hk=>?_) (λk _ _=>?_) (by omega) (s:=()) trivial
  ·rw[iK,aR,dt (by omega),cond_true,eK,af hi,ae,ae,eqV_r,Bool.not_true,cond_false,dI (by omega)]
   exact hk () trivial
  ·rw[iK,aR,df (by omega),cond_false];exact T.ret rfl
 obtain⟨r,e,rfl⟩:=main;unfold lX;rw[aR,bne_self_eq_false,cond_false,e]
 rfl
theorem aSe(N:Nat)(hN:5000 < N){a:cK}(h:a=img0\/∃Q W H,H*W<=4096/\a=aIu Q W H):wE N a a=some true:=by
 have h6:(a.gE6.length<=4096/\a.gB6.length<=4096/\a.gK.length<=4096)/\a.gC6.length<=4096/\a.gE7.length<=4096/\a.gB8.length<=4096:=by
  rcases h with rfl | ⟨Q,W,H,hm,rfl⟩
  ·decide
  ·unfold aIu pls;simp only[uK]
   exact⟨⟨hm,hm,hm⟩,hm,hm,hm⟩
 obtain⟨⟨a1,a2,a3⟩,a4,a5,a6⟩:=h6;unfold wE;rw[aNk N _ (by omega) (by omega),aNk N _ (by omega) (by omega),aJw N _ (by omega) (by omega),aJw N _ (by omega) (by omega),aJw N _ (by omega) (by omega),aJw N _ (by omega) (by omega),aR]
 simp only[beq_self_eq_true,cond_true,ae]
theorem aRY(N:Nat)(v:aI):rQ N v=some (aI.mk (fN v.gW 3) (fN v.gH 3) (fN v.gB1 2) (fN v.gK 3) v.gL v.gS v.gC9 v.gT):=rfl
theorem aT3{N:Nat}{s:aG}{v:aI}(h:aH7 N s v 0):nV N v=some 0:=by
 rcases h with ⟨_,h⟩ | ⟨_,_,h⟩ | ⟨_,h,_⟩
 ·exact absurd rfl h
 ·exact absurd rfl h
 ·exact h
theorem cntB{c:C3}{st':aE}{t':Int}(h:Cnt (aE.mk 0 0 0) 0 st' t' c)(b:(0<=c.1/\c.1<=6553600000)/\(0<=c.2.1/\c.2.1<=6553600000)/\0<=c.2.2/\c.2.2<=6553600000):aE.mk t' st'.gQ st'.gM=aRC c:=by
 obtain⟨_,p1,p2,p3⟩:=h;obtain⟨b1,b2,b3⟩:=b;have z:cJ 0:=by unfold cJ;decide
 rw[aMF p1 z,aMF p2 z,aMF p3 z]
 dsimp only;rw[gw,gw,gw,bC (by omega) (by omega),bC (by omega) (by omega),bC (by omega) (by omega)]
 rfl
theorem jdiv{W H j:Nat}(h:j < H*W):j % W < W/\j / W < H:=by
 have w0:0 < W:=Nat.pos_of_ne_zero λz=>by subst z;omega
 exact⟨Nat.mod_lt _ w0,by rw[Nat.div_lt_iff_lt_mul w0];exact h⟩
theorem stEq(v:aE):aE.eq v v=true:=by unfold aE.eq;simp
def NoC(st:aE)(t:Int)(st':aE)(t':Int)(c:C3):Prop:=True
theorem NoC.zero(st:aE)(t:Int):NoC st t st t (0,0,0):=trivial
theorem NoC.add{st st' st'':aE}{t t' t'':Int}{c d:C3}(h:NoC st t st' t' c)(h':NoC st' t' st'' t'' d):NoC st t st'' t'' (aIb c d):=trivial
def aQd(N:Nat)(b:List (List aD))(s:aG)(v:aI)(sky:aA)(bv:aX)(gl:List aH)(x y z:Int)(a:Pa):Prop:=∀st t,∃st' t',hO N b x y z s v sky st (wlk bv gl t)=some (st',wlk bv gl t',a.1.1,a.1.2)/\NoC st t st' t' a.2
section
variable {N:Nat} (hN:1000000000000 < N) {b:List (List aD)} {s:aG} {v:aI} {sky:aA}
include hN
theorem sampP{bv:aX}{gl:List aH}{A1:List aH}{B1:List aP}{D1:List aQ}{bv1:aX}{wv:aL}{e1:Int}{W H S:Nat}(hd:Dim v W H S){A:Nat->Nat->Nat->Pa}{x y:Nat}(hA:∀k,k < S->aQd N b s v sky bv gl x y k (A x y k))(st:aE)(t:Int) :
  T (lY N v (A1,B1,D1,b,sky,bv1,wv,e1) (x:Int) (y:Int) s N [] st (wlk bv gl t) 0) (λr=>r.1=aE3 A x y S/\∃t',r.2.2=wlk bv gl t'/\NoC st t r.2.1 t' (aGA (λk=>(A x y k).2) S)):=by
 have s1:=hd.s1;refine T.loopG0 (n:=S) (λk (q:List aF×aE×Int)=>q.1=aE3 A x y k/\NoC st t q.2.1 q.2.2 (aGA (λk=>(A x y k).2) k)) _ (F:=λm (q:List aF×aE×Int) i=>lY N v (A1,B1,D1,b,sky,bv1,wv,e1) (x:Int) (y:Int) s m q.1 q.2.1 (wlk bv gl q.2.2) i) (λm q i hi hq hk=>?_) (λm q hq=>?_) (by omega) (s:=([],st,t)) ⟨rfl,NoC.zero _ _⟩
 ·rw[lY,aR,dt (show(i:Int) < v.gB1 by rw[hd.s];omega),cond_true]
  obtain⟨st',t',e,c⟩:=hA i hi q.2.1 q.2.2;refine T.eq e (T.eq (hJ (by rw[hq.1];simp[aMp];omega)) ?_)
  rw[dI (by omega)]
  exact hk (_,st',t') ⟨by rw[hq.1,aPd],hq.2.add c⟩
 ·rw[lY,aR,df (show ¬(S:Int) < v.gB1 by rw[hd.s];omega),cond_false]
  exact T.ret ⟨hq.1,_,rfl,hq.2⟩
theorem rowP{bv:aX}{gl:List aH}{A1:List aH}{B1:List aP}{D1:List aQ}{bv1:aX}{wv:aL}{e1:Int}{W H S:Nat}(hd:Dim v W H S){A:Nat->Nat->Nat->Pa}{Q:Nat->Nat->Px}(hQ:PxF N s A W H S Q){y:Nat}(hy:y < H)(hA:∀x k,x < W->k < S->aQd N b s v sky bv gl x y k (A x y k))(st0:aE)(t0:Int){p:Pls}(hp:p=pls Q W (y*W)){st:aE}{t:Int}(hc:NoC st0 t0 st t (yK A W S (y*W))) :
  T (lU N v (A1,B1,D1,b,sky,bv1,wv,e1) (y:Int) s N p.1 p.2.1 p.2.2.1 p.2.2.2.1 p.2.2.2.2.1 p.2.2.2.2.2 s st (wlk bv gl t) 0) (λr=>(r.1,r.2.1,r.2.2.1,r.2.2.2.1,r.2.2.2.2.1,r.2.2.2.2.2.1)=pls Q W ((y+1)*W)/\r.2.2.2.2.2.2.1=s/\∃t',r.2.2.2.2.2.2.2.2=wlk bv gl t'/\NoC st0 t0 r.2.2.2.2.2.2.2.1 t' (yK A W S ((y+1)*W))):=by
 have hw1:=hd.w1;have s1:=hd.s1;have h1:=hd.h1;have yw:y*W<=4096:=f8 (j7 (show y<=64 by omega) hw1.2) (by decide)
 have e2:(y+1)*W=y*W+W:=lh _ _;rw[e2]
 refine T.loopG0 (n:=W) (λi (q:Pls×aE×Int)=>q.1=pls Q W (y*W+i)/\NoC st0 t0 q.2.1 q.2.2 (yK A W S (y*W+i))) _ (F:=λm (q:Pls×aE×Int) i=>lU N v (A1,B1,D1,b,sky,bv1,wv,e1) (y:Int) s m q.1.1 q.1.2.1 q.1.2.2.1 q.1.2.2.2.1 q.1.2.2.2.2.1 q.1.2.2.2.2.2 s q.2.1 (wlk bv gl q.2.2) i) (λm q i hi hq hk=>?_) (λm q hq=>?_) (by omega) (s:=(p,st,t)) ⟨hp,hc⟩
 ·rw[lU,dt (show(i:Int) < v.gW by rw[hd.w];omega),cond_true]
  refine T.bind (sampP hN hd (λk hk'=>hA i k hi hk') q.2.1 q.2.2) λr hr=>?_;obtain⟨hr1,t',hr2,hr3⟩:=hr;obtain⟨l,st',fd⟩:=r;dsimp only at hr1 hr2 hr3;subst hr1 hr2;obtain⟨e,_⟩:=hQ i y hi hy;refine T.eq e ?_;obtain⟨⟨b0,a0,d0,n0,s0,l0⟩,st1,t1⟩:=q;obtain⟨hq1,hq2⟩:=hq;unfold pls at hq1;simp only[Prod.mk.injEq] at hq1;obtain⟨rfl,rfl,rfl,rfl,rfl,rfl⟩:=hq1;refine T.eq (hJ (by simp[uK,pxI];omega)) (T.eq (hJ (by simp[uK,pxI];omega)) (T.eq (hJ (by simp[uK,pxI];omega)) (T.eq (hJ (by simp[uK,pxI];omega)) (T.eq (hJ (by simp[uK,pxI];omega)) (T.eq (hJ (by simp[uK,pxI];omega)) ?_)))))
  rw[dI (by omega)]
  refine hk ((_,_,_,_,_,_),st',t') ⟨?_,?_⟩
  ·unfold pls;rw[show y*W+(i+1)=y*W+i+1 from rfl,vH _ Q y hi,vH _ Q y hi,vH _ Q y hi,vH _ Q y hi,vH _ Q y hi,vH _ Q y hi]
   rfl
  ·rw[show y*W+(i+1)=y*W+i+1 from rfl,aP2 A y S hi]
   exact hq2.add hr3
 ·rw[lU,df (show ¬(W:Int) < v.gW by rw[hd.w];omega),cond_false]
  exact T.ret ⟨hq.1,rfl,_,rfl,hq.2⟩
theorem rowsP{bv:aX}{gl:List aH}{A1:List aH}{B1:List aP}{D1:List aQ}{bv1:aX}{wv:aL}{e1:Int}{W H S:Nat}(hd:Dim v W H S){A:Nat->Nat->Nat->Pa}{Q:Nat->Nat->Px}(hQ:PxF N s A W H S Q)(hA:∀x y k,x < W->y < H->k < S->aQd N b s v sky bv gl x y k (A x y k))(st0:aE)(t0:Int) :
  T (lK N v (A1,B1,D1,b,sky,bv1,wv,e1) s N [] [] [] [] [] [] s.gE s.gA6 s.gA2 s.gF s.gR s.gB0 s.gB8 s.gC1 s.gTo st0 (wlk bv gl t0) 0) (λr=>(r.1,r.2.1,r.2.2.1,r.2.2.2.1,r.2.2.2.2.1,r.2.2.2.2.2.1)=pls Q W (H*W)/\r.2.2.2.2.2.2.1=s/\∃t',r.2.2.2.2.2.2.2.2=wlk bv gl t'/\NoC st0 t0 r.2.2.2.2.2.2.2.1 t' (yK A W S (H*W))):=by
 have h1:=hd.h1;refine T.loopG0 (n:=H) (λi (q:Pls×aG×aE×Int)=>q.1=pls Q W (i*W)/\q.2.1=s/\NoC st0 t0 q.2.2.1 q.2.2.2 (yK A W S (i*W))) _ (F:=λm (q:Pls×aG×aE×Int) i=>lK N v (A1,B1,D1,b,sky,bv1,wv,e1) s m q.1.1 q.1.2.1 q.1.2.2.1 q.1.2.2.2.1 q.1.2.2.2.2.1 q.1.2.2.2.2.2 q.2.1.gE q.2.1.gA6 q.2.1.gA2 q.2.1.gF q.2.1.gR q.2.1.gB0 q.2.1.gB8 q.2.1.gC1 q.2.1.gTo q.2.2.1 (wlk bv gl q.2.2.2) i) (λm q i hi hq hk=>?_) (λm q hq=>?_) (by omega) (s:=(([],[],[],[],[],[]),s,st0,t0)) ⟨by rw[ic];rfl,rfl,by rw[ic];exact NoC.zero _ _⟩
 ·rw[lK,dt (show(i:Int) < v.gH by rw[hd.h];omega),cond_true]
  obtain⟨p,sc,st,t⟩:=q;obtain⟨hp,hsc,hc⟩:=hq;dsimp only at hp hsc hc;subst hsc;refine T.bind (rowP hN hd hQ hi (λx k hx hk'=>hA x i k hx hi hk') st0 t0 hp hc) λr hr=>?_;obtain⟨hr1,hr2,t',hr3,hr4⟩:=hr;obtain⟨b1,a1,d1,n1,c1,l1,sc,st1,fd⟩:=r;dsimp only at hr1 hr2 hr3 hr4;subst hr2 hr3;rw[dI (by omega)]
  exact hk ((b1,a1,d1,n1,c1,l1),sc,st1,t') ⟨hr1,rfl,hr4⟩
 ·rw[lK,df (show ¬(H:Int) < v.gH by rw[hd.h];omega),cond_false]
  exact T.ret ⟨hq.1,hq.2.1,_,rfl,hq.2.2⟩
end
end Go.UK
