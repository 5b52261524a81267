/- The own layer: abstract values, their memory, and the steps of the model over them: for any program. -/
import Derived.Test.YtmmabhkichiikaaGreatLib14
namespace Go.UK
open Go
set_option linter.all false
variable [bS]
section
variable {P:Program} {T:TypeId→Option TI} {n:Fr}
section
variable {o:Oper} {need:Env} {H:List Box} {x:AV} {id:Nat}
theorem dsR(hT:TOK P T){α:Type}(f:α->AV){k N:Nat}(l:List α)(e:(dOK n.n o.dst,aND T o need,l.length*k,H[id]?)=(true,some (k,l.length,l.map f),N,some .dead)):Big P n o need H (.bsl id [] 0 k 0 l.length) (H.set id (.var (.arr N k (l.map f)))):=by
 simp only[Prod.mk.injEq] at e;exact aQw hT id f l e.1 e.2.1 e.2.2.1 e.2.2.2
theorem dsM(hT:TOK P T){α:Type}(f:α->AV)(z0:α){i:Int}{b k:Nat}{kd:TK}{u:Unit}(hx:mkO b i=some u)(hn:(f z0).n=k)(e:(dOK n.n o.dst,mkE T o need,H[id]?)=(true,some (i,⟨k,b,f z0,kd⟩),some .dead)):Big P n o need H (.bsl id [] 0 k 0 i.toNat) (H.set id (.var (.arr (i.toNat*k) k ((List.replicate i.toNat z0).map f)))):=by
 simp only[Prod.mk.injEq] at e;exact aUz hT id f z0 hx e.1 e.2.1 hn e.2.2
end
end
end Go.UK

open Bool renaming and_eq_true→am
open List renaming all_eq_true→ca,append_assoc→av,append_nil→fx,cons_append→du,getElem?_append_left→bd,map_cons→i8,mem_append→b9,mem_cons→fg,mem_of_getElem?→az,range→be
open Nat renaming beq→au,blt→jx,eq_of_beq_eq_true→ag,le_refl→ay
namespace Go.UK
open Go
set_option linter.all false
variable [bS]
structure EU where
 u:List (Nat×Box)
 new:List Box
abbrev EF:=List (Nat×EU)
def aEy{α β:Type}(f:α->β):List α->List β
 | []=>[]
 | x :: r=>f x :: aEy f r
def aE0{α β:Type}(f:α->β):List α->List β
 | []=>[]
 | x :: r=>f x :: aE0 f r
theorem aQP{α β:Type}(f:α->β):∀l:List α,aEy f l=l.map f
 | []=>rfl
 | x :: r=>by simp only[aEy,i8,aQP f r]
theorem aPq{α β:Type}(f:α->β):∀l:List α,aE0 f l=l.map f
 | []=>rfl
 | x :: r=>by simp only[aE0,i8,aPq f r]
theorem aQT{α β:Type}{f g:α->β}{l:List α}(h:aEy f l=aE0 g l):∀x∈l,f x=g x:=List.map_inj_left.1 (by rw[<- aQP,<- aPq,h])
def apU(H:List Box)(e:EU):List Box:=match e.new with | []=>aTj H e.u | b :: r=>aTj H e.u++(b :: r)
def aBy(i:Nat):EF->Option EU
 | []=>none
 | (c,u) :: r=>match au c i with | true=>some u | false=>aBy i r
def fOn : List Box->EF->Array Bool->List Box
 | H,[],_=>H
 | H,(i,u) :: r,listed=>match listed.getD i false with | true=>fOn (apU H u) r listed | false=>fOn H r listed
def aNc : List Box->EF->List Box
 | H,[]=>H
 | H,(_,u) :: r=>aNc (apU H u) r
def prs(C:List (List Nat))(i:Nat):List Box->List Box->EF->List (List Box×List Box)
 | H,K,[]=>[(H,K)]
 | H,K,(c,u) :: r=>match au c i with
  | true=>prs C i H (apU K u) r
  | false=>match inC C c i with
   | true=>prs C i H K r
   | false=>match inC C i c with
    | true=>prs C i (apU H u) (apU K u) r
    | false=>prs C i H K r++prs C i (apU H u) (apU K u) r
def aB6(ops:Array Oper)(C:List (List Nat))(ms:List MI)(es:EF)(B:Env):Bool:=
 au ms.length ops.size&&(
 aEx ops.size (λi=>(dir ops i).all λj=>jx j i)&&(
 aEx ops.size (λi=>dEq ((ops[i]?).bind (·.dst)) (dAt ms i))&&(
 aEx ops.size (λj=>aEx j λi => !aDx (dAt ms i) (dAt ms j))&&(
 (aFO ms B&&aSK C ms ops.size)&&es.all (λq=>jx q.1 ops.size)))))
section
variable {P:Program} {T:TypeId→Option TI} {n:Fr} {ops:Array Oper}
def aSQ(P:Program)(n:Fr)(ops:Array Oper)(C:List (List Nat))(ms:List MI)(es:EF)(B:Env)(H:List Box)(i:Nat):Prop:=
 ∀o x env,ops[i]? = some o->ms[i]? = some x->Sub (fL C ms B i) env->∀q∈prs C i H H es,opS P n ops o ⟨env,q.1⟩ ⟨x.put env,q.2⟩
theorem aEn{C:List (List Nat)}{listed:Array Bool}{i:Nat}(hi:i < listed.size)(hcl:∀s,inC C i s=true->jZ listed s)(hni:∀c,inC C c i=true->¬jZ listed c)(hu:¬jZ listed i):∀(H K:List Box) (es:EF),(fOn H es listed,fOn K es (listed.setIfInBounds i true))∈prs C i H K es
 | H,K,[]=>by simp[fOn,prs]
 | H,K,(c,x) :: r=>by
  unfold fOn prs;have hon:∀c,jZ listed c↔listed.getD c false=true:=λ_=>Iff.rfl;cases h0:au c i with
  | true=>
   have e:=ag h0;subst e;have h1:(listed.setIfInBounds c true).getD c false=true:=(yX hi).2 (.inl rfl)
   have h2:listed.getD c false=false:=by cases hg:listed.getD c false with | true=>exact absurd hg hu | false=>rfl
   rw[h1,h2]
   exact aEn hi hcl hni hu H _ r
  | false=>
   have hne:i≠c:=λe=>by subst e;simp at h0
   rw[xK false hne]
   cases h1:inC C c i with
   | true=>
    have hn:=hni c h1;unfold jZ at hn;cases hg:listed.getD c false with
    | true=>exact absurd hg hn
    | false=>exact aEn hi hcl hni hu H K r
   | false=>
    cases h2:inC C i c with
    | true=>
     have:=hcl c h2;unfold jZ at this;rw[this]
     exact aEn hi hcl hni hu _ _ r
    | false=>
     cases hg:listed.getD c false with
     | true=>exact b9.2 (.inr (aEn hi hcl hni hu _ _ r))
     | false=>exact b9.2 (.inl (aEn hi hcl hni hu H K r))
theorem aPf{listed:Array Bool}:∀(H:List Box) (es:EF),(∀q∈es,listed.getD q.1 false=true)->fOn H es listed=aNc H es
 | H,[],_=>rfl
 | H,(c,x) :: r,h=>by
  unfold fOn aNc;rw[h (c,x) (by simp)]
  exact aPf _ r (λq hq=>h q (by simp[hq]))
theorem aM2{listed:Array Bool}(h:∀i,¬jZ listed i):∀(H:List Box) (es:EF),fOn H es listed=H
 | H,[]=>rfl
 | H,(c,x) :: r=>by
  unfold fOn;split
  ·rename_i hon;exact absurd hon (h c)
  ·exact aM2 h H r
theorem aFM{C:List (List Nat)}{i:Nat}:∀(H:List Box) (es:EF),aBy i es=none->∀q∈prs C i H H es,q.2=q.1
 | H,[],_,q,hq=>by
  have:q=(H,H):=by simpa[prs] using hq
  rw[this]
 | H,(c,u) :: r,h,q,hq=>by
  unfold aBy at h;unfold prs at hq;split at h
  ·cases h
  ·rename_i hb;rw[hb] at hq;dsimp only at hq;split at hq
   ·exact aFM H r h q hq
   ·split at hq
    ·exact aFM _ r h q hq
    ·rcases b9.1 hq with h' | h'
     ·exact aFM _ r h q h'
     ·exact aFM _ r h q h'
theorem aV2{C:List (List Nat)}(hC:C=tW ops){ms:List MI}{es:EF}{B:Env}{H:List Box}{ctx:Mem}{Q:Exit->Act->World->Prop}(hok:aB6 ops C ms es B=true)(hst:∀i,i < ops.size->aSQ P n ops C ms es B H i)
  (hk:∀a w env,Sat n ctx ⟨env,aNc H es⟩ a w->(∀k v,bZ B k=some (none,v)->(∀x∈ms,aC0 x.d k=false)->bZ env k=some (none,v))->(∀(j:Nat) (x:MI) d v,ms[j]? = some x->x.d=some d->x.e=some v->bZ env d=some (none,v))->Q .normal a w) :
  ∀(fuel:Nat) (listed:Array Bool) (a:Act) (w:World) (env:Env),listed.size=ops.size->Down ops listed->(∀i,jZ listed i->i < ops.size)->uc listed ops.size<=fuel ->
  Sat n ctx ⟨env,fOn H es listed⟩ a w->(∀k v,bZ B k=some (none,v)->(∀(j:Nat) x,ms[j]? = some x->jZ listed j->aC0 x.d k=false)->bZ env k=some (none,v))->(∀(j:Nat) (x:MI) d v,ms[j]? = some x->jZ listed j->x.d=some d->x.e=some v->bZ env d=some (none,v))->wpAnyIn n.F 0 P .any ops Q fuel listed a w:=by
 simp only[aB6,am] at hok;obtain⟨h1,h2,h3,h4,⟨h5,h5k⟩,h7⟩:=hok;have hsz:=ag h1;have hcs:∀q∈es,q.1 < ops.size:=λq hq=>by
  have h8:Nat.ble (q.1+1) ops.size=true:=ca.1 h7 q hq;have:=Nat.le_of_ble_eq_true h8;omega
 have done:∀(listed:Array Bool) (a:Act) (w:World) (env:Env),(∀i,i < ops.size->jZ listed i)->Sat n ctx ⟨env,fOn H es listed⟩ a w->(∀k v,bZ B k=some (none,v)->(∀(j:Nat) x,ms[j]? = some x->jZ listed j->aC0 x.d k=false)->bZ env k=some (none,v)) ->
   (∀(j:Nat) (x:MI) d v,ms[j]? = some x->jZ listed j->x.d=some d->x.e=some v->bZ env d=some (none,v))->Q .normal a w:=by
  intro listed a w env hall hsat hB hE;rw[aPf H es (λq hq=>hall q.1 (hcs q hq))] at hsat;exact hk a w env hsat (λk v hb hl=>hB k v hb λj x hx _=>hl x (az hx)) (λj x d v hx=>hE j x d v hx (hall j (by have:=aZ hx;omega)))
 have nothing:∀(listed:Array Bool),(∀i,i < ops.size->jZ listed i)->Region.ready .any ops listed=[]:=by
  intro listed hall;refine List.eq_nil_iff_forall_not_mem.2 λi hi=>?_;obtain⟨r1,r2,_⟩:=aDL hi;exact aLR r1 (hall i r2)
 intro fuel
 induction fuel with
 | zero=>
  intro listed a w env hs hd hm hc hsat hB hE;have hall:∀i,i < ops.size->jZ listed i:=aMk ops.size (by omega)
  exact⟨nothing listed hall,done listed a w env hall hsat hB hE⟩
 | succ fuel ih=>
  intro listed a w env hs hd hm hc hsat hB hE;refine⟨λh0=>?_,λi hi=>?_⟩
  ·refine done listed a w env (λj hj=>?_) hsat hB hE;apply Classical.byContradiction;intro hn;obtain⟨i,hi⟩:=aJr hs h2 j hj hn;rw[h0] at hi;cases hi
  ·obtain⟨r1,r2,r3⟩:=aDL hi;have hu:=aLR r1;have hcl:∀s,inC C i s=true->jZ listed s:=λs hs'=>aG9 hd i _ r3 s (aF5 hC hs')
   have hni:∀c,inC C c i=true->¬jZ listed c:=λc hc' hon=>hu (aG9 hd c _ (hd c hon) i (aF5 hC hc'))
   have him:i < ms.length:=by omega
   have ho:ops[i]? = some ops[i]:=Array.getElem?_eq_getElem r2;have hx:ms[i]? = some ms[i]:=List.getElem?_eq_getElem him;have hBf:∀i e,bZ B i=some e->e.1=none:=λi e h=>aAR h5 h;have hsub:Sub (fL C ms B i) env:=by
    intro k e hl;unfold fL at hl;rw[hx] at hl;dsimp only at hl;have hkm:k∈ms[i].keys:=aDS (f:=λk=>aAe C ms B i k i) hl;have hord:∀(j:Nat) x,ms[j]? = some x->jZ listed j->aC0 x.d k=true->inC C i j=true/\j < i:=by
     intro j x hjx hon hdh;rcases aI9 h5k r2 (hm j hon) hx hjx hkm hdh with h' | h' | h'
     ·exact h'
     ·exact absurd hon (hni j h')
     ·subst h';exact absurd hon hu
    refine aLM (on:=jZ listed) hcl (λv hb hl=>hB k v hb hl) hBf (λj x d v hjx hj hd' he=>hE j x d v hjx hj hd' he) (λj x hjx hon hdh=>(hord j x hjx hon hdh).1) i ?_ (aJ2 (f:=λk=>aAe C ms B i k i) hl)
    intro j x hij hjx hon;cases hc:aC0 x.d k with
    | false=>rfl
    | true=>have:=(hord j x hjx hon hc).2;omega
   have hstab:=hst i r2 ops[i] ms[i] env ho hx hsub;have hdst:(ops[i]).dst=ms[i].d:=by
    have:=jF h3 i r2;rw[ho] at this;simp only[Option.bind_some,dAt,hx] at this;generalize (ops[i]).dst=u at *;generalize ms[i].d=v at *;cases u <;> cases v <;> simp[dEq] at this ⊢;exact this
   have hops:opS P n ops ops[i] ⟨env,fOn H es listed⟩ ⟨ms[i].put env,fOn H es (listed.setIfInBounds i true)⟩:=hstab _ (aEn (by omega) hcl hni hu H H es)
   have hstep:=hops ctx a w Q hsat;rw[aPb ho]
   have next:∀a' w',Sat n ctx ⟨ms[i].put env,fOn H es (listed.setIfInBounds i true)⟩ a' w'->wpAnyIn n.F 0 P .any ops Q fuel (listed.setIfInBounds i true) a' w':=by
    intro a' w' hs';refine ih _ a' w' _ (by simpa using hs) ?_ ?_ ?_ hs' ?_ ?_
    ·intro p hp j hj;rw[yX (by omega)] at hp ⊢;rcases hp with hp | hp
     ·subst hp;exact .inr (r3 j hj)
     ·exact .inr (hd p hp j hj)
    ·intro p hp;rw[yX (by omega)] at hp;rcases hp with hp | hp
     ·subst hp;exact r2
     ·exact hm p hp
    ·have:=aOX (k:=ops.size) (show i < listed.size by omega) (by
      cases hc':listed.getD i false with
      | false=>rfl
      | true=>exact absurd hc' hu) r2
     omega
    ·intro k v hke hno;exact aCB (hno i _ hx ((yX (by omega)).2 (.inl rfl))) (hB k v hke λj x hjx hon=>hno j x hjx ((yX (by omega)).2 (.inr hon)))
    ·intro j x d v hjx hj hdx hex;rw[yX (by omega)] at hj;by_cases hji:j=i
     ·subst hji;rw[hx] at hjx;cases hjx;exact aHS hdx hex
     ·have hjo:=hj.resolve_left hji;refine aCB ?_ (hE j x d v hjx hjo hdx hex)
      have hjm:=aZ hjx;have hcl':aDx ms[i].d x.d=false:=by
       have hi':dAt ms i=ms[i].d:=by unfold dAt;rw[hx]
       have hj':dAt ms j=x.d:=by unfold dAt;rw[hjx]
       rw[<- hi',<- hj']
       rcases Nat.lt_trichotomy i j with hlt | hlt | hlt
       ·have:=jF (jF h4 j (by omega)) i hlt;simpa using this
       ·exact absurd hlt.symm hji
       ·have:=jF (jF h4 i r2) j hlt;have h9:aDx (dAt ms j) (dAt ms i)=false:=by simpa using this
        generalize dAt ms i=u at *;generalize dAt ms j=v at *;cases u <;> cases v <;> first | rfl | (simp only[aDx] at h9 ⊢;rw[aK5];exact h9)
      rw[hdx] at hcl';cases hdi:ms[i].d with
      | none=>rfl
      | some di=>rw[hdi] at hcl';exact hcl'
   split
   ·rename_i hw;rw[if_pos hw] at hstep;exact Oper.wpIn_mono next hstep
   ·rename_i hw;rw[if_neg hw] at hstep;exact⟨λ_ _=>trivial,next _ _ hstep⟩
theorem aQn{id:Nat}{l:List Oper}{Q:Exit->ASt->Prop}{st:ASt}(hm:P.follows .mixedOrders=true){ms:List MI}{es:EF}
  (hok:aB6 l.toArray (tW l.toArray) ms es st.env=true) (hst:∀i,i < l.toArray.size->aSQ P n l.toArray (tW l.toArray) ms es st.env st.H i)
  (hk:Q .normal ⟨aEC ms st.env,aNc st.H es⟩):aw P n (.region id l.toArray true) Q st:=by
 intro ctx a w hs;refine wpIn_region_any hm ?_;obtain⟨bs,hmm⟩:=hs;have hdrew:Sat n ctx st a { w with drawn:=w.drawn+1 }:=by
  have hl:dG w w.drew:=dG.drew w;exact⟨bs,{ h:=rfl,ok:=OK.later hl hmm.ok,ext:=hmm.ext.trans (Ext.later hl),env:=hmm.env.ext (Ext.later hl),size:=hmm.size,low:=hmm.low,defers:=vQ.ext hmm.ok (Ext.later hl) hmm.defers,nod:=hmm.nod,outs:=λp hp=>(hmm.outs p hp).ext (Ext.later hl) }⟩
 have hl0:∀i,¬jZ (Array.replicate l.toArray.size false) i:=by
  intro i h;unfold jZ at h;rw[Array.getD_eq_getD_getElem?] at h;rw[Array.getElem?_replicate] at h;split at h <;> simp at h
 have hb5:aFO ms st.env=true:=by
  simp only[aB6,am] at hok;exact hok.2.2.2.2.1.1
 have hlen:ms.length=l.toArray.size:=by
  simp only[aB6,am] at hok;exact ag hok.1
 refine aV2 rfl (ctx:=ctx) hok hst ?_ _ _ _ _ st.env (by simp) (λi h=>absurd h (hl0 i)) (λi h=>absurd h (hl0 i)) ?_ ?_ (λ_ _ h _=>h) (λj x d v _ h=>absurd h (hl0 j))
 ·intro a w env hs hB hE;refine⟨_,hk,aGB (st:=⟨env,aNc st.H es⟩) (λi e h=>aF9 (λi e h=>aAR hb5 h) (λv=>hB i v) (λx hx d v hd he=>?_) e h) hs⟩
  obtain⟨j,hj⟩:=List.getElem?_of_mem hx;exact hE j x d v hj hd he
 ·have:∀k,uc (Array.replicate l.toArray.size false) k<=k:=by
   intro k
   induction k with
   | zero=>exact ay _
   | succ k ih=>unfold uc;split <;> omega
  exact this _
 ·rw[aM2 hl0]
  exact hdrew
end
def aMi(H:List Box)(p x:AV):Option (Nat×Box):=
 match p with
 | .ref id path o=>match H[id]? with
  | some (.var c)=>match loc c 0 path with
   | some (x0,o')=>match au o' o&&au x0.n x.n with
    | true=>match aDB c path x with
     | some c'=>some (id,.var c')
     | none=>none
    | false=>none
   | none=>none
  | _=>none
 | _=>none
theorem aLS{H:List Box}{p x:AV}{q:Nat×Box}(h:aMi H p x=some q):aAJ H p x=some (H.set q.1 q.2):=by
 unfold aMi at h;split at h <;> try cases h
 rename_i id path o;split at h <;> try cases h
 rename_i c hc;split at h <;> try cases h
 rename_i x0 o' hl;split at h <;> try cases h
 rename_i hb;split at h <;> cases h;rename_i c' hs;simp[aAJ,hc,hl,hb,hs]
def notNw(o:Oper):Bool:=match o.op with | .alloc _=>false | .box _ _=>false | _=>true
def newQ(T:TypeId->Option TI)(o:Oper)(need:Env):Option AV:=match allE T o with | some x=>some x | none=>boxE o need
def plQ(T:TypeId->Option TI)(im:Bool)(n:Nat)(o:Oper)(need:Env)(H:List Box)(nx:Nat):Option (AV×EU):=
 match o.op with
 | .store t p v=>match o.dst with
  | some _=>none
  | none=>match opd need none p,opd need none v,T t with
   | some q,some x,some i=>match au x.n i.size&&fP x with
    | true=>match aMi H q x with
     | some u=>some (.v (.bool false),⟨[u],[]⟩)
     | none=>none
    | false=>none
   | _,_,_=>none
 | .pick _ _ _=>match plU T im n o need H with | some (x,_)=>some (x,⟨[],[]⟩) | none=>none
 | _=>match dOK n o.dst with
  | true=>match im||notNw o with
   | true=>match ev T im (opd need none) H o with | some (x,none)=>some (x,⟨[],[]⟩) | _=>none
   | false=>match newQ T o need with
    | some z=>match H[nx]? with
     | some .dead=>some (.ref nx [] 0,⟨[(nx,.var z)],[]⟩)
     | _=>match ev T im (opd need none) H o with | some (x,some b)=>some (x,⟨[],[b]⟩) | _=>none
    | _=>none
  | false=>none
section
variable {P:Program} {T:TypeId→Option TI} {n:Fr}
theorem aPQ(hT:TOK P T){im:Bool}{o:Oper}{need:Env}{H:List Box}{nx:Nat}{x:AV}{u:EU}(h:plQ T im n.n o need H nx=some (x,u)):Big P n o need H x (apU H u):=by
 unfold plQ at h;split at h
 ·rename_i t p v ho;split at h <;> try cases h
  rename_i hd;split at h <;> try cases h
  rename_i q y i hq hy hi;split at h <;> try cases h
  rename_i hb;split at h <;> cases h;rename_i w hw;refine aIb (im:=im) hT ?_;simp only[plU,hd,dOK,ho,hq,hy,hi,hb,aLS hw]
  rfl
 ·rename_i c y z ho;split at h <;> cases h;rename_i H' h;have e:H'=H:=by
   unfold plU at h;split at h <;> try cases h
   rw[ho] at h;cases c <;> dsimp only at h
   case tmp c=>
    split at h <;> try cases h
    split at h <;> (split at h <;> cases h;rfl)
   all_goals (split at h <;> try cases h) <;> (rename_i hv;unfold ev at hv;rw[ho] at hv;cases hv)
  subst e;exact aIb hT h
 ·split at h <;> try cases h
  rename_i hd;split at h
  ·split at h <;> cases h;rename_i hv;exact aOm hT hd hv
  ·split at h <;> try cases h
   rename_i z hz;split at h
   ·cases h;rename_i hx;unfold newQ at hz;split at hz
    ·rename_i ha;cases hz;exact aOk hT nx hd ha hx
    ·exact aS0 nx hd hz hx
   ·split at h <;> cases h;rename_i hv;exact aOm hT hd hv
end
structure DQ where
 i:Nat
 ms:List MI
 es:EF
 H:List Box
 nx:Nat
 gs:List Nat
def aOB(l:List Oper)(C:List (List Nat))(B:Env)(q:DQ):Env:=(aAb l (rF l q.i)).map λk=>(k,aAe C q.ms B q.i k q.i)
def nxU(nx:Nat)(u:List (Nat×Box)):Nat:=u.foldl (λm e=>match jx e.1 m with | true=>m | false=>e.1+1) nx
def aFB(l:List Oper)(q:DQ)(x:AV)(u:EU)(gs:List Nat):DQ:=
 ⟨q.i+1,q.ms++[⟨aAb l (rF l q.i),(rF l q.i).dst,some x⟩],match u with | ⟨[],[]⟩=>q.es | u=>q.es++[(q.i,u)],apU q.H u,nxU q.nx u.u,gs⟩
def dpl(T:TypeId->Option TI)(im:Nat->Bool)(n:Nat)(l:List Oper)(C:List (List Nat))(B:Env)(q:DQ):DQ:=
 match aDf l (rF l q.i) (aOB l C B q) with
 | true=>aFB l q (.tup []) ⟨[],[]⟩ q.gs
 | false=>match plQ T (aRX im (rF l q.i)) n (rF l q.i) (aOB l C B q) q.H q.nx with
  | some (x,u)=>aFB l q x u q.gs
  | none=>q
def aSa(T:TypeId->Option TI)(im:Nat->Bool)(n:Nat)(l:List Oper)(C:List (List Nat))(B:Env):Nat->DQ->DQ
 | 0,q=>q
 | k+1,q=>aSa T im n l C B k (dpl T im n l C B q)
def uAt(i:Nat)(es:EF):EU:=match aBy i es with | some u=>u | none=>⟨[],[]⟩
def nxOf(H:List Box):List (Nat×Box)->Nat
 | []=>H.length
 | (id,_) :: _=>id
def chkB(l:List Oper)(C:List (List Nat))(B:Env)(q:DQ)(i:Nat):Bool:=
 match aDf l (rF l i) (fL C q.ms B i) with
 | true=>aIK (eAt q.ms i)&&aEB (aBy i q.es) && !(q.gs.any (au i))
 | false=>gOK l.toArray (rF l i) (fL C q.ms B i)&&aMU (eAt q.ms i)
def chkL(T:TypeId->Option TI)(im:Nat->Bool)(n:Nat)(l:List Oper)(C:List (List Nat))(B:Env)(H0:List Box)(q:DQ)(i:Nat):List (Option (AV×EU)×List Box):=
 match aDf l (rF l i) (fL C q.ms B i)||q.gs.any (au i) with
 | true=>[]
 | false=>aEy (λH=>(plQ T (aRX im (rF l i)) n (rF l i) (fL C q.ms B i) H.1 (nxOf H.1 (uAt i q.es).u),apU H.1 (uAt i q.es))) (prs C i H0 H0 q.es)
def chkR(l:List Oper)(C:List (List Nat))(B:Env)(H0:List Box)(q:DQ)(i:Nat):List (Option (AV×EU)×List Box):=
 match aDf l (rF l i) (fL C q.ms B i)||q.gs.any (au i) with
 | true=>[]
 | false=>aE0 (λH=>(some ((eAt q.ms i).getD default,uAt i q.es),H.2)) (prs C i H0 H0 q.es)
def OB(P:Program)(n:Fr)(l:List Oper)(C:List (List Nat))(B:Env)(H0:List Box)(ms:List MI)(es:EF)(i:Nat):Prop:=
 ∃x,eAt ms i=some x/\∀q∈prs C i H0 H0 es,Big P n (rF l i) (fL C ms B i) q.1 x q.2
section
variable {P:Program} {T:TypeId→Option TI} {im:Nat→Bool} {n:Fr} {l:List Oper} {C:List (List Nat)} {B:Env} {H0:List Box}
theorem stabQ(hT:TOK P T){q:DQ}{i:Nat}(hi:i < l.toArray.size)(hB:aB6 l.toArray C q.ms q.es B=true)(hdb:chkB l C B q i=true)(hde:chkL T im n.n l C B H0 q i=chkR l C B H0 q i)(hdst:l.all (λo=>dOK n.n o.dst)=true)
  (hg:∀g∈q.gs,OB P n l C B H0 q.ms q.es g):aSQ P n l.toArray C q.ms q.es B H0 i:=by
 obtain⟨_,ms,es,_,_,gs⟩:=q;dsimp only at *;intro o x env ho hx hs H' hH';obtain⟨H',K'⟩:=H';dsimp only;have hlo:l[i]? = some o:=by simpa using ho
 have ho':rF l i=o:=by unfold rF;rw[hlo];rfl
 have hdo:dOK n.n o.dst=true:=ca.1 hdst o (az hlo)
 have hxd:x.d=o.dst:=by
  simp only[aB6,am] at hB;have:=jF hB.2.2.1 i hi;rw[ho] at this;simp only[Option.bind_some,dAt,hx] at this;generalize o.dst=u at *;generalize x.d=v at *;cases u <;> cases v <;> simp[dEq] at this ⊢;exact this.symm
 have hex:eAt ms i=x.e:=by unfold eAt;rw[hx]
 unfold chkB at hdb;unfold chkL chkR at hde;simp only[ho',hex] at hdb hde;have fin:∀(v:AV),x.e=some v->gOK l.toArray o (fL C ms B i)=true->Big P n o (fL C ms B i) H' v K'->opS P n l.toArray o ⟨env,H'⟩ ⟨x.put env,K'⟩:=by
  intro v hv hg hb;have:=aQN hs hg hb;unfold MI.put;rw[hv,hxd]
  cases hd:o.dst with
  | none=>rw[hd] at this;exact this
  | some d=>rw[hd] at this;exact this
 cases hdead:aDf l o (fL C ms B i) with
 | true=>
  rw[hdead] at hdb;simp only[am] at hdb;have hnc:aBy i es=none:=by cases hc:aBy i es with | none=>rfl | some _=>rw[hc] at hdb;cases hdb.1.2
  have hne:x.e=some (.tup []):=aGa hdb.1.1;have:=aNd (P:=P) (n:=n) (H:=H') ho hs hdead hdo;have e:K'=H':=aFM _ _ hnc _ hH';subst e;unfold MI.put;rw[hne,hxd]
  exact this
 | false=>
  rw[hdead] at hdb hde;simp only[am,Bool.false_or] at hdb hde;obtain⟨hg',hsome⟩:=hdb;obtain⟨v,hv⟩:∃v,x.e=some v:=by cases hc:x.e with | none=>rw[hc] at hsome;cases hsome | some v=>exact⟨v,rfl⟩
  cases hgs:gs.any (au i) with
  | true=>
   obtain⟨g,hg1,hg2⟩:=List.any_eq_true.1 hgs;have e:=ag hg2;subst e;obtain⟨y,h1,h2⟩:=hg i hg1;rw[hex,hv] at h1;cases h1;have:=h2 _ hH';rw[ho'] at this;exact fin v hv hg' this
  | false=>
   rw[hgs,hv] at hde;simp only[Option.getD_some] at hde;have:=aQT hde _ hH';simp only[Prod.mk.injEq] at this;have hb:=aPQ hT this.1;rw[this.2] at hb;exact fin v hv hg' hb
def DX(q:DQ)(ms:List MI)(es:EF):Prop:=∃xs ys,ms=q.ms++xs/\es=q.es++ys/\∀y∈ys,q.i<=y.1
def DV(q:DQ):Prop:=q.i=q.ms.length/\∀e∈q.es,e.1 < q.i
theorem aEr{ms xs:List MI}{i k:Nat}:∀{j:Nat},j<=ms.length->aAe C (ms++xs) B i k j=aAe C ms B i k j
 | 0,_=>rfl
 | j+1,h=>by
  unfold aAe;rw[bd (by omega),aEr (j:=j) (by omega)]
theorem aPP{ms xs:List MI}{x:MI}:fL C (ms++x :: xs) B ms.length=x.keys.map λk=>(k,aAe C ms B ms.length k ms.length):=by
 unfold fL;rw[List.getElem?_append_right (ay _),Nat.sub_self]
 dsimp only[List.getElem?_cons_zero]
 congr 1;funext k;rw[aEr (ay _)]
theorem aQ3{ms xs ys:List MI}{g:Nat}(h:g < ms.length):fL C (ms++xs) B g=fL C (ms++ys) B g:=by
 unfold fL;rw[bd h,bd h]
 cases ms[g]? with
 | none=>rfl
 | some x=>dsimp only;congr 1;funext k;rw[aEr (by omega),aEr (by omega)]
theorem aVi{ms xs ys:List MI}{g:Nat}(h:g < ms.length):eAt (ms++xs) g=eAt (ms++ys) g:=by
 unfold eAt;rw[bd h,bd h]
theorem aGg{i:Nat}:∀{es ys:EF},aBy i (es++ys)=match aBy i es with | some u=>some u | none=>aBy i ys
 | [],ys=>rfl
 | (c,u) :: es,ys=>by
  simp only[du,aBy]
  cases au c i with
  | true=>rfl
  | false=>exact aGg
theorem aEo{i:Nat}:∀{es:EF},(∀e∈es,e.1≠i)->aBy i es=none
 | [],_=>rfl
 | (c,u) :: es,h=>by
  unfold aBy;rw[qS (h (c,u) (by simp))]
  exact aEo λe he=>h e (by simp[he])
theorem aLN{q:DQ}{x:AV}{u:EU}{gs:List Nat}:(u=⟨[],[]⟩/\(aFB l q x u gs).es=q.es)\/(u≠⟨[],[]⟩/\(aFB l q x u gs).es=q.es++[(q.i,u)]):=by
 unfold aFB;dsimp only;split
 ·exact .inl ⟨rfl,rfl⟩
 ·rename_i h;exact .inr ⟨h,rfl⟩
theorem aPn{q:DQ}{x:AV}{u:EU}{gs:List Nat}(h:DV q):DV (aFB l q x u gs):=by
 refine⟨by simp[aFB,h.1],λe he=>?_⟩
 show e.1 < q.i+1;rcases aLN (l:=l) (q:=q) (x:=x) (u:=u) (gs:=gs) with ⟨_,h1⟩ | ⟨_,h1⟩
 ·rw[h1] at he;have:=h.2 e he;omega
 ·rw[h1] at he;rcases b9.1 he with h' | h'
  ·have:=h.2 e h';omega
  ·have:e=(q.i,u):=by simpa using h'
   subst this;dsimp only;omega
theorem aP2{q:DQ}{x:AV}{u:EU}{gs:List Nat}{ms:List MI}{es:EF}(h:DX (aFB l q x u gs) ms es):DX q ms es:=by
 obtain⟨xs,ys,h1,h2,h3⟩:=h;have h3:∀y∈ys,q.i+1<=y.1:=h3;rcases aLN (l:=l) (q:=q) (x:=x) (u:=u) (gs:=gs) with ⟨_,g⟩ | ⟨_,g⟩
 ·rw[g] at h2;exact⟨_,ys,h1.trans (av ..),h2,λy hy=>by have:=h3 y hy;omega⟩
 ·rw[g] at h2;exact⟨_,(q.i,u) :: ys,h1.trans (av ..),h2.trans (by simp),λy hy=>by
   rcases fg.1 hy with e | e
   ·subst e;exact ay _
   ·have:=h3 y e;omega⟩
theorem aVc{q:DQ}{x:AV}{u:EU}{gs:List Nat}{ms:List MI}{es:EF}(hv:DV q)(h:DX (aFB l q x u gs) ms es):uAt q.i es=u/\(u=⟨[],[]⟩->aBy q.i es=none)/\eAt ms q.i=some x/\fL C ms B q.i=aOB l C B q:=by
 obtain⟨xs,ys,h1,h2,h3⟩:=h;have h3:∀y∈ys,q.i+1<=y.1:=h3;have e0:aBy q.i q.es=none:=aEo λe he e'=>by have:=hv.2 e he;omega
 have e1:aBy q.i ys=none:=aEo λe he e'=>by have:=h3 e he;omega
 have e2:(u=⟨[],[]⟩/\aBy q.i es=none)\/(u≠⟨[],[]⟩/\aBy q.i es=some u):=by
  rcases aLN (l:=l) (q:=q) (x:=x) (u:=u) (gs:=gs) with ⟨g0,g⟩ | ⟨g0,g⟩
  ·refine .inl ⟨g0,?_⟩;rw[h2,g,aGg,e0];exact e1
  ·refine .inr ⟨g0,?_⟩;rw[h2,g,av,aGg,e0];simp[aBy]
 refine⟨?_,λhu=>?_,?_,?_⟩
 ·unfold uAt;rcases e2 with ⟨g,e⟩ | ⟨_,e⟩
  ·rw[e,g]
  ·rw[e]
 ·rcases e2 with ⟨_,e⟩ | ⟨e,_⟩
  ·exact e
  ·exact absurd hu e
 ·unfold eAt;have h1:ms=(q.ms++[⟨aAb l (rF l q.i),(rF l q.i).dst,some x⟩])++xs:=h1;rw[h1,hv.1]
  simp
 ·have h1:ms=(q.ms++[⟨aAb l (rF l q.i),(rF l q.i).dst,some x⟩])++xs:=h1;rw[h1,av,hv.1]
  show fL C (q.ms++(_ :: xs)) B q.ms.length=_;rw[aPP]
  unfold aOB;rw[hv.1]
theorem dplV{q:DQ}(h:DV q):DV (dpl T im n.n l C B q):=by
 unfold dpl;split
 ·exact aPn h
 ·split
  ·exact aPn h
  ·exact h
theorem dplX{q:DQ}{ms:List MI}{es:EF}(h:DX (dpl T im n.n l C B q) ms es):DX q ms es:=by
 unfold dpl at h;split at h
 ·exact aP2 h
 ·split at h
  ·exact aP2 h
  ·exact h
theorem dplG{q:DQ}:(dpl T im n.n l C B q).gs=q.gs:=by
 unfold dpl;split
 ·rfl
 ·split <;> rfl
theorem advV : ∀{k:Nat} {q:DQ},DV q->DV (aSa T im n.n l C B k q)
 | 0,_,h=>h
 | k+1,_,h=>advV (k:=k) (dplV h)
theorem advX : ∀{k:Nat} {q:DQ} {ms:List MI} {es:EF},DX (aSa T im n.n l C B k q) ms es->DX q ms es
 | 0,_,_,_,h=>h
 | k+1,_,_,_,h=>dplX (advX (k:=k) h)
theorem advG : ∀{k:Nat} {q:DQ},(aSa T im n.n l C B k q).gs=q.gs
 | 0,_=>rfl
 | k+1,_=>(advG (k:=k)).trans dplG
end
def dH(p:Pt)(m:List Bool):List Box:=fF p++aLX m
def dCl(p:Pt):List (List Nat):=tW (lPt p).toArray
def dEn(p:Pt):Env:=aHW (uZ p)
def cP(T:TypeId->Option TI)(im:Nat->Bool)(n:Nat)(p:Pt)(k:Nat)(q:DQ):DQ:=aSa T im n (lPt p) (dCl p) (dEn p) k q
def opD(p:Pt)(q:DQ):Oper:=rF (lPt p) q.i
def vZ(p:Pt)(q:DQ):Env:=aOB (lPt p) (dCl p) (dEn p) q
def aCr(p:Pt)(q:DQ)(x:AV)(u:EU):DQ:=aFB (lPt p) q x u (q.i :: q.gs)
def stD(p:Pt)(m:List Bool)(i:Nat)(es:EF):List (List Box×List Box):=prs (dCl p) i (dH p m) (dH p m) es
def aNq(q:DQ):Option AV:=match q.ms.getLast? with | some x=>x.e | none=>none
def aGX : List MI->Option AV->List MI
 | [],_=>[]
 | [x],e=>[⟨x.keys,x.d,e⟩]
 | x :: r,e=>x :: aGX r e
def aLJ(q:DQ)(b:Bool)(gs:List Nat):DQ:={ q with ms:=aGX q.ms (some (.v (.bool b))),gs:=gs }
section
variable {P:Program} {T:TypeId→Option TI} {im:Nat→Bool} {n:Fr} {Q:Exit→ASt→Prop} {p:Pt} {m:List Bool} {q:DQ} {τ:Type} {L R:EF→τ}
def DD(P:Program)(T:TypeId->Option TI)(im:Nat->Bool)(n:Fr)(Q:Exit->ASt->Prop)(p:Pt)(m:List Bool)(q:DQ){τ:Type}(L R:EF->τ):Prop:=
 DV q->(∀ms es,DX q ms es->L es=R es->∀g∈q.gs,OB P n (lPt p) (dCl p) (dEn p) (dH p m) ms es g)->At P T im n Q p
theorem DD.a(k:Nat)(h:DD P T im n Q p m (cP T im n.n p k q) L R):DD P T im n Q p m q L R:=
 λhv ho=>h (advV hv) λms es hx e g hg=>ho ms es (advX hx) e g (by rw[show(cP T im n.n p k q).gs=q.gs from advG] at hg;exact hg)
theorem At.D{p:Pt}(k:Nat)(m:List Bool){π:Prop}(h:π->DD P T im n Q (Go.UK.adv T im [] n.n k p) m ⟨0,[],[],dH (Go.UK.adv T im [] n.n k p) m,(fF (Go.UK.adv T im [] n.n k p)).length,[]⟩ (λ_=>()) (λ_=>()))(e0:π):At P T im n Q p:=
 At.adv k (h e0 ⟨rfl,λ_ h=>by cases h⟩ λ_ _ _ _ g hg=>by cases hg)
theorem DD.o(k:Nat){π:Prop}{y:AV}(b:∀H,Big P n (opD p (cP T im n.n p k q)) (vZ p (cP T im n.n p k q)) H y H)(h:π->DD P T im n Q p m (aCr p (cP T im n.n p k q) y ⟨[],[]⟩) L R)(e:π):DD P T im n Q p m q L R:=by
 refine DD.a k ?_;generalize cP T im n.n p k q=q at *;intro hv ho;refine h e (aPn hv) λms es hx hl g hg=>?_;rcases fg.1 hg with e1 | e1
 ·subst e1;obtain⟨_,h1,h2,h3⟩:=aVc (C:=dCl p) (B:=dEn p) hv hx;refine⟨y,h2,λH hH=>?_⟩
  rw[h3,aFM _ _ (h1 rfl) H hH]
  exact b H.1
 ·exact ho ms es (aP2 hx) hl g e1
theorem DD.b{α β:Type}{x:Option α}{f:α->Option β}{r:β}(k:Nat){y:α->AV}(b:∀{a},x=some a->∀H,Big P n (opD p (cP T im n.n p k q)) (vZ p (cP T im n.n p k q)) H (y a) H)
  (h:∀a,f a=some r->DD P T im n Q p m (aCr p (cP T im n.n p k q) (y a) ⟨[],[]⟩) L R) (e:Option.bind x f=some r):DD P T im n Q p m q L R:=by
 obtain⟨a,e1,e2⟩:=aDd e;exact DD.o k (b e1) (h a) e2
theorem DD.w(k:Nat){π:Prop}{σ:Type}(y:AV)(u:EU){L' R':List Box->σ}(b:∀H,L' H=R' H->Big P n (opD p (cP T im n.n p k q)) (vZ p (cP T im n.n p k q)) H y (apU H u))
  (h:π->DD P T im n Q p m (aCr p (cP T im n.n p k q) y u) (λes=>(L es,aEy (λH=>(L' H.1,apU H.1 u)) (stD p m (cP T im n.n p k q).i es))) (λes=>(R es,aE0 (λH=>(R' H.1,H.2)) (stD p m (cP T im n.n p k q).i es)))) (e:π):DD P T im n Q p m q L R:=by
 refine DD.a k ?_;generalize cP T im n.n p k q=q at *;intro hv ho;refine h e (aPn hv) λms es hx hl g hg=>?_;simp only[Prod.mk.injEq] at hl;rcases fg.1 hg with e1 | e1
 ·subst e1;obtain⟨_,_,h2,h3⟩:=aVc (C:=dCl p) (B:=dEn p) hv hx;refine⟨y,h2,λH hH=>?_⟩
  have he:=aQT hl.2 H hH;simp only[Prod.mk.injEq] at he;rw[h3,<- he.2]
  exact b H.1 he.1
 ·exact ho ms es (aP2 hx) hl.1 g e1
theorem aHm : ∀{ms:List MI} {x:MI} {e:Option AV},aGX (ms++[x]) e=ms++[⟨x.keys,x.d,e⟩]
 | [],_,_=>rfl
 | [a],_,_=>rfl
 | a :: b :: ms,x,e=>by
  have:=aHm (ms:=b :: ms) (x:=x) (e:=e)
  simp only[du] at this ⊢;rw[aGX,this]
  simp
theorem aJY{q:DQ}{v:AV}(h:aNq q=some v):∃ms x,q.ms=ms++[x]/\x.e=some v:=by
 unfold aNq at h;split at h
 ·rename_i x hx;obtain⟨ms,e⟩:=List.getLast?_eq_some_iff.1 hx;exact⟨ms,x,e,h⟩
 ·cases h
theorem aOn{q:DQ}{b:Bool}(h:aNq q=some (.v (.bool b)))(gs:List Nat):aLJ q b gs={ q with gs:=gs }:=by
 obtain⟨ms0,x,hm,hx⟩:=aJY h;have e:aGX q.ms (some (.v (.bool b)))=q.ms:=by rw[hm,aHm,<- hx]
 unfold aLJ;rw[e]
theorem DD.g{α:Type}{b:Bool}{px py:Option α}{r:α}(k:Nat)(h1:px=some r->DD P T im n Q p m (aLJ (cP T im n.n p k q) true (cP T im n.n p k q).gs) L R)(h2:py=some r->DD P T im n Q p m (aLJ (cP T im n.n p k q) false (cP T im n.n p k q).gs) L R)
  (hb:aNq (cP T im n.n p k q)=some (.v (.bool b)):=by kernel_rfl) (e:cond b px py=some r):DD P T im n Q p m q L R:=by
 refine DD.a k ?_;generalize cP T im n.n p k q=q at *;cases b with
 | true=>have h:=h1 e;rwa[aOn hb] at h
 | false=>have h:=h2 e;rwa[aOn hb] at h
def pl1(T:TypeId->Option TI)(im:Nat->Bool)(n:Nat)(p:Pt)(q:DQ)(H:List Box×List Box):Option (AV×EU):=
 plQ T (aRX im (rF (lPt p) (q.i - 1))) n (rF (lPt p) (q.i - 1)) (fL (dCl p) q.ms (dEn p) (q.i - 1)) H.1 0
theorem DD.s(hT:TOK P T){α:Type}{b:Bool}{px py:Option α}{r:α}(k:Nat)
  (h1:px=some r->DD P T im n Q p m (aLJ (cP T im n.n p k q) true (((cP T im n.n p k q).i - 1) :: (cP T im n.n p k q).gs)) (λes=>(L es,aEy (pl1 T im n.n p (cP T im n.n p k q)) (stD p m ((cP T im n.n p k q).i - 1) es))) (λes=>(R es,aE0 (λ_=>some (.v (.bool b),⟨[],[]⟩)) (stD p m ((cP T im n.n p k q).i - 1) es))))
  (h2:py=some r->DD P T im n Q p m (aLJ (cP T im n.n p k q) false (((cP T im n.n p k q).i - 1) :: (cP T im n.n p k q).gs)) (λes=>(L es,aEy (pl1 T im n.n p (cP T im n.n p k q)) (stD p m ((cP T im n.n p k q).i - 1) es))) (λes=>(R es,aE0 (λ_=>some (.v (.bool b),⟨[],[]⟩)) (stD p m ((cP T im n.n p k q).i - 1) es))))
  (hb:(aNq (cP T im n.n p k q),aEB (aBy ((cP T im n.n p k q).i - 1) (cP T im n.n p k q).es))=(some (.v (.bool b)),true):=by kernel_rfl) (e:cond b px py=some r):DD P T im n Q p m q L R:=by
 refine DD.a k ?_;generalize cP T im n.n p k q=q at *;simp only[Prod.mk.injEq] at hb;obtain⟨hb,hu⟩:=hb;obtain⟨ms0,x,hm,hx⟩:=aJY hb;have key:DD P T im n Q p m (aLJ q b ((q.i - 1) :: q.gs)) (λes=>(L es,aEy (pl1 T im n.n p q) (stD p m (q.i - 1) es))) (λes=>(R es,aE0 (λ_=>some (.v (.bool b),⟨[],[]⟩)) (stD p m (q.i - 1) es))):=by
  cases b with
  | true=>exact h1 e
  | false=>exact h2 e
 rw[aOn hb] at key;intro hv ho;have hl:q.i=ms0.length+1:=by rw[hv.1,hm];simp
 refine key hv λms es hX hE g hg=>?_;simp only[Prod.mk.injEq] at hE;rcases fg.1 hg with e1 | e1
 ·subst e1;obtain⟨xs,ys,g1,g2,g3⟩:=hX;dsimp only at g1 g2 g3;have hlt:q.i - 1 < q.ms.length:=by have:=hv.1;omega
  refine⟨.v (.bool b),?_,λH hH=>?_⟩
  ·have:=aVi (ms:=q.ms) (xs:=xs) (ys:=[]) hlt;rw[<- g1,fx] at this;rw[this]
   unfold eAt;rw[hm,show q.i - 1=ms0.length by omega]
   simp[hx]
  ·have e2:aBy (q.i - 1) es=none:=by
    rw[g2,aGg]
    cases hc:aBy (q.i - 1) q.es with
    | some u=>rw[hc] at hu;cases hu
    | none=>exact aEo λe he e'=>by have:=g3 e he;omega
   have e3:fL (dCl p) ms (dEn p) (q.i - 1)=fL (dCl p) q.ms (dEn p) (q.i - 1):=by
    have:=aQ3 (C:=dCl p) (B:=dEn p) (ms:=q.ms) (xs:=xs) (ys:=[]) hlt;rw[<- g1,fx] at this;exact this
   rw[e3,aFM _ _ e2 H hH]
   exact aPQ hT (aQT hE.2 H hH)
 ·exact ho ms es hX hE.1 g e1
theorem DD.e(hT:TOK P T)(hm:P.follows .mixedOrders=true)(k:Nat){π:Prop}(h:π->At P T im n Q (aA0 (aL0 p) ⟨aEC (cP T im n.n p k q).ms (dEn p),aNc (dH p m) (cP T im n.n p k q).es⟩))
  (hB:(aTb p,aB6 (lPt p).toArray (dCl p) (cP T im n.n p k q).ms (cP T im n.n p k q).es (dEn p),aEx (lPt p).toArray.size (chkB (lPt p) (dCl p) (dEn p) (cP T im n.n p k q)),(lPt p).all (λo=>dOK n.n o.dst))=(true,true,true,true):=by kernel_rfl)
  (hE:(L (cP T im n.n p k q).es,aEy (chkL T im n.n (lPt p) (dCl p) (dEn p) (dH p m) (cP T im n.n p k q)) (be (lPt p).toArray.size))=(R (cP T im n.n p k q).es,aE0 (chkR (lPt p) (dCl p) (dEn p) (dH p m) (cP T im n.n p k q)) (be (lPt p).toArray.size)):=by kernel_rfl) (e0:π):DD P T im n Q p m q L R:=by
 have h:=h e0;refine DD.a k ?_;generalize cP T im n.n p k q=q at *;intro hv ho;simp only[Prod.mk.injEq] at hB hE;obtain⟨b1,b2,b3,b4⟩:=hB;obtain⟨id,arr,ks,st,rfl⟩:=aLA b1;intro hT' hm';have hob:=ho q.ms q.es ⟨[],[],by simp,by simp,λ_ h=>by cases h⟩ hE.1;have:=aQn (l:=arr.toList) (id:=id) (st:=⟨aHW st.env,st.H++aLX m⟩) (Q:=λe s=>e = .normal/\s=⟨aEC q.ms (aHW st.env),aNc (st.H++aLX m) q.es⟩) hm b2
  (λi hi=>stabQ (T:=T) (im:=im) hT hi b2 (jF b3 i hi) (aQT hE.2 i (List.mem_range.2 hi)) b4 hob) ⟨rfl,rfl⟩
 intro ctx a w hs;refine wpIn_mono (this ctx a w (aIq m (aPd (l:=[]) hs))) ?_;rintro e a' w' ⟨s,⟨rfl,rfl⟩,h2⟩
 exact⟨_,At.popN hT' hm' h,h2⟩
end
end Go.UK

open Option renaming bind→aa
namespace Go.UK
open Go
set_option linter.all false
variable [bS]
theorem aKB : ∀(σ:List Nat) (H xs:List Box),nW H σ xs=aTj H (σ.zip xs)
 | [],H,xs=>by cases xs <;> rfl
 | s :: σ,H,[]=>rfl
 | s :: σ,H,x :: xs=>aKB σ (H.set s x) xs
def euC(σ:List Nat)(m:Nat)(H':List Box):EU:=⟨σ.zip ((H'.take σ.length).map (iK (rn σ m))),(H'.drop σ.length).map (iK (rn σ m))⟩
theorem aSy(H:List Box)(e:EU):apU H e=aTj H e.u++e.new:=by
 obtain⟨u,new⟩:=e;cases new with
 | nil=>simp[apU]
 | cons b r=>rfl
theorem aQE{σ:List Nat}{H H':List Box}:cL H σ H'=apU H (euC σ H.length H'):=by
 rw[aSy]
 unfold cL euC;rw[aKB]
section
variable {P:Program} {T:TypeId→Option TI} {im:Nat→Bool} {n:Fr} {Q:Exit→ASt→Prop} {p:Pt}
theorem At.y{α β:Type}{x:Option α}{f:α->Option β}{r:β}(k:Nat){fid:FuncId}{args:List AV}{ret:α->AV}(c:∀{a},x=some a->FnM P fid [] args (ret a) [])
  (h:∀a,f a=some r->At P T im n Q (aHj (Go.UK.adv T im [] n.n k p) (ret a) (fF (Go.UK.adv T im [] n.n k p))))
  (hc:(aNJ (Go.UK.adv T im [] n.n k p),kC P fid,aCN n (aDm (Go.UK.adv T im [] n.n k p)) (fF (Go.UK.adv T im [] n.n k p)) [] [] args,aBz (aDm (Go.UK.adv T im [] n.n k p)) (uZ (Go.UK.adv T im [] n.n k p)) (fF (Go.UK.adv T im [] n.n k p)) [] [] args,λa=>ren (rn [] (fF (Go.UK.adv T im [] n.n k p)).length) (ret a))
   = (true,true,true,(some (fid,renL (rn [] (fF (Go.UK.adv T im [] n.n k p)).length) args),[]),ret):=by kernel_rfl) (e:aa x f=some r):At P T im n Q p:=by
 simp only[Prod.mk.injEq] at hc;obtain⟨c1,c2,c3,c4,c5⟩:=hc;exact At.b k (λa ha=>aTq (c ha) c2 c3 c4 (congrFun c5 a)) h c1 e
theorem At.Y{α β:Type}{x:Option α}{f:α->Option β}{r:β}(k:Nat)(σ:List Nat){fid:FuncId}{Hc:List Box}{args:List AV}{ret:α->AV}{Hc':α->List Box}(c:∀{a},x=some a->FnM P fid Hc args (ret a) (Hc' a))
  (h:∀a,f a=some r->At P T im n Q (aHj (Go.UK.adv T im [] n.n k p) (ren (rn σ (fF (Go.UK.adv T im [] n.n k p)).length) (ret a)) (cL (fF (Go.UK.adv T im [] n.n k p)) σ (Hc' a))))
  (hc:(aNJ (Go.UK.adv T im [] n.n k p),kC P fid,aCN n (aDm (Go.UK.adv T im [] n.n k p)) (fF (Go.UK.adv T im [] n.n k p)) σ Hc args,aBz (aDm (Go.UK.adv T im [] n.n k p)) (uZ (Go.UK.adv T im [] n.n k p)) (fF (Go.UK.adv T im [] n.n k p)) σ Hc args)
   = (true,true,true,(some (fid,renL (rn σ (fF (Go.UK.adv T im [] n.n k p)).length) args),Hc.map (iK (rn σ (fF (Go.UK.adv T im [] n.n k p)).length)))):=by kernel_rfl) (e:aa x f=some r):At P T im n Q p:=by
 simp only[Prod.mk.injEq] at hc;obtain⟨c1,c2,c3,c4⟩:=hc;exact At.b k (λa ha=>tY σ (c ha) c2 c3 c4) h c1 e
theorem At.i(hT:TOK P T){β γ:Type}{l:List γ}{i:Int}{f:γ->Option β}{r:β}(k:Nat)(F:γ->AV)(h:∀a,f a=some r->At P T im n Q (aHj (Go.UK.adv T im [] n.n k p) (.im (F a)) (fF (Go.UK.adv T im [] n.n k p))))
  (hc:(aNJ (Go.UK.adv T im [] n.n k p),dOK n.n (aDm (Go.UK.adv T im [] n.n k p)).dst,idxE T (aDm (Go.UK.adv T im [] n.n k p)) (uZ (Go.UK.adv T im [] n.n k p)))=(true,true,some (l.map F,i)):=by kernel_rfl) (e:aa (idx l i) f=some r):At P T im n Q p:=by
 simp only[Prod.mk.injEq] at hc;exact At.b k (λa ha=>aPg hT F ha hc.2.1 hc.2.2) h hc.1 e
section
variable {m:List Bool} {q:DQ} {τ:Type} {L R:EF→τ}
theorem DD.y{α β:Type}{x:Option α}{f:α->Option β}{r:β}(k:Nat){fid:FuncId}{args:List AV}{ret:α->AV}(c:∀{a},x=some a->FnM P fid [] args (ret a) [])
  (h:∀a,f a=some r->DD P T im n Q p m (aCr p (cP T im n.n p k q) (ret a) ⟨[],[]⟩) L R)
  (hc:(λH:List Box=>(kC P fid,aCN n (opD p (cP T im n.n p k q)) H [] [] args,aBz (opD p (cP T im n.n p k q)) (vZ p (cP T im n.n p k q)) H [] [] args,λa=>ren (rn [] H.length) (ret a)))
   = (λH=>(true,true,(some (fid,renL (rn [] H.length) args),[]),ret)):=by kernel_rfl) (e:aa x f=some r):DD P T im n Q p m q L R:=by
 refine DD.b k (λ{a} ha H=>?_) h e;have:=congrFun hc H;simp only[Prod.mk.injEq] at this;obtain⟨c2,c3,c4,c5⟩:=this;exact aTq (c ha) c2 c3 c4 (congrFun c5 a)
theorem DD.Yo{π:Prop}(k:Nat)(σ:List Nat){fid:FuncId}{Hc:List Box}{args:List AV}{ret:AV}{Hc':List Box}(c:FnM P fid Hc args ret Hc')
  (h:π->DD P T im n Q p m (aCr p (cP T im n.n p k q) (ren (rn σ 0) ret) (euC σ 0 Hc'))
   (λes=>(L es,aEy (λH=>((kC P fid,aCN n (opD p (cP T im n.n p k q)) H.1 σ Hc args,aBz (opD p (cP T im n.n p k q)) (vZ p (cP T im n.n p k q)) H.1 σ Hc args,ren (rn σ H.1.length) ret,euC σ H.1.length Hc'),apU H.1 (euC σ 0 Hc'))) (stD p m (cP T im n.n p k q).i es)))
   (λes=>(R es,aE0 (λH=>((true,true,(some (fid,renL (rn σ H.1.length) args),Hc.map (iK (rn σ H.1.length))),ren (rn σ 0) ret,euC σ 0 Hc'),H.2)) (stD p m (cP T im n.n p k q).i es)))) (e:π):DD P T im n Q p m q L R:=by
 refine DD.w k _ _ (L':=λH=>(kC P fid,aCN n (opD p (cP T im n.n p k q)) H σ Hc args,aBz (opD p (cP T im n.n p k q)) (vZ p (cP T im n.n p k q)) H σ Hc args,ren (rn σ H.length) ret,euC σ H.length Hc')) (R':=λH=>(true,true,(some (fid,renL (rn σ H.length) args),Hc.map (iK (rn σ H.length))),ren (rn σ 0) ret,euC σ 0 Hc')) (λH hH=>?_) h e;simp only[Prod.mk.injEq] at hH;obtain⟨c2,c3,c4,c5,c6⟩:=hH;rw[<- c5,<- c6,<- aQE]
 exact tY σ c c2 c3 c4
theorem DD.Y{α β:Type}{x:Option α}{f:α->Option β}{r:β}(k:Nat)(σ:List Nat){fid:FuncId}{Hc:List Box}{args:List AV}{ret:α->AV}{Hc':α->List Box}(c:∀{a},x=some a->FnM P fid Hc args (ret a) (Hc' a))
  (h:∀a,f a=some r->DD P T im n Q p m (aCr p (cP T im n.n p k q) (ren (rn σ 0) (ret a)) (euC σ 0 (Hc' a)))
   (λes=>(L es,aEy (λH=>((kC P fid,aCN n (opD p (cP T im n.n p k q)) H.1 σ Hc args,aBz (opD p (cP T im n.n p k q)) (vZ p (cP T im n.n p k q)) H.1 σ Hc args,ren (rn σ H.1.length) (ret a),euC σ H.1.length (Hc' a)),apU H.1 (euC σ 0 (Hc' a)))) (stD p m (cP T im n.n p k q).i es)))
   (λes=>(R es,aE0 (λH=>((true,true,(some (fid,renL (rn σ H.1.length) args),Hc.map (iK (rn σ H.1.length))),ren (rn σ 0) (ret a),euC σ 0 (Hc' a)),H.2)) (stD p m (cP T im n.n p k q).i es)))) (e:aa x f=some r):DD P T im n Q p m q L R:=by
 obtain⟨a,e1,e2⟩:=aDd e;exact DD.Yo k σ (c e1) (h a) e2
theorem DD.Zo{π:Prop}(k:Nat)(σ:List Nat)(w:Nat){fid:FuncId}{Hc:List Box}{args:List AV}{ret:AV}{Hc':List Box}(c:FnM P fid Hc args ret Hc')
  (h:π->DD P T im n Q p m (aCr p (cP T im n.n p k q) (ren (rn σ w) ret) (euC σ w Hc'))
   (λes=>(L es,aEy (λH=>((kC P fid,aCN n (opD p (cP T im n.n p k q)) H.1 σ Hc args,aBz (opD p (cP T im n.n p k q)) (vZ p (cP T im n.n p k q)) H.1 σ Hc args,H.1.length),apU H.1 (euC σ w Hc'))) (stD p m (cP T im n.n p k q).i es)))
   (λes=>(R es,aE0 (λH=>((true,true,(some (fid,renL (rn σ w) args),Hc.map (iK (rn σ w))),w),H.2)) (stD p m (cP T im n.n p k q).i es)))) (e:π):DD P T im n Q p m q L R:=by
 refine DD.w k _ _ (L':=λH=>(kC P fid,aCN n (opD p (cP T im n.n p k q)) H σ Hc args,aBz (opD p (cP T im n.n p k q)) (vZ p (cP T im n.n p k q)) H σ Hc args,H.length)) (R':=λ_=>(true,true,(some (fid,renL (rn σ w) args),Hc.map (iK (rn σ w))),w)) (λH hH=>?_) h e;simp only[Prod.mk.injEq] at hH;obtain⟨c2,c3,c4,c5⟩:=hH;rw[<- c5] at c4 ⊢;rw[<- aQE]
 exact tY σ c c2 c3 c4
theorem DD.Z{α β:Type}{x:Option α}{f:α->Option β}{r:β}(k:Nat)(σ:List Nat)(w:Nat){fid:FuncId}{Hc:List Box}{args:List AV}{ret:α->AV}{Hc':α->List Box}(c:∀{a},x=some a->FnM P fid Hc args (ret a) (Hc' a))
  (h:∀a,f a=some r->DD P T im n Q p m (aCr p (cP T im n.n p k q) (ren (rn σ w) (ret a)) (euC σ w (Hc' a)))
   (λes=>(L es,aEy (λH=>((kC P fid,aCN n (opD p (cP T im n.n p k q)) H.1 σ Hc args,aBz (opD p (cP T im n.n p k q)) (vZ p (cP T im n.n p k q)) H.1 σ Hc args,H.1.length),apU H.1 (euC σ w (Hc' a)))) (stD p m (cP T im n.n p k q).i es)))
   (λes=>(R es,aE0 (λH=>((true,true,(some (fid,renL (rn σ w) args),Hc.map (iK (rn σ w))),w),H.2)) (stD p m (cP T im n.n p k q).i es)))) (e:aa x f=some r):DD P T im n Q p m q L R:=by
 obtain⟨a,e1,e2⟩:=aDd e;exact DD.Zo k σ w (c e1) (h a) e2
theorem DD.N{π:Prop}(k w:Nat)(y:Nat->AV)(new:List Box)(b:∀H,Big P n (opD p (cP T im n.n p k q)) (vZ p (cP T im n.n p k q)) H (y H.length) (H++new))
  (h:π->DD P T im n Q p m (aCr p (cP T im n.n p k q) (y w) ⟨[],new⟩)
   (λes=>(L es,aEy (λH=>(H.1.length,apU H.1 ⟨[],new⟩)) (stD p m (cP T im n.n p k q).i es))) (λes=>(R es,aE0 (λH=>(w,H.2)) (stD p m (cP T im n.n p k q).i es)))) (e:π):DD P T im n Q p m q L R:=by
 refine DD.w k _ ⟨[],new⟩ (L':=λH=>H.length) (R':=λ_=>w) (λH hH=>?_) h e;rw[aSy,<- hH]
 exact b H
theorem pj1{α β:Type}{a b:α}{c d:β}(e:(a,c)=(b,d)):a=b:=congrArg Prod.fst e
theorem pj2{α β:Type}{a b:α}{c d:β}(e:(a,c)=(b,d)):c=d:=congrArg Prod.snd e
theorem DD.i(hT:TOK P T){β γ:Type}{l:List γ}{i:Int}{f:γ->Option β}{r:β}(k:Nat)(F:γ->AV)(h:∀a,f a=some r->DD P T im n Q p m (aCr p (cP T im n.n p k q) (.im (F a)) ⟨[],[]⟩) L R)
  (hc:(dOK n.n (opD p (cP T im n.n p k q)).dst,idxE T (opD p (cP T im n.n p k q)) (vZ p (cP T im n.n p k q)))=(true,some (l.map F,i)):=by kernel_rfl) (e:aa (idx l i) f=some r):DD P T im n Q p m q L R:=by
 simp only[Prod.mk.injEq] at hc;exact DD.b k (λha H=>aPg hT F ha hc.1 hc.2) h e
theorem DD.l(hT:TOK P T){α β:Type}(k:Nat)(y g:α->AV)(j0:Nat){l:List α}{j:Nat}{f:α->Option β}{r:β}
  (h:∀a,f a=some r->DD P T im n Q p m (aCr p (cP T im n.n p k q) (y a) ⟨[],[]⟩) (λes=>(L es,aEy (λH=>((dOK n.n (opD p (cP T im n.n p k q)).dst,ldE T (opD p (cP T im n.n p k q)) (vZ p (cP T im n.n p k q)) H.1 j0 (g a),ldX T (opD p (cP T im n.n p k q)) (vZ p (cP T im n.n p k q)) H.1 j0 (g a)),apU H.1 ⟨[],[]⟩)) (stD p m (cP T im n.n p k q).i es)))
   (λes=>(R es,aE0 (λH=>((true,some (l.map g,j,aJA (opD p (cP T im n.n p k q)) (vZ p (cP T im n.n p k q)),y a),y a),H.2)) (stD p m (cP T im n.n p k q).i es)))) (e:aa l[j]? f=some r):DD P T im n Q p m q L R:=by
 obtain⟨a,e1,e2⟩:=aDd e;refine DD.w k (y a) ⟨[],[]⟩ (L':=λH=>(dOK n.n (opD p (cP T im n.n p k q)).dst,ldE T (opD p (cP T im n.n p k q)) (vZ p (cP T im n.n p k q)) H j0 (g a),ldX T (opD p (cP T im n.n p k q)) (vZ p (cP T im n.n p k q)) H j0 (g a)))
  (R':=λ_=>(true,some (l.map g,j,aJA (opD p (cP T im n.n p k q)) (vZ p (cP T im n.n p k q)),y a),y a)) (λH hH=>?_) (h a) e2
 simp only[Prod.mk.injEq] at hH;obtain⟨h1,h2,h3⟩:=hH;have:=pV (P:=P) (n:=n) hT g j0 e1 (o:=opD p (cP T im n.n p k q)) (need:=vZ p (cP T im n.n p k q)) (H:=H) h1 (by rw[h2,h3])
 rwa[h3] at this
end
def CU0{α:Type}(f:Nat->α)(k:Nat)(_:Unit):α:=f k
def cu2{α0 α1 β:Type}(f:α0->α1->β):α0×α1->β
 | (x0,x1)=>f x0 x1
def CU2{α0 α1 β:Type}(f:Nat->α0->α1->β)(k:Nat):α0×α1->β
 | (x0,x1)=>f k x0 x1
def cu3{α0 α1 α2 β:Type}(f:α0->α1->α2->β):α0×α1×α2->β
 | (x0,x1,x2)=>f x0 x1 x2
def CU3{α0 α1 α2 β:Type}(f:Nat->α0->α1->α2->β)(k:Nat):α0×α1×α2->β
 | (x0,x1,x2)=>f k x0 x1 x2
def cu4{α0 α1 α2 α3 β:Type}(f:α0->α1->α2->α3->β):α0×α1×α2×α3->β
 | (x0,x1,x2,x3)=>f x0 x1 x2 x3
def CU4{α0 α1 α2 α3 β:Type}(f:Nat->α0->α1->α2->α3->β)(k:Nat):α0×α1×α2×α3->β
 | (x0,x1,x2,x3)=>f k x0 x1 x2 x3
def cu5{α0 α1 α2 α3 α4 β:Type}(f:α0->α1->α2->α3->α4->β):α0×α1×α2×α3×α4->β
 | (x0,x1,x2,x3,x4)=>f x0 x1 x2 x3 x4
def CU5{α0 α1 α2 α3 α4 β:Type}(f:Nat->α0->α1->α2->α3->α4->β)(k:Nat):α0×α1×α2×α3×α4->β
 | (x0,x1,x2,x3,x4)=>f k x0 x1 x2 x3 x4
def cu6{α0 α1 α2 α3 α4 α5 β:Type}(f:α0->α1->α2->α3->α4->α5->β):α0×α1×α2×α3×α4×α5->β
 | (x0,x1,x2,x3,x4,x5)=>f x0 x1 x2 x3 x4 x5
def CU6{α0 α1 α2 α3 α4 α5 β:Type}(f:Nat->α0->α1->α2->α3->α4->α5->β)(k:Nat):α0×α1×α2×α3×α4×α5->β
 | (x0,x1,x2,x3,x4,x5)=>f k x0 x1 x2 x3 x4 x5
def cu7{α0 α1 α2 α3 α4 α5 α6 β:Type}(f:α0->α1->α2->α3->α4->α5->α6->β):α0×α1×α2×α3×α4×α5×α6->β
 | (x0,x1,x2,x3,x4,x5,x6)=>f x0 x1 x2 x3 x4 x5 x6
def CU7{α0 α1 α2 α3 α4 α5 α6 β:Type}(f:Nat->α0->α1->α2->α3->α4->α5->α6->β)(k:Nat):α0×α1×α2×α3×α4×α5×α6->β
 | (x0,x1,x2,x3,x4,x5,x6)=>f k x0 x1 x2 x3 x4 x5 x6
def cu9{α0 α1 α2 α3 α4 α5 α6 α7 α8 β:Type}(f:α0->α1->α2->α3->α4->α5->α6->α7->α8->β):α0×α1×α2×α3×α4×α5×α6×α7×α8->β
 | (x0,x1,x2,x3,x4,x5,x6,x7,x8)=>f x0 x1 x2 x3 x4 x5 x6 x7 x8
def CU9{α0 α1 α2 α3 α4 α5 α6 α7 α8 β:Type}(f:Nat->α0->α1->α2->α3->α4->α5->α6->α7->α8->β)(k:Nat):α0×α1×α2×α3×α4×α5×α6×α7×α8->β
 | (x0,x1,x2,x3,x4,x5,x6,x7,x8)=>f k x0 x1 x2 x3 x4 x5 x6 x7 x8
def cu10{α0 α1 α2 α3 α4 α5 α6 α7 α8 α9 β:Type}(f:α0->α1->α2->α3->α4->α5->α6->α7->α8->α9->β):α0×α1×α2×α3×α4×α5×α6×α7×α8×α9->β
 | (x0,x1,x2,x3,x4,x5,x6,x7,x8,x9)=>f x0 x1 x2 x3 x4 x5 x6 x7 x8 x9
def CU10{α0 α1 α2 α3 α4 α5 α6 α7 α8 α9 β:Type}(f:Nat->α0->α1->α2->α3->α4->α5->α6->α7->α8->α9->β)(k:Nat):α0×α1×α2×α3×α4×α5×α6×α7×α8×α9->β
 | (x0,x1,x2,x3,x4,x5,x6,x7,x8,x9)=>f k x0 x1 x2 x3 x4 x5 x6 x7 x8 x9
theorem un2{α0 α1:Type}{P:α0×α1->Prop}(h:∀x0 x1,P (x0,x1))(s:α0×α1):P s:=h s.1 s.2
theorem un3{α0 α1 α2:Type}{P:α0×α1×α2->Prop}(h:∀x0 x1 x2,P (x0,x1,x2))(s:α0×α1×α2):P s:=h s.1 s.2.1 s.2.2
theorem un4{α0 α1 α2 α3:Type}{P:α0×α1×α2×α3->Prop}(h:∀x0 x1 x2 x3,P (x0,x1,x2,x3))(s:α0×α1×α2×α3):P s:=h s.1 s.2.1 s.2.2.1 s.2.2.2
theorem un5{α0 α1 α2 α3 α4:Type}{P:α0×α1×α2×α3×α4->Prop}(h:∀x0 x1 x2 x3 x4,P (x0,x1,x2,x3,x4))(s:α0×α1×α2×α3×α4):P s:=h s.1 s.2.1 s.2.2.1 s.2.2.2.1 s.2.2.2.2
theorem un6{α0 α1 α2 α3 α4 α5:Type}{P:α0×α1×α2×α3×α4×α5->Prop}(h:∀x0 x1 x2 x3 x4 x5,P (x0,x1,x2,x3,x4,x5))(s:α0×α1×α2×α3×α4×α5):P s:=h s.1 s.2.1 s.2.2.1 s.2.2.2.1 s.2.2.2.2.1 s.2.2.2.2.2
theorem un7{α0 α1 α2 α3 α4 α5 α6:Type}{P:α0×α1×α2×α3×α4×α5×α6->Prop}(h:∀x0 x1 x2 x3 x4 x5 x6,P (x0,x1,x2,x3,x4,x5,x6))(s:α0×α1×α2×α3×α4×α5×α6):P s:=h s.1 s.2.1 s.2.2.1 s.2.2.2.1 s.2.2.2.2.1 s.2.2.2.2.2.1 s.2.2.2.2.2.2
theorem un9{α0 α1 α2 α3 α4 α5 α6 α7 α8:Type}{P:α0×α1×α2×α3×α4×α5×α6×α7×α8->Prop}(h:∀x0 x1 x2 x3 x4 x5 x6 x7 x8,P (x0,x1,x2,x3,x4,x5,x6,x7,x8))(s:α0×α1×α2×α3×α4×α5×α6×α7×α8):P s:=h s.1 s.2.1 s.2.2.1 s.2.2.2.1 s.2.2.2.2.1 s.2.2.2.2.2.1 s.2.2.2.2.2.2.1 s.2.2.2.2.2.2.2.1 s.2.2.2.2.2.2.2.2
theorem un10{α0 α1 α2 α3 α4 α5 α6 α7 α8 α9:Type}{P:α0×α1×α2×α3×α4×α5×α6×α7×α8×α9->Prop}(h:∀x0 x1 x2 x3 x4 x5 x6 x7 x8 x9,P (x0,x1,x2,x3,x4,x5,x6,x7,x8,x9))(s:α0×α1×α2×α3×α4×α5×α6×α7×α8×α9):P s:=h s.1 s.2.1 s.2.2.1 s.2.2.2.1 s.2.2.2.2.1 s.2.2.2.2.2.1 s.2.2.2.2.2.2.1 s.2.2.2.2.2.2.2.1 s.2.2.2.2.2.2.2.2.1 s.2.2.2.2.2.2.2.2.2
abbrev USt:=List (Nat×AV)×List (Nat×Box)×List Box
def LQ{S α:Type}(n:Fr)(g:Nat->S->Option α)(v:S->ASt)(x:α)(j:Nat)(s:ASt):Prop:=∃s',g j s'=some x/\JR n (v s') s
theorem At.M{S α ρ:Type}{X:Option α}{F:α->Option ρ}{r:ρ}(k:Nat)(ks:List Nat)(m:Nat)(t:α->USt)(ks1:List Nat)(m1:Nat)(g:Nat->S->Option α)(v:S->USt)(s0:S)(N:Nat)
  (h:∀x j s,g (j+1) s=some x->At P T im n (tn (λs'=>∃i,i < j+1/\LQ n g (λs=>upS (cJ (Go.UK.adv T im [] n.n k p)) ks1 (v s).1 m1 (v s).2.1 (v s).2.2) x i s') (inB (aQ0 (Go.UK.adv T im [] n.n k p)) (tn (Go.UK.JR n (upS (cJ (Go.UK.adv T im [] n.n k p)) ks (t x).1 m (t x).2.1 (t x).2.2)) (kQ P n Q (nX 1 (Go.UK.adv T im [] n.n k p))))))
   (.code (aLB (Go.UK.adv T im [] n.n k p)) [] (upS (cJ (Go.UK.adv T im [] n.n k p)) ks1 (v s).1 m1 (v s).2.1 (v s).2.2)))
  (hy:∀x,F x=some r->At P T im n Q (Go.UK.aA0 (nX 1 (Go.UK.adv T im [] n.n k p)) (upS (cJ (Go.UK.adv T im [] n.n k p)) ks (t x).1 m (t x).2.1 (t x).2.2)))
  (hX:X=g N s0:=by exact rfl) (hz:∀s,g 0 s=none:=by intro _;rfl)
  (hi:(aOy (Go.UK.adv T im [] n.n k p),cOK n (cJ (Go.UK.adv T im [] n.n k p)) (upS (cJ (Go.UK.adv T im [] n.n k p)) ks1 (v s0).1 m1 (v s0).2.1 (v s0).2.2),cSt (cJ (Go.UK.adv T im [] n.n k p)) (upS (cJ (Go.UK.adv T im [] n.n k p)) ks1 (v s0).1 m1 (v s0).2.1 (v s0).2.2))=(true,true,upS (cJ (Go.UK.adv T im [] n.n k p)) ks1 (v s0).1 m1 (v s0).2.1 (v s0).2.2):=by kernel_rfl)
  (e:aa X F=some r):At P T im n Q p:=by
 simp only[Prod.mk.injEq] at hi;refine At.l k _ (λx J j s=>LQ n g (λs=>upS (cJ (Go.UK.adv T im [] n.n k p)) ks1 (v s).1 m1 (v s).2.1 (v s).2.2) x j s) N (λx hx=>⟨s0,hX▸hx,Go.UK.jr (by rw[hi.2.1,hi.2.2])⟩) (λx j s hs=>?_) hy hi.1 e;obtain⟨s',h1,h2⟩:=hs;cases j with
 | zero=>rw[hz] at h1;cases h1
 | succ j=>exact At.jr h2 (h x j s') h1
theorem At.MS{S α β ρ:Type}{X:Option (Sum α β)}{F:α->Option ρ}{G:β->Option ρ}{r:ρ}(k:Nat)(ks:List Nat)(m:Nat)(t:α->USt)(ks1:List Nat)(m1:Nat)(g:Nat->S->Option (Sum α β))(v:S->USt)(s0:S)(N:Nat)
  (h:∀o,kG o F G=some r->∀j s,g (j+1) s=some o->At P T im n (tn (λs'=>∃i,i < j+1/\LQ n g (λs=>upS (cJ (Go.UK.adv T im [] n.n k p)) ks1 (v s).1 m1 (v s).2.1 (v s).2.2) o i s') (inB (aQ0 (Go.UK.adv T im [] n.n k p)) (tn (Go.UK.JS n (λx=>upS (cJ (Go.UK.adv T im [] n.n k p)) ks (t x).1 m (t x).2.1 (t x).2.2) o) (kQ P n Q (nX 1 (Go.UK.adv T im [] n.n k p))))))
   (.code (aLB (Go.UK.adv T im [] n.n k p)) [] (upS (cJ (Go.UK.adv T im [] n.n k p)) ks1 (v s).1 m1 (v s).2.1 (v s).2.2)))
  (hy:∀x,F x=some r->At P T im n Q (Go.UK.aA0 (nX 1 (Go.UK.adv T im [] n.n k p)) (upS (cJ (Go.UK.adv T im [] n.n k p)) ks (t x).1 m (t x).2.1 (t x).2.2)))
  (hX:X=g N s0:=by exact rfl) (hz:∀s,g 0 s=none:=by intro _;rfl)
  (hi:(aOy (Go.UK.adv T im [] n.n k p),cOK n (cJ (Go.UK.adv T im [] n.n k p)) (upS (cJ (Go.UK.adv T im [] n.n k p)) ks1 (v s0).1 m1 (v s0).2.1 (v s0).2.2),cSt (cJ (Go.UK.adv T im [] n.n k p)) (upS (cJ (Go.UK.adv T im [] n.n k p)) ks1 (v s0).1 m1 (v s0).2.1 (v s0).2.2))=(true,true,upS (cJ (Go.UK.adv T im [] n.n k p)) ks1 (v s0).1 m1 (v s0).2.1 (v s0).2.2):=by kernel_rfl)
  (e:aa X (λo=>kG o F G)=some r):At P T im n Q p:=by
 simp only[Prod.mk.injEq] at hi;refine At.ls k _ (λx J j s=>LQ n g (λs=>upS (cJ (Go.UK.adv T im [] n.n k p)) ks1 (v s).1 m1 (v s).2.1 (v s).2.2) x j s) N (λx hx=>⟨s0,hX▸hx,Go.UK.jr (by rw[hi.2.1,hi.2.2])⟩) (λx hx j s hs=>?_) hy hi.1 e;obtain⟨s',h1,h2⟩:=hs;cases j with
 | zero=>rw[hz] at h1;cases h1
 | succ j=>exact At.jr h2 (h x hx j s') h1
theorem At.vw{S α:Type}(k:Nat){g:Nat->S->Option α}{v:S->ASt}{x:α}{j:Nat}(s:S)(hj:JR n (v s) (cJ (Go.UK.adv T im [] n.n k p)))(e:g j s=some x)(hc:aI6 (Go.UK.adv T im [] n.n k p)=true:=by kernel_rfl):At P T im n (tn (λs'=>∃i,i < j+1/\LQ n g v x i s') Q) p:=
 At.k k ⟨s,e,hj⟩ hc
theorem At.v{S α:Type}(k:Nat){g:Nat->S->Option α}{v:S->ASt}{x:α}{j:Nat}(s:S)(e:g j s=some x)
  (hc:(aI6 (Go.UK.adv T im [] n.n k p),cOK n (cJ (Go.UK.adv T im [] n.n k p)) (v s),cSt (cJ (Go.UK.adv T im [] n.n k p)) (v s))=(true,true,v s):=by kernel_rfl):At P T im n (tn (λs'=>∃i,i < j+1/\LQ n g v x i s') Q) p:=by
 simp only[Prod.mk.injEq] at hc;exact At.vw k s (Go.UK.jr (by rw[hc.2.1,hc.2.2])) e hc.1
end
end Go.UK

namespace Go.UK
open Go
set_option linter.all false
variable [bS]
theorem aVX{k:Nat}:∀(ps qs:List AV),(∀e∈ps,e.n=k)->∀e∈wkL ps qs,e.n=k
 | [],_,h=>by unfold wkL;exact h
 | p :: ps,[],h=>by unfold wkL;exact h
 | p :: ps,q :: qs,h=>by
  unfold wkL;intro e he;rcases List.mem_cons.1 he with he | he
  ·rw[he,(aRW p q).1];exact h p (by simp)
  ·exact aVX ps qs (λe he=>h e (by simp[he])) e he
def wkA(d:Nat)(qs:List AV)(st:ASt):ASt:=
 match get st.env d with
 | some (.arr n k es)=>match dataL (wkL es qs) with
  | true=>⟨(d,some (none,.arr n k (wkL es qs))) :: st.env,st.H⟩
  | false=>st
 | _=>st
section
variable {P:Program} {T:TypeId→Option TI} {im:Nat→Bool} {n:Fr} {Q:Exit→ASt→Prop} {p:Pt}
theorem aUF{st:ASt}{d:Nat}{qs:List AV}{ctx:Mem}{a:Act}{w:World}(h:Sat n ctx st a w):Sat n ctx (wkA d qs st) a w:=by
 unfold wkA;split
 ·rename_i n' k es hx;split
  ·rename_i ht;obtain⟨bs,hm⟩:=h;obtain⟨v,h1,h2⟩:=hm.env.get hx;refine⟨bs,{ h:=rfl,ok:=hm.ok,ext:=hm.ext,env := ?_,size:=hm.size,low:=hm.low,defers:=hm.defers,nod:=hm.nod,outs:=hm.outs }⟩
   intro i e hl;simp only[bZ] at hl;split at hl
   ·rename_i hi;have hi:=Nat.eq_of_beq_eq_true hi;subst hi;cases hl;refine⟨v,h1,?_⟩
    obtain⟨ys,e1,h3⟩:=Rv.agg h2 rfl;subst e1;refine Rv.of_agg (x := .arr n' k (wkL es qs)) ?_ rfl;simp only[Rc] at h3 ⊢;exact⟨h3.1,aVX es qs h3.2.1,RcL.rd (μ:=⟨st.H,bs,w,ctx.F⟩) _ _ ht (wkL_rc es qs _ (RdL.rc _ _ h3.2.2))⟩
   ·exact hm.env i e hl
  ·exact h
 ·exact h
theorem At.wa{π:Prop}(k d:Nat)(qs:List AV)(h:π->At P T im n Q (yU (Go.UK.adv T im [] n.n k p) (wkA d qs (cJ (Go.UK.adv T im [] n.n k p)))))(e0:π):At P T im n Q p:=At.t k (λhx=>aUF hx) h e0
theorem aPo{t s:ASt}(b z:Nat)(l:List Nat)(h:JR n t (ownB b z l s)):JR n t s:=λctx a w hs=>h ctx a w (aHM hs)
theorem At.gp{π:Prop}{ks:List Fo}{st:ASt}(ss bs:List Nat)(id m m':Nat)(e:m'=m)(h:π->At P T im n Q (Go.UK.aA0 ks (glS ss bs id m' st)))(hc:glS ss bs id m st=st:=by kernel_rfl)(e0:π):At P T im n Q (Go.UK.aA0 ks st):=by
 subst e;have h:=h e0;rwa[hc] at h
end
end Go.UK

namespace Go.UK
open Go
set_option linter.all false
variable [bS]
section
variable {P:Program} {T:TypeId→Option TI} {im:Nat→Bool} {n:Fr} {p:Pt} {ρ:Type} {Q:ρ→Exit→ASt→Prop} {a r:ρ}
end
end Go.UK

