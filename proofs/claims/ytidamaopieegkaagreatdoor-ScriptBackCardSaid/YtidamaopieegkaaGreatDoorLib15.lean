/- The own layer: abstract values, their memory, and the steps of the model over them: for any program. -/
import Derived.Test.YtidamaopieegkaaGreatDoorLib14
namespace Go.UK
open Go
set_option linter.all false
variable [bJ]
section
variable {P:Program} {T:TypeId→Option TI} {n:Fr}
section
variable {o:Oper} {need:Env} {H:List Box} {x:AV} {id:Nat}
end
end
end Go.UK

open Bool renaming and_eq_true→aj
open List renaming all_eq_true→bu,append_assoc→af,append_nil→bd,cons_append→cp,getElem?_append_left→be,map_cons→cm,mem_append→bt,mem_cons→bq,mem_of_getElem?→fg,range→cj
open Nat renaming beq→au,blt→gd,eq_of_beq_eq_true→ai,le_refl→ba
namespace Go.UK
open Go
set_option linter.all false
variable [bJ]
structure EU where
 u:List (Nat×Box)
 new:List Box
abbrev EF:=List (Nat×EU)
def rX{α β:Type}(f:α->β):List α->List β
 | []=>[]
 | x :: r=>f x :: rX f r
def rW{α β:Type}(f:α->β):List α->List β
 | []=>[]
 | x :: r=>f x :: rW f r
theorem aC4{α β:Type}(f:α->β):∀l:List α,rX f l=l.map f
 | []=>rfl
 | x :: r=>by simp only[rX,cm,aC4 f r]
theorem aC5{α β:Type}(f:α->β):∀l:List α,rW f l=l.map f
 | []=>rfl
 | x :: r=>by simp only[rW,cm,aC5 f r]
theorem aDD{α β:Type}{f g:α->β}{l:List α}(h:rX f l=rW g l):∀x∈l,f x=g x:=List.map_inj_left.1 (by rw[<- aC4,<- aC5,h])
def apU(H:List Box)(e:EU):List Box:=match e.new with | []=>aEX H e.u | b :: r=>aEX H e.u++(b :: r)
def nC(i:Nat):EF->Option EU
 | []=>none
 | (c,u) :: r=>match au c i with | true=>some u | false=>nC i r
def fOn : List Box->EF->Array Bool->List Box
 | H,[],_=>H
 | H,(i,u) :: r,listed=>match listed.getD i false with | true=>fOn (apU H u) r listed | false=>fOn H r listed
def aBX : List Box->EF->List Box
 | H,[]=>H
 | H,(_,u) :: r=>aBX (apU H u) r
def prs(C:List (List Nat))(i:Nat):List Box->List Box->EF->List (List Box×List Box)
 | H,K,[]=>[(H,K)]
 | H,K,(c,u) :: r=>match au c i with
  | true=>prs C i H (apU K u) r
  | false=>match inC C c i with
   | true=>prs C i H K r
   | false=>match inC C i c with
    | true=>prs C i (apU H u) (apU K u) r
    | false=>prs C i H K r++prs C i (apU H u) (apU K u) r
def nO(ops:Array Oper)(C:List (List Nat))(ms:List MI)(es:EF)(B:Env):Bool:=
 au ms.length ops.size&&(
 rY ops.size (λi=>(dir ops i).all λj=>gd j i)&&(
 rY ops.size (λi=>dEq ((ops[i]?).bind (·.dst)) (dAt ms i))&&(
 rY ops.size (λj=>rY j λi => !qN (dAt ms i) (dAt ms j))&&(
 (sQ ms B&&aFY C ms ops.size)&&es.all (λq=>gd q.1 ops.size)))))
section
variable {P:Program} {T:TypeId→Option TI} {n:Fr} {ops:Array Oper}
def aEV(P:Program)(n:Fr)(ops:Array Oper)(C:List (List Nat))(ms:List MI)(es:EF)(B:Env)(H:List Box)(i:Nat):Prop:=
 ∀o x env,ops[i]? = some o->ms[i]? = some x->Sub (cP C ms B i) env->∀q∈prs C i H H es,opS P n ops o ⟨env,q.1⟩ ⟨x.put env,q.2⟩
theorem rS{C:List (List Nat)}{listed:Array Bool}{i:Nat}(hi:i < listed.size)(hcl:∀s,inC C i s=true->dS listed s)(hni:∀c,inC C c i=true->¬dS listed c)(hu:¬dS listed i):∀(H K:List Box) (es:EF),(fOn H es listed,fOn K es (listed.setIfInBounds i true))∈prs C i H K es
 | H,K,[]=>by simp[fOn,prs]
 | H,K,(c,x) :: r=>by
  unfold fOn prs;have hon:∀c,dS listed c↔listed.getD c false=true:=λ_=>Iff.rfl;cases h0:au c i with
  | true=>
   have e:=ai h0;subst e;have h1:(listed.setIfInBounds c true).getD c false=true:=(lG hi).2 (.inl rfl)
   have h2:listed.getD c false=false:=by cases hg:listed.getD c false with | true=>exact absurd hg hu | false=>rfl
   rw[h1,h2]
   exact rS hi hcl hni hu H _ r
  | false=>
   have hne:i≠c:=λe=>by subst e;simp at h0
   rw[kF false hne]
   cases h1:inC C c i with
   | true=>
    have hn:=hni c h1;unfold dS at hn;cases hg:listed.getD c false with
    | true=>exact absurd hg hn
    | false=>exact rS hi hcl hni hu H K r
   | false=>
    cases h2:inC C i c with
    | true=>
     have:=hcl c h2;unfold dS at this;rw[this]
     exact rS hi hcl hni hu _ _ r
    | false=>
     cases hg:listed.getD c false with
     | true=>exact bt.2 (.inr (rS hi hcl hni hu _ _ r))
     | false=>exact bt.2 (.inl (rS hi hcl hni hu H K r))
theorem aCx{listed:Array Bool}:∀(H:List Box) (es:EF),(∀q∈es,listed.getD q.1 false=true)->fOn H es listed=aBX H es
 | H,[],_=>rfl
 | H,(c,x) :: r,h=>by
  unfold fOn aBX;rw[h (c,x) (by simp)]
  exact aCx _ r (λq hq=>h q (by simp[hq]))
theorem aBN{listed:Array Bool}(h:∀i,¬dS listed i):∀(H:List Box) (es:EF),fOn H es listed=H
 | H,[]=>rfl
 | H,(c,x) :: r=>by
  unfold fOn;split
  ·rename_i hon;exact absurd hon (h c)
  ·exact aBN h H r
theorem sO{C:List (List Nat)}{i:Nat}:∀(H:List Box) (es:EF),nC i es=none->∀q∈prs C i H H es,q.2=q.1
 | H,[],_,q,hq=>by
  have:q=(H,H):=by simpa[prs] using hq
  rw[this]
 | H,(c,u) :: r,h,q,hq=>by
  unfold nC at h;unfold prs at hq;split at h
  ·cases h
  ·rename_i hb;rw[hb] at hq;dsimp only at hq;split at hq
   ·exact sO H r h q hq
   ·split at hq
    ·exact sO _ r h q hq
    ·rcases bt.1 hq with h' | h'
     ·exact sO _ r h q h'
     ·exact sO _ r h q h'
theorem aHc{C:List (List Nat)}(hC:C=jB ops){ms:List MI}{es:EF}{B:Env}{H:List Box}{ctx:Mem}{Q:Exit->Act->World->Prop}(hok:nO ops C ms es B=true)(hst:∀i,i < ops.size->aEV P n ops C ms es B H i)
  (hk:∀a w env,Sat n ctx ⟨env,aBX H es⟩ a w->(∀k v,bK B k=some (none,v)->(∀x∈ms,pO x.d k=false)->bK env k=some (none,v))->(∀(j:Nat) (x:MI) d v,ms[j]? = some x->x.d=some d->x.e=some v->bK env d=some (none,v))->Q .normal a w) :
  ∀(fuel:Nat) (listed:Array Bool) (a:Act) (w:World) (env:Env),listed.size=ops.size->Down ops listed->(∀i,dS listed i->i < ops.size)->uc listed ops.size<=fuel ->
  Sat n ctx ⟨env,fOn H es listed⟩ a w->(∀k v,bK B k=some (none,v)->(∀(j:Nat) x,ms[j]? = some x->dS listed j->pO x.d k=false)->bK env k=some (none,v))->(∀(j:Nat) (x:MI) d v,ms[j]? = some x->dS listed j->x.d=some d->x.e=some v->bK env d=some (none,v))->wpAnyIn n.F 0 P .any ops Q fuel listed a w:=by
 simp only[nO,aj] at hok;obtain⟨h1,h2,h3,h4,⟨h5,h5k⟩,h7⟩:=hok;have hsz:=ai h1;have hcs:∀q∈es,q.1 < ops.size:=λq hq=>by
  have h8:Nat.ble (q.1+1) ops.size=true:=bu.1 h7 q hq;have:=Nat.le_of_ble_eq_true h8;omega
 have done:∀(listed:Array Bool) (a:Act) (w:World) (env:Env),(∀i,i < ops.size->dS listed i)->Sat n ctx ⟨env,fOn H es listed⟩ a w->(∀k v,bK B k=some (none,v)->(∀(j:Nat) x,ms[j]? = some x->dS listed j->pO x.d k=false)->bK env k=some (none,v)) ->
   (∀(j:Nat) (x:MI) d v,ms[j]? = some x->dS listed j->x.d=some d->x.e=some v->bK env d=some (none,v))->Q .normal a w:=by
  intro listed a w env hall hsat hB hE;rw[aCx H es (λq hq=>hall q.1 (hcs q hq))] at hsat;exact hk a w env hsat (λk v hb hl=>hB k v hb λj x hx _=>hl x (fg hx)) (λj x d v hx=>hE j x d v hx (hall j (by have:=aQ hx;omega)))
 have nothing:∀(listed:Array Bool),(∀i,i < ops.size->dS listed i)->Region.ready .any ops listed=[]:=by
  intro listed hall;refine List.eq_nil_iff_forall_not_mem.2 λi hi=>?_;obtain⟨r1,r2,_⟩:=oX hi;exact aAc r1 (hall i r2)
 intro fuel
 induction fuel with
 | zero=>
  intro listed a w env hs hd hm hc hsat hB hE;have hall:∀i,i < ops.size->dS listed i:=aA1 ops.size (by omega)
  exact⟨nothing listed hall,done listed a w env hall hsat hB hE⟩
 | succ fuel ih=>
  intro listed a w env hs hd hm hc hsat hB hE;refine⟨λh0=>?_,λi hi=>?_⟩
  ·refine done listed a w env (λj hj=>?_) hsat hB hE;apply Classical.byContradiction;intro hn;obtain⟨i,hi⟩:=yV hs h2 j hj hn;rw[h0] at hi;cases hi
  ·obtain⟨r1,r2,r3⟩:=oX hi;have hu:=aAc r1;have hcl:∀s,inC C i s=true->dS listed s:=λs hs'=>vG hd i _ r3 s (tC hC hs')
   have hni:∀c,inC C c i=true->¬dS listed c:=λc hc' hon=>hu (vG hd c _ (hd c hon) i (tC hC hc'))
   have him:i < ms.length:=by omega
   have ho:ops[i]? = some ops[i]:=Array.getElem?_eq_getElem r2;have hx:ms[i]? = some ms[i]:=List.getElem?_eq_getElem him;have hBf:∀i e,bK B i=some e->e.1=none:=λi e h=>lS h5 h;have hsub:Sub (cP C ms B i) env:=by
    intro k e hl;unfold cP at hl;rw[hx] at hl;dsimp only at hl;have hkm:k∈ms[i].keys:=oZ (f:=λk=>mH C ms B i k i) hl;have hord:∀(j:Nat) x,ms[j]? = some x->dS listed j->pO x.d k=true->inC C i j=true/\j < i:=by
     intro j x hjx hon hdh;rcases yS h5k r2 (hm j hon) hx hjx hkm hdh with h' | h' | h'
     ·exact h'
     ·exact absurd hon (hni j h')
     ·subst h';exact absurd hon hu
    refine aAL (on:=dS listed) hcl (λv hb hl=>hB k v hb hl) hBf (λj x d v hjx hj hd' he=>hE j x d v hjx hj hd' he) (λj x hjx hon hdh=>(hord j x hjx hon hdh).1) i ?_ (yX (f:=λk=>mH C ms B i k i) hl)
    intro j x hij hjx hon;cases hc:pO x.d k with
    | false=>rfl
    | true=>have:=(hord j x hjx hon hc).2;omega
   have hstab:=hst i r2 ops[i] ms[i] env ho hx hsub;have hdst:(ops[i]).dst=ms[i].d:=by
    have:=dI h3 i r2;rw[ho] at this;simp only[Option.bind_some,dAt,hx] at this;generalize (ops[i]).dst=u at *;generalize ms[i].d=v at *;cases u <;> cases v <;> simp[dEq] at this ⊢;exact this
   have hops:opS P n ops ops[i] ⟨env,fOn H es listed⟩ ⟨ms[i].put env,fOn H es (listed.setIfInBounds i true)⟩:=hstab _ (rS (by omega) hcl hni hu H H es)
   have hstep:=hops ctx a w Q hsat;rw[aDJ ho]
   have next:∀a' w',Sat n ctx ⟨ms[i].put env,fOn H es (listed.setIfInBounds i true)⟩ a' w'->wpAnyIn n.F 0 P .any ops Q fuel (listed.setIfInBounds i true) a' w':=by
    intro a' w' hs';refine ih _ a' w' _ (by simpa using hs) ?_ ?_ ?_ hs' ?_ ?_
    ·intro p hp j hj;rw[lG (by omega)] at hp ⊢;rcases hp with hp | hp
     ·subst hp;exact .inr (r3 j hj)
     ·exact .inr (hd p hp j hj)
    ·intro p hp;rw[lG (by omega)] at hp;rcases hp with hp | hp
     ·subst hp;exact r2
     ·exact hm p hp
    ·have:=aCk (k:=ops.size) (show i < listed.size by omega) (by
      cases hc':listed.getD i false with
      | false=>rfl
      | true=>exact absurd hc' hu) r2
     omega
    ·intro k v hke hno;exact nN (hno i _ hx ((lG (by omega)).2 (.inl rfl))) (hB k v hke λj x hjx hon=>hno j x hjx ((lG (by omega)).2 (.inr hon)))
    ·intro j x d v hjx hj hdx hex;rw[lG (by omega)] at hj;by_cases hji:j=i
     ·subst hji;rw[hx] at hjx;cases hjx;exact vZ hdx hex
     ·have hjo:=hj.resolve_left hji;refine nN ?_ (hE j x d v hjx hjo hdx hex)
      have hjm:=aQ hjx;have hcl':qN ms[i].d x.d=false:=by
       have hi':dAt ms i=ms[i].d:=by unfold dAt;rw[hx]
       have hj':dAt ms j=x.d:=by unfold dAt;rw[hjx]
       rw[<- hi',<- hj']
       rcases Nat.lt_trichotomy i j with hlt | hlt | hlt
       ·have:=dI (dI h4 j (by omega)) i hlt;simpa using this
       ·exact absurd hlt.symm hji
       ·have:=dI (dI h4 i r2) j hlt;have h9:qN (dAt ms j) (dAt ms i)=false:=by simpa using this
        generalize dAt ms i=u at *;generalize dAt ms j=v at *;cases u <;> cases v <;> first | rfl | (simp only[qN] at h9 ⊢;rw[zK];exact h9)
      rw[hdx] at hcl';cases hdi:ms[i].d with
      | none=>rfl
      | some di=>rw[hdi] at hcl';exact hcl'
   split
   ·rename_i hw;rw[if_pos hw] at hstep;exact Oper.wpIn_mono next hstep
   ·rename_i hw;rw[if_neg hw] at hstep;exact⟨λ_ _=>trivial,next _ _ hstep⟩
theorem aDs{id:Nat}{l:List Oper}{Q:Exit->ASt->Prop}{st:ASt}(hm:P.follows .mixedOrders=true){ms:List MI}{es:EF}
  (hok:nO l.toArray (jB l.toArray) ms es st.env=true) (hst:∀i,i < l.toArray.size->aEV P n l.toArray (jB l.toArray) ms es st.env st.H i)
  (hk:Q .normal ⟨qM ms st.env,aBX st.H es⟩):aw P n (.region id l.toArray true) Q st:=by
 intro ctx a w hs;refine wpIn_region_any hm ?_;obtain⟨bs,hmm⟩:=hs;have hdrew:Sat n ctx st a { w with drawn:=w.drawn+1 }:=by
  have hl:cK w w.drew:=cK.drew w;exact⟨bs,{ h:=rfl,ok:=OK.later hl hmm.ok,ext:=hmm.ext.trans (Ext.later hl),env:=hmm.env.ext (Ext.later hl),size:=hmm.size,low:=hmm.low,defers:=kX.ext hmm.ok (Ext.later hl) hmm.defers,nod:=hmm.nod,outs:=λp hp=>(hmm.outs p hp).ext (Ext.later hl) }⟩
 have hl0:∀i,¬dS (Array.replicate l.toArray.size false) i:=by
  intro i h;unfold dS at h;rw[Array.getD_eq_getD_getElem?] at h;rw[Array.getElem?_replicate] at h;split at h <;> simp at h
 have hb5:sQ ms st.env=true:=by
  simp only[nO,aj] at hok;exact hok.2.2.2.2.1.1
 have hlen:ms.length=l.toArray.size:=by
  simp only[nO,aj] at hok;exact ai hok.1
 refine aHc rfl (ctx:=ctx) hok hst ?_ _ _ _ _ st.env (by simp) (λi h=>absurd h (hl0 i)) (λi h=>absurd h (hl0 i)) ?_ ?_ (λ_ _ h _=>h) (λj x d v _ h=>absurd h (hl0 j))
 ·intro a w env hs hB hE;refine⟨_,hk,sY (st:=⟨env,aBX st.H es⟩) (λi e h=>tT (λi e h=>lS hb5 h) (λv=>hB i v) (λx hx d v hd he=>?_) e h) hs⟩
  obtain⟨j,hj⟩:=List.getElem?_of_mem hx;exact hE j x d v hj hd he
 ·have:∀k,uc (Array.replicate l.toArray.size false) k<=k:=by
   intro k
   induction k with
   | zero=>exact ba _
   | succ k ih=>unfold uc;split <;> omega
  exact this _
 ·rw[aBN hl0]
  exact hdrew
end
def aAk(H:List Box)(p x:AV):Option (Nat×Box):=
 match p with
 | .ref id path o=>match H[id]? with
  | some (.var c)=>match loc c 0 path with
   | some (x0,o')=>match au o' o&&au x0.n x.n with
    | true=>match qF c path x with
     | some c'=>some (id,.var c')
     | none=>none
    | false=>none
   | none=>none
  | _=>none
 | _=>none
theorem aAb{H:List Box}{p x:AV}{q:Nat×Box}(h:aAk H p x=some q):lR H p x=some (H.set q.1 q.2):=by
 unfold aAk at h;split at h <;> try cases h
 rename_i id path o;split at h <;> try cases h
 rename_i c hc;split at h <;> try cases h
 rename_i x0 o' hl;split at h <;> try cases h
 rename_i hb;split at h <;> cases h;rename_i c' hs;simp[lR,hc,hl,hb,hs]
def notNw(o:Oper):Bool:=match o.op with | .alloc _=>false | .box _ _=>false | _=>true
def newQ(T:TypeId->Option TI)(o:Oper)(need:Env):Option AV:=match allE T o with | some x=>some x | none=>boxE o need
def plQ(T:TypeId->Option TI)(im:Bool)(n:Nat)(o:Oper)(need:Env)(H:List Box)(nx:Nat):Option (AV×EU):=
 match o.op with
 | .store t p v=>match o.dst with
  | some _=>none
  | none=>match opd need none p,opd need none v,T t with
   | some q,some x,some i=>match au x.n i.size&&eE x with
    | true=>match aAk H q x with
     | some u=>some (.v (.bool false),⟨[u],[]⟩)
     | none=>none
    | false=>none
   | _,_,_=>none
 | .pick _ _ _=>match plU T im n o need H with | some (x,_)=>some (x,⟨[],[]⟩) | none=>none
 | _=>match dOK n o.dst with
  | true=>match im||notNw o with
   | true=>match ev T im (opd need none) H o with | some (x,none)=>some (x,⟨[],[]⟩) | _=>none
   | false=>match newQ T o need with
    | some z=>match H[nx]? with
     | some .dead=>some (.ref nx [] 0,⟨[(nx,.var z)],[]⟩)
     | _=>match ev T im (opd need none) H o with | some (x,some b)=>some (x,⟨[],[b]⟩) | _=>none
    | _=>none
  | false=>none
section
variable {P:Program} {T:TypeId→Option TI} {n:Fr}
theorem aDM(hT:TOK P T){im:Bool}{o:Oper}{need:Env}{H:List Box}{nx:Nat}{x:AV}{u:EU}(h:plQ T im n.n o need H nx=some (x,u)):Big P n o need H x (apU H u):=by
 unfold plQ at h;split at h
 ·rename_i t p v ho;split at h <;> try cases h
  rename_i hd;split at h <;> try cases h
  rename_i q y i hq hy hi;split at h <;> try cases h
  rename_i hb;split at h <;> cases h;rename_i w hw;refine wT (im:=im) hT ?_;simp only[plU,hd,dOK,ho,hq,hy,hi,hb,aAb hw]
  rfl
 ·rename_i c y z ho;split at h <;> cases h;rename_i H' h;have e:H'=H:=by
   unfold plU at h;split at h <;> try cases h
   rw[ho] at h;cases c <;> dsimp only at h
   case tmp c=>
    split at h <;> try cases h
    split at h <;> (split at h <;> cases h;rfl)
   all_goals (split at h <;> try cases h) <;> (rename_i hv;unfold ev at hv;rw[ho] at hv;cases hv)
  subst e;exact wT hT h
 ·split at h <;> try cases h
  rename_i hd;split at h
  ·split at h <;> cases h;rename_i hv;exact aCe hT hd hv
  ·split at h <;> try cases h
   rename_i z hz;split at h
   ·cases h;rename_i hx;unfold newQ at hz;split at hz
    ·rename_i ha;cases hz;exact aCA hT nx hd ha hx
    ·exact aEm nx hd hz hx
   ·split at h <;> cases h;rename_i hv;exact aCe hT hd hv
end
structure DQ where
 i:Nat
 ms:List MI
 es:EF
 H:List Box
 nx:Nat
 gs:List Nat
def aBw(l:List Oper)(C:List (List Nat))(B:Env)(q:DQ):Env:=(lZ l (iG l q.i)).map λk=>(k,mH C q.ms B q.i k q.i)
def nxU(nx:Nat)(u:List (Nat×Box)):Nat:=u.foldl (λm e=>match gd e.1 m with | true=>m | false=>e.1+1) nx
def sB(l:List Oper)(q:DQ)(x:AV)(u:EU)(gs:List Nat):DQ:=
 ⟨q.i+1,q.ms++[⟨lZ l (iG l q.i),(iG l q.i).dst,some x⟩],match u with | ⟨[],[]⟩=>q.es | u=>q.es++[(q.i,u)],apU q.H u,nxU q.nx u.u,gs⟩
def dpl(T:TypeId->Option TI)(im:Nat->Bool)(n:Nat)(l:List Oper)(C:List (List Nat))(B:Env)(q:DQ):DQ:=
 match pX l (iG l q.i) (aBw l C B q) with
 | true=>sB l q (.tup []) ⟨[],[]⟩ q.gs
 | false=>match plQ T (aDh im (iG l q.i)) n (iG l q.i) (aBw l C B q) q.H q.nx with
  | some (x,u)=>sB l q x u q.gs
  | none=>q
def aEl(T:TypeId->Option TI)(im:Nat->Bool)(n:Nat)(l:List Oper)(C:List (List Nat))(B:Env):Nat->DQ->DQ
 | 0,q=>q
 | k+1,q=>aEl T im n l C B k (dpl T im n l C B q)
def uAt(i:Nat)(es:EF):EU:=match nC i es with | some u=>u | none=>⟨[],[]⟩
def nxOf(H:List Box):List (Nat×Box)->Nat
 | []=>H.length
 | (id,_) :: _=>id
def chkB(l:List Oper)(C:List (List Nat))(B:Env)(q:DQ)(i:Nat):Bool:=
 match pX l (iG l i) (cP C q.ms B i) with
 | true=>wK (eAt q.ms i)&&uH (nC i q.es) && !(q.gs.any (au i))
 | false=>gOK l.toArray (iG l i) (cP C q.ms B i)&&aAT (eAt q.ms i)
def chkL(T:TypeId->Option TI)(im:Nat->Bool)(n:Nat)(l:List Oper)(C:List (List Nat))(B:Env)(H0:List Box)(q:DQ)(i:Nat):List (Option (AV×EU)×List Box):=
 match pX l (iG l i) (cP C q.ms B i)||q.gs.any (au i) with
 | true=>[]
 | false=>rX (λH=>(plQ T (aDh im (iG l i)) n (iG l i) (cP C q.ms B i) H.1 (nxOf H.1 (uAt i q.es).u),apU H.1 (uAt i q.es))) (prs C i H0 H0 q.es)
def chkR(l:List Oper)(C:List (List Nat))(B:Env)(H0:List Box)(q:DQ)(i:Nat):List (Option (AV×EU)×List Box):=
 match pX l (iG l i) (cP C q.ms B i)||q.gs.any (au i) with
 | true=>[]
 | false=>rW (λH=>(some ((eAt q.ms i).getD default,uAt i q.es),H.2)) (prs C i H0 H0 q.es)
def OB(P:Program)(n:Fr)(l:List Oper)(C:List (List Nat))(B:Env)(H0:List Box)(ms:List MI)(es:EF)(i:Nat):Prop:=
 ∃x,eAt ms i=some x/\∀q∈prs C i H0 H0 es,Big P n (iG l i) (cP C ms B i) q.1 x q.2
section
variable {P:Program} {T:TypeId→Option TI} {im:Nat→Bool} {n:Fr} {l:List Oper} {C:List (List Nat)} {B:Env} {H0:List Box}
theorem stabQ(hT:TOK P T){q:DQ}{i:Nat}(hi:i < l.toArray.size)(hB:nO l.toArray C q.ms q.es B=true)(hdb:chkB l C B q i=true)(hde:chkL T im n.n l C B H0 q i=chkR l C B H0 q i)(hdst:l.all (λo=>dOK n.n o.dst)=true)
  (hg:∀g∈q.gs,OB P n l C B H0 q.ms q.es g):aEV P n l.toArray C q.ms q.es B H0 i:=by
 obtain⟨_,ms,es,_,_,gs⟩:=q;dsimp only at *;intro o x env ho hx hs H' hH';obtain⟨H',K'⟩:=H';dsimp only;have hlo:l[i]? = some o:=by simpa using ho
 have ho':iG l i=o:=by unfold iG;rw[hlo];rfl
 have hdo:dOK n.n o.dst=true:=bu.1 hdst o (fg hlo)
 have hxd:x.d=o.dst:=by
  simp only[nO,aj] at hB;have:=dI hB.2.2.1 i hi;rw[ho] at this;simp only[Option.bind_some,dAt,hx] at this;generalize o.dst=u at *;generalize x.d=v at *;cases u <;> cases v <;> simp[dEq] at this ⊢;exact this.symm
 have hex:eAt ms i=x.e:=by unfold eAt;rw[hx]
 unfold chkB at hdb;unfold chkL chkR at hde;simp only[ho',hex] at hdb hde;have fin:∀(v:AV),x.e=some v->gOK l.toArray o (cP C ms B i)=true->Big P n o (cP C ms B i) H' v K'->opS P n l.toArray o ⟨env,H'⟩ ⟨x.put env,K'⟩:=by
  intro v hv hg hb;have:=aCw hs hg hb;unfold MI.put;rw[hv,hxd]
  cases hd:o.dst with
  | none=>rw[hd] at this;exact this
  | some d=>rw[hd] at this;exact this
 cases hdead:pX l o (cP C ms B i) with
 | true=>
  rw[hdead] at hdb;simp only[aj] at hdb;have hnc:nC i es=none:=by cases hc:nC i es with | none=>rfl | some _=>rw[hc] at hdb;cases hdb.1.2
  have hne:x.e=some (.tup []):=tI hdb.1.1;have:=aBH (P:=P) (n:=n) (H:=H') ho hs hdead hdo;have e:K'=H':=sO _ _ hnc _ hH';subst e;unfold MI.put;rw[hne,hxd]
  exact this
 | false=>
  rw[hdead] at hdb hde;simp only[aj,Bool.false_or] at hdb hde;obtain⟨hg',hsome⟩:=hdb;obtain⟨v,hv⟩:∃v,x.e=some v:=by cases hc:x.e with | none=>rw[hc] at hsome;cases hsome | some v=>exact⟨v,rfl⟩
  cases hgs:gs.any (au i) with
  | true=>
   obtain⟨g,hg1,hg2⟩:=List.any_eq_true.1 hgs;have e:=ai hg2;subst e;obtain⟨y,h1,h2⟩:=hg i hg1;rw[hex,hv] at h1;cases h1;have:=h2 _ hH';rw[ho'] at this;exact fin v hv hg' this
  | false=>
   rw[hgs,hv] at hde;simp only[Option.getD_some] at hde;have:=aDD hde _ hH';simp only[Prod.mk.injEq] at this;have hb:=aDM hT this.1;rw[this.2] at hb;exact fin v hv hg' hb
def DX(q:DQ)(ms:List MI)(es:EF):Prop:=∃xs ys,ms=q.ms++xs/\es=q.es++ys/\∀y∈ys,q.i<=y.1
def DV(q:DQ):Prop:=q.i=q.ms.length/\∀e∈q.es,e.1 < q.i
theorem rP{ms xs:List MI}{i k:Nat}:∀{j:Nat},j<=ms.length->mH C (ms++xs) B i k j=mH C ms B i k j
 | 0,_=>rfl
 | j+1,h=>by
  unfold mH;rw[be (by omega),rP (j:=j) (by omega)]
theorem aCd{ms xs:List MI}{x:MI}:cP C (ms++x :: xs) B ms.length=x.keys.map λk=>(k,mH C ms B ms.length k ms.length):=by
 unfold cP;rw[List.getElem?_append_right (ba _),Nat.sub_self]
 dsimp only[List.getElem?_cons_zero]
 congr 1;funext k;rw[rP (ba _)]
theorem aEA{ms xs ys:List MI}{g:Nat}(h:g < ms.length):cP C (ms++xs) B g=cP C (ms++ys) B g:=by
 unfold cP;rw[be h,be h]
 cases ms[g]? with
 | none=>rfl
 | some x=>dsimp only;congr 1;funext k;rw[rP (by omega),rP (by omega)]
theorem aHv{ms xs ys:List MI}{g:Nat}(h:g < ms.length):eAt (ms++xs) g=eAt (ms++ys) g:=by
 unfold eAt;rw[be h,be h]
theorem tW{i:Nat}:∀{es ys:EF},nC i (es++ys)=match nC i es with | some u=>some u | none=>nC i ys
 | [],ys=>rfl
 | (c,u) :: es,ys=>by
  simp only[cp,nC]
  cases au c i with
  | true=>rfl
  | false=>exact tW
theorem rJ{i:Nat}:∀{es:EF},(∀e∈es,e.1≠i)->nC i es=none
 | [],_=>rfl
 | (c,u) :: es,h=>by
  unfold nC;rw[fX (h (c,u) (by simp))]
  exact rJ λe he=>h e (by simp[he])
theorem aA0{q:DQ}{x:AV}{u:EU}{gs:List Nat}:(u=⟨[],[]⟩/\(sB l q x u gs).es=q.es)\/(u≠⟨[],[]⟩/\(sB l q x u gs).es=q.es++[(q.i,u)]):=by
 unfold sB;dsimp only;split
 ·exact .inl ⟨rfl,rfl⟩
 ·rename_i h;exact .inr ⟨h,rfl⟩
theorem aDH{q:DQ}{x:AV}{u:EU}{gs:List Nat}(h:DV q):DV (sB l q x u gs):=by
 refine⟨by simp[sB,h.1],λe he=>?_⟩
 show e.1 < q.i+1;rcases aA0 (l:=l) (q:=q) (x:=x) (u:=u) (gs:=gs) with ⟨_,h1⟩ | ⟨_,h1⟩
 ·rw[h1] at he;have:=h.2 e he;omega
 ·rw[h1] at he;rcases bt.1 he with h' | h'
  ·have:=h.2 e h';omega
  ·have:e=(q.i,u):=by simpa using h'
   subst this;dsimp only;omega
theorem aDO{q:DQ}{x:AV}{u:EU}{gs:List Nat}{ms:List MI}{es:EF}(h:DX (sB l q x u gs) ms es):DX q ms es:=by
 obtain⟨xs,ys,h1,h2,h3⟩:=h;have h3:∀y∈ys,q.i+1<=y.1:=h3;rcases aA0 (l:=l) (q:=q) (x:=x) (u:=u) (gs:=gs) with ⟨_,g⟩ | ⟨_,g⟩
 ·rw[g] at h2;exact⟨_,ys,h1.trans (af ..),h2,λy hy=>by have:=h3 y hy;omega⟩
 ·rw[g] at h2;exact⟨_,(q.i,u) :: ys,h1.trans (af ..),h2.trans (by simp),λy hy=>by
   rcases bq.1 hy with e | e
   ·subst e;exact ba _
   ·have:=h3 y e;omega⟩
theorem aHM{q:DQ}{x:AV}{u:EU}{gs:List Nat}{ms:List MI}{es:EF}(hv:DV q)(h:DX (sB l q x u gs) ms es):uAt q.i es=u/\(u=⟨[],[]⟩->nC q.i es=none)/\eAt ms q.i=some x/\cP C ms B q.i=aBw l C B q:=by
 obtain⟨xs,ys,h1,h2,h3⟩:=h;have h3:∀y∈ys,q.i+1<=y.1:=h3;have e0:nC q.i q.es=none:=rJ λe he e'=>by have:=hv.2 e he;omega
 have e1:nC q.i ys=none:=rJ λe he e'=>by have:=h3 e he;omega
 have e2:(u=⟨[],[]⟩/\nC q.i es=none)\/(u≠⟨[],[]⟩/\nC q.i es=some u):=by
  rcases aA0 (l:=l) (q:=q) (x:=x) (u:=u) (gs:=gs) with ⟨g0,g⟩ | ⟨g0,g⟩
  ·refine .inl ⟨g0,?_⟩;rw[h2,g,tW,e0];exact e1
  ·refine .inr ⟨g0,?_⟩;rw[h2,g,af,tW,e0];simp[nC]
 refine⟨?_,λhu=>?_,?_,?_⟩
 ·unfold uAt;rcases e2 with ⟨g,e⟩ | ⟨_,e⟩
  ·rw[e,g]
  ·rw[e]
 ·rcases e2 with ⟨_,e⟩ | ⟨e,_⟩
  ·exact e
  ·exact absurd hu e
 ·unfold eAt;have h1:ms=(q.ms++[⟨lZ l (iG l q.i),(iG l q.i).dst,some x⟩])++xs:=h1;rw[h1,hv.1]
  simp
 ·have h1:ms=(q.ms++[⟨lZ l (iG l q.i),(iG l q.i).dst,some x⟩])++xs:=h1;rw[h1,af,hv.1]
  show cP C (q.ms++(_ :: xs)) B q.ms.length=_;rw[aCd]
  unfold aBw;rw[hv.1]
theorem dplV{q:DQ}(h:DV q):DV (dpl T im n.n l C B q):=by
 unfold dpl;split
 ·exact aDH h
 ·split
  ·exact aDH h
  ·exact h
theorem dplX{q:DQ}{ms:List MI}{es:EF}(h:DX (dpl T im n.n l C B q) ms es):DX q ms es:=by
 unfold dpl at h;split at h
 ·exact aDO h
 ·split at h
  ·exact aDO h
  ·exact h
theorem dplG{q:DQ}:(dpl T im n.n l C B q).gs=q.gs:=by
 unfold dpl;split
 ·rfl
 ·split <;> rfl
theorem advV : ∀{k:Nat} {q:DQ},DV q->DV (aEl T im n.n l C B k q)
 | 0,_,h=>h
 | k+1,_,h=>advV (k:=k) (dplV h)
theorem advX : ∀{k:Nat} {q:DQ} {ms:List MI} {es:EF},DX (aEl T im n.n l C B k q) ms es->DX q ms es
 | 0,_,_,_,h=>h
 | k+1,_,_,_,h=>dplX (advX (k:=k) h)
theorem advG : ∀{k:Nat} {q:DQ},(aEl T im n.n l C B k q).gs=q.gs
 | 0,_=>rfl
 | k+1,_=>(advG (k:=k)).trans dplG
end
def dH(p:Pt)(m:List Bool):List Box:=cW p++aAd m
def dCl(p:Pt):List (List Nat):=jB (lPt p).toArray
def dEn(p:Pt):Env:=vW (jW p)
def bS(T:TypeId->Option TI)(im:Nat->Bool)(n:Nat)(p:Pt)(k:Nat)(q:DQ):DQ:=aEl T im n (lPt p) (dCl p) (dEn p) k q
def opD(p:Pt)(q:DQ):Oper:=iG (lPt p) q.i
def jR(p:Pt)(q:DQ):Env:=aBw (lPt p) (dCl p) (dEn p) q
def oK(p:Pt)(q:DQ)(x:AV)(u:EU):DQ:=sB (lPt p) q x u (q.i :: q.gs)
def stD(p:Pt)(m:List Bool)(i:Nat)(es:EF):List (List Box×List Box):=prs (dCl p) i (dH p m) (dH p m) es
def aBo(q:DQ):Option AV:=match q.ms.getLast? with | some x=>x.e | none=>none
def tP : List MI->Option AV->List MI
 | [],_=>[]
 | [x],e=>[⟨x.keys,x.d,e⟩]
 | x :: r,e=>x :: tP r e
def aAW(q:DQ)(b:Bool)(gs:List Nat):DQ:={ q with ms:=tP q.ms (some (.v (.bool b))),gs:=gs }
section
variable {P:Program} {T:TypeId→Option TI} {im:Nat→Bool} {n:Fr} {Q:Exit→ASt→Prop} {p:Pt} {m:List Bool} {q:DQ} {τ:Type} {L R:EF→τ}
def DD(P:Program)(T:TypeId->Option TI)(im:Nat->Bool)(n:Fr)(Q:Exit->ASt->Prop)(p:Pt)(m:List Bool)(q:DQ){τ:Type}(L R:EF->τ):Prop:=
 DV q->(∀ms es,DX q ms es->L es=R es->∀g∈q.gs,OB P n (lPt p) (dCl p) (dEn p) (dH p m) ms es g)->At P T im n Q p
theorem DD.a(k:Nat)(h:DD P T im n Q p m (bS T im n.n p k q) L R):DD P T im n Q p m q L R:=
 λhv ho=>h (advV hv) λms es hx e g hg=>ho ms es (advX hx) e g (by rw[show(bS T im n.n p k q).gs=q.gs from advG] at hg;exact hg)
theorem At.D{p:Pt}(k:Nat)(m:List Bool){π:Prop}(h:π->DD P T im n Q (Go.UK.adv T im [] n.n k p) m ⟨0,[],[],dH (Go.UK.adv T im [] n.n k p) m,(cW (Go.UK.adv T im [] n.n k p)).length,[]⟩ (λ_=>()) (λ_=>()))(e0:π):At P T im n Q p:=
 At.adv k (h e0 ⟨rfl,λ_ h=>by cases h⟩ λ_ _ _ _ g hg=>by cases hg)
theorem DD.o(k:Nat){π:Prop}{y:AV}(b:∀H,Big P n (opD p (bS T im n.n p k q)) (jR p (bS T im n.n p k q)) H y H)(h:π->DD P T im n Q p m (oK p (bS T im n.n p k q) y ⟨[],[]⟩) L R)(e:π):DD P T im n Q p m q L R:=by
 refine DD.a k ?_;generalize bS T im n.n p k q=q at *;intro hv ho;refine h e (aDH hv) λms es hx hl g hg=>?_;rcases bq.1 hg with e1 | e1
 ·subst e1;obtain⟨_,h1,h2,h3⟩:=aHM (C:=dCl p) (B:=dEn p) hv hx;refine⟨y,h2,λH hH=>?_⟩
  rw[h3,sO _ _ (h1 rfl) H hH]
  exact b H.1
 ·exact ho ms es (aDO hx) hl g e1
theorem DD.b{α β:Type}{x:Option α}{f:α->Option β}{r:β}(k:Nat){y:α->AV}(b:∀{a},x=some a->∀H,Big P n (opD p (bS T im n.n p k q)) (jR p (bS T im n.n p k q)) H (y a) H)
  (h:∀a,f a=some r->DD P T im n Q p m (oK p (bS T im n.n p k q) (y a) ⟨[],[]⟩) L R) (e:Option.bind x f=some r):DD P T im n Q p m q L R:=by
 obtain⟨a,e1,e2⟩:=pU e;exact DD.o k (b e1) (h a) e2
theorem DD.w(k:Nat){π:Prop}{σ:Type}(y:AV)(u:EU){L' R':List Box->σ}(b:∀H,L' H=R' H->Big P n (opD p (bS T im n.n p k q)) (jR p (bS T im n.n p k q)) H y (apU H u))
  (h:π->DD P T im n Q p m (oK p (bS T im n.n p k q) y u) (λes=>(L es,rX (λH=>(L' H.1,apU H.1 u)) (stD p m (bS T im n.n p k q).i es))) (λes=>(R es,rW (λH=>(R' H.1,H.2)) (stD p m (bS T im n.n p k q).i es)))) (e:π):DD P T im n Q p m q L R:=by
 refine DD.a k ?_;generalize bS T im n.n p k q=q at *;intro hv ho;refine h e (aDH hv) λms es hx hl g hg=>?_;simp only[Prod.mk.injEq] at hl;rcases bq.1 hg with e1 | e1
 ·subst e1;obtain⟨_,_,h2,h3⟩:=aHM (C:=dCl p) (B:=dEn p) hv hx;refine⟨y,h2,λH hH=>?_⟩
  have he:=aDD hl.2 H hH;simp only[Prod.mk.injEq] at he;rw[h3,<- he.2]
  exact b H.1 he.1
 ·exact ho ms es (aDO hx) hl.1 g e1
theorem wB : ∀{ms:List MI} {x:MI} {e:Option AV},tP (ms++[x]) e=ms++[⟨x.keys,x.d,e⟩]
 | [],_,_=>rfl
 | [a],_,_=>rfl
 | a :: b :: ms,x,e=>by
  have:=wB (ms:=b :: ms) (x:=x) (e:=e)
  simp only[cp] at this ⊢;rw[tP,this]
  simp
theorem xI{q:DQ}{v:AV}(h:aBo q=some v):∃ms x,q.ms=ms++[x]/\x.e=some v:=by
 unfold aBo at h;split at h
 ·rename_i x hx;obtain⟨ms,e⟩:=List.getLast?_eq_some_iff.1 hx;exact⟨ms,x,e,h⟩
 ·cases h
theorem aB7{q:DQ}{b:Bool}(h:aBo q=some (.v (.bool b)))(gs:List Nat):aAW q b gs={ q with gs:=gs }:=by
 obtain⟨ms0,x,hm,hx⟩:=xI h;have e:tP q.ms (some (.v (.bool b)))=q.ms:=by rw[hm,wB,<- hx]
 unfold aAW;rw[e]
theorem DD.g{α:Type}{b:Bool}{px py:Option α}{r:α}(k:Nat)(h1:px=some r->DD P T im n Q p m (aAW (bS T im n.n p k q) true (bS T im n.n p k q).gs) L R)(h2:py=some r->DD P T im n Q p m (aAW (bS T im n.n p k q) false (bS T im n.n p k q).gs) L R)
  (hb:aBo (bS T im n.n p k q)=some (.v (.bool b)):=by kernel_rfl) (e:cond b px py=some r):DD P T im n Q p m q L R:=by
 refine DD.a k ?_;generalize bS T im n.n p k q=q at *;cases b with
 | true=>have h:=h1 e;rwa[aB7 hb] at h
 | false=>have h:=h2 e;rwa[aB7 hb] at h
def pl1(T:TypeId->Option TI)(im:Nat->Bool)(n:Nat)(p:Pt)(q:DQ)(H:List Box×List Box):Option (AV×EU):=
 plQ T (aDh im (iG (lPt p) (q.i - 1))) n (iG (lPt p) (q.i - 1)) (cP (dCl p) q.ms (dEn p) (q.i - 1)) H.1 0
theorem DD.s(hT:TOK P T){α:Type}{b:Bool}{px py:Option α}{r:α}(k:Nat)
  (h1:px=some r->DD P T im n Q p m (aAW (bS T im n.n p k q) true (((bS T im n.n p k q).i - 1) :: (bS T im n.n p k q).gs)) (λes=>(L es,rX (pl1 T im n.n p (bS T im n.n p k q)) (stD p m ((bS T im n.n p k q).i - 1) es))) (λes=>(R es,rW (λ_=>some (.v (.bool b),⟨[],[]⟩)) (stD p m ((bS T im n.n p k q).i - 1) es))))
  (h2:py=some r->DD P T im n Q p m (aAW (bS T im n.n p k q) false (((bS T im n.n p k q).i - 1) :: (bS T im n.n p k q).gs)) (λes=>(L es,rX (pl1 T im n.n p (bS T im n.n p k q)) (stD p m ((bS T im n.n p k q).i - 1) es))) (λes=>(R es,rW (λ_=>some (.v (.bool b),⟨[],[]⟩)) (stD p m ((bS T im n.n p k q).i - 1) es))))
  (hb:(aBo (bS T im n.n p k q),uH (nC ((bS T im n.n p k q).i - 1) (bS T im n.n p k q).es))=(some (.v (.bool b)),true):=by kernel_rfl) (e:cond b px py=some r):DD P T im n Q p m q L R:=by
 refine DD.a k ?_;generalize bS T im n.n p k q=q at *;simp only[Prod.mk.injEq] at hb;obtain⟨hb,hu⟩:=hb;obtain⟨ms0,x,hm,hx⟩:=xI hb;have key:DD P T im n Q p m (aAW q b ((q.i - 1) :: q.gs)) (λes=>(L es,rX (pl1 T im n.n p q) (stD p m (q.i - 1) es))) (λes=>(R es,rW (λ_=>some (.v (.bool b),⟨[],[]⟩)) (stD p m (q.i - 1) es))):=by
  cases b with
  | true=>exact h1 e
  | false=>exact h2 e
 rw[aB7 hb] at key;intro hv ho;have hl:q.i=ms0.length+1:=by rw[hv.1,hm];simp
 refine key hv λms es hX hE g hg=>?_;simp only[Prod.mk.injEq] at hE;rcases bq.1 hg with e1 | e1
 ·subst e1;obtain⟨xs,ys,g1,g2,g3⟩:=hX;dsimp only at g1 g2 g3;have hlt:q.i - 1 < q.ms.length:=by have:=hv.1;omega
  refine⟨.v (.bool b),?_,λH hH=>?_⟩
  ·have:=aHv (ms:=q.ms) (xs:=xs) (ys:=[]) hlt;rw[<- g1,bd] at this;rw[this]
   unfold eAt;rw[hm,show q.i - 1=ms0.length by omega]
   simp[hx]
  ·have e2:nC (q.i - 1) es=none:=by
    rw[g2,tW]
    cases hc:nC (q.i - 1) q.es with
    | some u=>rw[hc] at hu;cases hu
    | none=>exact rJ λe he e'=>by have:=g3 e he;omega
   have e3:cP (dCl p) ms (dEn p) (q.i - 1)=cP (dCl p) q.ms (dEn p) (q.i - 1):=by
    have:=aEA (C:=dCl p) (B:=dEn p) (ms:=q.ms) (xs:=xs) (ys:=[]) hlt;rw[<- g1,bd] at this;exact this
   rw[e3,sO _ _ e2 H hH]
   exact aDM hT (aDD hE.2 H hH)
 ·exact ho ms es hX hE.1 g e1
theorem DD.e(hT:TOK P T)(hm:P.follows .mixedOrders=true)(k:Nat){π:Prop}(h:π->At P T im n Q (nG (aAu p) ⟨qM (bS T im n.n p k q).ms (dEn p),aBX (dH p m) (bS T im n.n p k q).es⟩))
  (hB:(aF2 p,nO (lPt p).toArray (dCl p) (bS T im n.n p k q).ms (bS T im n.n p k q).es (dEn p),rY (lPt p).toArray.size (chkB (lPt p) (dCl p) (dEn p) (bS T im n.n p k q)),(lPt p).all (λo=>dOK n.n o.dst))=(true,true,true,true):=by kernel_rfl)
  (hE:(L (bS T im n.n p k q).es,rX (chkL T im n.n (lPt p) (dCl p) (dEn p) (dH p m) (bS T im n.n p k q)) (cj (lPt p).toArray.size))=(R (bS T im n.n p k q).es,rW (chkR (lPt p) (dCl p) (dEn p) (dH p m) (bS T im n.n p k q)) (cj (lPt p).toArray.size)):=by kernel_rfl) (e0:π):DD P T im n Q p m q L R:=by
 have h:=h e0;refine DD.a k ?_;generalize bS T im n.n p k q=q at *;intro hv ho;simp only[Prod.mk.injEq] at hB hE;obtain⟨b1,b2,b3,b4⟩:=hB;obtain⟨id,arr,ks,st,rfl⟩:=aAI b1;intro hT' hm';have hob:=ho q.ms q.es ⟨[],[],by simp,by simp,λ_ h=>by cases h⟩ hE.1;have:=aDs (l:=arr.toList) (id:=id) (st:=⟨vW st.env,st.H++aAd m⟩) (Q:=λe s=>e = .normal/\s=⟨qM q.ms (vW st.env),aBX (st.H++aAd m) q.es⟩) hm b2
  (λi hi=>stabQ (T:=T) (im:=im) hT hi b2 (dI b3 i hi) (aDD hE.2 i (List.mem_range.2 hi)) b4 hob) ⟨rfl,rfl⟩
 intro ctx a w hs;refine wpIn_mono (this ctx a w (yH m (aDU (l:=[]) hs))) ?_;rintro e a' w' ⟨s,⟨rfl,rfl⟩,h2⟩
 exact⟨_,At.popN hT' hm' h,h2⟩
end
end Go.UK

open Option renaming bind→ae
namespace Go.UK
open Go
set_option linter.all false
variable [bJ]
theorem wX : ∀(σ:List Nat) (H xs:List Box),fD H σ xs=aEX H (σ.zip xs)
 | [],H,xs=>by cases xs <;> rfl
 | s :: σ,H,[]=>rfl
 | s :: σ,H,x :: xs=>wX σ (H.set s x) xs
def euC(σ:List Nat)(m:Nat)(H':List Box):EU:=⟨σ.zip ((H'.take σ.length).map (dE (rn σ m))),(H'.drop σ.length).map (dE (rn σ m))⟩
theorem aEo(H:List Box)(e:EU):apU H e=aEX H e.u++e.new:=by
 obtain⟨u,new⟩:=e;cases new with
 | nil=>simp[apU]
 | cons b r=>rfl
theorem aC7{σ:List Nat}{H H':List Box}:bV H σ H'=apU H (euC σ H.length H'):=by
 rw[aEo]
 unfold bV euC;rw[wX]
section
variable {P:Program} {T:TypeId→Option TI} {im:Nat→Bool} {n:Fr} {Q:Exit→ASt→Prop} {p:Pt}
theorem At.y{α β:Type}{x:Option α}{f:α->Option β}{r:β}(k:Nat){fid:FuncId}{args:List AV}{ret:α->AV}(c:∀{a},x=some a->FnM P fid [] args (ret a) [])
  (h:∀a,f a=some r->At P T im n Q (vK (Go.UK.adv T im [] n.n k p) (ret a) (cW (Go.UK.adv T im [] n.n k p))))
  (hc:(aBn (Go.UK.adv T im [] n.n k p),eP P fid,nT n (qE (Go.UK.adv T im [] n.n k p)) (cW (Go.UK.adv T im [] n.n k p)) [] [] args,nQ (qE (Go.UK.adv T im [] n.n k p)) (jW (Go.UK.adv T im [] n.n k p)) (cW (Go.UK.adv T im [] n.n k p)) [] [] args,λa=>ren (rn [] (cW (Go.UK.adv T im [] n.n k p)).length) (ret a))
   = (true,true,true,(some (fid,renL (rn [] (cW (Go.UK.adv T im [] n.n k p)).length) args),[]),ret):=by kernel_rfl) (e:ae x f=some r):At P T im n Q p:=by
 simp only[Prod.mk.injEq] at hc;obtain⟨c1,c2,c3,c4,c5⟩:=hc;exact At.b k (λa ha=>aFj (c ha) c2 c3 c4 (congrFun c5 a)) h c1 e
theorem At.Y{α β:Type}{x:Option α}{f:α->Option β}{r:β}(k:Nat)(σ:List Nat){fid:FuncId}{Hc:List Box}{args:List AV}{ret:α->AV}{Hc':α->List Box}(c:∀{a},x=some a->FnM P fid Hc args (ret a) (Hc' a))
  (h:∀a,f a=some r->At P T im n Q (vK (Go.UK.adv T im [] n.n k p) (ren (rn σ (cW (Go.UK.adv T im [] n.n k p)).length) (ret a)) (bV (cW (Go.UK.adv T im [] n.n k p)) σ (Hc' a))))
  (hc:(aBn (Go.UK.adv T im [] n.n k p),eP P fid,nT n (qE (Go.UK.adv T im [] n.n k p)) (cW (Go.UK.adv T im [] n.n k p)) σ Hc args,nQ (qE (Go.UK.adv T im [] n.n k p)) (jW (Go.UK.adv T im [] n.n k p)) (cW (Go.UK.adv T im [] n.n k p)) σ Hc args)
   = (true,true,true,(some (fid,renL (rn σ (cW (Go.UK.adv T im [] n.n k p)).length) args),Hc.map (dE (rn σ (cW (Go.UK.adv T im [] n.n k p)).length)))):=by kernel_rfl) (e:ae x f=some r):At P T im n Q p:=by
 simp only[Prod.mk.injEq] at hc;obtain⟨c1,c2,c3,c4⟩:=hc;exact At.b k (λa ha=>aBK σ (c ha) c2 c3 c4) h c1 e
theorem At.i(hT:TOK P T){β γ:Type}{l:List γ}{i:Int}{f:γ->Option β}{r:β}(k:Nat)(F:γ->AV)(h:∀a,f a=some r->At P T im n Q (vK (Go.UK.adv T im [] n.n k p) (.im (F a)) (cW (Go.UK.adv T im [] n.n k p))))
  (hc:(aBn (Go.UK.adv T im [] n.n k p),dOK n.n (qE (Go.UK.adv T im [] n.n k p)).dst,idxE T (qE (Go.UK.adv T im [] n.n k p)) (jW (Go.UK.adv T im [] n.n k p)))=(true,true,some (l.map F,i)):=by kernel_rfl) (e:ae (idx l i) f=some r):At P T im n Q p:=by
 simp only[Prod.mk.injEq] at hc;exact At.b k (λa ha=>aCt hT F ha hc.2.1 hc.2.2) h hc.1 e
section
variable {m:List Bool} {q:DQ} {τ:Type} {L R:EF→τ}
theorem DD.y{α β:Type}{x:Option α}{f:α->Option β}{r:β}(k:Nat){fid:FuncId}{args:List AV}{ret:α->AV}(c:∀{a},x=some a->FnM P fid [] args (ret a) [])
  (h:∀a,f a=some r->DD P T im n Q p m (oK p (bS T im n.n p k q) (ret a) ⟨[],[]⟩) L R)
  (hc:(λH:List Box=>(eP P fid,nT n (opD p (bS T im n.n p k q)) H [] [] args,nQ (opD p (bS T im n.n p k q)) (jR p (bS T im n.n p k q)) H [] [] args,λa=>ren (rn [] H.length) (ret a)))
   = (λH=>(true,true,(some (fid,renL (rn [] H.length) args),[]),ret)):=by kernel_rfl) (e:ae x f=some r):DD P T im n Q p m q L R:=by
 refine DD.b k (λ{a} ha H=>?_) h e;have:=congrFun hc H;simp only[Prod.mk.injEq] at this;obtain⟨c2,c3,c4,c5⟩:=this;exact aFj (c ha) c2 c3 c4 (congrFun c5 a)
theorem DD.Yo{π:Prop}(k:Nat)(σ:List Nat){fid:FuncId}{Hc:List Box}{args:List AV}{ret:AV}{Hc':List Box}(c:FnM P fid Hc args ret Hc')
  (h:π->DD P T im n Q p m (oK p (bS T im n.n p k q) (ren (rn σ 0) ret) (euC σ 0 Hc'))
   (λes=>(L es,rX (λH=>((eP P fid,nT n (opD p (bS T im n.n p k q)) H.1 σ Hc args,nQ (opD p (bS T im n.n p k q)) (jR p (bS T im n.n p k q)) H.1 σ Hc args,ren (rn σ H.1.length) ret,euC σ H.1.length Hc'),apU H.1 (euC σ 0 Hc'))) (stD p m (bS T im n.n p k q).i es)))
   (λes=>(R es,rW (λH=>((true,true,(some (fid,renL (rn σ H.1.length) args),Hc.map (dE (rn σ H.1.length))),ren (rn σ 0) ret,euC σ 0 Hc'),H.2)) (stD p m (bS T im n.n p k q).i es)))) (e:π):DD P T im n Q p m q L R:=by
 refine DD.w k _ _ (L':=λH=>(eP P fid,nT n (opD p (bS T im n.n p k q)) H σ Hc args,nQ (opD p (bS T im n.n p k q)) (jR p (bS T im n.n p k q)) H σ Hc args,ren (rn σ H.length) ret,euC σ H.length Hc')) (R':=λH=>(true,true,(some (fid,renL (rn σ H.length) args),Hc.map (dE (rn σ H.length))),ren (rn σ 0) ret,euC σ 0 Hc')) (λH hH=>?_) h e;simp only[Prod.mk.injEq] at hH;obtain⟨c2,c3,c4,c5,c6⟩:=hH;rw[<- c5,<- c6,<- aC7]
 exact aBK σ c c2 c3 c4
theorem DD.Y{α β:Type}{x:Option α}{f:α->Option β}{r:β}(k:Nat)(σ:List Nat){fid:FuncId}{Hc:List Box}{args:List AV}{ret:α->AV}{Hc':α->List Box}(c:∀{a},x=some a->FnM P fid Hc args (ret a) (Hc' a))
  (h:∀a,f a=some r->DD P T im n Q p m (oK p (bS T im n.n p k q) (ren (rn σ 0) (ret a)) (euC σ 0 (Hc' a)))
   (λes=>(L es,rX (λH=>((eP P fid,nT n (opD p (bS T im n.n p k q)) H.1 σ Hc args,nQ (opD p (bS T im n.n p k q)) (jR p (bS T im n.n p k q)) H.1 σ Hc args,ren (rn σ H.1.length) (ret a),euC σ H.1.length (Hc' a)),apU H.1 (euC σ 0 (Hc' a)))) (stD p m (bS T im n.n p k q).i es)))
   (λes=>(R es,rW (λH=>((true,true,(some (fid,renL (rn σ H.1.length) args),Hc.map (dE (rn σ H.1.length))),ren (rn σ 0) (ret a),euC σ 0 (Hc' a)),H.2)) (stD p m (bS T im n.n p k q).i es)))) (e:ae x f=some r):DD P T im n Q p m q L R:=by
 obtain⟨a,e1,e2⟩:=pU e;exact DD.Yo k σ (c e1) (h a) e2
theorem DD.Zo{π:Prop}(k:Nat)(σ:List Nat)(w:Nat){fid:FuncId}{Hc:List Box}{args:List AV}{ret:AV}{Hc':List Box}(c:FnM P fid Hc args ret Hc')
  (h:π->DD P T im n Q p m (oK p (bS T im n.n p k q) (ren (rn σ w) ret) (euC σ w Hc'))
   (λes=>(L es,rX (λH=>((eP P fid,nT n (opD p (bS T im n.n p k q)) H.1 σ Hc args,nQ (opD p (bS T im n.n p k q)) (jR p (bS T im n.n p k q)) H.1 σ Hc args,H.1.length),apU H.1 (euC σ w Hc'))) (stD p m (bS T im n.n p k q).i es)))
   (λes=>(R es,rW (λH=>((true,true,(some (fid,renL (rn σ w) args),Hc.map (dE (rn σ w))),w),H.2)) (stD p m (bS T im n.n p k q).i es)))) (e:π):DD P T im n Q p m q L R:=by
 refine DD.w k _ _ (L':=λH=>(eP P fid,nT n (opD p (bS T im n.n p k q)) H σ Hc args,nQ (opD p (bS T im n.n p k q)) (jR p (bS T im n.n p k q)) H σ Hc args,H.length)) (R':=λ_=>(true,true,(some (fid,renL (rn σ w) args),Hc.map (dE (rn σ w))),w)) (λH hH=>?_) h e;simp only[Prod.mk.injEq] at hH;obtain⟨c2,c3,c4,c5⟩:=hH;rw[<- c5] at c4 ⊢;rw[<- aC7]
 exact aBK σ c c2 c3 c4
theorem DD.Z{α β:Type}{x:Option α}{f:α->Option β}{r:β}(k:Nat)(σ:List Nat)(w:Nat){fid:FuncId}{Hc:List Box}{args:List AV}{ret:α->AV}{Hc':α->List Box}(c:∀{a},x=some a->FnM P fid Hc args (ret a) (Hc' a))
  (h:∀a,f a=some r->DD P T im n Q p m (oK p (bS T im n.n p k q) (ren (rn σ w) (ret a)) (euC σ w (Hc' a)))
   (λes=>(L es,rX (λH=>((eP P fid,nT n (opD p (bS T im n.n p k q)) H.1 σ Hc args,nQ (opD p (bS T im n.n p k q)) (jR p (bS T im n.n p k q)) H.1 σ Hc args,H.1.length),apU H.1 (euC σ w (Hc' a)))) (stD p m (bS T im n.n p k q).i es)))
   (λes=>(R es,rW (λH=>((true,true,(some (fid,renL (rn σ w) args),Hc.map (dE (rn σ w))),w),H.2)) (stD p m (bS T im n.n p k q).i es)))) (e:ae x f=some r):DD P T im n Q p m q L R:=by
 obtain⟨a,e1,e2⟩:=pU e;exact DD.Zo k σ w (c e1) (h a) e2
theorem DD.N{π:Prop}(k w:Nat)(y:Nat->AV)(new:List Box)(b:∀H,Big P n (opD p (bS T im n.n p k q)) (jR p (bS T im n.n p k q)) H (y H.length) (H++new))
  (h:π->DD P T im n Q p m (oK p (bS T im n.n p k q) (y w) ⟨[],new⟩)
   (λes=>(L es,rX (λH=>(H.1.length,apU H.1 ⟨[],new⟩)) (stD p m (bS T im n.n p k q).i es))) (λes=>(R es,rW (λH=>(w,H.2)) (stD p m (bS T im n.n p k q).i es)))) (e:π):DD P T im n Q p m q L R:=by
 refine DD.w k _ ⟨[],new⟩ (L':=λH=>H.length) (R':=λ_=>w) (λH hH=>?_) h e;rw[aEo,<- hH]
 exact b H
theorem pj1{α β:Type}{a b:α}{c d:β}(e:(a,c)=(b,d)):a=b:=congrArg Prod.fst e
theorem pj2{α β:Type}{a b:α}{c d:β}(e:(a,c)=(b,d)):c=d:=congrArg Prod.snd e
theorem DD.i(hT:TOK P T){β γ:Type}{l:List γ}{i:Int}{f:γ->Option β}{r:β}(k:Nat)(F:γ->AV)(h:∀a,f a=some r->DD P T im n Q p m (oK p (bS T im n.n p k q) (.im (F a)) ⟨[],[]⟩) L R)
  (hc:(dOK n.n (opD p (bS T im n.n p k q)).dst,idxE T (opD p (bS T im n.n p k q)) (jR p (bS T im n.n p k q)))=(true,some (l.map F,i)):=by kernel_rfl) (e:ae (idx l i) f=some r):DD P T im n Q p m q L R:=by
 simp only[Prod.mk.injEq] at hc;exact DD.b k (λha H=>aCt hT F ha hc.1 hc.2) h e
theorem DD.l(hT:TOK P T){α β:Type}(k:Nat)(y g:α->AV)(j0:Nat){l:List α}{j:Nat}{f:α->Option β}{r:β}
  (h:∀a,f a=some r->DD P T im n Q p m (oK p (bS T im n.n p k q) (y a) ⟨[],[]⟩) (λes=>(L es,rX (λH=>((dOK n.n (opD p (bS T im n.n p k q)).dst,ldE T (opD p (bS T im n.n p k q)) (jR p (bS T im n.n p k q)) H.1 j0 (g a),ldX T (opD p (bS T im n.n p k q)) (jR p (bS T im n.n p k q)) H.1 j0 (g a)),apU H.1 ⟨[],[]⟩)) (stD p m (bS T im n.n p k q).i es)))
   (λes=>(R es,rW (λH=>((true,some (l.map g,j,xT (opD p (bS T im n.n p k q)) (jR p (bS T im n.n p k q)),y a),y a),H.2)) (stD p m (bS T im n.n p k q).i es)))) (e:ae l[j]? f=some r):DD P T im n Q p m q L R:=by
 obtain⟨a,e1,e2⟩:=pU e;refine DD.w k (y a) ⟨[],[]⟩ (L':=λH=>(dOK n.n (opD p (bS T im n.n p k q)).dst,ldE T (opD p (bS T im n.n p k q)) (jR p (bS T im n.n p k q)) H j0 (g a),ldX T (opD p (bS T im n.n p k q)) (jR p (bS T im n.n p k q)) H j0 (g a)))
  (R':=λ_=>(true,some (l.map g,j,xT (opD p (bS T im n.n p k q)) (jR p (bS T im n.n p k q)),y a),y a)) (λH hH=>?_) (h a) e2
 simp only[Prod.mk.injEq] at hH;obtain⟨h1,h2,h3⟩:=hH;have:=nK (P:=P) (n:=n) hT g j0 e1 (o:=opD p (bS T im n.n p k q)) (need:=jR p (bS T im n.n p k q)) (H:=H) h1 (by rw[h2,h3])
 rwa[h3] at this
end
def CU0{α:Type}(f:Nat->α)(k:Nat)(_:Unit):α:=f k
def cu2{α0 α1 β:Type}(f:α0->α1->β):α0×α1->β
 | (x0,x1)=>f x0 x1
def CU2{α0 α1 β:Type}(f:Nat->α0->α1->β)(k:Nat):α0×α1->β
 | (x0,x1)=>f k x0 x1
def cu3{α0 α1 α2 β:Type}(f:α0->α1->α2->β):α0×α1×α2->β
 | (x0,x1,x2)=>f x0 x1 x2
def CU3{α0 α1 α2 β:Type}(f:Nat->α0->α1->α2->β)(k:Nat):α0×α1×α2->β
 | (x0,x1,x2)=>f k x0 x1 x2
def cu4{α0 α1 α2 α3 β:Type}(f:α0->α1->α2->α3->β):α0×α1×α2×α3->β
 | (x0,x1,x2,x3)=>f x0 x1 x2 x3
def CU4{α0 α1 α2 α3 β:Type}(f:Nat->α0->α1->α2->α3->β)(k:Nat):α0×α1×α2×α3->β
 | (x0,x1,x2,x3)=>f k x0 x1 x2 x3
theorem un2{α0 α1:Type}{P:α0×α1->Prop}(h:∀x0 x1,P (x0,x1))(s:α0×α1):P s:=h s.1 s.2
theorem un3{α0 α1 α2:Type}{P:α0×α1×α2->Prop}(h:∀x0 x1 x2,P (x0,x1,x2))(s:α0×α1×α2):P s:=h s.1 s.2.1 s.2.2
theorem un4{α0 α1 α2 α3:Type}{P:α0×α1×α2×α3->Prop}(h:∀x0 x1 x2 x3,P (x0,x1,x2,x3))(s:α0×α1×α2×α3):P s:=h s.1 s.2.1 s.2.2.1 s.2.2.2
abbrev USt:=List (Nat×AV)×List (Nat×Box)×List Box
def LQ{S α:Type}(n:Fr)(g:Nat->S->Option α)(v:S->ASt)(x:α)(j:Nat)(s:ASt):Prop:=∃s',g j s'=some x/\JR n (v s') s
theorem At.M{S α ρ:Type}{X:Option α}{F:α->Option ρ}{r:ρ}(k:Nat)(ks:List Nat)(m:Nat)(t:α->USt)(ks1:List Nat)(m1:Nat)(g:Nat->S->Option α)(v:S->USt)(s0:S)(N:Nat)
  (h:∀x j s,g (j+1) s=some x->At P T im n (tn (λs'=>∃i,i < j+1/\LQ n g (λs=>upS (bO (Go.UK.adv T im [] n.n k p)) ks1 (v s).1 m1 (v s).2.1 (v s).2.2) x i s') (inB (aD8 (Go.UK.adv T im [] n.n k p)) (tn (Go.UK.JR n (upS (bO (Go.UK.adv T im [] n.n k p)) ks (t x).1 m (t x).2.1 (t x).2.2)) (kQ P n Q (fE 1 (Go.UK.adv T im [] n.n k p))))))
   (.code (zI (Go.UK.adv T im [] n.n k p)) [] (upS (bO (Go.UK.adv T im [] n.n k p)) ks1 (v s).1 m1 (v s).2.1 (v s).2.2)))
  (hy:∀x,F x=some r->At P T im n Q (Go.UK.nG (fE 1 (Go.UK.adv T im [] n.n k p)) (upS (bO (Go.UK.adv T im [] n.n k p)) ks (t x).1 m (t x).2.1 (t x).2.2)))
  (hX:X=g N s0:=by exact rfl) (hz:∀s,g 0 s=none:=by intro _;rfl)
  (hi:(aCc (Go.UK.adv T im [] n.n k p),cOK n (bO (Go.UK.adv T im [] n.n k p)) (upS (bO (Go.UK.adv T im [] n.n k p)) ks1 (v s0).1 m1 (v s0).2.1 (v s0).2.2),cSt (bO (Go.UK.adv T im [] n.n k p)) (upS (bO (Go.UK.adv T im [] n.n k p)) ks1 (v s0).1 m1 (v s0).2.1 (v s0).2.2))=(true,true,upS (bO (Go.UK.adv T im [] n.n k p)) ks1 (v s0).1 m1 (v s0).2.1 (v s0).2.2):=by kernel_rfl)
  (e:ae X F=some r):At P T im n Q p:=by
 simp only[Prod.mk.injEq] at hi;refine At.l k _ (λx J j s=>LQ n g (λs=>upS (bO (Go.UK.adv T im [] n.n k p)) ks1 (v s).1 m1 (v s).2.1 (v s).2.2) x j s) N (λx hx=>⟨s0,hX▸hx,Go.UK.jr (by rw[hi.2.1,hi.2.2])⟩) (λx j s hs=>?_) hy hi.1 e;obtain⟨s',h1,h2⟩:=hs;cases j with
 | zero=>rw[hz] at h1;cases h1
 | succ j=>exact At.jr h2 (h x j s') h1
theorem At.MS{S α β ρ:Type}{X:Option (Sum α β)}{F:α->Option ρ}{G:β->Option ρ}{r:ρ}(k:Nat)(ks:List Nat)(m:Nat)(t:α->USt)(ks1:List Nat)(m1:Nat)(g:Nat->S->Option (Sum α β))(v:S->USt)(s0:S)(N:Nat)
  (h:∀o,oL o F G=some r->∀j s,g (j+1) s=some o->At P T im n (tn (λs'=>∃i,i < j+1/\LQ n g (λs=>upS (bO (Go.UK.adv T im [] n.n k p)) ks1 (v s).1 m1 (v s).2.1 (v s).2.2) o i s') (inB (aD8 (Go.UK.adv T im [] n.n k p)) (tn (Go.UK.JS n (λx=>upS (bO (Go.UK.adv T im [] n.n k p)) ks (t x).1 m (t x).2.1 (t x).2.2) o) (kQ P n Q (fE 1 (Go.UK.adv T im [] n.n k p))))))
   (.code (zI (Go.UK.adv T im [] n.n k p)) [] (upS (bO (Go.UK.adv T im [] n.n k p)) ks1 (v s).1 m1 (v s).2.1 (v s).2.2)))
  (hy:∀x,F x=some r->At P T im n Q (Go.UK.nG (fE 1 (Go.UK.adv T im [] n.n k p)) (upS (bO (Go.UK.adv T im [] n.n k p)) ks (t x).1 m (t x).2.1 (t x).2.2)))
  (hX:X=g N s0:=by exact rfl) (hz:∀s,g 0 s=none:=by intro _;rfl)
  (hi:(aCc (Go.UK.adv T im [] n.n k p),cOK n (bO (Go.UK.adv T im [] n.n k p)) (upS (bO (Go.UK.adv T im [] n.n k p)) ks1 (v s0).1 m1 (v s0).2.1 (v s0).2.2),cSt (bO (Go.UK.adv T im [] n.n k p)) (upS (bO (Go.UK.adv T im [] n.n k p)) ks1 (v s0).1 m1 (v s0).2.1 (v s0).2.2))=(true,true,upS (bO (Go.UK.adv T im [] n.n k p)) ks1 (v s0).1 m1 (v s0).2.1 (v s0).2.2):=by kernel_rfl)
  (e:ae X (λo=>oL o F G)=some r):At P T im n Q p:=by
 simp only[Prod.mk.injEq] at hi;refine At.ls k _ (λx J j s=>LQ n g (λs=>upS (bO (Go.UK.adv T im [] n.n k p)) ks1 (v s).1 m1 (v s).2.1 (v s).2.2) x j s) N (λx hx=>⟨s0,hX▸hx,Go.UK.jr (by rw[hi.2.1,hi.2.2])⟩) (λx hx j s hs=>?_) hy hi.1 e;obtain⟨s',h1,h2⟩:=hs;cases j with
 | zero=>rw[hz] at h1;cases h1
 | succ j=>exact At.jr h2 (h x hx j s') h1
theorem At.vw{S α:Type}(k:Nat){g:Nat->S->Option α}{v:S->ASt}{x:α}{j:Nat}(s:S)(hj:JR n (v s) (bO (Go.UK.adv T im [] n.n k p)))(e:g j s=some x)(hc:aAo (Go.UK.adv T im [] n.n k p)=true:=by kernel_rfl):At P T im n (tn (λs'=>∃i,i < j+1/\LQ n g v x i s') Q) p:=
 At.k k ⟨s,e,hj⟩ hc
theorem At.v{S α:Type}(k:Nat){g:Nat->S->Option α}{v:S->ASt}{x:α}{j:Nat}(s:S)(e:g j s=some x)
  (hc:(aAo (Go.UK.adv T im [] n.n k p),cOK n (bO (Go.UK.adv T im [] n.n k p)) (v s),cSt (bO (Go.UK.adv T im [] n.n k p)) (v s))=(true,true,v s):=by kernel_rfl):At P T im n (tn (λs'=>∃i,i < j+1/\LQ n g v x i s') Q) p:=by
 simp only[Prod.mk.injEq] at hc;exact At.vw k s (Go.UK.jr (by rw[hc.2.1,hc.2.2])) e hc.1
end
end Go.UK

