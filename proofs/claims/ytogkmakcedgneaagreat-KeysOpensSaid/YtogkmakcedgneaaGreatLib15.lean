/- The own layer: abstract values, their memory, and the steps of the model over them: for any program. -/
import Derived.Test.YtogkmakcedgneaaGreatLib14
namespace Go.UK
open Go
set_option linter.all false
variable [bU]
section
variable {P:Program} {T:TypeId→Option TI} {n:Fr}
section
variable {o:Oper} {need:Env} {H:List Box} {x:AV} {id:Nat}
end
end
end Go.UK

open Bool renaming and_eq_true→bp
open List renaming all_eq_true→fm,append_assoc→am,append_nil→cf,cons_append→gg,getElem?_append_left→cj,map_cons→kn,mem_append→dz,mem_cons→d9,mem_of_getElem?→gw,range→ce
open Nat renaming beq→cd,blt→oz,eq_of_beq_eq_true→aj,le_refl→ct
namespace Go.UK
open Go
set_option linter.all false
variable [bU]
structure EU where
 u:List (Nat×Box)
 new:List Box
abbrev EF:=List (Nat×EU)
def aDV{α β:Type}(f:α->β):List α->List β
 | []=>[]
 | x :: r=>f x :: aDV f r
def aDG{α β:Type}(f:α->β):List α->List β
 | []=>[]
 | x :: r=>f x :: aDG f r
theorem aOM{α β:Type}(f:α->β):∀l:List α,aDV f l=l.map f
 | []=>rfl
 | x :: r=>by simp only[aDV,kn,aOM f r]
theorem aPM{α β:Type}(f:α->β):∀l:List α,aDG f l=l.map f
 | []=>rfl
 | x :: r=>by simp only[aDG,kn,aPM f r]
theorem aPA{α β:Type}{f g:α->β}{l:List α}(h:aDV f l=aDG g l):∀x∈l,f x=g x:=List.map_inj_left.1 (by rw[<- aOM,<- aPM,h])
def apU(H:List Box)(e:EU):List Box:=match e.new with | []=>aRP H e.u | b :: r=>aRP H e.u++(b :: r)
def aAh(i:Nat):EF->Option EU
 | []=>none
 | (c,u) :: r=>match cd c i with | true=>some u | false=>aAh i r
def fOn : List Box->EF->Array Bool->List Box
 | H,[],_=>H
 | H,(i,u) :: r,listed=>match listed.getD i false with | true=>fOn (apU H u) r listed | false=>fOn H r listed
def aLy : List Box->EF->List Box
 | H,[]=>H
 | H,(_,u) :: r=>aLy (apU H u) r
def prs(C:List (List Nat))(i:Nat):List Box->List Box->EF->List (List Box×List Box)
 | H,K,[]=>[(H,K)]
 | H,K,(c,u) :: r=>match cd c i with
  | true=>prs C i H (apU K u) r
  | false=>match inC C c i with
   | true=>prs C i H K r
   | false=>match inC C i c with
    | true=>prs C i (apU H u) (apU K u) r
    | false=>prs C i H K r++prs C i (apU H u) (apU K u) r
def aAo(ops:Array Oper)(C:List (List Nat))(ms:List MI)(es:EF)(B:Env):Bool:=
 cd ms.length ops.size&&(
 aIQ ops.size (λi=>(dir ops i).all λj=>oz j i)&&(
 aIQ ops.size (λi=>dEq ((ops[i]?).bind (·.dst)) (dAt ms i))&&(
 aIQ ops.size (λj=>aIQ j λi => !aLA (dAt ms i) (dAt ms j))&&(
 (aHw ms B&&aUm C ms ops.size)&&es.all (λq=>oz q.1 ops.size)))))
section
variable {P:Program} {T:TypeId→Option TI} {n:Fr} {ops:Array Oper}
def aSE(P:Program)(n:Fr)(ops:Array Oper)(C:List (List Nat))(ms:List MI)(es:EF)(B:Env)(H:List Box)(i:Nat):Prop:=
 ∀o x env,ops[i]? = some o->ms[i]? = some x->Sub (qK C ms B i) env->∀q∈prs C i H H es,opS P n ops o ⟨env,q.1⟩ ⟨x.put env,q.2⟩
theorem aDB{C:List (List Nat)}{listed:Array Bool}{i:Nat}(hi:i < listed.size)(hcl:∀s,inC C i s=true->uL listed s)(hni:∀c,inC C c i=true->¬uL listed c)(hu:¬uL listed i):∀(H K:List Box) (es:EF),(fOn H es listed,fOn K es (listed.setIfInBounds i true))∈prs C i H K es
 | H,K,[]=>by simp[fOn,prs]
 | H,K,(c,x) :: r=>by
  unfold fOn prs;have hon:∀c,uL listed c↔listed.getD c false=true:=λ_=>Iff.rfl;cases h0:cd c i with
  | true=>
   have e:=aj h0;subst e;have h1:(listed.setIfInBounds c true).getD c false=true:=(aF0 hi).2 (.inl rfl)
   have h2:listed.getD c false=false:=by cases hg:listed.getD c false with | true=>exact absurd hg hu | false=>rfl
   rw[h1,h2]
   exact aDB hi hcl hni hu H _ r
  | false=>
   have hne:i≠c:=λe=>by subst e;simp at h0
   rw[aAt false hne]
   cases h1:inC C c i with
   | true=>
    have hn:=hni c h1;unfold uL at hn;cases hg:listed.getD c false with
    | true=>exact absurd hg hn
    | false=>exact aDB hi hcl hni hu H K r
   | false=>
    cases h2:inC C i c with
    | true=>
     have:=hcl c h2;unfold uL at this;rw[this]
     exact aDB hi hcl hni hu _ _ r
    | false=>
     cases hg:listed.getD c false with
     | true=>exact dz.2 (.inr (aDB hi hcl hni hu _ _ r))
     | false=>exact dz.2 (.inl (aDB hi hcl hni hu H K r))
theorem aOf{listed:Array Bool}:∀(H:List Box) (es:EF),(∀q∈es,listed.getD q.1 false=true)->fOn H es listed=aLy H es
 | H,[],_=>rfl
 | H,(c,x) :: r,h=>by
  unfold fOn aLy;rw[h (c,x) (by simp)]
  exact aOf _ r (λq hq=>h q (by simp[hq]))
theorem aMF{listed:Array Bool}(h:∀i,¬uL listed i):∀(H:List Box) (es:EF),fOn H es listed=H
 | H,[]=>rfl
 | H,(c,x) :: r=>by
  unfold fOn;split
  ·rename_i hon;exact absurd hon (h c)
  ·exact aMF h H r
theorem aD0{C:List (List Nat)}{i:Nat}:∀(H:List Box) (es:EF),aAh i es=none->∀q∈prs C i H H es,q.2=q.1
 | H,[],_,q,hq=>by
  have:q=(H,H):=by simpa[prs] using hq
  rw[this]
 | H,(c,u) :: r,h,q,hq=>by
  unfold aAh at h;unfold prs at hq;split at h
  ·cases h
  ·rename_i hb;rw[hb] at hq;dsimp only at hq;split at hq
   ·exact aD0 H r h q hq
   ·split at hq
    ·exact aD0 _ r h q hq
    ·rcases dz.1 hq with h' | h'
     ·exact aD0 _ r h q h'
     ·exact aD0 _ r h q h'
theorem aXM{C:List (List Nat)}(hC:C=aPj ops){ms:List MI}{es:EF}{B:Env}{H:List Box}{ctx:Mem}{Q:Exit->Act->World->Prop}(hok:aAo ops C ms es B=true)(hst:∀i,i < ops.size->aSE P n ops C ms es B H i)
  (hk:∀a w env,Sat n ctx ⟨env,aLy H es⟩ a w->(∀k v,cD B k=some (none,v)->(∀x∈ms,aE3 x.d k=false)->cD env k=some (none,v))->(∀(j:Nat) (x:MI) d v,ms[j]? = some x->x.d=some d->x.e=some v->cD env d=some (none,v))->Q .normal a w) :
  ∀(fuel:Nat) (listed:Array Bool) (a:Act) (w:World) (env:Env),listed.size=ops.size->Down ops listed->(∀i,uL listed i->i < ops.size)->uc listed ops.size<=fuel ->
  Sat n ctx ⟨env,fOn H es listed⟩ a w->(∀k v,cD B k=some (none,v)->(∀(j:Nat) x,ms[j]? = some x->uL listed j->aE3 x.d k=false)->cD env k=some (none,v))->(∀(j:Nat) (x:MI) d v,ms[j]? = some x->uL listed j->x.d=some d->x.e=some v->cD env d=some (none,v))->wpAnyIn n.F 0 P .any ops Q fuel listed a w:=by
 simp only[aAo,bp] at hok;obtain⟨h1,h2,h3,h4,⟨h5,h5k⟩,h7⟩:=hok;have hsz:=aj h1;have hcs:∀q∈es,q.1 < ops.size:=λq hq=>by
  have h8:Nat.ble (q.1+1) ops.size=true:=fm.1 h7 q hq;have:=Nat.le_of_ble_eq_true h8;omega
 have done:∀(listed:Array Bool) (a:Act) (w:World) (env:Env),(∀i,i < ops.size->uL listed i)->Sat n ctx ⟨env,fOn H es listed⟩ a w->(∀k v,cD B k=some (none,v)->(∀(j:Nat) x,ms[j]? = some x->uL listed j->aE3 x.d k=false)->cD env k=some (none,v)) ->
   (∀(j:Nat) (x:MI) d v,ms[j]? = some x->uL listed j->x.d=some d->x.e=some v->cD env d=some (none,v))->Q .normal a w:=by
  intro listed a w env hall hsat hB hE;rw[aOf H es (λq hq=>hall q.1 (hcs q hq))] at hsat;exact hk a w env hsat (λk v hb hl=>hB k v hb λj x hx _=>hl x (gw hx)) (λj x d v hx=>hE j x d v hx (hall j (by have:=bA hx;omega)))
 have nothing:∀(listed:Array Bool),(∀i,i < ops.size->uL listed i)->Region.ready .any ops listed=[]:=by
  intro listed hall;refine List.eq_nil_iff_forall_not_mem.2 λi hi=>?_;obtain⟨r1,r2,_⟩:=aI5 hi;exact aQd r1 (hall i r2)
 intro fuel
 induction fuel with
 | zero=>
  intro listed a w env hs hd hm hc hsat hB hE;have hall:∀i,i < ops.size->uL listed i:=aPV ops.size (by omega)
  exact⟨nothing listed hall,done listed a w env hall hsat hB hE⟩
 | succ fuel ih=>
  intro listed a w env hs hd hm hc hsat hB hE;refine⟨λh0=>?_,λi hi=>?_⟩
  ·refine done listed a w env (λj hj=>?_) hsat hB hE;apply Classical.byContradiction;intro hn;obtain⟨i,hi⟩:=aNA hs h2 j hj hn;rw[h0] at hi;cases hi
  ·obtain⟨r1,r2,r3⟩:=aI5 hi;have hu:=aQd r1;have hcl:∀s,inC C i s=true->uL listed s:=λs hs'=>aLM hd i _ r3 s (aLh hC hs')
   have hni:∀c,inC C c i=true->¬uL listed c:=λc hc' hon=>hu (aLM hd c _ (hd c hon) i (aLh hC hc'))
   have him:i < ms.length:=by omega
   have ho:ops[i]? = some ops[i]:=Array.getElem?_eq_getElem r2;have hx:ms[i]? = some ms[i]:=List.getElem?_eq_getElem him;have hBf:∀i e,cD B i=some e->e.1=none:=λi e h=>aCU h5 h;have hsub:Sub (qK C ms B i) env:=by
    intro k e hl;unfold qK at hl;rw[hx] at hl;dsimp only at hl;have hkm:k∈ms[i].keys:=aEz (f:=λk=>aB4 C ms B i k i) hl;have hord:∀(j:Nat) x,ms[j]? = some x->uL listed j->aE3 x.d k=true->inC C i j=true/\j < i:=by
     intro j x hjx hon hdh;rcases aNC h5k r2 (hm j hon) hx hjx hkm hdh with h' | h' | h'
     ·exact h'
     ·exact absurd hon (hni j h')
     ·subst h';exact absurd hon hu
    refine aNW (on:=uL listed) hcl (λv hb hl=>hB k v hb hl) hBf (λj x d v hjx hj hd' he=>hE j x d v hjx hj hd' he) (λj x hjx hon hdh=>(hord j x hjx hon hdh).1) i ?_ (aLc (f:=λk=>aB4 C ms B i k i) hl)
    intro j x hij hjx hon;cases hc:aE3 x.d k with
    | false=>rfl
    | true=>have:=(hord j x hjx hon hc).2;omega
   have hstab:=hst i r2 ops[i] ms[i] env ho hx hsub;have hdst:(ops[i]).dst=ms[i].d:=by
    have:=rW h3 i r2;rw[ho] at this;simp only[Option.bind_some,dAt,hx] at this;generalize (ops[i]).dst=u at *;generalize ms[i].d=v at *;cases u <;> cases v <;> simp[dEq] at this ⊢;exact this
   have hops:opS P n ops ops[i] ⟨env,fOn H es listed⟩ ⟨ms[i].put env,fOn H es (listed.setIfInBounds i true)⟩:=hstab _ (aDB (by omega) hcl hni hu H H es)
   have hstep:=hops ctx a w Q hsat;rw[aT0 ho]
   have next:∀a' w',Sat n ctx ⟨ms[i].put env,fOn H es (listed.setIfInBounds i true)⟩ a' w'->wpAnyIn n.F 0 P .any ops Q fuel (listed.setIfInBounds i true) a' w':=by
    intro a' w' hs';refine ih _ a' w' _ (by simpa using hs) ?_ ?_ ?_ hs' ?_ ?_
    ·intro p hp j hj;rw[aF0 (by omega)] at hp ⊢;rcases hp with hp | hp
     ·subst hp;exact .inr (r3 j hj)
     ·exact .inr (hd p hp j hj)
    ·intro p hp;rw[aF0 (by omega)] at hp;rcases hp with hp | hp
     ·subst hp;exact r2
     ·exact hm p hp
    ·have:=aQY (k:=ops.size) (show i < listed.size by omega) (by
      cases hc':listed.getD i false with
      | false=>rfl
      | true=>exact absurd hc' hu) r2
     omega
    ·intro k v hke hno;exact aGv (hno i _ hx ((aF0 (by omega)).2 (.inl rfl))) (hB k v hke λj x hjx hon=>hno j x hjx ((aF0 (by omega)).2 (.inr hon)))
    ·intro j x d v hjx hj hdx hex;rw[aF0 (by omega)] at hj;by_cases hji:j=i
     ·subst hji;rw[hx] at hjx;cases hjx;exact aLd hdx hex
     ·have hjo:=hj.resolve_left hji;refine aGv ?_ (hE j x d v hjx hjo hdx hex)
      have hjm:=bA hjx;have hcl':aLA ms[i].d x.d=false:=by
       have hi':dAt ms i=ms[i].d:=by unfold dAt;rw[hx]
       have hj':dAt ms j=x.d:=by unfold dAt;rw[hjx]
       rw[<- hi',<- hj']
       rcases Nat.lt_trichotomy i j with hlt | hlt | hlt
       ·have:=rW (rW h4 j (by omega)) i hlt;simpa using this
       ·exact absurd hlt.symm hji
       ·have:=rW (rW h4 i r2) j hlt;have h9:aLA (dAt ms j) (dAt ms i)=false:=by simpa using this
        generalize dAt ms i=u at *;generalize dAt ms j=v at *;cases u <;> cases v <;> first | rfl | (simp only[aLA] at h9 ⊢;rw[aPs];exact h9)
      rw[hdx] at hcl';cases hdi:ms[i].d with
      | none=>rfl
      | some di=>rw[hdi] at hcl';exact hcl'
   split
   ·rename_i hw;rw[if_pos hw] at hstep;exact Oper.wpIn_mono next hstep
   ·rename_i hw;rw[if_neg hw] at hstep;exact⟨λ_ _=>trivial,next _ _ hstep⟩
theorem aPd{id:Nat}{l:List Oper}{Q:Exit->ASt->Prop}{st:ASt}(hm:P.follows .mixedOrders=true){ms:List MI}{es:EF}
  (hok:aAo l.toArray (aPj l.toArray) ms es st.env=true) (hst:∀i,i < l.toArray.size->aSE P n l.toArray (aPj l.toArray) ms es st.env st.H i)
  (hk:Q .normal ⟨aGO ms st.env,aLy st.H es⟩):aw P n (.region id l.toArray true) Q st:=by
 intro ctx a w hs;refine wpIn_region_any hm ?_;obtain⟨bs,hmm⟩:=hs;have hdrew:Sat n ctx st a { w with drawn:=w.drawn+1 }:=by
  have hl:dM w w.drew:=dM.drew w;exact⟨bs,{ h:=rfl,ok:=OK.later hl hmm.ok,ext:=hmm.ext.trans (Ext.later hl),env:=hmm.env.ext (Ext.later hl),size:=hmm.size,low:=hmm.low,defers:=wP.ext hmm.ok (Ext.later hl) hmm.defers,nod:=hmm.nod,outs:=λp hp=>(hmm.outs p hp).ext (Ext.later hl) }⟩
 have hl0:∀i,¬uL (Array.replicate l.toArray.size false) i:=by
  intro i h;unfold uL at h;rw[Array.getD_eq_getD_getElem?] at h;rw[Array.getElem?_replicate] at h;split at h <;> simp at h
 have hb5:aHw ms st.env=true:=by
  simp only[aAo,bp] at hok;exact hok.2.2.2.2.1.1
 have hlen:ms.length=l.toArray.size:=by
  simp only[aAo,bp] at hok;exact aj hok.1
 refine aXM rfl (ctx:=ctx) hok hst ?_ _ _ _ _ st.env (by simp) (λi h=>absurd h (hl0 i)) (λi h=>absurd h (hl0 i)) ?_ ?_ (λ_ _ h _=>h) (λj x d v _ h=>absurd h (hl0 j))
 ·intro a w env hs hB hE;refine⟨_,hk,aLS (st:=⟨env,aLy st.H es⟩) (λi e h=>aIl (λi e h=>aCU hb5 h) (λv=>hB i v) (λx hx d v hd he=>?_) e h) hs⟩
  obtain⟨j,hj⟩:=List.getElem?_of_mem hx;exact hE j x d v hj hd he
 ·have:∀k,uc (Array.replicate l.toArray.size false) k<=k:=by
   intro k
   induction k with
   | zero=>exact ct _
   | succ k ih=>unfold uc;split <;> omega
  exact this _
 ·rw[aMF hl0]
  exact hdrew
end
def aKz(H:List Box)(p x:AV):Option (Nat×Box):=
 match p with
 | .ref id path o=>match H[id]? with
  | some (.var c)=>match loc c 0 path with
   | some (x0,o')=>match cd o' o&&cd x0.n x.n with
    | true=>match aBO c path x with
     | some c'=>some (id,.var c')
     | none=>none
    | false=>none
   | none=>none
  | _=>none
 | _=>none
theorem aKo{H:List Box}{p x:AV}{q:Nat×Box}(h:aKz H p x=some q):yN H p x=some (H.set q.1 q.2):=by
 unfold aKz at h;split at h <;> try cases h
 rename_i id path o;split at h <;> try cases h
 rename_i c hc;split at h <;> try cases h
 rename_i x0 o' hl;split at h <;> try cases h
 rename_i hb;split at h <;> cases h;rename_i c' hs;simp[yN,hc,hl,hb,hs]
def notNw(o:Oper):Bool:=match o.op with | .alloc _=>false | .box _ _=>false | _=>true
def newQ(T:TypeId->Option TI)(o:Oper)(need:Env):Option AV:=match allE T o with | some x=>some x | none=>boxE o need
def plQ(T:TypeId->Option TI)(im:Bool)(n:Nat)(o:Oper)(need:Env)(H:List Box)(nx:Nat):Option (AV×EU):=
 match o.op with
 | .store t p v=>match o.dst with
  | some _=>none
  | none=>match opd need none p,opd need none v,T t with
   | some q,some x,some i=>match cd x.n i.size&&kY x with
    | true=>match aKz H q x with
     | some u=>some (.v (.bool false),⟨[u],[]⟩)
     | none=>none
    | false=>none
   | _,_,_=>none
 | .pick _ _ _=>match plU T im n o need H with | some (x,_)=>some (x,⟨[],[]⟩) | none=>none
 | _=>match dOK n o.dst with
  | true=>match im||notNw o with
   | true=>match ev T im (opd need none) H o with | some (x,none)=>some (x,⟨[],[]⟩) | _=>none
   | false=>match newQ T o need with
    | some z=>match H[nx]? with
     | some .dead=>some (.ref nx [] 0,⟨[(nx,.var z)],[]⟩)
     | _=>match ev T im (opd need none) H o with | some (x,some b)=>some (x,⟨[],[b]⟩) | _=>none
    | _=>none
  | false=>none
section
variable {P:Program} {T:TypeId→Option TI} {n:Fr}
theorem aOU(hT:TOK P T){im:Bool}{o:Oper}{need:Env}{H:List Box}{nx:Nat}{x:AV}{u:EU}(h:plQ T im n.n o need H nx=some (x,u)):Big P n o need H x (apU H u):=by
 unfold plQ at h;split at h
 ·rename_i t p v ho;split at h <;> try cases h
  rename_i hd;split at h <;> try cases h
  rename_i q y i hq hy hi;split at h <;> try cases h
  rename_i hb;split at h <;> cases h;rename_i w hw;refine aOD (im:=im) hT ?_;simp only[plU,hd,dOK,ho,hq,hy,hi,hb,aKo hw]
  rfl
 ·rename_i c y z ho;split at h <;> cases h;rename_i H' h;have e:H'=H:=by
   unfold plU at h;split at h <;> try cases h
   rw[ho] at h;cases c <;> dsimp only at h
   case tmp c=>
    split at h <;> try cases h
    split at h <;> (split at h <;> cases h;rfl)
   all_goals (split at h <;> try cases h) <;> (rename_i hv;unfold ev at hv;rw[ho] at hv;cases hv)
  subst e;exact aOD hT h
 ·split at h <;> try cases h
  rename_i hd;split at h
  ·split at h <;> cases h;rename_i hv;exact aNo hT hd hv
  ·split at h <;> try cases h
   rename_i z hz;split at h
   ·cases h;rename_i hx;unfold newQ at hz;split at hz
    ·rename_i ha;cases hz;exact aMy hT nx hd ha hx
    ·exact aSW nx hd hz hx
   ·split at h <;> cases h;rename_i hv;exact aNo hT hd hv
end
structure DQ where
 i:Nat
 ms:List MI
 es:EF
 H:List Box
 nx:Nat
 gs:List Nat
def aMH(l:List Oper)(C:List (List Nat))(B:Env)(q:DQ):Env:=(aK2 l (zJ l q.i)).map λk=>(k,aB4 C q.ms B q.i k q.i)
def nxU(nx:Nat)(u:List (Nat×Box)):Nat:=u.foldl (λm e=>match oz e.1 m with | true=>m | false=>e.1+1) nx
def aDk(l:List Oper)(q:DQ)(x:AV)(u:EU)(gs:List Nat):DQ:=
 ⟨q.i+1,q.ms++[⟨aK2 l (zJ l q.i),(zJ l q.i).dst,some x⟩],match u with | ⟨[],[]⟩=>q.es | u=>q.es++[(q.i,u)],apU q.H u,nxU q.nx u.u,gs⟩
def dpl(T:TypeId->Option TI)(im:Nat->Bool)(n:Nat)(l:List Oper)(C:List (List Nat))(B:Env)(q:DQ):DQ:=
 match aIw l (zJ l q.i) (aMH l C B q) with
 | true=>aDk l q (.tup []) ⟨[],[]⟩ q.gs
 | false=>match plQ T (imOf im (zJ l q.i)) n (zJ l q.i) (aMH l C B q) q.H q.nx with
  | some (x,u)=>aDk l q x u q.gs
  | none=>q
def aRs(T:TypeId->Option TI)(im:Nat->Bool)(n:Nat)(l:List Oper)(C:List (List Nat))(B:Env):Nat->DQ->DQ
 | 0,q=>q
 | k+1,q=>aRs T im n l C B k (dpl T im n l C B q)
def uAt(i:Nat)(es:EF):EU:=match aAh i es with | some u=>u | none=>⟨[],[]⟩
def nxOf(H:List Box):List (Nat×Box)->Nat
 | []=>H.length
 | (id,_) :: _=>id
def chkB(l:List Oper)(C:List (List Nat))(B:Env)(q:DQ)(i:Nat):Bool:=
 match aIw l (zJ l i) (qK C q.ms B i) with
 | true=>aKp (eAt q.ms i)&&aBt (aAh i q.es) && !(q.gs.any (cd i))
 | false=>gOK l.toArray (zJ l i) (qK C q.ms B i)&&aKm (eAt q.ms i)
def chkL(T:TypeId->Option TI)(im:Nat->Bool)(n:Nat)(l:List Oper)(C:List (List Nat))(B:Env)(H0:List Box)(q:DQ)(i:Nat):List (Option (AV×EU)×List Box):=
 match aIw l (zJ l i) (qK C q.ms B i)||q.gs.any (cd i) with
 | true=>[]
 | false=>aDV (λH=>(plQ T (imOf im (zJ l i)) n (zJ l i) (qK C q.ms B i) H.1 (nxOf H.1 (uAt i q.es).u),apU H.1 (uAt i q.es))) (prs C i H0 H0 q.es)
def chkR(l:List Oper)(C:List (List Nat))(B:Env)(H0:List Box)(q:DQ)(i:Nat):List (Option (AV×EU)×List Box):=
 match aIw l (zJ l i) (qK C q.ms B i)||q.gs.any (cd i) with
 | true=>[]
 | false=>aDG (λH=>(some ((eAt q.ms i).getD default,uAt i q.es),H.2)) (prs C i H0 H0 q.es)
def OB(P:Program)(n:Fr)(l:List Oper)(C:List (List Nat))(B:Env)(H0:List Box)(ms:List MI)(es:EF)(i:Nat):Prop:=
 ∃x,eAt ms i=some x/\∀q∈prs C i H0 H0 es,Big P n (zJ l i) (qK C ms B i) q.1 x q.2
section
variable {P:Program} {T:TypeId→Option TI} {im:Nat→Bool} {n:Fr} {l:List Oper} {C:List (List Nat)} {B:Env} {H0:List Box}
theorem stabQ(hT:TOK P T){q:DQ}{i:Nat}(hi:i < l.toArray.size)(hB:aAo l.toArray C q.ms q.es B=true)(hdb:chkB l C B q i=true)(hde:chkL T im n.n l C B H0 q i=chkR l C B H0 q i)(hdst:l.all (λo=>dOK n.n o.dst)=true)
  (hg:∀g∈q.gs,OB P n l C B H0 q.ms q.es g):aSE P n l.toArray C q.ms q.es B H0 i:=by
 obtain⟨_,ms,es,_,_,gs⟩:=q;dsimp only at *;intro o x env ho hx hs H' hH';obtain⟨H',K'⟩:=H';dsimp only;have hlo:l[i]? = some o:=by simpa using ho
 have ho':zJ l i=o:=by unfold zJ;rw[hlo];rfl
 have hdo:dOK n.n o.dst=true:=fm.1 hdst o (gw hlo)
 have hxd:x.d=o.dst:=by
  simp only[aAo,bp] at hB;have:=rW hB.2.2.1 i hi;rw[ho] at this;simp only[Option.bind_some,dAt,hx] at this;generalize o.dst=u at *;generalize x.d=v at *;cases u <;> cases v <;> simp[dEq] at this ⊢;exact this.symm
 have hex:eAt ms i=x.e:=by unfold eAt;rw[hx]
 unfold chkB at hdb;unfold chkL chkR at hde;simp only[ho',hex] at hdb hde;have fin:∀(v:AV),x.e=some v->gOK l.toArray o (qK C ms B i)=true->Big P n o (qK C ms B i) H' v K'->opS P n l.toArray o ⟨env,H'⟩ ⟨x.put env,K'⟩:=by
  intro v hv hg hb;have:=aSh hs hg hb;unfold MI.put;rw[hv,hxd]
  cases hd:o.dst with
  | none=>rw[hd] at this;exact this
  | some d=>rw[hd] at this;exact this
 cases hdead:aIw l o (qK C ms B i) with
 | true=>
  rw[hdead] at hdb;simp only[bp] at hdb;have hnc:aAh i es=none:=by cases hc:aAh i es with | none=>rfl | some _=>rw[hc] at hdb;cases hdb.1.2
  have hne:x.e=some (.tup []):=aLC hdb.1.1;have:=aRO (P:=P) (n:=n) (H:=H') ho hs hdead hdo;have e:K'=H':=aD0 _ _ hnc _ hH';subst e;unfold MI.put;rw[hne,hxd]
  exact this
 | false=>
  rw[hdead] at hdb hde;simp only[bp,Bool.false_or] at hdb hde;obtain⟨hg',hsome⟩:=hdb;obtain⟨v,hv⟩:∃v,x.e=some v:=by cases hc:x.e with | none=>rw[hc] at hsome;cases hsome | some v=>exact⟨v,rfl⟩
  cases hgs:gs.any (cd i) with
  | true=>
   obtain⟨g,hg1,hg2⟩:=List.any_eq_true.1 hgs;have e:=aj hg2;subst e;obtain⟨y,h1,h2⟩:=hg i hg1;rw[hex,hv] at h1;cases h1;have:=h2 _ hH';rw[ho'] at this;exact fin v hv hg' this
  | false=>
   rw[hgs,hv] at hde;simp only[Option.getD_some] at hde;have:=aPA hde _ hH';simp only[Prod.mk.injEq] at this;have hb:=aOU hT this.1;rw[this.2] at hb;exact fin v hv hg' hb
def DX(q:DQ)(ms:List MI)(es:EF):Prop:=∃xs ys,ms=q.ms++xs/\es=q.es++ys/\∀y∈ys,q.i<=y.1
def DV(q:DQ):Prop:=q.i=q.ms.length/\∀e∈q.es,e.1 < q.i
theorem aCz{ms xs:List MI}{i k:Nat}:∀{j:Nat},j<=ms.length->aB4 C (ms++xs) B i k j=aB4 C ms B i k j
 | 0,_=>rfl
 | j+1,h=>by
  unfold aB4;rw[cj (by omega),aCz (j:=j) (by omega)]
theorem aNX{ms xs:List MI}{x:MI}:qK C (ms++x :: xs) B ms.length=x.keys.map λk=>(k,aB4 C ms B ms.length k ms.length):=by
 unfold qK;rw[List.getElem?_append_right (ct _),Nat.sub_self]
 dsimp only[List.getElem?_cons_zero]
 congr 1;funext k;rw[aCz (ct _)]
theorem aPq{ms xs ys:List MI}{g:Nat}(h:g < ms.length):qK C (ms++xs) B g=qK C (ms++ys) B g:=by
 unfold qK;rw[cj h,cj h]
 cases ms[g]? with
 | none=>rfl
 | some x=>dsimp only;congr 1;funext k;rw[aCz (by omega),aCz (by omega)]
theorem aV8{ms xs ys:List MI}{g:Nat}(h:g < ms.length):eAt (ms++xs) g=eAt (ms++ys) g:=by
 unfold eAt;rw[cj h,cj h]
theorem aEj{i:Nat}:∀{es ys:EF},aAh i (es++ys)=match aAh i es with | some u=>some u | none=>aAh i ys
 | [],ys=>rfl
 | (c,u) :: es,ys=>by
  simp only[gg,aAh]
  cases cd c i with
  | true=>rfl
  | false=>exact aEj
theorem aC9{i:Nat}:∀{es:EF},(∀e∈es,e.1≠i)->aAh i es=none
 | [],_=>rfl
 | (c,u) :: es,h=>by
  unfold aAh;rw[sY (h (c,u) (by simp))]
  exact aC9 λe he=>h e (by simp[he])
theorem aLL{q:DQ}{x:AV}{u:EU}{gs:List Nat}:(u=⟨[],[]⟩/\(aDk l q x u gs).es=q.es)\/(u≠⟨[],[]⟩/\(aDk l q x u gs).es=q.es++[(q.i,u)]):=by
 unfold aDk;dsimp only;split
 ·exact .inl ⟨rfl,rfl⟩
 ·rename_i h;exact .inr ⟨h,rfl⟩
theorem aPS{q:DQ}{x:AV}{u:EU}{gs:List Nat}(h:DV q):DV (aDk l q x u gs):=by
 refine⟨by simp[aDk,h.1],λe he=>?_⟩
 show e.1 < q.i+1;rcases aLL (l:=l) (q:=q) (x:=x) (u:=u) (gs:=gs) with ⟨_,h1⟩ | ⟨_,h1⟩
 ·rw[h1] at he;have:=h.2 e he;omega
 ·rw[h1] at he;rcases dz.1 he with h' | h'
  ·have:=h.2 e h';omega
  ·have:e=(q.i,u):=by simpa using h'
   subst this;dsimp only;omega
theorem aO9{q:DQ}{x:AV}{u:EU}{gs:List Nat}{ms:List MI}{es:EF}(h:DX (aDk l q x u gs) ms es):DX q ms es:=by
 obtain⟨xs,ys,h1,h2,h3⟩:=h;have h3:∀y∈ys,q.i+1<=y.1:=h3;rcases aLL (l:=l) (q:=q) (x:=x) (u:=u) (gs:=gs) with ⟨_,g⟩ | ⟨_,g⟩
 ·rw[g] at h2;exact⟨_,ys,h1.trans (am ..),h2,λy hy=>by have:=h3 y hy;omega⟩
 ·rw[g] at h2;exact⟨_,(q.i,u) :: ys,h1.trans (am ..),h2.trans (by simp),λy hy=>by
   rcases d9.1 hy with e | e
   ·subst e;exact ct _
   ·have:=h3 y e;omega⟩
theorem aUS{q:DQ}{x:AV}{u:EU}{gs:List Nat}{ms:List MI}{es:EF}(hv:DV q)(h:DX (aDk l q x u gs) ms es):uAt q.i es=u/\(u=⟨[],[]⟩->aAh q.i es=none)/\eAt ms q.i=some x/\qK C ms B q.i=aMH l C B q:=by
 obtain⟨xs,ys,h1,h2,h3⟩:=h;have h3:∀y∈ys,q.i+1<=y.1:=h3;have e0:aAh q.i q.es=none:=aC9 λe he e'=>by have:=hv.2 e he;omega
 have e1:aAh q.i ys=none:=aC9 λe he e'=>by have:=h3 e he;omega
 have e2:(u=⟨[],[]⟩/\aAh q.i es=none)\/(u≠⟨[],[]⟩/\aAh q.i es=some u):=by
  rcases aLL (l:=l) (q:=q) (x:=x) (u:=u) (gs:=gs) with ⟨g0,g⟩ | ⟨g0,g⟩
  ·refine .inl ⟨g0,?_⟩;rw[h2,g,aEj,e0];exact e1
  ·refine .inr ⟨g0,?_⟩;rw[h2,g,am,aEj,e0];simp[aAh]
 refine⟨?_,λhu=>?_,?_,?_⟩
 ·unfold uAt;rcases e2 with ⟨g,e⟩ | ⟨_,e⟩
  ·rw[e,g]
  ·rw[e]
 ·rcases e2 with ⟨_,e⟩ | ⟨e,_⟩
  ·exact e
  ·exact absurd hu e
 ·unfold eAt;have h1:ms=(q.ms++[⟨aK2 l (zJ l q.i),(zJ l q.i).dst,some x⟩])++xs:=h1;rw[h1,hv.1]
  simp
 ·have h1:ms=(q.ms++[⟨aK2 l (zJ l q.i),(zJ l q.i).dst,some x⟩])++xs:=h1;rw[h1,am,hv.1]
  show qK C (q.ms++(_ :: xs)) B q.ms.length=_;rw[aNX]
  unfold aMH;rw[hv.1]
theorem dplV{q:DQ}(h:DV q):DV (dpl T im n.n l C B q):=by
 unfold dpl;split
 ·exact aPS h
 ·split
  ·exact aPS h
  ·exact h
theorem dplX{q:DQ}{ms:List MI}{es:EF}(h:DX (dpl T im n.n l C B q) ms es):DX q ms es:=by
 unfold dpl at h;split at h
 ·exact aO9 h
 ·split at h
  ·exact aO9 h
  ·exact h
theorem dplG{q:DQ}:(dpl T im n.n l C B q).gs=q.gs:=by
 unfold dpl;split
 ·rfl
 ·split <;> rfl
theorem advV : ∀{k:Nat} {q:DQ},DV q->DV (aRs T im n.n l C B k q)
 | 0,_,h=>h
 | k+1,_,h=>advV (k:=k) (dplV h)
theorem advX : ∀{k:Nat} {q:DQ} {ms:List MI} {es:EF},DX (aRs T im n.n l C B k q) ms es->DX q ms es
 | 0,_,_,_,h=>h
 | k+1,_,_,_,h=>dplX (advX (k:=k) h)
theorem advG : ∀{k:Nat} {q:DQ},(aRs T im n.n l C B k q).gs=q.gs
 | 0,_=>rfl
 | k+1,_=>(advG (k:=k)).trans dplG
end
def dH(p:Pt)(m:List Bool):List Box:=dN p++aKh m
def dCl(p:Pt):List (List Nat):=aPj (lPt p).toArray
def dEn(p:Pt):Env:=aGs (qH p)
def bP(T:TypeId->Option TI)(im:Nat->Bool)(n:Nat)(p:Pt)(k:Nat)(q:DQ):DQ:=aRs T im n (lPt p) (dCl p) (dEn p) k q
def opD(p:Pt)(q:DQ):Oper:=zJ (lPt p) q.i
def mK(p:Pt)(q:DQ):Env:=aMH (lPt p) (dCl p) (dEn p) q
def aAP(p:Pt)(q:DQ)(x:AV)(u:EU):DQ:=aDk (lPt p) q x u (q.i :: q.gs)
def stD(p:Pt)(m:List Bool)(i:Nat)(es:EF):List (List Box×List Box):=prs (dCl p) i (dH p m) (dH p m) es
def aPQ(q:DQ):Option AV:=match q.ms.getLast? with | some x=>x.e | none=>none
def aFQ : List MI->Option AV->List MI
 | [],_=>[]
 | [x],e=>[⟨x.keys,x.d,e⟩]
 | x :: r,e=>x :: aFQ r e
def aNJ(q:DQ)(b:Bool)(gs:List Nat):DQ:={ q with ms:=aFQ q.ms (some (.v (.bool b))),gs:=gs }
section
variable {P:Program} {T:TypeId→Option TI} {im:Nat→Bool} {n:Fr} {Q:Exit→ASt→Prop} {p:Pt} {m:List Bool} {q:DQ} {τ:Type} {L R:EF→τ}
def DD(P:Program)(T:TypeId->Option TI)(im:Nat->Bool)(n:Fr)(Q:Exit->ASt->Prop)(p:Pt)(m:List Bool)(q:DQ){τ:Type}(L R:EF->τ):Prop:=
 DV q->(∀ms es,DX q ms es->L es=R es->∀g∈q.gs,OB P n (lPt p) (dCl p) (dEn p) (dH p m) ms es g)->At P T im n Q p
theorem DD.a(k:Nat)(h:DD P T im n Q p m (bP T im n.n p k q) L R):DD P T im n Q p m q L R:=
 λhv ho=>h (advV hv) λms es hx e g hg=>ho ms es (advX hx) e g (by rw[show(bP T im n.n p k q).gs=q.gs from advG] at hg;exact hg)
theorem At.D{p:Pt}(k:Nat)(m:List Bool){π:Prop}(h:π->DD P T im n Q (Go.UK.adv T im [] n.n k p) m ⟨0,[],[],dH (Go.UK.adv T im [] n.n k p) m,(dN (Go.UK.adv T im [] n.n k p)).length,[]⟩ (λ_=>()) (λ_=>()))(e0:π):At P T im n Q p:=
 At.adv k (h e0 ⟨rfl,λ_ h=>by cases h⟩ λ_ _ _ _ g hg=>by cases hg)
theorem DD.o(k:Nat){π:Prop}{y:AV}(b:∀H,Big P n (opD p (bP T im n.n p k q)) (mK p (bP T im n.n p k q)) H y H)(h:π->DD P T im n Q p m (aAP p (bP T im n.n p k q) y ⟨[],[]⟩) L R)(e:π):DD P T im n Q p m q L R:=by
 refine DD.a k ?_;generalize bP T im n.n p k q=q at *;intro hv ho;refine h e (aPS hv) λms es hx hl g hg=>?_;rcases d9.1 hg with e1 | e1
 ·subst e1;obtain⟨_,h1,h2,h3⟩:=aUS (C:=dCl p) (B:=dEn p) hv hx;refine⟨y,h2,λH hH=>?_⟩
  rw[h3,aD0 _ _ (h1 rfl) H hH]
  exact b H.1
 ·exact ho ms es (aO9 hx) hl g e1
theorem DD.b{α β:Type}{x:Option α}{f:α->Option β}{r:β}(k:Nat){y:α->AV}(b:∀{a},x=some a->∀H,Big P n (opD p (bP T im n.n p k q)) (mK p (bP T im n.n p k q)) H (y a) H)
  (h:∀a,f a=some r->DD P T im n Q p m (aAP p (bP T im n.n p k q) (y a) ⟨[],[]⟩) L R) (e:Option.bind x f=some r):DD P T im n Q p m q L R:=by
 obtain⟨a,e1,e2⟩:=wR e;exact DD.o k (b e1) (h a) e2
theorem DD.w(k:Nat){π:Prop}{σ:Type}(y:AV)(u:EU){L' R':List Box->σ}(b:∀H,L' H=R' H->Big P n (opD p (bP T im n.n p k q)) (mK p (bP T im n.n p k q)) H y (apU H u))
  (h:π->DD P T im n Q p m (aAP p (bP T im n.n p k q) y u) (λes=>(L es,aDV (λH=>(L' H.1,apU H.1 u)) (stD p m (bP T im n.n p k q).i es))) (λes=>(R es,aDG (λH=>(R' H.1,H.2)) (stD p m (bP T im n.n p k q).i es)))) (e:π):DD P T im n Q p m q L R:=by
 refine DD.a k ?_;generalize bP T im n.n p k q=q at *;intro hv ho;refine h e (aPS hv) λms es hx hl g hg=>?_;simp only[Prod.mk.injEq] at hl;rcases d9.1 hg with e1 | e1
 ·subst e1;obtain⟨_,_,h2,h3⟩:=aUS (C:=dCl p) (B:=dEn p) hv hx;refine⟨y,h2,λH hH=>?_⟩
  have he:=aPA hl.2 H hH;simp only[Prod.mk.injEq] at he;rw[h3,<- he.2]
  exact b H.1 he.1
 ·exact ho ms es (aO9 hx) hl.1 g e1
theorem aGr : ∀{ms:List MI} {x:MI} {e:Option AV},aFQ (ms++[x]) e=ms++[⟨x.keys,x.d,e⟩]
 | [],_,_=>rfl
 | [a],_,_=>rfl
 | a :: b :: ms,x,e=>by
  have:=aGr (ms:=b :: ms) (x:=x) (e:=e)
  simp only[gg] at this ⊢;rw[aFQ,this]
  simp
theorem aI3{q:DQ}{v:AV}(h:aPQ q=some v):∃ms x,q.ms=ms++[x]/\x.e=some v:=by
 unfold aPQ at h;split at h
 ·rename_i x hx;obtain⟨ms,e⟩:=List.getLast?_eq_some_iff.1 hx;exact⟨ms,x,e,h⟩
 ·cases h
theorem aWe{q:DQ}{b:Bool}(h:aPQ q=some (.v (.bool b)))(gs:List Nat):aNJ q b gs={ q with gs:=gs }:=by
 obtain⟨ms0,x,hm,hx⟩:=aI3 h;have e:aFQ q.ms (some (.v (.bool b)))=q.ms:=by rw[hm,aGr,<- hx]
 unfold aNJ;rw[e]
def pl1(T:TypeId->Option TI)(im:Nat->Bool)(n:Nat)(p:Pt)(q:DQ)(H:List Box×List Box):Option (AV×EU):=
 plQ T (imOf im (zJ (lPt p) (q.i - 1))) n (zJ (lPt p) (q.i - 1)) (qK (dCl p) q.ms (dEn p) (q.i - 1)) H.1 0
theorem DD.s(hT:TOK P T){α:Type}{b:Bool}{px py:Option α}{r:α}(k:Nat)
  (h1:px=some r->DD P T im n Q p m (aNJ (bP T im n.n p k q) true (((bP T im n.n p k q).i - 1) :: (bP T im n.n p k q).gs)) (λes=>(L es,aDV (pl1 T im n.n p (bP T im n.n p k q)) (stD p m ((bP T im n.n p k q).i - 1) es))) (λes=>(R es,aDG (λ_=>some (.v (.bool b),⟨[],[]⟩)) (stD p m ((bP T im n.n p k q).i - 1) es))))
  (h2:py=some r->DD P T im n Q p m (aNJ (bP T im n.n p k q) false (((bP T im n.n p k q).i - 1) :: (bP T im n.n p k q).gs)) (λes=>(L es,aDV (pl1 T im n.n p (bP T im n.n p k q)) (stD p m ((bP T im n.n p k q).i - 1) es))) (λes=>(R es,aDG (λ_=>some (.v (.bool b),⟨[],[]⟩)) (stD p m ((bP T im n.n p k q).i - 1) es))))
  (hb:(aPQ (bP T im n.n p k q),aBt (aAh ((bP T im n.n p k q).i - 1) (bP T im n.n p k q).es))=(some (.v (.bool b)),true):=by kernel_rfl) (e:cond b px py=some r):DD P T im n Q p m q L R:=by
 refine DD.a k ?_;generalize bP T im n.n p k q=q at *;simp only[Prod.mk.injEq] at hb;obtain⟨hb,hu⟩:=hb;obtain⟨ms0,x,hm,hx⟩:=aI3 hb;have key:DD P T im n Q p m (aNJ q b ((q.i - 1) :: q.gs)) (λes=>(L es,aDV (pl1 T im n.n p q) (stD p m (q.i - 1) es))) (λes=>(R es,aDG (λ_=>some (.v (.bool b),⟨[],[]⟩)) (stD p m (q.i - 1) es))):=by
  cases b with
  | true=>exact h1 e
  | false=>exact h2 e
 rw[aWe hb] at key;intro hv ho;have hl:q.i=ms0.length+1:=by rw[hv.1,hm];simp
 refine key hv λms es hX hE g hg=>?_;simp only[Prod.mk.injEq] at hE;rcases d9.1 hg with e1 | e1
 ·subst e1;obtain⟨xs,ys,g1,g2,g3⟩:=hX;dsimp only at g1 g2 g3;have hlt:q.i - 1 < q.ms.length:=by have:=hv.1;omega
  refine⟨.v (.bool b),?_,λH hH=>?_⟩
  ·have:=aV8 (ms:=q.ms) (xs:=xs) (ys:=[]) hlt;rw[<- g1,cf] at this;rw[this]
   unfold eAt;rw[hm,show q.i - 1=ms0.length by omega]
   simp[hx]
  ·have e2:aAh (q.i - 1) es=none:=by
    rw[g2,aEj]
    cases hc:aAh (q.i - 1) q.es with
    | some u=>rw[hc] at hu;cases hu
    | none=>exact aC9 λe he e'=>by have:=g3 e he;omega
   have e3:qK (dCl p) ms (dEn p) (q.i - 1)=qK (dCl p) q.ms (dEn p) (q.i - 1):=by
    have:=aPq (C:=dCl p) (B:=dEn p) (ms:=q.ms) (xs:=xs) (ys:=[]) hlt;rw[<- g1,cf] at this;exact this
   rw[e3,aD0 _ _ e2 H hH]
   exact aOU hT (aPA hE.2 H hH)
 ·exact ho ms es hX hE.1 g e1
theorem DD.e(hT:TOK P T)(hm:P.follows .mixedOrders=true)(k:Nat){π:Prop}(h:π->At P T im n Q (aBm (aNk p) ⟨aGO (bP T im n.n p k q).ms (dEn p),aLy (dH p m) (bP T im n.n p k q).es⟩))
  (hB:(isDr p,aAo (lPt p).toArray (dCl p) (bP T im n.n p k q).ms (bP T im n.n p k q).es (dEn p),aIQ (lPt p).toArray.size (chkB (lPt p) (dCl p) (dEn p) (bP T im n.n p k q)),(lPt p).all (λo=>dOK n.n o.dst))=(true,true,true,true):=by kernel_rfl)
  (hE:(L (bP T im n.n p k q).es,aDV (chkL T im n.n (lPt p) (dCl p) (dEn p) (dH p m) (bP T im n.n p k q)) (ce (lPt p).toArray.size))=(R (bP T im n.n p k q).es,aDG (chkR (lPt p) (dCl p) (dEn p) (dH p m) (bP T im n.n p k q)) (ce (lPt p).toArray.size)):=by kernel_rfl) (e0:π):DD P T im n Q p m q L R:=by
 have h:=h e0;refine DD.a k ?_;generalize bP T im n.n p k q=q at *;intro hv ho;simp only[Prod.mk.injEq] at hB hE;obtain⟨b1,b2,b3,b4⟩:=hB;obtain⟨id,arr,ks,st,rfl⟩:=aP9 b1;intro hT' hm';have hob:=ho q.ms q.es ⟨[],[],by simp,by simp,λ_ h=>by cases h⟩ hE.1;have:=aPd (l:=arr.toList) (id:=id) (st:=⟨aGs st.env,st.H++aKh m⟩) (Q:=λe s=>e = .normal/\s=⟨aGO q.ms (aGs st.env),aLy (st.H++aKh m) q.es⟩) hm b2
  (λi hi=>stabQ (T:=T) (im:=im) hT hi b2 (rW b3 i hi) (aPA hE.2 i (List.mem_range.2 hi)) b4 hob) ⟨rfl,rfl⟩
 intro ctx a w hs;refine wpIn_mono (this ctx a w (aHk m (aTC (l:=[]) hs))) ?_;rintro e a' w' ⟨s,⟨rfl,rfl⟩,h2⟩
 exact⟨_,At.popN hT' hm' h,h2⟩
end
end Go.UK

open Option renaming bind→ae
namespace Go.UK
open Go
set_option linter.all false
variable [bU]
theorem aIH : ∀(σ:List Nat) (H xs:List Box),pC H σ xs=aRP H (σ.zip xs)
 | [],H,xs=>by cases xs <;> rfl
 | s :: σ,H,[]=>rfl
 | s :: σ,H,x :: xs=>aIH σ (H.set s x) xs
def euC(σ:List Nat)(m:Nat)(H':List Box):EU:=⟨σ.zip ((H'.take σ.length).map (lZ (rn σ m))),(H'.drop σ.length).map (lZ (rn σ m))⟩
theorem aWU(H:List Box)(e:EU):apU H e=aRP H e.u++e.new:=by
 obtain⟨u,new⟩:=e;cases new with
 | nil=>simp[apU]
 | cons b r=>rfl
theorem aO4{σ:List Nat}{H H':List Box}:cL H σ H'=apU H (euC σ H.length H'):=by
 rw[aWU]
 unfold cL euC;rw[aIH]
section
variable {P:Program} {T:TypeId→Option TI} {im:Nat→Bool} {n:Fr} {Q:Exit→ASt→Prop} {p:Pt}
theorem At.y{α β:Type}{x:Option α}{f:α->Option β}{r:β}(k:Nat){fid:FuncId}{args:List AV}{ret:α->AV}(c:∀{a},x=some a->FnM P fid [] args (ret a) [])
  (h:∀a,f a=some r->At P T im n Q (aCx (Go.UK.adv T im [] n.n k p) (ret a) (dN (Go.UK.adv T im [] n.n k p))))
  (hc:(aIy (Go.UK.adv T im [] n.n k p),nM P fid,aAx n (yW (Go.UK.adv T im [] n.n k p)) (dN (Go.UK.adv T im [] n.n k p)) [] [] args,aAm (yW (Go.UK.adv T im [] n.n k p)) (qH (Go.UK.adv T im [] n.n k p)) (dN (Go.UK.adv T im [] n.n k p)) [] [] args,λa=>ren (rn [] (dN (Go.UK.adv T im [] n.n k p)).length) (ret a))
   = (true,true,true,(some (fid,renL (rn [] (dN (Go.UK.adv T im [] n.n k p)).length) args),[]),ret):=by kernel_rfl) (e:ae x f=some r):At P T im n Q p:=by
 simp only[Prod.mk.injEq] at hc;obtain⟨c1,c2,c3,c4,c5⟩:=hc;exact At.b k (λa ha=>aRY (c ha) c2 c3 c4 (congrFun c5 a)) h c1 e
theorem At.Y{α β:Type}{x:Option α}{f:α->Option β}{r:β}(k:Nat)(σ:List Nat){fid:FuncId}{Hc:List Box}{args:List AV}{ret:α->AV}{Hc':α->List Box}(c:∀{a},x=some a->FnM P fid Hc args (ret a) (Hc' a))
  (h:∀a,f a=some r->At P T im n Q (aCx (Go.UK.adv T im [] n.n k p) (ren (rn σ (dN (Go.UK.adv T im [] n.n k p)).length) (ret a)) (cL (dN (Go.UK.adv T im [] n.n k p)) σ (Hc' a))))
  (hc:(aIy (Go.UK.adv T im [] n.n k p),nM P fid,aAx n (yW (Go.UK.adv T im [] n.n k p)) (dN (Go.UK.adv T im [] n.n k p)) σ Hc args,aAm (yW (Go.UK.adv T im [] n.n k p)) (qH (Go.UK.adv T im [] n.n k p)) (dN (Go.UK.adv T im [] n.n k p)) σ Hc args)
   = (true,true,true,(some (fid,renL (rn σ (dN (Go.UK.adv T im [] n.n k p)).length) args),Hc.map (lZ (rn σ (dN (Go.UK.adv T im [] n.n k p)).length)))):=by kernel_rfl) (e:ae x f=some r):At P T im n Q p:=by
 simp only[Prod.mk.injEq] at hc;obtain⟨c1,c2,c3,c4⟩:=hc;exact At.b k (λa ha=>aLl σ (c ha) c2 c3 c4) h c1 e
theorem At.i(hT:TOK P T){β γ:Type}{l:List γ}{i:Int}{f:γ->Option β}{r:β}(k:Nat)(F:γ->AV)(h:∀a,f a=some r->At P T im n Q (aCx (Go.UK.adv T im [] n.n k p) (.im (F a)) (dN (Go.UK.adv T im [] n.n k p))))
  (hc:(aIy (Go.UK.adv T im [] n.n k p),dOK n.n (yW (Go.UK.adv T im [] n.n k p)).dst,idxE T (yW (Go.UK.adv T im [] n.n k p)) (qH (Go.UK.adv T im [] n.n k p)))=(true,true,some (l.map F,i)):=by kernel_rfl) (e:ae (idx l i) f=some r):At P T im n Q p:=by
 simp only[Prod.mk.injEq] at hc;exact At.b k (λa ha=>aPU hT F ha hc.2.1 hc.2.2) h hc.1 e
section
variable {m:List Bool} {q:DQ} {τ:Type} {L R:EF→τ}
theorem DD.y{α β:Type}{x:Option α}{f:α->Option β}{r:β}(k:Nat){fid:FuncId}{args:List AV}{ret:α->AV}(c:∀{a},x=some a->FnM P fid [] args (ret a) [])
  (h:∀a,f a=some r->DD P T im n Q p m (aAP p (bP T im n.n p k q) (ret a) ⟨[],[]⟩) L R)
  (hc:(λH:List Box=>(nM P fid,aAx n (opD p (bP T im n.n p k q)) H [] [] args,aAm (opD p (bP T im n.n p k q)) (mK p (bP T im n.n p k q)) H [] [] args,λa=>ren (rn [] H.length) (ret a)))
   = (λH=>(true,true,(some (fid,renL (rn [] H.length) args),[]),ret)):=by kernel_rfl) (e:ae x f=some r):DD P T im n Q p m q L R:=by
 refine DD.b k (λ{a} ha H=>?_) h e;have:=congrFun hc H;simp only[Prod.mk.injEq] at this;obtain⟨c2,c3,c4,c5⟩:=this;exact aRY (c ha) c2 c3 c4 (congrFun c5 a)
theorem DD.Yo{π:Prop}(k:Nat)(σ:List Nat){fid:FuncId}{Hc:List Box}{args:List AV}{ret:AV}{Hc':List Box}(c:FnM P fid Hc args ret Hc')
  (h:π->DD P T im n Q p m (aAP p (bP T im n.n p k q) (ren (rn σ 0) ret) (euC σ 0 Hc'))
   (λes=>(L es,aDV (λH=>((nM P fid,aAx n (opD p (bP T im n.n p k q)) H.1 σ Hc args,aAm (opD p (bP T im n.n p k q)) (mK p (bP T im n.n p k q)) H.1 σ Hc args,ren (rn σ H.1.length) ret,euC σ H.1.length Hc'),apU H.1 (euC σ 0 Hc'))) (stD p m (bP T im n.n p k q).i es)))
   (λes=>(R es,aDG (λH=>((true,true,(some (fid,renL (rn σ H.1.length) args),Hc.map (lZ (rn σ H.1.length))),ren (rn σ 0) ret,euC σ 0 Hc'),H.2)) (stD p m (bP T im n.n p k q).i es)))) (e:π):DD P T im n Q p m q L R:=by
 refine DD.w k _ _ (L':=λH=>(nM P fid,aAx n (opD p (bP T im n.n p k q)) H σ Hc args,aAm (opD p (bP T im n.n p k q)) (mK p (bP T im n.n p k q)) H σ Hc args,ren (rn σ H.length) ret,euC σ H.length Hc')) (R':=λH=>(true,true,(some (fid,renL (rn σ H.length) args),Hc.map (lZ (rn σ H.length))),ren (rn σ 0) ret,euC σ 0 Hc')) (λH hH=>?_) h e;simp only[Prod.mk.injEq] at hH;obtain⟨c2,c3,c4,c5,c6⟩:=hH;rw[<- c5,<- c6,<- aO4]
 exact aLl σ c c2 c3 c4
theorem DD.Y{α β:Type}{x:Option α}{f:α->Option β}{r:β}(k:Nat)(σ:List Nat){fid:FuncId}{Hc:List Box}{args:List AV}{ret:α->AV}{Hc':α->List Box}(c:∀{a},x=some a->FnM P fid Hc args (ret a) (Hc' a))
  (h:∀a,f a=some r->DD P T im n Q p m (aAP p (bP T im n.n p k q) (ren (rn σ 0) (ret a)) (euC σ 0 (Hc' a)))
   (λes=>(L es,aDV (λH=>((nM P fid,aAx n (opD p (bP T im n.n p k q)) H.1 σ Hc args,aAm (opD p (bP T im n.n p k q)) (mK p (bP T im n.n p k q)) H.1 σ Hc args,ren (rn σ H.1.length) (ret a),euC σ H.1.length (Hc' a)),apU H.1 (euC σ 0 (Hc' a)))) (stD p m (bP T im n.n p k q).i es)))
   (λes=>(R es,aDG (λH=>((true,true,(some (fid,renL (rn σ H.1.length) args),Hc.map (lZ (rn σ H.1.length))),ren (rn σ 0) (ret a),euC σ 0 (Hc' a)),H.2)) (stD p m (bP T im n.n p k q).i es)))) (e:ae x f=some r):DD P T im n Q p m q L R:=by
 obtain⟨a,e1,e2⟩:=wR e;exact DD.Yo k σ (c e1) (h a) e2
theorem DD.Zo{π:Prop}(k:Nat)(σ:List Nat)(w:Nat){fid:FuncId}{Hc:List Box}{args:List AV}{ret:AV}{Hc':List Box}(c:FnM P fid Hc args ret Hc')
  (h:π->DD P T im n Q p m (aAP p (bP T im n.n p k q) (ren (rn σ w) ret) (euC σ w Hc'))
   (λes=>(L es,aDV (λH=>((nM P fid,aAx n (opD p (bP T im n.n p k q)) H.1 σ Hc args,aAm (opD p (bP T im n.n p k q)) (mK p (bP T im n.n p k q)) H.1 σ Hc args,H.1.length),apU H.1 (euC σ w Hc'))) (stD p m (bP T im n.n p k q).i es)))
   (λes=>(R es,aDG (λH=>((true,true,(some (fid,renL (rn σ w) args),Hc.map (lZ (rn σ w))),w),H.2)) (stD p m (bP T im n.n p k q).i es)))) (e:π):DD P T im n Q p m q L R:=by
 refine DD.w k _ _ (L':=λH=>(nM P fid,aAx n (opD p (bP T im n.n p k q)) H σ Hc args,aAm (opD p (bP T im n.n p k q)) (mK p (bP T im n.n p k q)) H σ Hc args,H.length)) (R':=λ_=>(true,true,(some (fid,renL (rn σ w) args),Hc.map (lZ (rn σ w))),w)) (λH hH=>?_) h e;simp only[Prod.mk.injEq] at hH;obtain⟨c2,c3,c4,c5⟩:=hH;rw[<- c5] at c4 ⊢;rw[<- aO4]
 exact aLl σ c c2 c3 c4
theorem DD.Z{α β:Type}{x:Option α}{f:α->Option β}{r:β}(k:Nat)(σ:List Nat)(w:Nat){fid:FuncId}{Hc:List Box}{args:List AV}{ret:α->AV}{Hc':α->List Box}(c:∀{a},x=some a->FnM P fid Hc args (ret a) (Hc' a))
  (h:∀a,f a=some r->DD P T im n Q p m (aAP p (bP T im n.n p k q) (ren (rn σ w) (ret a)) (euC σ w (Hc' a)))
   (λes=>(L es,aDV (λH=>((nM P fid,aAx n (opD p (bP T im n.n p k q)) H.1 σ Hc args,aAm (opD p (bP T im n.n p k q)) (mK p (bP T im n.n p k q)) H.1 σ Hc args,H.1.length),apU H.1 (euC σ w (Hc' a)))) (stD p m (bP T im n.n p k q).i es)))
   (λes=>(R es,aDG (λH=>((true,true,(some (fid,renL (rn σ w) args),Hc.map (lZ (rn σ w))),w),H.2)) (stD p m (bP T im n.n p k q).i es)))) (e:ae x f=some r):DD P T im n Q p m q L R:=by
 obtain⟨a,e1,e2⟩:=wR e;exact DD.Zo k σ w (c e1) (h a) e2
theorem pj1{α β:Type}{a b:α}{c d:β}(e:(a,c)=(b,d)):a=b:=congrArg Prod.fst e
theorem pj2{α β:Type}{a b:α}{c d:β}(e:(a,c)=(b,d)):c=d:=congrArg Prod.snd e
theorem DD.i(hT:TOK P T){β γ:Type}{l:List γ}{i:Int}{f:γ->Option β}{r:β}(k:Nat)(F:γ->AV)(h:∀a,f a=some r->DD P T im n Q p m (aAP p (bP T im n.n p k q) (.im (F a)) ⟨[],[]⟩) L R)
  (hc:(dOK n.n (opD p (bP T im n.n p k q)).dst,idxE T (opD p (bP T im n.n p k q)) (mK p (bP T im n.n p k q)))=(true,some (l.map F,i)):=by kernel_rfl) (e:ae (idx l i) f=some r):DD P T im n Q p m q L R:=by
 simp only[Prod.mk.injEq] at hc;exact DD.b k (λha H=>aPU hT F ha hc.1 hc.2) h e
theorem DD.l(hT:TOK P T){α β:Type}(k:Nat)(y g:α->AV)(j0:Nat){l:List α}{j:Nat}{f:α->Option β}{r:β}
  (h:∀a,f a=some r->DD P T im n Q p m (aAP p (bP T im n.n p k q) (y a) ⟨[],[]⟩) (λes=>(L es,aDV (λH=>((dOK n.n (opD p (bP T im n.n p k q)).dst,ldE T (opD p (bP T im n.n p k q)) (mK p (bP T im n.n p k q)) H.1 j0 (g a),ldX T (opD p (bP T im n.n p k q)) (mK p (bP T im n.n p k q)) H.1 j0 (g a)),apU H.1 ⟨[],[]⟩)) (stD p m (bP T im n.n p k q).i es)))
   (λes=>(R es,aDG (λH=>((true,some (l.map g,j,aGJ (opD p (bP T im n.n p k q)) (mK p (bP T im n.n p k q)),y a),y a),H.2)) (stD p m (bP T im n.n p k q).i es)))) (e:ae l[j]? f=some r):DD P T im n Q p m q L R:=by
 obtain⟨a,e1,e2⟩:=wR e;refine DD.w k (y a) ⟨[],[]⟩ (L':=λH=>(dOK n.n (opD p (bP T im n.n p k q)).dst,ldE T (opD p (bP T im n.n p k q)) (mK p (bP T im n.n p k q)) H j0 (g a),ldX T (opD p (bP T im n.n p k q)) (mK p (bP T im n.n p k q)) H j0 (g a)))
  (R':=λ_=>(true,some (l.map g,j,aGJ (opD p (bP T im n.n p k q)) (mK p (bP T im n.n p k q)),y a),y a)) (λH hH=>?_) (h a) e2
 simp only[Prod.mk.injEq] at hH;obtain⟨h1,h2,h3⟩:=hH;have:=aPJ (P:=P) (n:=n) hT g j0 e1 (o:=opD p (bP T im n.n p k q)) (need:=mK p (bP T im n.n p k q)) (H:=H) h1 (by rw[h2,h3])
 rwa[h3] at this
end
def cu2{α0 α1 β:Type}(f:α0->α1->β):α0×α1->β
 | (x0,x1)=>f x0 x1
def CU2{α0 α1 β:Type}(f:Nat->α0->α1->β)(k:Nat):α0×α1->β
 | (x0,x1)=>f k x0 x1
def cu3{α0 α1 α2 β:Type}(f:α0->α1->α2->β):α0×α1×α2->β
 | (x0,x1,x2)=>f x0 x1 x2
def CU3{α0 α1 α2 β:Type}(f:Nat->α0->α1->α2->β)(k:Nat):α0×α1×α2->β
 | (x0,x1,x2)=>f k x0 x1 x2
def cu4{α0 α1 α2 α3 β:Type}(f:α0->α1->α2->α3->β):α0×α1×α2×α3->β
 | (x0,x1,x2,x3)=>f x0 x1 x2 x3
def CU4{α0 α1 α2 α3 β:Type}(f:Nat->α0->α1->α2->α3->β)(k:Nat):α0×α1×α2×α3->β
 | (x0,x1,x2,x3)=>f k x0 x1 x2 x3
def cu5{α0 α1 α2 α3 α4 β:Type}(f:α0->α1->α2->α3->α4->β):α0×α1×α2×α3×α4->β
 | (x0,x1,x2,x3,x4)=>f x0 x1 x2 x3 x4
def CU5{α0 α1 α2 α3 α4 β:Type}(f:Nat->α0->α1->α2->α3->α4->β)(k:Nat):α0×α1×α2×α3×α4->β
 | (x0,x1,x2,x3,x4)=>f k x0 x1 x2 x3 x4
def cu8{α0 α1 α2 α3 α4 α5 α6 α7 β:Type}(f:α0->α1->α2->α3->α4->α5->α6->α7->β):α0×α1×α2×α3×α4×α5×α6×α7->β
 | (x0,x1,x2,x3,x4,x5,x6,x7)=>f x0 x1 x2 x3 x4 x5 x6 x7
def CU8{α0 α1 α2 α3 α4 α5 α6 α7 β:Type}(f:Nat->α0->α1->α2->α3->α4->α5->α6->α7->β)(k:Nat):α0×α1×α2×α3×α4×α5×α6×α7->β
 | (x0,x1,x2,x3,x4,x5,x6,x7)=>f k x0 x1 x2 x3 x4 x5 x6 x7
theorem un2{α0 α1:Type}{P:α0×α1->Prop}(h:∀x0 x1,P (x0,x1))(s:α0×α1):P s:=h s.1 s.2
theorem un3{α0 α1 α2:Type}{P:α0×α1×α2->Prop}(h:∀x0 x1 x2,P (x0,x1,x2))(s:α0×α1×α2):P s:=h s.1 s.2.1 s.2.2
theorem un4{α0 α1 α2 α3:Type}{P:α0×α1×α2×α3->Prop}(h:∀x0 x1 x2 x3,P (x0,x1,x2,x3))(s:α0×α1×α2×α3):P s:=h s.1 s.2.1 s.2.2.1 s.2.2.2
theorem un5{α0 α1 α2 α3 α4:Type}{P:α0×α1×α2×α3×α4->Prop}(h:∀x0 x1 x2 x3 x4,P (x0,x1,x2,x3,x4))(s:α0×α1×α2×α3×α4):P s:=h s.1 s.2.1 s.2.2.1 s.2.2.2.1 s.2.2.2.2
theorem un8{α0 α1 α2 α3 α4 α5 α6 α7:Type}{P:α0×α1×α2×α3×α4×α5×α6×α7->Prop}(h:∀x0 x1 x2 x3 x4 x5 x6 x7,P (x0,x1,x2,x3,x4,x5,x6,x7))(s:α0×α1×α2×α3×α4×α5×α6×α7):P s:=h s.1 s.2.1 s.2.2.1 s.2.2.2.1 s.2.2.2.2.1 s.2.2.2.2.2.1 s.2.2.2.2.2.2.1 s.2.2.2.2.2.2.2
abbrev USt:=List (Nat×AV)×List (Nat×Box)×List Box
def LQ{S α:Type}(n:Fr)(g:Nat->S->Option α)(v:S->ASt)(x:α)(j:Nat)(s:ASt):Prop:=∃s',g j s'=some x/\JR n (v s') s
theorem At.M{S α ρ:Type}{X:Option α}{F:α->Option ρ}{r:ρ}(k:Nat)(ks:List Nat)(m:Nat)(t:α->USt)(ks1:List Nat)(m1:Nat)(g:Nat->S->Option α)(v:S->USt)(s0:S)(N:Nat)
  (h:∀x j s,g (j+1) s=some x->At P T im n (tn (λs'=>∃i,i < j+1/\LQ n g (λs=>upS (iN (Go.UK.adv T im [] n.n k p)) ks1 (v s).1 m1 (v s).2.1 (v s).2.2) x i s') (inB (aQp (Go.UK.adv T im [] n.n k p)) (tn (Go.UK.JR n (upS (iN (Go.UK.adv T im [] n.n k p)) ks (t x).1 m (t x).2.1 (t x).2.2)) (kQ P n Q (qJ 1 (Go.UK.adv T im [] n.n k p))))))
   (.code (aMh (Go.UK.adv T im [] n.n k p)) [] (upS (iN (Go.UK.adv T im [] n.n k p)) ks1 (v s).1 m1 (v s).2.1 (v s).2.2)))
  (hy:∀x,F x=some r->At P T im n Q (Go.UK.aBm (qJ 1 (Go.UK.adv T im [] n.n k p)) (upS (iN (Go.UK.adv T im [] n.n k p)) ks (t x).1 m (t x).2.1 (t x).2.2)))
  (hX:X=g N s0:=by exact rfl) (hz:∀s,g 0 s=none:=by intro _;rfl)
  (hi:(aP7 (Go.UK.adv T im [] n.n k p),cOK n (iN (Go.UK.adv T im [] n.n k p)) (upS (iN (Go.UK.adv T im [] n.n k p)) ks1 (v s0).1 m1 (v s0).2.1 (v s0).2.2),cSt (iN (Go.UK.adv T im [] n.n k p)) (upS (iN (Go.UK.adv T im [] n.n k p)) ks1 (v s0).1 m1 (v s0).2.1 (v s0).2.2))=(true,true,upS (iN (Go.UK.adv T im [] n.n k p)) ks1 (v s0).1 m1 (v s0).2.1 (v s0).2.2):=by kernel_rfl)
  (e:ae X F=some r):At P T im n Q p:=by
 simp only[Prod.mk.injEq] at hi;refine At.l k _ (λx J j s=>LQ n g (λs=>upS (iN (Go.UK.adv T im [] n.n k p)) ks1 (v s).1 m1 (v s).2.1 (v s).2.2) x j s) N (λx hx=>⟨s0,hX▸hx,Go.UK.jr (by rw[hi.2.1,hi.2.2])⟩) (λx j s hs=>?_) hy hi.1 e;obtain⟨s',h1,h2⟩:=hs;cases j with
 | zero=>rw[hz] at h1;cases h1
 | succ j=>exact At.jr h2 (h x j s') h1
theorem At.MS{S α β ρ:Type}{X:Option (Sum α β)}{F:α->Option ρ}{G:β->Option ρ}{r:ρ}(k:Nat)(ks:List Nat)(m:Nat)(t:α->USt)(ks1:List Nat)(m1:Nat)(g:Nat->S->Option (Sum α β))(v:S->USt)(s0:S)(N:Nat)
  (h:∀o,mZ o F G=some r->∀j s,g (j+1) s=some o->At P T im n (tn (λs'=>∃i,i < j+1/\LQ n g (λs=>upS (iN (Go.UK.adv T im [] n.n k p)) ks1 (v s).1 m1 (v s).2.1 (v s).2.2) o i s') (inB (aQp (Go.UK.adv T im [] n.n k p)) (tn (Go.UK.JS n (λx=>upS (iN (Go.UK.adv T im [] n.n k p)) ks (t x).1 m (t x).2.1 (t x).2.2) o) (kQ P n Q (qJ 1 (Go.UK.adv T im [] n.n k p))))))
   (.code (aMh (Go.UK.adv T im [] n.n k p)) [] (upS (iN (Go.UK.adv T im [] n.n k p)) ks1 (v s).1 m1 (v s).2.1 (v s).2.2)))
  (hy:∀x,F x=some r->At P T im n Q (Go.UK.aBm (qJ 1 (Go.UK.adv T im [] n.n k p)) (upS (iN (Go.UK.adv T im [] n.n k p)) ks (t x).1 m (t x).2.1 (t x).2.2)))
  (hX:X=g N s0:=by exact rfl) (hz:∀s,g 0 s=none:=by intro _;rfl)
  (hi:(aP7 (Go.UK.adv T im [] n.n k p),cOK n (iN (Go.UK.adv T im [] n.n k p)) (upS (iN (Go.UK.adv T im [] n.n k p)) ks1 (v s0).1 m1 (v s0).2.1 (v s0).2.2),cSt (iN (Go.UK.adv T im [] n.n k p)) (upS (iN (Go.UK.adv T im [] n.n k p)) ks1 (v s0).1 m1 (v s0).2.1 (v s0).2.2))=(true,true,upS (iN (Go.UK.adv T im [] n.n k p)) ks1 (v s0).1 m1 (v s0).2.1 (v s0).2.2):=by kernel_rfl)
  (e:ae X (λo=>mZ o F G)=some r):At P T im n Q p:=by
 simp only[Prod.mk.injEq] at hi;refine At.ls k _ (λx J j s=>LQ n g (λs=>upS (iN (Go.UK.adv T im [] n.n k p)) ks1 (v s).1 m1 (v s).2.1 (v s).2.2) x j s) N (λx hx=>⟨s0,hX▸hx,Go.UK.jr (by rw[hi.2.1,hi.2.2])⟩) (λx hx j s hs=>?_) hy hi.1 e;obtain⟨s',h1,h2⟩:=hs;cases j with
 | zero=>rw[hz] at h1;cases h1
 | succ j=>exact At.jr h2 (h x hx j s') h1
theorem At.vw{S α:Type}(k:Nat){g:Nat->S->Option α}{v:S->ASt}{x:α}{j:Nat}(s:S)(hj:JR n (v s) (iN (Go.UK.adv T im [] n.n k p)))(e:g j s=some x)(hc:aIX (Go.UK.adv T im [] n.n k p)=true:=by kernel_rfl):At P T im n (tn (λs'=>∃i,i < j+1/\LQ n g v x i s') Q) p:=
 At.k k ⟨s,e,hj⟩ hc
theorem At.v{S α:Type}(k:Nat){g:Nat->S->Option α}{v:S->ASt}{x:α}{j:Nat}(s:S)(e:g j s=some x)
  (hc:(aIX (Go.UK.adv T im [] n.n k p),cOK n (iN (Go.UK.adv T im [] n.n k p)) (v s),cSt (iN (Go.UK.adv T im [] n.n k p)) (v s))=(true,true,v s):=by kernel_rfl):At P T im n (tn (λs'=>∃i,i < j+1/\LQ n g v x i s') Q) p:=by
 simp only[Prod.mk.injEq] at hc;exact At.vw k s (Go.UK.jr (by rw[hc.2.1,hc.2.2])) e hc.1
end
end Go.UK

namespace Go.UK
open Go
set_option linter.all false
variable [bU]
section
variable {P:Program} {T:TypeId→Option TI} {im:Nat→Bool} {n:Fr} {Q:Exit→ASt→Prop} {p:Pt}
end
end Go.UK

namespace Go.UK
open Go
set_option linter.all false
variable [bU]
abbrev TKI(P:Program)(T:TypeId->Option TI):=Inhabited (PLift (TOK P T))
structure BR(P:Program)(T:TypeId->Option TI)(n:Fr){α:Type}(x:Option α) where
  {γ:Type}
  C:Oper->Env->γ
  c:γ
  y:Oper->Env->α->AV
  b:∀{a o need H},x=some a->C o need=c->Big P n o need H (y o need a) H
structure BU(P:Program)(T:TypeId->Option TI)(n:Fr){α:Type}(x:Option α) where
  {γ:Type}
  C:Oper->Env->List Box->α->γ
  c:Oper->Env->List Box->α->γ
  y:Oper->Env->List Box->α->AV
  u:Oper->Env->List Box->α->EU
  b:∀{a o need H},x=some a->C o need H a=c o need H a->Big P n o need H (y o need H a) (apU H (u o need H a))
section
variable {P:Program} {T:TypeId→Option TI} {im:Nat→Bool} {n:Fr} {Q:Exit→ASt→Prop} {p:Pt}
theorem At.B{α β:Type}{x:Option α}{f:α->Option β}{r:β}(k:Nat)(R:BR P T n x)(h:∀a,f a=some r->At P T im n Q (aCx (Go.UK.adv T im [] n.n k p) (R.y (yW (Go.UK.adv T im [] n.n k p)) (qH (Go.UK.adv T im [] n.n k p)) a) (dN (Go.UK.adv T im [] n.n k p))))
    (hc:(aIy (Go.UK.adv T im [] n.n k p),R.C (yW (Go.UK.adv T im [] n.n k p)) (qH (Go.UK.adv T im [] n.n k p)))=(true,R.c):=by kernel_rfl) (e:Option.bind x f=some r):At P T im n Q p:=by
  simp only[Prod.mk.injEq] at hc;exact At.b k (λa ha=>R.b ha hc.2) h hc.1 e
theorem At.O{π:Prop}(k:Nat)(R:BR P T n (some ()))(h:π->At P T im n Q (aCx (Go.UK.adv T im [] n.n k p) (R.y (yW (Go.UK.adv T im [] n.n k p)) (qH (Go.UK.adv T im [] n.n k p)) ()) (dN (Go.UK.adv T im [] n.n k p))))
    (hc:(aIy (Go.UK.adv T im [] n.n k p),R.C (yW (Go.UK.adv T im [] n.n k p)) (qH (Go.UK.adv T im [] n.n k p)))=(true,R.c):=by kernel_rfl) (e:π):At P T im n Q p:=by
  simp only[Prod.mk.injEq] at hc;exact At.o k (R.b rfl hc.2) h hc.1 e
theorem At.U{α β:Type}{x:Option α}{f:α->Option β}{r:β}(k:Nat)(R:BU P T n x)(h:∀a,f a=some r->At P T im n Q (aCx (Go.UK.adv T im [] n.n k p) (R.y (yW (Go.UK.adv T im [] n.n k p)) (qH (Go.UK.adv T im [] n.n k p)) (dN (Go.UK.adv T im [] n.n k p)) a) (apU (dN (Go.UK.adv T im [] n.n k p)) (R.u (yW (Go.UK.adv T im [] n.n k p)) (qH (Go.UK.adv T im [] n.n k p)) (dN (Go.UK.adv T im [] n.n k p)) a))))
    (hc:(aIy (Go.UK.adv T im [] n.n k p),R.C (yW (Go.UK.adv T im [] n.n k p)) (qH (Go.UK.adv T im [] n.n k p)) (dN (Go.UK.adv T im [] n.n k p)))=(true,R.c (yW (Go.UK.adv T im [] n.n k p)) (qH (Go.UK.adv T im [] n.n k p)) (dN (Go.UK.adv T im [] n.n k p))):=by kernel_rfl) (e:Option.bind x f=some r):At P T im n Q p:=by
  simp only[Prod.mk.injEq] at hc;exact At.b k (λa ha=>R.b ha (congrFun hc.2 a)) h hc.1 e
section
variable {m:List Bool} {q:DQ} {τ:Type} {L R:EF→τ}
theorem DD.B{α β:Type}{x:Option α}{f:α->Option β}{r:β}(k:Nat)(S:BR P T n x)(h:∀a,f a=some r->DD P T im n Q p m (aAP p (bP T im n.n p k q) (S.y (opD p (bP T im n.n p k q)) (mK p (bP T im n.n p k q)) a) ⟨[],[]⟩) L R)
    (hc:S.C (opD p (bP T im n.n p k q)) (mK p (bP T im n.n p k q))=S.c:=by kernel_rfl) (e:Option.bind x f=some r):DD P T im n Q p m q L R:=
  DD.b k (λha H=>S.b ha hc) h e
theorem DD.O{π:Prop}(k:Nat)(S:BR P T n (some ()))(h:π->DD P T im n Q p m (aAP p (bP T im n.n p k q) (S.y (opD p (bP T im n.n p k q)) (mK p (bP T im n.n p k q)) ()) ⟨[],[]⟩) L R)
    (hc:S.C (opD p (bP T im n.n p k q)) (mK p (bP T im n.n p k q))=S.c:=by kernel_rfl) (e:π):DD P T im n Q p m q L R:=
  DD.o k (λH=>S.b rfl hc) h e
theorem DD.U{α β:Type}{x:Option α}{f:α->Option β}{r:β}(k:Nat)(S:BU P T n x)
    (h:∀a,f a=some r->DD P T im n Q p m (aAP p (bP T im n.n p k q) (S.y (opD p (bP T im n.n p k q)) (mK p (bP T im n.n p k q)) (bP T im n.n p k q).H a) (S.u (opD p (bP T im n.n p k q)) (mK p (bP T im n.n p k q)) (bP T im n.n p k q).H a))
      (λes=>(L es,aDV (λH=>((S.C (opD p (bP T im n.n p k q)) (mK p (bP T im n.n p k q)) H.1 a,S.y (opD p (bP T im n.n p k q)) (mK p (bP T im n.n p k q)) H.1 a,S.u (opD p (bP T im n.n p k q)) (mK p (bP T im n.n p k q)) H.1 a),apU H.1 (S.u (opD p (bP T im n.n p k q)) (mK p (bP T im n.n p k q)) (bP T im n.n p k q).H a))) (stD p m (bP T im n.n p k q).i es)))
      (λes=>(R es,aDG (λH=>((S.c (opD p (bP T im n.n p k q)) (mK p (bP T im n.n p k q)) H.1 a,S.y (opD p (bP T im n.n p k q)) (mK p (bP T im n.n p k q)) (bP T im n.n p k q).H a,S.u (opD p (bP T im n.n p k q)) (mK p (bP T im n.n p k q)) (bP T im n.n p k q).H a),H.2)) (stD p m (bP T im n.n p k q).i es)))) (e:Option.bind x f=some r):DD P T im n Q p m q L R:=by
  obtain⟨a,e1,e2⟩:=wR e;refine DD.w k _ _ (L':=λH=>(S.C (opD p (bP T im n.n p k q)) (mK p (bP T im n.n p k q)) H a,S.y (opD p (bP T im n.n p k q)) (mK p (bP T im n.n p k q)) H a,S.u (opD p (bP T im n.n p k q)) (mK p (bP T im n.n p k q)) H a)) (R':=λH=>(S.c (opD p (bP T im n.n p k q)) (mK p (bP T im n.n p k q)) H a,S.y (opD p (bP T im n.n p k q)) (mK p (bP T im n.n p k q)) (bP T im n.n p k q).H a,S.u (opD p (bP T im n.n p k q)) (mK p (bP T im n.n p k q)) (bP T im n.n p k q).H a)) (λH hH=>?_) (h a) e2;simp only[Prod.mk.injEq] at hH;obtain⟨c1,c2,c3⟩:=hH;rw[<- c2,<- c3]
  exact S.b e1 c1
end
def adX : Option (AV×Int×Nat×Nat)->AV
  | some (.ref id path off,i,_,k) => .ref id (path++[i.toNat]) (off+i.toNat*k)
  | _=>default
def adK : Option (AV×Int×Nat×Nat)->Option (Int×Nat)
  | some (.ref ..,i,m,_)=>some (i,m)
  | _=>none
def bAr[t:TKI P T]{m:Nat}{i:Int}:BR P T n (aS i m):=
  ⟨λo e=>(dOK n.n o.dst,adK (aL9 T o e)),(true,some (i,m)),λo e _=>adX (aL9 T o e),λ{a o need H} ha hc=>by
    simp only[Prod.mk.injEq] at hc;obtain⟨hd,hk⟩:=hc;generalize he:aL9 T o need=w at *
    match w,hk with
    | some (.ref ..,_,_,_),hk=>cases hk;exact aTk t.default.down _ _ _ ha hd he⟩
def adI : Option (AV×Int×Nat×Nat)->Option (List AV×Int×Nat)
  | some (.im (.arr _ k es),i,m,k')=>match Nat.beq k k' with | true=>some (es,i,m) | false=>none
  | _=>none
def bAi[t:TKI P T]{α:Type}(f:α->AV){m:Nat}{v:Vector α m}{i:Int}:BR P T n (idx v.toList i):=
  ⟨λo e=>(dOK n.n o.dst,adI (aL9 T o e)),(true,some (v.toList.map f,i,m)),λo e a => .im (f a),λ{a o need H} ha hc=>by
    simp only[Prod.mk.injEq] at hc;obtain⟨hd,hk⟩:=hc;unfold adI at hk;split at hk
    · rename_i he;split at hk <;> cases hk;rename_i hb;obtain rfl:=Nat.eq_of_beq_eq_true hb;exact aTW t.default.down f v ha hd he
    · cases hk⟩
def slK{α:Type}:Option (Nat×α)->Nat
  | some (k,_)=>k
  | none=>0
def slR{α:Type}:Option (Nat×α)->Option α
  | some (_,x)=>some x
  | none=>none
def bSl[t:TKI P T]{α:Type}(f:α->AV){l:List α}{lo hi:Int}:BR P T n (cR l lo hi):=
  ⟨λo e=>(dOK n.n o.dst,slR (slE T o e)),(true,some (l.map f,lo,hi)),λo e r=>eL (slK (slE T o e)) f r,λ{a o need H} ha hc=>by
    simp only[Prod.mk.injEq] at hc;obtain⟨hd,hk⟩:=hc;cases he:slE T o need with
    | none=>rw[he] at hk;cases hk
    | some w=>obtain⟨k,w⟩:=w;rw[he] at hk;cases Option.some.inj hk;exact aS9 t.default.down f ha hd he⟩
def sAI : Option (AV×Int×Int×Nat×Nat)->Option (Nat×List AV×Int×Int×Nat)
  | some (.im (.arr _ k es),lo,hi,m,k')=>match Nat.beq k k' with | true=>some (k,es,lo,hi,m) | false=>none
  | _=>none
def bSI[t:TKI P T]{α:Type}(f:α->AV){m:Nat}{v:Vector α m}{lo hi:Int}:BR P T n (cR v.toList lo hi):=
  ⟨λo e=>(dOK n.n o.dst,slR (sAI (slA T o e))),(true,some (v.toList.map f,lo,hi,m)),λo e r=>eL (slK (sAI (slA T o e))) f r,λ{a o need H} ha hc=>by
    simp only[Prod.mk.injEq] at hc;obtain⟨hd,hk⟩:=hc;generalize hs:slA T o need=w at *;unfold sAI at hk ⊢;split at hk
    · split at hk <;> cases hk;rename_i hb;obtain rfl:=Nat.eq_of_beq_eq_true hb;exact aTH t.default.down f _ ha hd hs
    · cases hk⟩
def apK(x:Option (App×Nat×Nat)):Nat:=match x with | some (a,_)=>a.k | none=>0
def bAp[t:TKI P T]{α:Type}(f:α->AV){b:Nat}{l r:List α}:BU P T n (fT b l r):=
  ⟨λo e H _=>(dOK n.n o.dst,match aLs T o e H with | some (a,x,y)=>some (a.es,a.ys,a.bytes,x,y) | none=>none),λo e H _=>(true,some (l.map f,r.map f,b,l.length,l.length*apK (aLs T o e H))),
   λo e H a=>match aLs T o e H with | some (x,_)=>eO x.id x.k f a | none=>default,
   λo e H a=>match aLs T o e H with | some (x,_)=>⟨[(x.id,.tail (a.length*x.k))],[]⟩ | none=>⟨[],[]⟩,λ{a o need H} ha hc=>by
    simp only[Prod.mk.injEq] at hc;obtain⟨hd,hk⟩:=hc;cases he:aLs T o need H with
    | none=>rw[he] at hk;cases hk
    | some w=>
      obtain⟨⟨id,k,es,ys,b'⟩,x,y⟩:=w;rw[he] at hk;simp only[Option.some.injEq,Prod.mk.injEq] at hk;obtain⟨rfl,rfl,rfl,rfl,hb⟩:=hk;change y=l.length*k at hb;subst hb;exact aTf t.default.down f ha hd he⟩
def bLd[t:TKI P T]{α:Type}(g:α->AV)(m:Nat){l:List α}{j:Nat}:BU P T n l[j]? :=
  ⟨λo e H a=>(dOK n.n o.dst,match ldE T o e H m (g a) with | some (es,i,f,_)=>some (es,i,f) | none=>none),λo e H a=>(true,some (l.map g,j,aGJ o e)),λo e H a=>ldX T o e H m (g a),λ_ _ _ _=>⟨[],[]⟩,λ{a o need H} ha hc=>by
    simp only[Prod.mk.injEq] at hc;obtain⟨hd,hk⟩:=hc;refine aPJ t.default.down g m ha hd ?_;unfold ldX;split at hk
    · rename_i he;simp only[Option.some.injEq,Prod.mk.injEq] at hk;obtain⟨rfl,rfl,rfl⟩:=hk;rw[he]
    · cases hk⟩
def stU(o:Oper)(need:Env)(H:List Box)(m:Nat)(es:List AV):Option (Nat×Box):=
  match o.op with
  | .store _ p _=>match opd need none p with
    | some (.ref id path _)=>match H[id]? with
      | some (.var c)=>match loc c 0 (path.take m) with
        | some (.arr N k _,_)=>match aBO c (path.take m) (.arr N k es) with
          | some c'=>some (id,.var c')
          | none=>none
        | _=>none
      | _=>none
    | _=>none
  | _=>none
theorem aTV{o:Oper}{need:Env}{H:List Box}{m:Nat}{es:List AV}{w:Nat×Box}(h:stU o need H m es=some w):stH o need H m es=some (H.set w.1 w.2):=by
  unfold stU at h;unfold stH
  repeat' (split at h <;> try cases h)
  simp[*]
def bSv[t:TKI P T]{α:Type}(g:α->AV)(m:Nat)(e':α){N:Nat}{v:Vector α N}{j:Nat}:BU P T n v.toList[j]? :=
  ⟨λo e H a=>(aBt o.dst,(match stE T o e H m (g a) with | some x=>some x | none=>none),aKm (stU o e H m ((v.setIfInBounds j e').toList.map g))),λo e _ _=>(true,some (v.toList.map g,j,aGJ o e,g e'),true),λ_ _ _ _ => .v (.bool false),
   λo e H a=>match stU o e H m ((v.setIfInBounds j e').toList.map g) with | some w=>⟨[w],[]⟩ | none=>⟨[],[]⟩,λ{a o need H} ha hc=>by
    simp only[Prod.mk.injEq] at hc;obtain⟨hd,hk,hs⟩:=hc;cases hu:stU o need H m ((v.setIfInBounds j e').toList.map g) with
    | none=>rw[hu] at hs;cases hs
    | some w=>
      refine aTL t.default.down g m v ha e' hd ?_ (aTV hu)
      split at hk
      · rename_i he;rw[he,hk]
      · cases hk⟩
def bRw[t:TKI P T]:BR P T n (some ()):=
  ⟨λo e=>(dOK n.n o.dst,aKm (aQy T o e)),(true,true),λo e _=>rowX T o e,λ{a o need H} ha hc=>by
    simp only[Prod.mk.injEq] at hc;obtain⟨hd,hk⟩:=hc;unfold rowX;cases he:aQy T o need with
    | none=>rw[he] at hk;cases hk
    | some w=>exact aTS t.default.down hd he⟩
def shK(o:BinOp):Option (BinOp×IntKind×Int×IntKind×Int)->Option (IntKind×Int×Int)
  | some (.shr,k,a,_,b)=>match o with | .shr=>some (k,a,b) | _=>none
  | some (.shl,k,a,_,b)=>match o with | .shl=>some (k,a,b) | _=>none
  | _=>none
def bSr[t:TKI P T]{k:IntKind}{a b:Int}:BR P T n (yR k a b):=
  ⟨λo e=>(dOK n.n o.dst,shK .shr (aPW e o)),(true,some (k,a,b)),λ_ _ z=>eI k z,λ{z o need H} hz hc=>by
    simp only[Prod.mk.injEq] at hc;obtain⟨hd,hk⟩:=hc;unfold shK at hk;split at hk
    · rename_i he;cases hk;exact aTu t.default.down hz hd he
    · cases hk
    · cases hk⟩
def bSh[t:TKI P T]{k:IntKind}{a b:Int}:BR P T n (aFP k a b):=
  ⟨λo e=>(dOK n.n o.dst,shK .shl (aPW e o)),(true,some (k,a,b)),λ_ _ z=>eI k z,λ{z o need H} hz hc=>by
    simp only[Prod.mk.injEq] at hc;obtain⟨hd,hk⟩:=hc;unfold shK at hk;split at hk
    · cases hk
    · rename_i he;cases hk;exact aTy t.default.down hz hd he
    · cases hk⟩
def bNt{x:Option (Int×Int)}{f:FuncId}{xs:List Value}(c:∀{a},x=some a->aKF P f xs (.tuple #[.int .u64 a.1,.int .u64 a.2])):BR P T n x:=
  ⟨λo e=>(dOK n.n o.dst,natE o e),(true,some (f,xs.map AV.v)),λ_ _ a => .tup [eI .u64 a.1,eI .u64 a.2],λ{z o need H} hz hc=>by
    simp only[Prod.mk.injEq] at hc;exact aSw (c hz) (λ_=>aT2) hc.1 hc.2⟩
def eqC(P:Program){α:Type}(f:α->AV)(m:Nat)(t:TypeId)(a b:α)(op:BinOp)(n:Nat)(o:Oper)(e:Env):=(Nat.ble m 10000,P.eqGuardType P.depth t,λa=>(f a).isAgg,λa=>kY (f a),dOK n o.dst,eqE o e op)
def bEq{t:TypeId}{α:Type}{f:α->AV}{eq:α->α->Bool}{m:Nat}(hE:EqT P t f eq m)(a b:α):BR P T n (some ()):=
  ⟨λo e=>eqC P f m t a b .eql n.n o e,(true,false,λ_=>true,λ_=>true,true,some (t,f a,f b)),λ_ _ _=>eB (eq a b),λ{z o need H} hz hc=>by
    simp only[eqC,Prod.mk.injEq] at hc;obtain⟨h1,h2,h3,h4,h5,h6⟩:=hc;exact aSy hE a b h1 h2 (congrFun h3) (congrFun h4) h5 h6⟩
def bNe{t:TypeId}{α:Type}{f:α->AV}{eq:α->α->Bool}{m:Nat}(hE:EqT P t f eq m)(a b:α):BR P T n (some ()):=
  ⟨λo e=>eqC P f m t a b .neq n.n o e,(true,false,λ_=>true,λ_=>true,true,some (t,f a,f b)),λ_ _ _=>eB !(eq a b),λ{z o need H} hz hc=>by
    simp only[eqC,Prod.mk.injEq] at hc;obtain⟨h1,h2,h3,h4,h5,h6⟩:=hc;exact aSl hE a b h1 h2 (congrFun h3) (congrFun h4) h5 h6⟩
end
end Go.UK

