/- The own layer: abstract values, their memory, and the steps of the model over them: for any program. -/
import Derived.Test.YtbfieohdmihfpaaGreatDoorLib14
namespace Go.UK
open Go
set_option linter.all false
variable [bL]
section
variable {P:Program} {T:TypeId→Option TI} {n:Fr}
section
variable {o:Oper} {need:Env} {H:List Box} {x:AV} {id:Nat}
end
end
end Go.UK

open Bool renaming and_eq_true→b9
open List renaming all_eq_true→eg,append_assoc→an,append_nil→dp,cons_append→fg,getElem?_append_left→bx,map_cons→jx,mem_append→d9,mem_cons→cx,mem_of_getElem?→j1,range→bq
open Nat renaming beq→bp,blt→nd,eq_of_beq_eq_true→ak,le_refl→ca
namespace Go.UK
open Go
set_option linter.all false
variable [bL]
structure EU where
 u:List (Nat×Box)
 new:List Box
abbrev EF:=List (Nat×EU)
def aBT{α β:Type}(f:α->β):List α->List β
 | []=>[]
 | x :: r=>f x :: aBT f r
def aBt{α β:Type}(f:α->β):List α->List β
 | []=>[]
 | x :: r=>f x :: aBt f r
theorem aN8{α β:Type}(f:α->β):∀l:List α,aBT f l=l.map f
 | []=>rfl
 | x :: r=>by simp only[aBT,jx,aN8 f r]
theorem aNI{α β:Type}(f:α->β):∀l:List α,aBt f l=l.map f
 | []=>rfl
 | x :: r=>by simp only[aBt,jx,aNI f r]
theorem aNL{α β:Type}{f g:α->β}{l:List α}(h:aBT f l=aBt g l):∀x∈l,f x=g x:=List.map_inj_left.1 (by rw[<- aN8,<- aNI,h])
def apU(H:List Box)(e:EU):List Box:=match e.new with | []=>aQc H e.u | b :: r=>aQc H e.u++(b :: r)
def yV(i:Nat):EF->Option EU
 | []=>none
 | (c,u) :: r=>match bp c i with | true=>some u | false=>yV i r
def fOn : List Box->EF->Array Bool->List Box
 | H,[],_=>H
 | H,(i,u) :: r,listed=>match listed.getD i false with | true=>fOn (apU H u) r listed | false=>fOn H r listed
def aKu : List Box->EF->List Box
 | H,[]=>H
 | H,(_,u) :: r=>aKu (apU H u) r
def prs(C:List (List Nat))(i:Nat):List Box->List Box->EF->List (List Box×List Box)
 | H,K,[]=>[(H,K)]
 | H,K,(c,u) :: r=>match bp c i with
  | true=>prs C i H (apU K u) r
  | false=>match inC C c i with
   | true=>prs C i H K r
   | false=>match inC C i c with
    | true=>prs C i (apU H u) (apU K u) r
    | false=>prs C i H K r++prs C i (apU H u) (apU K u) r
def zF(ops:Array Oper)(C:List (List Nat))(ms:List MI)(es:EF)(B:Env):Bool:=
 bp ms.length ops.size&&(
 aGn ops.size (λi=>(dir ops i).all λj=>nd j i)&&(
 aGn ops.size (λi=>dEq ((ops[i]?).bind (·.dst)) (dAt ms i))&&(
 aGn ops.size (λj=>aGn j λi => !aJy (dAt ms i) (dAt ms j))&&(
 (aG1 ms B&&aT0 C ms ops.size)&&es.all (λq=>nd q.1 ops.size)))))
section
variable {P:Program} {T:TypeId→Option TI} {n:Fr} {ops:Array Oper}
def aRF(P:Program)(n:Fr)(ops:Array Oper)(C:List (List Nat))(ms:List MI)(es:EF)(B:Env)(H:List Box)(i:Nat):Prop:=
 ∀o x env,ops[i]? = some o->ms[i]? = some x->Sub (nZ C ms B i) env->∀q∈prs C i H H es,opS P n ops o ⟨env,q.1⟩ ⟨x.put env,q.2⟩
theorem aCA{C:List (List Nat)}{listed:Array Bool}{i:Nat}(hi:i < listed.size)(hcl:∀s,inC C i s=true->rM listed s)(hni:∀c,inC C c i=true->¬rM listed c)(hu:¬rM listed i):∀(H K:List Box) (es:EF),(fOn H es listed,fOn K es (listed.setIfInBounds i true))∈prs C i H K es
 | H,K,[]=>by simp[fOn,prs]
 | H,K,(c,x) :: r=>by
  unfold fOn prs;have hon:∀c,rM listed c↔listed.getD c false=true:=λ_=>Iff.rfl;cases h0:bp c i with
  | true=>
   have e:=ak h0;subst e;have h1:(listed.setIfInBounds c true).getD c false=true:=(aEn hi).2 (.inl rfl)
   have h2:listed.getD c false=false:=by cases hg:listed.getD c false with | true=>exact absurd hg hu | false=>rfl
   rw[h1,h2]
   exact aCA hi hcl hni hu H _ r
  | false=>
   have hne:i≠c:=λe=>by subst e;simp at h0
   rw[zM false hne]
   cases h1:inC C c i with
   | true=>
    have hn:=hni c h1;unfold rM at hn;cases hg:listed.getD c false with
    | true=>exact absurd hg hn
    | false=>exact aCA hi hcl hni hu H K r
   | false=>
    cases h2:inC C i c with
    | true=>
     have:=hcl c h2;unfold rM at this;rw[this]
     exact aCA hi hcl hni hu _ _ r
    | false=>
     cases hg:listed.getD c false with
     | true=>exact d9.2 (.inr (aCA hi hcl hni hu _ _ r))
     | false=>exact d9.2 (.inl (aCA hi hcl hni hu H K r))
theorem aOT{listed:Array Bool}:∀(H:List Box) (es:EF),(∀q∈es,listed.getD q.1 false=true)->fOn H es listed=aKu H es
 | H,[],_=>rfl
 | H,(c,x) :: r,h=>by
  unfold fOn aKu;rw[h (c,x) (by simp)]
  exact aOT _ r (λq hq=>h q (by simp[hq]))
theorem aLZ{listed:Array Bool}(h:∀i,¬rM listed i):∀(H:List Box) (es:EF),fOn H es listed=H
 | H,[]=>rfl
 | H,(c,x) :: r=>by
  unfold fOn;split
  ·rename_i hon;exact absurd hon (h c)
  ·exact aLZ h H r
theorem aDM{C:List (List Nat)}{i:Nat}:∀(H:List Box) (es:EF),yV i es=none->∀q∈prs C i H H es,q.2=q.1
 | H,[],_,q,hq=>by
  have:q=(H,H):=by simpa[prs] using hq
  rw[this]
 | H,(c,u) :: r,h,q,hq=>by
  unfold yV at h;unfold prs at hq;split at h
  ·cases h
  ·rename_i hb;rw[hb] at hq;dsimp only at hq;split at hq
   ·exact aDM H r h q hq
   ·split at hq
    ·exact aDM _ r h q hq
    ·rcases d9.1 hq with h' | h'
     ·exact aDM _ r h q h'
     ·exact aDM _ r h q h'
theorem aWc{C:List (List Nat)}(hC:C=aOi ops){ms:List MI}{es:EF}{B:Env}{H:List Box}{ctx:Mem}{Q:Exit->Act->World->Prop}(hok:zF ops C ms es B=true)(hst:∀i,i < ops.size->aRF P n ops C ms es B H i)
  (hk:∀a w env,Sat n ctx ⟨env,aKu H es⟩ a w->(∀k v,bY B k=some (none,v)->(∀x∈ms,aDm x.d k=false)->bY env k=some (none,v))->(∀(j:Nat) (x:MI) d v,ms[j]? = some x->x.d=some d->x.e=some v->bY env d=some (none,v))->Q .normal a w) :
  ∀(fuel:Nat) (listed:Array Bool) (a:Act) (w:World) (env:Env),listed.size=ops.size->Down ops listed->(∀i,rM listed i->i < ops.size)->uc listed ops.size<=fuel ->
  Sat n ctx ⟨env,fOn H es listed⟩ a w->(∀k v,bY B k=some (none,v)->(∀(j:Nat) x,ms[j]? = some x->rM listed j->aDm x.d k=false)->bY env k=some (none,v))->(∀(j:Nat) (x:MI) d v,ms[j]? = some x->rM listed j->x.d=some d->x.e=some v->bY env d=some (none,v))->wpAnyIn n.F 0 P .any ops Q fuel listed a w:=by
 simp only[zF,b9] at hok;obtain⟨h1,h2,h3,h4,⟨h5,h5k⟩,h7⟩:=hok;have hsz:=ak h1;have hcs:∀q∈es,q.1 < ops.size:=λq hq=>by
  have h8:Nat.ble (q.1+1) ops.size=true:=eg.1 h7 q hq;have:=Nat.le_of_ble_eq_true h8;omega
 have done:∀(listed:Array Bool) (a:Act) (w:World) (env:Env),(∀i,i < ops.size->rM listed i)->Sat n ctx ⟨env,fOn H es listed⟩ a w->(∀k v,bY B k=some (none,v)->(∀(j:Nat) x,ms[j]? = some x->rM listed j->aDm x.d k=false)->bY env k=some (none,v)) ->
   (∀(j:Nat) (x:MI) d v,ms[j]? = some x->rM listed j->x.d=some d->x.e=some v->bY env d=some (none,v))->Q .normal a w:=by
  intro listed a w env hall hsat hB hE;rw[aOT H es (λq hq=>hall q.1 (hcs q hq))] at hsat;exact hk a w env hsat (λk v hb hl=>hB k v hb λj x hx _=>hl x (j1 hx)) (λj x d v hx=>hE j x d v hx (hall j (by have:=aX hx;omega)))
 have nothing:∀(listed:Array Bool),(∀i,i < ops.size->rM listed i)->Region.ready .any ops listed=[]:=by
  intro listed hall;refine List.eq_nil_iff_forall_not_mem.2 λi hi=>?_;obtain⟨r1,r2,_⟩:=aHW hi;exact aRC r1 (hall i r2)
 intro fuel
 induction fuel with
 | zero=>
  intro listed a w env hs hd hm hc hsat hB hE;have hall:∀i,i < ops.size->rM listed i:=aN6 ops.size (by omega)
  exact⟨nothing listed hall,done listed a w env hall hsat hB hE⟩
 | succ fuel ih=>
  intro listed a w env hs hd hm hc hsat hB hE;refine⟨λh0=>?_,λi hi=>?_⟩
  ·refine done listed a w env (λj hj=>?_) hsat hB hE;apply Classical.byContradiction;intro hn;obtain⟨i,hi⟩:=aMC hs h2 j hj hn;rw[h0] at hi;cases hi
  ·obtain⟨r1,r2,r3⟩:=aHW hi;have hu:=aRC r1;have hcl:∀s,inC C i s=true->rM listed s:=λs hs'=>aJh hd i _ r3 s (aLj hC hs')
   have hni:∀c,inC C c i=true->¬rM listed c:=λc hc' hon=>hu (aJh hd c _ (hd c hon) i (aLj hC hc'))
   have him:i < ms.length:=by omega
   have ho:ops[i]? = some ops[i]:=Array.getElem?_eq_getElem r2;have hx:ms[i]? = some ms[i]:=List.getElem?_eq_getElem him;have hBf:∀i e,bY B i=some e->e.1=none:=λi e h=>aBM h5 h;have hsub:Sub (nZ C ms B i) env:=by
    intro k e hl;unfold nZ at hl;rw[hx] at hl;dsimp only at hl;have hkm:k∈ms[i].keys:=aD3 (f:=λk=>aA0 C ms B i k i) hl;have hord:∀(j:Nat) x,ms[j]? = some x->rM listed j->aDm x.d k=true->inC C i j=true/\j < i:=by
     intro j x hjx hon hdh;rcases aMZ h5k r2 (hm j hon) hx hjx hkm hdh with h' | h' | h'
     ·exact h'
     ·exact absurd hon (hni j h')
     ·subst h';exact absurd hon hu
    refine aMw (on:=rM listed) hcl (λv hb hl=>hB k v hb hl) hBf (λj x d v hjx hj hd' he=>hE j x d v hjx hj hd' he) (λj x hjx hon hdh=>(hord j x hjx hon hdh).1) i ?_ (aLM (f:=λk=>aA0 C ms B i k i) hl)
    intro j x hij hjx hon;cases hc:aDm x.d k with
    | false=>rfl
    | true=>have:=(hord j x hjx hon hc).2;omega
   have hstab:=hst i r2 ops[i] ms[i] env ho hx hsub;have hdst:(ops[i]).dst=ms[i].d:=by
    have:=pY h3 i r2;rw[ho] at this;simp only[Option.bind_some,dAt,hx] at this;generalize (ops[i]).dst=u at *;generalize ms[i].d=v at *;cases u <;> cases v <;> simp[dEq] at this ⊢;exact this
   have hops:opS P n ops ops[i] ⟨env,fOn H es listed⟩ ⟨ms[i].put env,fOn H es (listed.setIfInBounds i true)⟩:=hstab _ (aCA (by omega) hcl hni hu H H es)
   have hstep:=hops ctx a w Q hsat;rw[aSK ho]
   have next:∀a' w',Sat n ctx ⟨ms[i].put env,fOn H es (listed.setIfInBounds i true)⟩ a' w'->wpAnyIn n.F 0 P .any ops Q fuel (listed.setIfInBounds i true) a' w':=by
    intro a' w' hs';refine ih _ a' w' _ (by simpa using hs) ?_ ?_ ?_ hs' ?_ ?_
    ·intro p hp j hj;rw[aEn (by omega)] at hp ⊢;rcases hp with hp | hp
     ·subst hp;exact .inr (r3 j hj)
     ·exact .inr (hd p hp j hj)
    ·intro p hp;rw[aEn (by omega)] at hp;rcases hp with hp | hp
     ·subst hp;exact r2
     ·exact hm p hp
    ·have:=aQw (k:=ops.size) (show i < listed.size by omega) (by
      cases hc':listed.getD i false with
      | false=>rfl
      | true=>exact absurd hc' hu) r2
     omega
    ·intro k v hke hno;exact aFi (hno i _ hx ((aEn (by omega)).2 (.inl rfl))) (hB k v hke λj x hjx hon=>hno j x hjx ((aEn (by omega)).2 (.inr hon)))
    ·intro j x d v hjx hj hdx hex;rw[aEn (by omega)] at hj;by_cases hji:j=i
     ·subst hji;rw[hx] at hjx;cases hjx;exact aKr hdx hex
     ·have hjo:=hj.resolve_left hji;refine aFi ?_ (hE j x d v hjx hjo hdx hex)
      have hjm:=aX hjx;have hcl':aJy ms[i].d x.d=false:=by
       have hi':dAt ms i=ms[i].d:=by unfold dAt;rw[hx]
       have hj':dAt ms j=x.d:=by unfold dAt;rw[hjx]
       rw[<- hi',<- hj']
       rcases Nat.lt_trichotomy i j with hlt | hlt | hlt
       ·have:=pY (pY h4 j (by omega)) i hlt;simpa using this
       ·exact absurd hlt.symm hji
       ·have:=pY (pY h4 i r2) j hlt;have h9:aJy (dAt ms j) (dAt ms i)=false:=by simpa using this
        generalize dAt ms i=u at *;generalize dAt ms j=v at *;cases u <;> cases v <;> first | rfl | (simp only[aJy] at h9 ⊢;rw[aOe];exact h9)
      rw[hdx] at hcl';cases hdi:ms[i].d with
      | none=>rfl
      | some di=>rw[hdi] at hcl';exact hcl'
   split
   ·rename_i hw;rw[if_pos hw] at hstep;exact Oper.wpIn_mono next hstep
   ·rename_i hw;rw[if_neg hw] at hstep;exact⟨λ_ _=>trivial,next _ _ hstep⟩
theorem aPV{id:Nat}{l:List Oper}{Q:Exit->ASt->Prop}{st:ASt}(hm:P.follows .mixedOrders=true){ms:List MI}{es:EF}
  (hok:zF l.toArray (aOi l.toArray) ms es st.env=true) (hst:∀i,i < l.toArray.size->aRF P n l.toArray (aOi l.toArray) ms es st.env st.H i)
  (hk:Q .normal ⟨aEd ms st.env,aKu st.H es⟩):aw P n (.region id l.toArray true) Q st:=by
 intro ctx a w hs;refine wpIn_region_any hm ?_;obtain⟨bs,hmm⟩:=hs;have hdrew:Sat n ctx st a { w with drawn:=w.drawn+1 }:=by
  have hl:cL w w.drew:=cL.drew w;exact⟨bs,{ h:=rfl,ok:=OK.later hl hmm.ok,ext:=hmm.ext.trans (Ext.later hl),env:=hmm.env.ext (Ext.later hl),size:=hmm.size,low:=hmm.low,defers:=tV.ext hmm.ok (Ext.later hl) hmm.defers,nod:=hmm.nod,outs:=λp hp=>(hmm.outs p hp).ext (Ext.later hl) }⟩
 have hl0:∀i,¬rM (Array.replicate l.toArray.size false) i:=by
  intro i h;unfold rM at h;rw[Array.getD_eq_getD_getElem?] at h;rw[Array.getElem?_replicate] at h;split at h <;> simp at h
 have hb5:aG1 ms st.env=true:=by
  simp only[zF,b9] at hok;exact hok.2.2.2.2.1.1
 have hlen:ms.length=l.toArray.size:=by
  simp only[zF,b9] at hok;exact ak hok.1
 refine aWc rfl (ctx:=ctx) hok hst ?_ _ _ _ _ st.env (by simp) (λi h=>absurd h (hl0 i)) (λi h=>absurd h (hl0 i)) ?_ ?_ (λ_ _ h _=>h) (λj x d v _ h=>absurd h (hl0 j))
 ·intro a w env hs hB hE;refine⟨_,hk,aJD (st:=⟨env,aKu st.H es⟩) (λi e h=>aHX (λi e h=>aBM hb5 h) (λv=>hB i v) (λx hx d v hd he=>?_) e h) hs⟩
  obtain⟨j,hj⟩:=List.getElem?_of_mem hx;exact hE j x d v hj hd he
 ·have:∀k,uc (Array.replicate l.toArray.size false) k<=k:=by
   intro k
   induction k with
   | zero=>exact ca _
   | succ k ih=>unfold uc;split <;> omega
  exact this _
 ·rw[aLZ hl0]
  exact hdrew
end
def aJK(H:List Box)(p x:AV):Option (Nat×Box):=
 match p with
 | .ref id path o=>match H[id]? with
  | some (.var c)=>match loc c 0 path with
   | some (x0,o')=>match bp o' o&&bp x0.n x.n with
    | true=>match aAP c path x with
     | some c'=>some (id,.var c')
     | none=>none
    | false=>none
   | none=>none
  | _=>none
 | _=>none
theorem aJb{H:List Box}{p x:AV}{q:Nat×Box}(h:aJK H p x=some q):vX H p x=some (H.set q.1 q.2):=by
 unfold aJK at h;split at h <;> try cases h
 rename_i id path o;split at h <;> try cases h
 rename_i c hc;split at h <;> try cases h
 rename_i x0 o' hl;split at h <;> try cases h
 rename_i hb;split at h <;> cases h;rename_i c' hs;simp[vX,hc,hl,hb,hs]
def notNw(o:Oper):Bool:=match o.op with | .alloc _=>false | .box _ _=>false | _=>true
def newQ(T:TypeId->Option TI)(o:Oper)(need:Env):Option AV:=match allE T o with | some x=>some x | none=>boxE o need
def plQ(T:TypeId->Option TI)(im:Bool)(n:Nat)(o:Oper)(need:Env)(H:List Box)(nx:Nat):Option (AV×EU):=
 match o.op with
 | .store t p v=>match o.dst with
  | some _=>none
  | none=>match opd need none p,opd need none v,T t with
   | some q,some x,some i=>match bp x.n i.size&&fK x with
    | true=>match aJK H q x with
     | some u=>some (.v (.bool false),⟨[u],[]⟩)
     | none=>none
    | false=>none
   | _,_,_=>none
 | .pick _ _ _=>match plU T im n o need H with | some (x,_)=>some (x,⟨[],[]⟩) | none=>none
 | _=>match dOK n o.dst with
  | true=>match im||notNw o with
   | true=>match ev T im (opd need none) H o with | some (x,none)=>some (x,⟨[],[]⟩) | _=>none
   | false=>match newQ T o need with
    | some z=>match H[nx]? with
     | some .dead=>some (.ref nx [] 0,⟨[(nx,.var z)],[]⟩)
     | _=>match ev T im (opd need none) H o with | some (x,some b)=>some (x,⟨[],[b]⟩) | _=>none
    | _=>none
  | false=>none
section
variable {P:Program} {T:TypeId→Option TI} {n:Fr}
theorem aOB(hT:TOK P T){im:Bool}{o:Oper}{need:Env}{H:List Box}{nx:Nat}{x:AV}{u:EU}(h:plQ T im n.n o need H nx=some (x,u)):Big P n o need H x (apU H u):=by
 unfold plQ at h;split at h
 ·rename_i t p v ho;split at h <;> try cases h
  rename_i hd;split at h <;> try cases h
  rename_i q y i hq hy hi;split at h <;> try cases h
  rename_i hb;split at h <;> cases h;rename_i w hw;refine aNP (im:=im) hT ?_;simp only[plU,hd,dOK,ho,hq,hy,hi,hb,aJb hw]
  rfl
 ·rename_i c y z ho;split at h <;> cases h;rename_i H' h;have e:H'=H:=by
   unfold plU at h;split at h <;> try cases h
   rw[ho] at h;cases c <;> dsimp only at h
   case tmp c=>
    split at h <;> try cases h
    split at h <;> (split at h <;> cases h;rfl)
   all_goals (split at h <;> try cases h) <;> (rename_i hv;unfold ev at hv;rw[ho] at hv;cases hv)
  subst e;exact aNP hT h
 ·split at h <;> try cases h
  rename_i hd;split at h
  ·split at h <;> cases h;rename_i hv;exact aMM hT hd hv
  ·split at h <;> try cases h
   rename_i z hz;split at h
   ·cases h;rename_i hx;unfold newQ at hz;split at hz
    ·rename_i ha;cases hz;exact aMP hT nx hd ha hx
    ·exact aQD nx hd hz hx
   ·split at h <;> cases h;rename_i hv;exact aMM hT hd hv
end
structure DQ where
 i:Nat
 ms:List MI
 es:EF
 H:List Box
 nx:Nat
 gs:List Nat
def aKX(l:List Oper)(C:List (List Nat))(B:Env)(q:DQ):Env:=(aJP l (xA l q.i)).map λk=>(k,aA0 C q.ms B q.i k q.i)
def nxU(nx:Nat)(u:List (Nat×Box)):Nat:=u.foldl (λm e=>match nd e.1 m with | true=>m | false=>e.1+1) nx
def aCu(l:List Oper)(q:DQ)(x:AV)(u:EU)(gs:List Nat):DQ:=
 ⟨q.i+1,q.ms++[⟨aJP l (xA l q.i),(xA l q.i).dst,some x⟩],match u with | ⟨[],[]⟩=>q.es | u=>q.es++[(q.i,u)],apU q.H u,nxU q.nx u.u,gs⟩
def dpl(T:TypeId->Option TI)(im:Nat->Bool)(n:Nat)(l:List Oper)(C:List (List Nat))(B:Env)(q:DQ):DQ:=
 match aGu l (xA l q.i) (aKX l C B q) with
 | true=>aCu l q (.tup []) ⟨[],[]⟩ q.gs
 | false=>match plQ T (imOf im (xA l q.i)) n (xA l q.i) (aKX l C B q) q.H q.nx with
  | some (x,u)=>aCu l q x u q.gs
  | none=>q
def aRY(T:TypeId->Option TI)(im:Nat->Bool)(n:Nat)(l:List Oper)(C:List (List Nat))(B:Env):Nat->DQ->DQ
 | 0,q=>q
 | k+1,q=>aRY T im n l C B k (dpl T im n l C B q)
def uAt(i:Nat)(es:EF):EU:=match yV i es with | some u=>u | none=>⟨[],[]⟩
def nxOf(H:List Box):List (Nat×Box)->Nat
 | []=>H.length
 | (id,_) :: _=>id
def chkB(l:List Oper)(C:List (List Nat))(B:Env)(q:DQ)(i:Nat):Bool:=
 match aGu l (xA l i) (nZ C q.ms B i) with
 | true=>aJr (eAt q.ms i)&&aBR (yV i q.es) && !(q.gs.any (bp i))
 | false=>gOK l.toArray (xA l i) (nZ C q.ms B i)&&aJp (eAt q.ms i)
def chkL(T:TypeId->Option TI)(im:Nat->Bool)(n:Nat)(l:List Oper)(C:List (List Nat))(B:Env)(H0:List Box)(q:DQ)(i:Nat):List (Option (AV×EU)×List Box):=
 match aGu l (xA l i) (nZ C q.ms B i)||q.gs.any (bp i) with
 | true=>[]
 | false=>aBT (λH=>(plQ T (imOf im (xA l i)) n (xA l i) (nZ C q.ms B i) H.1 (nxOf H.1 (uAt i q.es).u),apU H.1 (uAt i q.es))) (prs C i H0 H0 q.es)
def chkR(l:List Oper)(C:List (List Nat))(B:Env)(H0:List Box)(q:DQ)(i:Nat):List (Option (AV×EU)×List Box):=
 match aGu l (xA l i) (nZ C q.ms B i)||q.gs.any (bp i) with
 | true=>[]
 | false=>aBt (λH=>(some ((eAt q.ms i).getD default,uAt i q.es),H.2)) (prs C i H0 H0 q.es)
def OB(P:Program)(n:Fr)(l:List Oper)(C:List (List Nat))(B:Env)(H0:List Box)(ms:List MI)(es:EF)(i:Nat):Prop:=
 ∃x,eAt ms i=some x/\∀q∈prs C i H0 H0 es,Big P n (xA l i) (nZ C ms B i) q.1 x q.2
section
variable {P:Program} {T:TypeId→Option TI} {im:Nat→Bool} {n:Fr} {l:List Oper} {C:List (List Nat)} {B:Env} {H0:List Box}
theorem stabQ(hT:TOK P T){q:DQ}{i:Nat}(hi:i < l.toArray.size)(hB:zF l.toArray C q.ms q.es B=true)(hdb:chkB l C B q i=true)(hde:chkL T im n.n l C B H0 q i=chkR l C B H0 q i)(hdst:l.all (λo=>dOK n.n o.dst)=true)
  (hg:∀g∈q.gs,OB P n l C B H0 q.ms q.es g):aRF P n l.toArray C q.ms q.es B H0 i:=by
 obtain⟨_,ms,es,_,_,gs⟩:=q;dsimp only at *;intro o x env ho hx hs H' hH';obtain⟨H',K'⟩:=H';dsimp only;have hlo:l[i]? = some o:=by simpa using ho
 have ho':xA l i=o:=by unfold xA;rw[hlo];rfl
 have hdo:dOK n.n o.dst=true:=eg.1 hdst o (j1 hlo)
 have hxd:x.d=o.dst:=by
  simp only[zF,b9] at hB;have:=pY hB.2.2.1 i hi;rw[ho] at this;simp only[Option.bind_some,dAt,hx] at this;generalize o.dst=u at *;generalize x.d=v at *;cases u <;> cases v <;> simp[dEq] at this ⊢;exact this.symm
 have hex:eAt ms i=x.e:=by unfold eAt;rw[hx]
 unfold chkB at hdb;unfold chkL chkR at hde;simp only[ho',hex] at hdb hde;have fin:∀(v:AV),x.e=some v->gOK l.toArray o (nZ C ms B i)=true->Big P n o (nZ C ms B i) H' v K'->opS P n l.toArray o ⟨env,H'⟩ ⟨x.put env,K'⟩:=by
  intro v hv hg hb;have:=aTf hs hg hb;unfold MI.put;rw[hv,hxd]
  cases hd:o.dst with
  | none=>rw[hd] at this;exact this
  | some d=>rw[hd] at this;exact this
 cases hdead:aGu l o (nZ C ms B i) with
 | true=>
  rw[hdead] at hdb;simp only[b9] at hdb;have hnc:yV i es=none:=by cases hc:yV i es with | none=>rfl | some _=>rw[hc] at hdb;cases hdb.1.2
  have hne:x.e=some (.tup []):=aKE hdb.1.1;have:=aPs (P:=P) (n:=n) (H:=H') ho hs hdead hdo;have e:K'=H':=aDM _ _ hnc _ hH';subst e;unfold MI.put;rw[hne,hxd]
  exact this
 | false=>
  rw[hdead] at hdb hde;simp only[b9,Bool.false_or] at hdb hde;obtain⟨hg',hsome⟩:=hdb;obtain⟨v,hv⟩:∃v,x.e=some v:=by cases hc:x.e with | none=>rw[hc] at hsome;cases hsome | some v=>exact⟨v,rfl⟩
  cases hgs:gs.any (bp i) with
  | true=>
   obtain⟨g,hg1,hg2⟩:=List.any_eq_true.1 hgs;have e:=ak hg2;subst e;obtain⟨y,h1,h2⟩:=hg i hg1;rw[hex,hv] at h1;cases h1;have:=h2 _ hH';rw[ho'] at this;exact fin v hv hg' this
  | false=>
   rw[hgs,hv] at hde;simp only[Option.getD_some] at hde;have:=aNL hde _ hH';simp only[Prod.mk.injEq] at this;have hb:=aOB hT this.1;rw[this.2] at hb;exact fin v hv hg' hb
def DX(q:DQ)(ms:List MI)(es:EF):Prop:=∃xs ys,ms=q.ms++xs/\es=q.es++ys/\∀y∈ys,q.i<=y.1
def DV(q:DQ):Prop:=q.i=q.ms.length/\∀e∈q.es,e.1 < q.i
theorem aCD{ms xs:List MI}{i k:Nat}:∀{j:Nat},j<=ms.length->aA0 C (ms++xs) B i k j=aA0 C ms B i k j
 | 0,_=>rfl
 | j+1,h=>by
  unfold aA0;rw[bx (by omega),aCD (j:=j) (by omega)]
theorem aL7{ms xs:List MI}{x:MI}:nZ C (ms++x :: xs) B ms.length=x.keys.map λk=>(k,aA0 C ms B ms.length k ms.length):=by
 unfold nZ;rw[List.getElem?_append_right (ca _),Nat.sub_self]
 dsimp only[List.getElem?_cons_zero]
 congr 1;funext k;rw[aCD (ca _)]
theorem aPD{ms xs ys:List MI}{g:Nat}(h:g < ms.length):nZ C (ms++xs) B g=nZ C (ms++ys) B g:=by
 unfold nZ;rw[bx h,bx h]
 cases ms[g]? with
 | none=>rfl
 | some x=>dsimp only;congr 1;funext k;rw[aCD (by omega),aCD (by omega)]
theorem aVu{ms xs ys:List MI}{g:Nat}(h:g < ms.length):eAt (ms++xs) g=eAt (ms++ys) g:=by
 unfold eAt;rw[bx h,bx h]
theorem aEN{i:Nat}:∀{es ys:EF},yV i (es++ys)=match yV i es with | some u=>some u | none=>yV i ys
 | [],ys=>rfl
 | (c,u) :: es,ys=>by
  simp only[fg,yV]
  cases bp c i with
  | true=>rfl
  | false=>exact aEN
theorem aBz{i:Nat}:∀{es:EF},(∀e∈es,e.1≠i)->yV i es=none
 | [],_=>rfl
 | (c,u) :: es,h=>by
  unfold yV;rw[pR (h (c,u) (by simp))]
  exact aBz λe he=>h e (by simp[he])
theorem aKF{q:DQ}{x:AV}{u:EU}{gs:List Nat}:(u=⟨[],[]⟩/\(aCu l q x u gs).es=q.es)\/(u≠⟨[],[]⟩/\(aCu l q x u gs).es=q.es++[(q.i,u)]):=by
 unfold aCu;dsimp only;split
 ·exact .inl ⟨rfl,rfl⟩
 ·rename_i h;exact .inr ⟨h,rfl⟩
theorem aNj{q:DQ}{x:AV}{u:EU}{gs:List Nat}(h:DV q):DV (aCu l q x u gs):=by
 refine⟨by simp[aCu,h.1],λe he=>?_⟩
 show e.1 < q.i+1;rcases aKF (l:=l) (q:=q) (x:=x) (u:=u) (gs:=gs) with ⟨_,h1⟩ | ⟨_,h1⟩
 ·rw[h1] at he;have:=h.2 e he;omega
 ·rw[h1] at he;rcases d9.1 he with h' | h'
  ·have:=h.2 e h';omega
  ·have:e=(q.i,u):=by simpa using h'
   subst this;dsimp only;omega
theorem aNb{q:DQ}{x:AV}{u:EU}{gs:List Nat}{ms:List MI}{es:EF}(h:DX (aCu l q x u gs) ms es):DX q ms es:=by
 obtain⟨xs,ys,h1,h2,h3⟩:=h;have h3:∀y∈ys,q.i+1<=y.1:=h3;rcases aKF (l:=l) (q:=q) (x:=x) (u:=u) (gs:=gs) with ⟨_,g⟩ | ⟨_,g⟩
 ·rw[g] at h2;exact⟨_,ys,h1.trans (an ..),h2,λy hy=>by have:=h3 y hy;omega⟩
 ·rw[g] at h2;exact⟨_,(q.i,u) :: ys,h1.trans (an ..),h2.trans (by simp),λy hy=>by
   rcases cx.1 hy with e | e
   ·subst e;exact ca _
   ·have:=h3 y e;omega⟩
theorem aTu{q:DQ}{x:AV}{u:EU}{gs:List Nat}{ms:List MI}{es:EF}(hv:DV q)(h:DX (aCu l q x u gs) ms es):uAt q.i es=u/\(u=⟨[],[]⟩->yV q.i es=none)/\eAt ms q.i=some x/\nZ C ms B q.i=aKX l C B q:=by
 obtain⟨xs,ys,h1,h2,h3⟩:=h;have h3:∀y∈ys,q.i+1<=y.1:=h3;have e0:yV q.i q.es=none:=aBz λe he e'=>by have:=hv.2 e he;omega
 have e1:yV q.i ys=none:=aBz λe he e'=>by have:=h3 e he;omega
 have e2:(u=⟨[],[]⟩/\yV q.i es=none)\/(u≠⟨[],[]⟩/\yV q.i es=some u):=by
  rcases aKF (l:=l) (q:=q) (x:=x) (u:=u) (gs:=gs) with ⟨g0,g⟩ | ⟨g0,g⟩
  ·refine .inl ⟨g0,?_⟩;rw[h2,g,aEN,e0];exact e1
  ·refine .inr ⟨g0,?_⟩;rw[h2,g,an,aEN,e0];simp[yV]
 refine⟨?_,λhu=>?_,?_,?_⟩
 ·unfold uAt;rcases e2 with ⟨g,e⟩ | ⟨_,e⟩
  ·rw[e,g]
  ·rw[e]
 ·rcases e2 with ⟨_,e⟩ | ⟨e,_⟩
  ·exact e
  ·exact absurd hu e
 ·unfold eAt;have h1:ms=(q.ms++[⟨aJP l (xA l q.i),(xA l q.i).dst,some x⟩])++xs:=h1;rw[h1,hv.1]
  simp
 ·have h1:ms=(q.ms++[⟨aJP l (xA l q.i),(xA l q.i).dst,some x⟩])++xs:=h1;rw[h1,an,hv.1]
  show nZ C (q.ms++(_ :: xs)) B q.ms.length=_;rw[aL7]
  unfold aKX;rw[hv.1]
theorem dplV{q:DQ}(h:DV q):DV (dpl T im n.n l C B q):=by
 unfold dpl;split
 ·exact aNj h
 ·split
  ·exact aNj h
  ·exact h
theorem dplX{q:DQ}{ms:List MI}{es:EF}(h:DX (dpl T im n.n l C B q) ms es):DX q ms es:=by
 unfold dpl at h;split at h
 ·exact aNb h
 ·split at h
  ·exact aNb h
  ·exact h
theorem dplG{q:DQ}:(dpl T im n.n l C B q).gs=q.gs:=by
 unfold dpl;split
 ·rfl
 ·split <;> rfl
theorem advV : ∀{k:Nat} {q:DQ},DV q->DV (aRY T im n.n l C B k q)
 | 0,_,h=>h
 | k+1,_,h=>advV (k:=k) (dplV h)
theorem advX : ∀{k:Nat} {q:DQ} {ms:List MI} {es:EF},DX (aRY T im n.n l C B k q) ms es->DX q ms es
 | 0,_,_,_,h=>h
 | k+1,_,_,_,h=>dplX (advX (k:=k) h)
theorem advG : ∀{k:Nat} {q:DQ},(aRY T im n.n l C B k q).gs=q.gs
 | 0,_=>rfl
 | k+1,_=>(advG (k:=k)).trans dplG
end
def dH(p:Pt)(m:List Bool):List Box:=cW p++aKL m
def dCl(p:Pt):List (List Nat):=aOi (lPt p).toArray
def dEn(p:Pt):Env:=aFC (nY p)
def bJ(T:TypeId->Option TI)(im:Nat->Bool)(n:Nat)(p:Pt)(k:Nat)(q:DQ):DQ:=aRY T im n (lPt p) (dCl p) (dEn p) k q
def opD(p:Pt)(q:DQ):Oper:=xA (lPt p) q.i
def jT(p:Pt)(q:DQ):Env:=aKX (lPt p) (dCl p) (dEn p) q
def xL(p:Pt)(q:DQ)(x:AV)(u:EU):DQ:=aCu (lPt p) q x u (q.i :: q.gs)
def stD(p:Pt)(m:List Bool)(i:Nat)(es:EF):List (List Box×List Box):=prs (dCl p) i (dH p m) (dH p m) es
def aOK(q:DQ):Option AV:=match q.ms.getLast? with | some x=>x.e | none=>none
def aEG : List MI->Option AV->List MI
 | [],_=>[]
 | [x],e=>[⟨x.keys,x.d,e⟩]
 | x :: r,e=>x :: aEG r e
def aM3(q:DQ)(b:Bool)(gs:List Nat):DQ:={ q with ms:=aEG q.ms (some (.v (.bool b))),gs:=gs }
section
variable {P:Program} {T:TypeId→Option TI} {im:Nat→Bool} {n:Fr} {Q:Exit→ASt→Prop} {p:Pt} {m:List Bool} {q:DQ} {τ:Type} {L R:EF→τ}
def DD(P:Program)(T:TypeId->Option TI)(im:Nat->Bool)(n:Fr)(Q:Exit->ASt->Prop)(p:Pt)(m:List Bool)(q:DQ){τ:Type}(L R:EF->τ):Prop:=
 DV q->(∀ms es,DX q ms es->L es=R es->∀g∈q.gs,OB P n (lPt p) (dCl p) (dEn p) (dH p m) ms es g)->At P T im n Q p
theorem DD.a(k:Nat)(h:DD P T im n Q p m (bJ T im n.n p k q) L R):DD P T im n Q p m q L R:=
 λhv ho=>h (advV hv) λms es hx e g hg=>ho ms es (advX hx) e g (by rw[show(bJ T im n.n p k q).gs=q.gs from advG] at hg;exact hg)
theorem At.D{p:Pt}(k:Nat)(m:List Bool){π:Prop}(h:π->DD P T im n Q (Go.UK.adv T im [] n.n k p) m ⟨0,[],[],dH (Go.UK.adv T im [] n.n k p) m,(cW (Go.UK.adv T im [] n.n k p)).length,[]⟩ (λ_=>()) (λ_=>()))(e0:π):At P T im n Q p:=
 At.adv k (h e0 ⟨rfl,λ_ h=>by cases h⟩ λ_ _ _ _ g hg=>by cases hg)
theorem DD.o(k:Nat){π:Prop}{y:AV}(b:∀H,Big P n (opD p (bJ T im n.n p k q)) (jT p (bJ T im n.n p k q)) H y H)(h:π->DD P T im n Q p m (xL p (bJ T im n.n p k q) y ⟨[],[]⟩) L R)(e:π):DD P T im n Q p m q L R:=by
 refine DD.a k ?_;generalize bJ T im n.n p k q=q at *;intro hv ho;refine h e (aNj hv) λms es hx hl g hg=>?_;rcases cx.1 hg with e1 | e1
 ·subst e1;obtain⟨_,h1,h2,h3⟩:=aTu (C:=dCl p) (B:=dEn p) hv hx;refine⟨y,h2,λH hH=>?_⟩
  rw[h3,aDM _ _ (h1 rfl) H hH]
  exact b H.1
 ·exact ho ms es (aNb hx) hl g e1
theorem DD.b{α β:Type}{x:Option α}{f:α->Option β}{r:β}(k:Nat){y:α->AV}(b:∀{a},x=some a->∀H,Big P n (opD p (bJ T im n.n p k q)) (jT p (bJ T im n.n p k q)) H (y a) H)
  (h:∀a,f a=some r->DD P T im n Q p m (xL p (bJ T im n.n p k q) (y a) ⟨[],[]⟩) L R) (e:Option.bind x f=some r):DD P T im n Q p m q L R:=by
 obtain⟨a,e1,e2⟩:=aA3 e;exact DD.o k (b e1) (h a) e2
theorem DD.w(k:Nat){π:Prop}{σ:Type}(y:AV)(u:EU){L' R':List Box->σ}(b:∀H,L' H=R' H->Big P n (opD p (bJ T im n.n p k q)) (jT p (bJ T im n.n p k q)) H y (apU H u))
  (h:π->DD P T im n Q p m (xL p (bJ T im n.n p k q) y u) (λes=>(L es,aBT (λH=>(L' H.1,apU H.1 u)) (stD p m (bJ T im n.n p k q).i es))) (λes=>(R es,aBt (λH=>(R' H.1,H.2)) (stD p m (bJ T im n.n p k q).i es)))) (e:π):DD P T im n Q p m q L R:=by
 refine DD.a k ?_;generalize bJ T im n.n p k q=q at *;intro hv ho;refine h e (aNj hv) λms es hx hl g hg=>?_;simp only[Prod.mk.injEq] at hl;rcases cx.1 hg with e1 | e1
 ·subst e1;obtain⟨_,_,h2,h3⟩:=aTu (C:=dCl p) (B:=dEn p) hv hx;refine⟨y,h2,λH hH=>?_⟩
  have he:=aNL hl.2 H hH;simp only[Prod.mk.injEq] at he;rw[h3,<- he.2]
  exact b H.1 he.1
 ·exact ho ms es (aNb hx) hl.1 g e1
theorem aE9 : ∀{ms:List MI} {x:MI} {e:Option AV},aEG (ms++[x]) e=ms++[⟨x.keys,x.d,e⟩]
 | [],_,_=>rfl
 | [a],_,_=>rfl
 | a :: b :: ms,x,e=>by
  have:=aE9 (ms:=b :: ms) (x:=x) (e:=e)
  simp only[fg] at this ⊢;rw[aEG,this]
  simp
theorem aHd{q:DQ}{v:AV}(h:aOK q=some v):∃ms x,q.ms=ms++[x]/\x.e=some v:=by
 unfold aOK at h;split at h
 ·rename_i x hx;obtain⟨ms,e⟩:=List.getLast?_eq_some_iff.1 hx;exact⟨ms,x,e,h⟩
 ·cases h
theorem aXD{q:DQ}{b:Bool}(h:aOK q=some (.v (.bool b)))(gs:List Nat):aM3 q b gs={ q with gs:=gs }:=by
 obtain⟨ms0,x,hm,hx⟩:=aHd h;have e:aEG q.ms (some (.v (.bool b)))=q.ms:=by rw[hm,aE9,<- hx]
 unfold aM3;rw[e]
def pl1(T:TypeId->Option TI)(im:Nat->Bool)(n:Nat)(p:Pt)(q:DQ)(H:List Box×List Box):Option (AV×EU):=
 plQ T (imOf im (xA (lPt p) (q.i - 1))) n (xA (lPt p) (q.i - 1)) (nZ (dCl p) q.ms (dEn p) (q.i - 1)) H.1 0
theorem DD.s(hT:TOK P T){α:Type}{b:Bool}{px py:Option α}{r:α}(k:Nat)
  (h1:px=some r->DD P T im n Q p m (aM3 (bJ T im n.n p k q) true (((bJ T im n.n p k q).i - 1) :: (bJ T im n.n p k q).gs)) (λes=>(L es,aBT (pl1 T im n.n p (bJ T im n.n p k q)) (stD p m ((bJ T im n.n p k q).i - 1) es))) (λes=>(R es,aBt (λ_=>some (.v (.bool b),⟨[],[]⟩)) (stD p m ((bJ T im n.n p k q).i - 1) es))))
  (h2:py=some r->DD P T im n Q p m (aM3 (bJ T im n.n p k q) false (((bJ T im n.n p k q).i - 1) :: (bJ T im n.n p k q).gs)) (λes=>(L es,aBT (pl1 T im n.n p (bJ T im n.n p k q)) (stD p m ((bJ T im n.n p k q).i - 1) es))) (λes=>(R es,aBt (λ_=>some (.v (.bool b),⟨[],[]⟩)) (stD p m ((bJ T im n.n p k q).i - 1) es))))
  (hb:(aOK (bJ T im n.n p k q),aBR (yV ((bJ T im n.n p k q).i - 1) (bJ T im n.n p k q).es))=(some (.v (.bool b)),true):=by kernel_rfl) (e:cond b px py=some r):DD P T im n Q p m q L R:=by
 refine DD.a k ?_;generalize bJ T im n.n p k q=q at *;simp only[Prod.mk.injEq] at hb;obtain⟨hb,hu⟩:=hb;obtain⟨ms0,x,hm,hx⟩:=aHd hb;have key:DD P T im n Q p m (aM3 q b ((q.i - 1) :: q.gs)) (λes=>(L es,aBT (pl1 T im n.n p q) (stD p m (q.i - 1) es))) (λes=>(R es,aBt (λ_=>some (.v (.bool b),⟨[],[]⟩)) (stD p m (q.i - 1) es))):=by
  cases b with
  | true=>exact h1 e
  | false=>exact h2 e
 rw[aXD hb] at key;intro hv ho;have hl:q.i=ms0.length+1:=by rw[hv.1,hm];simp
 refine key hv λms es hX hE g hg=>?_;simp only[Prod.mk.injEq] at hE;rcases cx.1 hg with e1 | e1
 ·subst e1;obtain⟨xs,ys,g1,g2,g3⟩:=hX;dsimp only at g1 g2 g3;have hlt:q.i - 1 < q.ms.length:=by have:=hv.1;omega
  refine⟨.v (.bool b),?_,λH hH=>?_⟩
  ·have:=aVu (ms:=q.ms) (xs:=xs) (ys:=[]) hlt;rw[<- g1,dp] at this;rw[this]
   unfold eAt;rw[hm,show q.i - 1=ms0.length by omega]
   simp[hx]
  ·have e2:yV (q.i - 1) es=none:=by
    rw[g2,aEN]
    cases hc:yV (q.i - 1) q.es with
    | some u=>rw[hc] at hu;cases hu
    | none=>exact aBz λe he e'=>by have:=g3 e he;omega
   have e3:nZ (dCl p) ms (dEn p) (q.i - 1)=nZ (dCl p) q.ms (dEn p) (q.i - 1):=by
    have:=aPD (C:=dCl p) (B:=dEn p) (ms:=q.ms) (xs:=xs) (ys:=[]) hlt;rw[<- g1,dp] at this;exact this
   rw[e3,aDM _ _ e2 H hH]
   exact aOB hT (aNL hE.2 H hH)
 ·exact ho ms es hX hE.1 g e1
theorem DD.e(hT:TOK P T)(hm:P.follows .mixedOrders=true)(k:Nat){π:Prop}(h:π->At P T im n Q (aAn (aMs p) ⟨aEd (bJ T im n.n p k q).ms (dEn p),aKu (dH p m) (bJ T im n.n p k q).es⟩))
  (hB:(isDr p,zF (lPt p).toArray (dCl p) (bJ T im n.n p k q).ms (bJ T im n.n p k q).es (dEn p),aGn (lPt p).toArray.size (chkB (lPt p) (dCl p) (dEn p) (bJ T im n.n p k q)),(lPt p).all (λo=>dOK n.n o.dst))=(true,true,true,true):=by kernel_rfl)
  (hE:(L (bJ T im n.n p k q).es,aBT (chkL T im n.n (lPt p) (dCl p) (dEn p) (dH p m) (bJ T im n.n p k q)) (bq (lPt p).toArray.size))=(R (bJ T im n.n p k q).es,aBt (chkR (lPt p) (dCl p) (dEn p) (dH p m) (bJ T im n.n p k q)) (bq (lPt p).toArray.size)):=by kernel_rfl) (e0:π):DD P T im n Q p m q L R:=by
 have h:=h e0;refine DD.a k ?_;generalize bJ T im n.n p k q=q at *;intro hv ho;simp only[Prod.mk.injEq] at hB hE;obtain⟨b1,b2,b3,b4⟩:=hB;obtain⟨id,arr,ks,st,rfl⟩:=aOo b1;intro hT' hm';have hob:=ho q.ms q.es ⟨[],[],by simp,by simp,λ_ h=>by cases h⟩ hE.1;have:=aPV (l:=arr.toList) (id:=id) (st:=⟨aFC st.env,st.H++aKL m⟩) (Q:=λe s=>e = .normal/\s=⟨aEd q.ms (aFC st.env),aKu (st.H++aKL m) q.es⟩) hm b2
  (λi hi=>stabQ (T:=T) (im:=im) hT hi b2 (pY b3 i hi) (aNL hE.2 i (List.mem_range.2 hi)) b4 hob) ⟨rfl,rfl⟩
 intro ctx a w hs;refine wpIn_mono (this ctx a w (aG4 m (aTR (l:=[]) hs))) ?_;rintro e a' w' ⟨s,⟨rfl,rfl⟩,h2⟩
 exact⟨_,At.popN hT' hm' h,h2⟩
end
end Go.UK

open Option renaming bind→ae
namespace Go.UK
open Go
set_option linter.all false
variable [bL]
theorem aHL : ∀(σ:List Nat) (H xs:List Box),mT H σ xs=aQc H (σ.zip xs)
 | [],H,xs=>by cases xs <;> rfl
 | s :: σ,H,[]=>rfl
 | s :: σ,H,x :: xs=>aHL σ (H.set s x) xs
def euC(σ:List Nat)(m:Nat)(H':List Box):EU:=⟨σ.zip ((H'.take σ.length).map (jS (rn σ m))),(H'.drop σ.length).map (jS (rn σ m))⟩
theorem aRx(H:List Box)(e:EU):apU H e=aQc H e.u++e.new:=by
 obtain⟨u,new⟩:=e;cases new with
 | nil=>simp[apU]
 | cons b r=>rfl
theorem aNZ{σ:List Nat}{H H':List Box}:cB H σ H'=apU H (euC σ H.length H'):=by
 rw[aRx]
 unfold cB euC;rw[aHL]
section
variable {P:Program} {T:TypeId→Option TI} {im:Nat→Bool} {n:Fr} {Q:Exit→ASt→Prop} {p:Pt}
theorem At.y{α β:Type}{x:Option α}{f:α->Option β}{r:β}(k:Nat){fid:FuncId}{args:List AV}{ret:α->AV}(c:∀{a},x=some a->FnM P fid [] args (ret a) [])
  (h:∀a,f a=some r->At P T im n Q (aBN (Go.UK.adv T im [] n.n k p) (ret a) (cW (Go.UK.adv T im [] n.n k p))))
  (hc:(aHc (Go.UK.adv T im [] n.n k p),lK P fid,zN n (wE (Go.UK.adv T im [] n.n k p)) (cW (Go.UK.adv T im [] n.n k p)) [] [] args,zK (wE (Go.UK.adv T im [] n.n k p)) (nY (Go.UK.adv T im [] n.n k p)) (cW (Go.UK.adv T im [] n.n k p)) [] [] args,λa=>ren (rn [] (cW (Go.UK.adv T im [] n.n k p)).length) (ret a))
   = (true,true,true,(some (fid,renL (rn [] (cW (Go.UK.adv T im [] n.n k p)).length) args),[]),ret):=by kernel_rfl) (e:ae x f=some r):At P T im n Q p:=by
 simp only[Prod.mk.injEq] at hc;obtain⟨c1,c2,c3,c4,c5⟩:=hc;exact At.b k (λa ha=>aRD (c ha) c2 c3 c4 (congrFun c5 a)) h c1 e
theorem At.Y{α β:Type}{x:Option α}{f:α->Option β}{r:β}(k:Nat)(σ:List Nat){fid:FuncId}{Hc:List Box}{args:List AV}{ret:α->AV}{Hc':α->List Box}(c:∀{a},x=some a->FnM P fid Hc args (ret a) (Hc' a))
  (h:∀a,f a=some r->At P T im n Q (aBN (Go.UK.adv T im [] n.n k p) (ren (rn σ (cW (Go.UK.adv T im [] n.n k p)).length) (ret a)) (cB (cW (Go.UK.adv T im [] n.n k p)) σ (Hc' a))))
  (hc:(aHc (Go.UK.adv T im [] n.n k p),lK P fid,zN n (wE (Go.UK.adv T im [] n.n k p)) (cW (Go.UK.adv T im [] n.n k p)) σ Hc args,zK (wE (Go.UK.adv T im [] n.n k p)) (nY (Go.UK.adv T im [] n.n k p)) (cW (Go.UK.adv T im [] n.n k p)) σ Hc args)
   = (true,true,true,(some (fid,renL (rn σ (cW (Go.UK.adv T im [] n.n k p)).length) args),Hc.map (jS (rn σ (cW (Go.UK.adv T im [] n.n k p)).length)))):=by kernel_rfl) (e:ae x f=some r):At P T im n Q p:=by
 simp only[Prod.mk.injEq] at hc;obtain⟨c1,c2,c3,c4⟩:=hc;exact At.b k (λa ha=>aKV σ (c ha) c2 c3 c4) h c1 e
theorem At.i(hT:TOK P T){β γ:Type}{l:List γ}{i:Int}{f:γ->Option β}{r:β}(k:Nat)(F:γ->AV)(h:∀a,f a=some r->At P T im n Q (aBN (Go.UK.adv T im [] n.n k p) (.im (F a)) (cW (Go.UK.adv T im [] n.n k p))))
  (hc:(aHc (Go.UK.adv T im [] n.n k p),dOK n.n (wE (Go.UK.adv T im [] n.n k p)).dst,idxE T (wE (Go.UK.adv T im [] n.n k p)) (nY (Go.UK.adv T im [] n.n k p)))=(true,true,some (l.map F,i)):=by kernel_rfl) (e:ae (idx l i) f=some r):At P T im n Q p:=by
 simp only[Prod.mk.injEq] at hc;exact At.b k (λa ha=>aOG hT F ha hc.2.1 hc.2.2) h hc.1 e
section
variable {m:List Bool} {q:DQ} {τ:Type} {L R:EF→τ}
theorem DD.y{α β:Type}{x:Option α}{f:α->Option β}{r:β}(k:Nat){fid:FuncId}{args:List AV}{ret:α->AV}(c:∀{a},x=some a->FnM P fid [] args (ret a) [])
  (h:∀a,f a=some r->DD P T im n Q p m (xL p (bJ T im n.n p k q) (ret a) ⟨[],[]⟩) L R)
  (hc:(λH:List Box=>(lK P fid,zN n (opD p (bJ T im n.n p k q)) H [] [] args,zK (opD p (bJ T im n.n p k q)) (jT p (bJ T im n.n p k q)) H [] [] args,λa=>ren (rn [] H.length) (ret a)))
   = (λH=>(true,true,(some (fid,renL (rn [] H.length) args),[]),ret)):=by kernel_rfl) (e:ae x f=some r):DD P T im n Q p m q L R:=by
 refine DD.b k (λ{a} ha H=>?_) h e;have:=congrFun hc H;simp only[Prod.mk.injEq] at this;obtain⟨c2,c3,c4,c5⟩:=this;exact aRD (c ha) c2 c3 c4 (congrFun c5 a)
theorem DD.Yo{π:Prop}(k:Nat)(σ:List Nat){fid:FuncId}{Hc:List Box}{args:List AV}{ret:AV}{Hc':List Box}(c:FnM P fid Hc args ret Hc')
  (h:π->DD P T im n Q p m (xL p (bJ T im n.n p k q) (ren (rn σ 0) ret) (euC σ 0 Hc'))
   (λes=>(L es,aBT (λH=>((lK P fid,zN n (opD p (bJ T im n.n p k q)) H.1 σ Hc args,zK (opD p (bJ T im n.n p k q)) (jT p (bJ T im n.n p k q)) H.1 σ Hc args,ren (rn σ H.1.length) ret,euC σ H.1.length Hc'),apU H.1 (euC σ 0 Hc'))) (stD p m (bJ T im n.n p k q).i es)))
   (λes=>(R es,aBt (λH=>((true,true,(some (fid,renL (rn σ H.1.length) args),Hc.map (jS (rn σ H.1.length))),ren (rn σ 0) ret,euC σ 0 Hc'),H.2)) (stD p m (bJ T im n.n p k q).i es)))) (e:π):DD P T im n Q p m q L R:=by
 refine DD.w k _ _ (L':=λH=>(lK P fid,zN n (opD p (bJ T im n.n p k q)) H σ Hc args,zK (opD p (bJ T im n.n p k q)) (jT p (bJ T im n.n p k q)) H σ Hc args,ren (rn σ H.length) ret,euC σ H.length Hc')) (R':=λH=>(true,true,(some (fid,renL (rn σ H.length) args),Hc.map (jS (rn σ H.length))),ren (rn σ 0) ret,euC σ 0 Hc')) (λH hH=>?_) h e;simp only[Prod.mk.injEq] at hH;obtain⟨c2,c3,c4,c5,c6⟩:=hH;rw[<- c5,<- c6,<- aNZ]
 exact aKV σ c c2 c3 c4
theorem DD.Y{α β:Type}{x:Option α}{f:α->Option β}{r:β}(k:Nat)(σ:List Nat){fid:FuncId}{Hc:List Box}{args:List AV}{ret:α->AV}{Hc':α->List Box}(c:∀{a},x=some a->FnM P fid Hc args (ret a) (Hc' a))
  (h:∀a,f a=some r->DD P T im n Q p m (xL p (bJ T im n.n p k q) (ren (rn σ 0) (ret a)) (euC σ 0 (Hc' a)))
   (λes=>(L es,aBT (λH=>((lK P fid,zN n (opD p (bJ T im n.n p k q)) H.1 σ Hc args,zK (opD p (bJ T im n.n p k q)) (jT p (bJ T im n.n p k q)) H.1 σ Hc args,ren (rn σ H.1.length) (ret a),euC σ H.1.length (Hc' a)),apU H.1 (euC σ 0 (Hc' a)))) (stD p m (bJ T im n.n p k q).i es)))
   (λes=>(R es,aBt (λH=>((true,true,(some (fid,renL (rn σ H.1.length) args),Hc.map (jS (rn σ H.1.length))),ren (rn σ 0) (ret a),euC σ 0 (Hc' a)),H.2)) (stD p m (bJ T im n.n p k q).i es)))) (e:ae x f=some r):DD P T im n Q p m q L R:=by
 obtain⟨a,e1,e2⟩:=aA3 e;exact DD.Yo k σ (c e1) (h a) e2
theorem DD.Zo{π:Prop}(k:Nat)(σ:List Nat)(w:Nat){fid:FuncId}{Hc:List Box}{args:List AV}{ret:AV}{Hc':List Box}(c:FnM P fid Hc args ret Hc')
  (h:π->DD P T im n Q p m (xL p (bJ T im n.n p k q) (ren (rn σ w) ret) (euC σ w Hc'))
   (λes=>(L es,aBT (λH=>((lK P fid,zN n (opD p (bJ T im n.n p k q)) H.1 σ Hc args,zK (opD p (bJ T im n.n p k q)) (jT p (bJ T im n.n p k q)) H.1 σ Hc args,H.1.length),apU H.1 (euC σ w Hc'))) (stD p m (bJ T im n.n p k q).i es)))
   (λes=>(R es,aBt (λH=>((true,true,(some (fid,renL (rn σ w) args),Hc.map (jS (rn σ w))),w),H.2)) (stD p m (bJ T im n.n p k q).i es)))) (e:π):DD P T im n Q p m q L R:=by
 refine DD.w k _ _ (L':=λH=>(lK P fid,zN n (opD p (bJ T im n.n p k q)) H σ Hc args,zK (opD p (bJ T im n.n p k q)) (jT p (bJ T im n.n p k q)) H σ Hc args,H.length)) (R':=λ_=>(true,true,(some (fid,renL (rn σ w) args),Hc.map (jS (rn σ w))),w)) (λH hH=>?_) h e;simp only[Prod.mk.injEq] at hH;obtain⟨c2,c3,c4,c5⟩:=hH;rw[<- c5] at c4 ⊢;rw[<- aNZ]
 exact aKV σ c c2 c3 c4
theorem DD.Z{α β:Type}{x:Option α}{f:α->Option β}{r:β}(k:Nat)(σ:List Nat)(w:Nat){fid:FuncId}{Hc:List Box}{args:List AV}{ret:α->AV}{Hc':α->List Box}(c:∀{a},x=some a->FnM P fid Hc args (ret a) (Hc' a))
  (h:∀a,f a=some r->DD P T im n Q p m (xL p (bJ T im n.n p k q) (ren (rn σ w) (ret a)) (euC σ w (Hc' a)))
   (λes=>(L es,aBT (λH=>((lK P fid,zN n (opD p (bJ T im n.n p k q)) H.1 σ Hc args,zK (opD p (bJ T im n.n p k q)) (jT p (bJ T im n.n p k q)) H.1 σ Hc args,H.1.length),apU H.1 (euC σ w (Hc' a)))) (stD p m (bJ T im n.n p k q).i es)))
   (λes=>(R es,aBt (λH=>((true,true,(some (fid,renL (rn σ w) args),Hc.map (jS (rn σ w))),w),H.2)) (stD p m (bJ T im n.n p k q).i es)))) (e:ae x f=some r):DD P T im n Q p m q L R:=by
 obtain⟨a,e1,e2⟩:=aA3 e;exact DD.Zo k σ w (c e1) (h a) e2
theorem DD.N{π:Prop}(k w:Nat)(y:Nat->AV)(new:List Box)(b:∀H,Big P n (opD p (bJ T im n.n p k q)) (jT p (bJ T im n.n p k q)) H (y H.length) (H++new))
  (h:π->DD P T im n Q p m (xL p (bJ T im n.n p k q) (y w) ⟨[],new⟩)
   (λes=>(L es,aBT (λH=>(H.1.length,apU H.1 ⟨[],new⟩)) (stD p m (bJ T im n.n p k q).i es))) (λes=>(R es,aBt (λH=>(w,H.2)) (stD p m (bJ T im n.n p k q).i es)))) (e:π):DD P T im n Q p m q L R:=by
 refine DD.w k _ ⟨[],new⟩ (L':=λH=>H.length) (R':=λ_=>w) (λH hH=>?_) h e;rw[aRx,<- hH]
 exact b H
theorem pj1{α β:Type}{a b:α}{c d:β}(e:(a,c)=(b,d)):a=b:=congrArg Prod.fst e
theorem pj2{α β:Type}{a b:α}{c d:β}(e:(a,c)=(b,d)):c=d:=congrArg Prod.snd e
theorem DD.i(hT:TOK P T){β γ:Type}{l:List γ}{i:Int}{f:γ->Option β}{r:β}(k:Nat)(F:γ->AV)(h:∀a,f a=some r->DD P T im n Q p m (xL p (bJ T im n.n p k q) (.im (F a)) ⟨[],[]⟩) L R)
  (hc:(dOK n.n (opD p (bJ T im n.n p k q)).dst,idxE T (opD p (bJ T im n.n p k q)) (jT p (bJ T im n.n p k q)))=(true,some (l.map F,i)):=by kernel_rfl) (e:ae (idx l i) f=some r):DD P T im n Q p m q L R:=by
 simp only[Prod.mk.injEq] at hc;exact DD.b k (λha H=>aOG hT F ha hc.1 hc.2) h e
theorem DD.l(hT:TOK P T){α β:Type}(k:Nat)(y g:α->AV)(j0:Nat){l:List α}{j:Nat}{f:α->Option β}{r:β}
  (h:∀a,f a=some r->DD P T im n Q p m (xL p (bJ T im n.n p k q) (y a) ⟨[],[]⟩) (λes=>(L es,aBT (λH=>((dOK n.n (opD p (bJ T im n.n p k q)).dst,ldE T (opD p (bJ T im n.n p k q)) (jT p (bJ T im n.n p k q)) H.1 j0 (g a),ldX T (opD p (bJ T im n.n p k q)) (jT p (bJ T im n.n p k q)) H.1 j0 (g a)),apU H.1 ⟨[],[]⟩)) (stD p m (bJ T im n.n p k q).i es)))
   (λes=>(R es,aBt (λH=>((true,some (l.map g,j,aEi (opD p (bJ T im n.n p k q)) (jT p (bJ T im n.n p k q)),y a),y a),H.2)) (stD p m (bJ T im n.n p k q).i es)))) (e:ae l[j]? f=some r):DD P T im n Q p m q L R:=by
 obtain⟨a,e1,e2⟩:=aA3 e;refine DD.w k (y a) ⟨[],[]⟩ (L':=λH=>(dOK n.n (opD p (bJ T im n.n p k q)).dst,ldE T (opD p (bJ T im n.n p k q)) (jT p (bJ T im n.n p k q)) H j0 (g a),ldX T (opD p (bJ T im n.n p k q)) (jT p (bJ T im n.n p k q)) H j0 (g a)))
  (R':=λ_=>(true,some (l.map g,j,aEi (opD p (bJ T im n.n p k q)) (jT p (bJ T im n.n p k q)),y a),y a)) (λH hH=>?_) (h a) e2
 simp only[Prod.mk.injEq] at hH;obtain⟨h1,h2,h3⟩:=hH;have:=aNg (P:=P) (n:=n) hT g j0 e1 (o:=opD p (bJ T im n.n p k q)) (need:=jT p (bJ T im n.n p k q)) (H:=H) h1 (by rw[h2,h3])
 rwa[h3] at this
end
def cu2{α0 α1 β:Type}(f:α0->α1->β):α0×α1->β
 | (x0,x1)=>f x0 x1
def CU2{α0 α1 β:Type}(f:Nat->α0->α1->β)(k:Nat):α0×α1->β
 | (x0,x1)=>f k x0 x1
def cu3{α0 α1 α2 β:Type}(f:α0->α1->α2->β):α0×α1×α2->β
 | (x0,x1,x2)=>f x0 x1 x2
def CU3{α0 α1 α2 β:Type}(f:Nat->α0->α1->α2->β)(k:Nat):α0×α1×α2->β
 | (x0,x1,x2)=>f k x0 x1 x2
def cu4{α0 α1 α2 α3 β:Type}(f:α0->α1->α2->α3->β):α0×α1×α2×α3->β
 | (x0,x1,x2,x3)=>f x0 x1 x2 x3
def CU4{α0 α1 α2 α3 β:Type}(f:Nat->α0->α1->α2->α3->β)(k:Nat):α0×α1×α2×α3->β
 | (x0,x1,x2,x3)=>f k x0 x1 x2 x3
def cu8{α0 α1 α2 α3 α4 α5 α6 α7 β:Type}(f:α0->α1->α2->α3->α4->α5->α6->α7->β):α0×α1×α2×α3×α4×α5×α6×α7->β
 | (x0,x1,x2,x3,x4,x5,x6,x7)=>f x0 x1 x2 x3 x4 x5 x6 x7
def CU8{α0 α1 α2 α3 α4 α5 α6 α7 β:Type}(f:Nat->α0->α1->α2->α3->α4->α5->α6->α7->β)(k:Nat):α0×α1×α2×α3×α4×α5×α6×α7->β
 | (x0,x1,x2,x3,x4,x5,x6,x7)=>f k x0 x1 x2 x3 x4 x5 x6 x7
theorem un2{α0 α1:Type}{P:α0×α1->Prop}(h:∀x0 x1,P (x0,x1))(s:α0×α1):P s:=h s.1 s.2
theorem un3{α0 α1 α2:Type}{P:α0×α1×α2->Prop}(h:∀x0 x1 x2,P (x0,x1,x2))(s:α0×α1×α2):P s:=h s.1 s.2.1 s.2.2
theorem un4{α0 α1 α2 α3:Type}{P:α0×α1×α2×α3->Prop}(h:∀x0 x1 x2 x3,P (x0,x1,x2,x3))(s:α0×α1×α2×α3):P s:=h s.1 s.2.1 s.2.2.1 s.2.2.2
theorem un8{α0 α1 α2 α3 α4 α5 α6 α7:Type}{P:α0×α1×α2×α3×α4×α5×α6×α7->Prop}(h:∀x0 x1 x2 x3 x4 x5 x6 x7,P (x0,x1,x2,x3,x4,x5,x6,x7))(s:α0×α1×α2×α3×α4×α5×α6×α7):P s:=h s.1 s.2.1 s.2.2.1 s.2.2.2.1 s.2.2.2.2.1 s.2.2.2.2.2.1 s.2.2.2.2.2.2.1 s.2.2.2.2.2.2.2
abbrev USt:=List (Nat×AV)×List (Nat×Box)×List Box
def LQ{S α:Type}(n:Fr)(g:Nat->S->Option α)(v:S->ASt)(x:α)(j:Nat)(s:ASt):Prop:=∃s',g j s'=some x/\JR n (v s') s
theorem At.M{S α ρ:Type}{X:Option α}{F:α->Option ρ}{r:ρ}(k:Nat)(ks:List Nat)(m:Nat)(t:α->USt)(ks1:List Nat)(m1:Nat)(g:Nat->S->Option α)(v:S->USt)(s0:S)(N:Nat)
  (h:∀x j s,g (j+1) s=some x->At P T im n (tn (λs'=>∃i,i < j+1/\LQ n g (λs=>upS (fS (Go.UK.adv T im [] n.n k p)) ks1 (v s).1 m1 (v s).2.1 (v s).2.2) x i s') (inB (aRs (Go.UK.adv T im [] n.n k p)) (tn (Go.UK.JR n (upS (fS (Go.UK.adv T im [] n.n k p)) ks (t x).1 m (t x).2.1 (t x).2.2)) (kQ P n Q (oA 1 (Go.UK.adv T im [] n.n k p))))))
   (.code (aLV (Go.UK.adv T im [] n.n k p)) [] (upS (fS (Go.UK.adv T im [] n.n k p)) ks1 (v s).1 m1 (v s).2.1 (v s).2.2)))
  (hy:∀x,F x=some r->At P T im n Q (Go.UK.aAn (oA 1 (Go.UK.adv T im [] n.n k p)) (upS (fS (Go.UK.adv T im [] n.n k p)) ks (t x).1 m (t x).2.1 (t x).2.2)))
  (hX:X=g N s0:=by exact rfl) (hz:∀s,g 0 s=none:=by intro _;rfl)
  (hi:(aPQ (Go.UK.adv T im [] n.n k p),cOK n (fS (Go.UK.adv T im [] n.n k p)) (upS (fS (Go.UK.adv T im [] n.n k p)) ks1 (v s0).1 m1 (v s0).2.1 (v s0).2.2),cSt (fS (Go.UK.adv T im [] n.n k p)) (upS (fS (Go.UK.adv T im [] n.n k p)) ks1 (v s0).1 m1 (v s0).2.1 (v s0).2.2))=(true,true,upS (fS (Go.UK.adv T im [] n.n k p)) ks1 (v s0).1 m1 (v s0).2.1 (v s0).2.2):=by kernel_rfl)
  (e:ae X F=some r):At P T im n Q p:=by
 simp only[Prod.mk.injEq] at hi;refine At.l k _ (λx J j s=>LQ n g (λs=>upS (fS (Go.UK.adv T im [] n.n k p)) ks1 (v s).1 m1 (v s).2.1 (v s).2.2) x j s) N (λx hx=>⟨s0,hX▸hx,Go.UK.jr (by rw[hi.2.1,hi.2.2])⟩) (λx j s hs=>?_) hy hi.1 e;obtain⟨s',h1,h2⟩:=hs;cases j with
 | zero=>rw[hz] at h1;cases h1
 | succ j=>exact At.jr h2 (h x j s') h1
theorem At.MS{S α β ρ:Type}{X:Option (Sum α β)}{F:α->Option ρ}{G:β->Option ρ}{r:ρ}(k:Nat)(ks:List Nat)(m:Nat)(t:α->USt)(ks1:List Nat)(m1:Nat)(g:Nat->S->Option (Sum α β))(v:S->USt)(s0:S)(N:Nat)
  (h:∀o,mW o F G=some r->∀j s,g (j+1) s=some o->At P T im n (tn (λs'=>∃i,i < j+1/\LQ n g (λs=>upS (fS (Go.UK.adv T im [] n.n k p)) ks1 (v s).1 m1 (v s).2.1 (v s).2.2) o i s') (inB (aRs (Go.UK.adv T im [] n.n k p)) (tn (Go.UK.JS n (λx=>upS (fS (Go.UK.adv T im [] n.n k p)) ks (t x).1 m (t x).2.1 (t x).2.2) o) (kQ P n Q (oA 1 (Go.UK.adv T im [] n.n k p))))))
   (.code (aLV (Go.UK.adv T im [] n.n k p)) [] (upS (fS (Go.UK.adv T im [] n.n k p)) ks1 (v s).1 m1 (v s).2.1 (v s).2.2)))
  (hy:∀x,F x=some r->At P T im n Q (Go.UK.aAn (oA 1 (Go.UK.adv T im [] n.n k p)) (upS (fS (Go.UK.adv T im [] n.n k p)) ks (t x).1 m (t x).2.1 (t x).2.2)))
  (hX:X=g N s0:=by exact rfl) (hz:∀s,g 0 s=none:=by intro _;rfl)
  (hi:(aPQ (Go.UK.adv T im [] n.n k p),cOK n (fS (Go.UK.adv T im [] n.n k p)) (upS (fS (Go.UK.adv T im [] n.n k p)) ks1 (v s0).1 m1 (v s0).2.1 (v s0).2.2),cSt (fS (Go.UK.adv T im [] n.n k p)) (upS (fS (Go.UK.adv T im [] n.n k p)) ks1 (v s0).1 m1 (v s0).2.1 (v s0).2.2))=(true,true,upS (fS (Go.UK.adv T im [] n.n k p)) ks1 (v s0).1 m1 (v s0).2.1 (v s0).2.2):=by kernel_rfl)
  (e:ae X (λo=>mW o F G)=some r):At P T im n Q p:=by
 simp only[Prod.mk.injEq] at hi;refine At.ls k _ (λx J j s=>LQ n g (λs=>upS (fS (Go.UK.adv T im [] n.n k p)) ks1 (v s).1 m1 (v s).2.1 (v s).2.2) x j s) N (λx hx=>⟨s0,hX▸hx,Go.UK.jr (by rw[hi.2.1,hi.2.2])⟩) (λx hx j s hs=>?_) hy hi.1 e;obtain⟨s',h1,h2⟩:=hs;cases j with
 | zero=>rw[hz] at h1;cases h1
 | succ j=>exact At.jr h2 (h x hx j s') h1
theorem At.vw{S α:Type}(k:Nat){g:Nat->S->Option α}{v:S->ASt}{x:α}{j:Nat}(s:S)(hj:JR n (v s) (fS (Go.UK.adv T im [] n.n k p)))(e:g j s=some x)(hc:aHJ (Go.UK.adv T im [] n.n k p)=true:=by kernel_rfl):At P T im n (tn (λs'=>∃i,i < j+1/\LQ n g v x i s') Q) p:=
 At.k k ⟨s,e,hj⟩ hc
theorem At.v{S α:Type}(k:Nat){g:Nat->S->Option α}{v:S->ASt}{x:α}{j:Nat}(s:S)(e:g j s=some x)
  (hc:(aHJ (Go.UK.adv T im [] n.n k p),cOK n (fS (Go.UK.adv T im [] n.n k p)) (v s),cSt (fS (Go.UK.adv T im [] n.n k p)) (v s))=(true,true,v s):=by kernel_rfl):At P T im n (tn (λs'=>∃i,i < j+1/\LQ n g v x i s') Q) p:=by
 simp only[Prod.mk.injEq] at hc;exact At.vw k s (Go.UK.jr (by rw[hc.2.1,hc.2.2])) e hc.1
end
end Go.UK

namespace Go.UK
open Go
set_option linter.all false
variable [bL]
section
variable {P:Program} {T:TypeId→Option TI} {im:Nat→Bool} {n:Fr} {Q:Exit→ASt→Prop} {p:Pt}
end
end Go.UK

namespace Go.UK
open Go
set_option linter.all false
variable [bL]
abbrev TKI(P:Program)(T:TypeId->Option TI):=Inhabited (PLift (TOK P T))
structure BR(P:Program)(T:TypeId->Option TI)(n:Fr){α:Type}(x:Option α) where
  {γ:Type}
  C:Oper->Env->γ
  c:γ
  y:Oper->Env->α->AV
  b:∀{a o need H},x=some a->C o need=c->Big P n o need H (y o need a) H
structure BU(P:Program)(T:TypeId->Option TI)(n:Fr){α:Type}(x:Option α) where
  {γ:Type}
  C:Oper->Env->List Box->α->γ
  c:Oper->Env->List Box->α->γ
  y:Oper->Env->List Box->α->AV
  u:Oper->Env->List Box->α->EU
  b:∀{a o need H},x=some a->C o need H a=c o need H a->Big P n o need H (y o need H a) (apU H (u o need H a))
section
variable {P:Program} {T:TypeId→Option TI} {im:Nat→Bool} {n:Fr} {Q:Exit→ASt→Prop} {p:Pt}
theorem At.B{α β:Type}{x:Option α}{f:α->Option β}{r:β}(k:Nat)(R:BR P T n x)(h:∀a,f a=some r->At P T im n Q (aBN (Go.UK.adv T im [] n.n k p) (R.y (wE (Go.UK.adv T im [] n.n k p)) (nY (Go.UK.adv T im [] n.n k p)) a) (cW (Go.UK.adv T im [] n.n k p))))
    (hc:(aHc (Go.UK.adv T im [] n.n k p),R.C (wE (Go.UK.adv T im [] n.n k p)) (nY (Go.UK.adv T im [] n.n k p)))=(true,R.c):=by kernel_rfl) (e:Option.bind x f=some r):At P T im n Q p:=by
  simp only[Prod.mk.injEq] at hc;exact At.b k (λa ha=>R.b ha hc.2) h hc.1 e
theorem At.O{π:Prop}(k:Nat)(R:BR P T n (some ()))(h:π->At P T im n Q (aBN (Go.UK.adv T im [] n.n k p) (R.y (wE (Go.UK.adv T im [] n.n k p)) (nY (Go.UK.adv T im [] n.n k p)) ()) (cW (Go.UK.adv T im [] n.n k p))))
    (hc:(aHc (Go.UK.adv T im [] n.n k p),R.C (wE (Go.UK.adv T im [] n.n k p)) (nY (Go.UK.adv T im [] n.n k p)))=(true,R.c):=by kernel_rfl) (e:π):At P T im n Q p:=by
  simp only[Prod.mk.injEq] at hc;exact At.o k (R.b rfl hc.2) h hc.1 e
theorem At.U{α β:Type}{x:Option α}{f:α->Option β}{r:β}(k:Nat)(R:BU P T n x)(h:∀a,f a=some r->At P T im n Q (aBN (Go.UK.adv T im [] n.n k p) (R.y (wE (Go.UK.adv T im [] n.n k p)) (nY (Go.UK.adv T im [] n.n k p)) (cW (Go.UK.adv T im [] n.n k p)) a) (apU (cW (Go.UK.adv T im [] n.n k p)) (R.u (wE (Go.UK.adv T im [] n.n k p)) (nY (Go.UK.adv T im [] n.n k p)) (cW (Go.UK.adv T im [] n.n k p)) a))))
    (hc:(aHc (Go.UK.adv T im [] n.n k p),R.C (wE (Go.UK.adv T im [] n.n k p)) (nY (Go.UK.adv T im [] n.n k p)) (cW (Go.UK.adv T im [] n.n k p)))=(true,R.c (wE (Go.UK.adv T im [] n.n k p)) (nY (Go.UK.adv T im [] n.n k p)) (cW (Go.UK.adv T im [] n.n k p))):=by kernel_rfl) (e:Option.bind x f=some r):At P T im n Q p:=by
  simp only[Prod.mk.injEq] at hc;exact At.b k (λa ha=>R.b ha (congrFun hc.2 a)) h hc.1 e
section
variable {m:List Bool} {q:DQ} {τ:Type} {L R:EF→τ}
theorem DD.B{α β:Type}{x:Option α}{f:α->Option β}{r:β}(k:Nat)(S:BR P T n x)(h:∀a,f a=some r->DD P T im n Q p m (xL p (bJ T im n.n p k q) (S.y (opD p (bJ T im n.n p k q)) (jT p (bJ T im n.n p k q)) a) ⟨[],[]⟩) L R)
    (hc:S.C (opD p (bJ T im n.n p k q)) (jT p (bJ T im n.n p k q))=S.c:=by kernel_rfl) (e:Option.bind x f=some r):DD P T im n Q p m q L R:=
  DD.b k (λha H=>S.b ha hc) h e
theorem DD.O{π:Prop}(k:Nat)(S:BR P T n (some ()))(h:π->DD P T im n Q p m (xL p (bJ T im n.n p k q) (S.y (opD p (bJ T im n.n p k q)) (jT p (bJ T im n.n p k q)) ()) ⟨[],[]⟩) L R)
    (hc:S.C (opD p (bJ T im n.n p k q)) (jT p (bJ T im n.n p k q))=S.c:=by kernel_rfl) (e:π):DD P T im n Q p m q L R:=
  DD.o k (λH=>S.b rfl hc) h e
theorem DD.U{α β:Type}{x:Option α}{f:α->Option β}{r:β}(k:Nat)(S:BU P T n x)
    (h:∀a,f a=some r->DD P T im n Q p m (xL p (bJ T im n.n p k q) (S.y (opD p (bJ T im n.n p k q)) (jT p (bJ T im n.n p k q)) (bJ T im n.n p k q).H a) (S.u (opD p (bJ T im n.n p k q)) (jT p (bJ T im n.n p k q)) (bJ T im n.n p k q).H a))
      (λes=>(L es,aBT (λH=>((S.C (opD p (bJ T im n.n p k q)) (jT p (bJ T im n.n p k q)) H.1 a,S.y (opD p (bJ T im n.n p k q)) (jT p (bJ T im n.n p k q)) H.1 a,S.u (opD p (bJ T im n.n p k q)) (jT p (bJ T im n.n p k q)) H.1 a),apU H.1 (S.u (opD p (bJ T im n.n p k q)) (jT p (bJ T im n.n p k q)) (bJ T im n.n p k q).H a))) (stD p m (bJ T im n.n p k q).i es)))
      (λes=>(R es,aBt (λH=>((S.c (opD p (bJ T im n.n p k q)) (jT p (bJ T im n.n p k q)) H.1 a,S.y (opD p (bJ T im n.n p k q)) (jT p (bJ T im n.n p k q)) (bJ T im n.n p k q).H a,S.u (opD p (bJ T im n.n p k q)) (jT p (bJ T im n.n p k q)) (bJ T im n.n p k q).H a),H.2)) (stD p m (bJ T im n.n p k q).i es)))) (e:Option.bind x f=some r):DD P T im n Q p m q L R:=by
  obtain⟨a,e1,e2⟩:=aA3 e;refine DD.w k _ _ (L':=λH=>(S.C (opD p (bJ T im n.n p k q)) (jT p (bJ T im n.n p k q)) H a,S.y (opD p (bJ T im n.n p k q)) (jT p (bJ T im n.n p k q)) H a,S.u (opD p (bJ T im n.n p k q)) (jT p (bJ T im n.n p k q)) H a)) (R':=λH=>(S.c (opD p (bJ T im n.n p k q)) (jT p (bJ T im n.n p k q)) H a,S.y (opD p (bJ T im n.n p k q)) (jT p (bJ T im n.n p k q)) (bJ T im n.n p k q).H a,S.u (opD p (bJ T im n.n p k q)) (jT p (bJ T im n.n p k q)) (bJ T im n.n p k q).H a)) (λH hH=>?_) (h a) e2;simp only[Prod.mk.injEq] at hH;obtain⟨c1,c2,c3⟩:=hH;rw[<- c2,<- c3]
  exact S.b e1 c1
end
def adX : Option (AV×Int×Nat×Nat)->AV
  | some (.ref id path off,i,_,k) => .ref id (path++[i.toNat]) (off+i.toNat*k)
  | _=>default
def adK : Option (AV×Int×Nat×Nat)->Option (Int×Nat)
  | some (.ref ..,i,m,_)=>some (i,m)
  | _=>none
def bAr[t:TKI P T]{m:Nat}{i:Int}:BR P T n (aO i m):=
  ⟨λo e=>(dOK n.n o.dst,adK (aLg T o e)),(true,some (i,m)),λo e _=>adX (aLg T o e),λ{a o need H} ha hc=>by
    simp only[Prod.mk.injEq] at hc;obtain⟨hd,hk⟩:=hc;generalize he:aLg T o need=w at *
    match w,hk with
    | some (.ref ..,_,_,_),hk=>cases hk;exact aTb t.default.down _ _ _ ha hd he⟩
def adI : Option (AV×Int×Nat×Nat)->Option (List AV×Int×Nat)
  | some (.im (.arr _ k es),i,m,k')=>match Nat.beq k k' with | true=>some (es,i,m) | false=>none
  | _=>none
def bAi[t:TKI P T]{α:Type}(f:α->AV){m:Nat}{v:Vector α m}{i:Int}:BR P T n (idx v.toList i):=
  ⟨λo e=>(dOK n.n o.dst,adI (aLg T o e)),(true,some (v.toList.map f,i,m)),λo e a => .im (f a),λ{a o need H} ha hc=>by
    simp only[Prod.mk.injEq] at hc;obtain⟨hd,hk⟩:=hc;unfold adI at hk;split at hk
    · rename_i he;split at hk <;> cases hk;rename_i hb;obtain rfl:=Nat.eq_of_beq_eq_true hb;exact aTJ t.default.down f v ha hd he
    · cases hk⟩
def slK{α:Type}:Option (Nat×α)->Nat
  | some (k,_)=>k
  | none=>0
def slR{α:Type}:Option (Nat×α)->Option α
  | some (_,x)=>some x
  | none=>none
def bSl[t:TKI P T]{α:Type}(f:α->AV){l:List α}{lo hi:Int}:BR P T n (dM l lo hi):=
  ⟨λo e=>(dOK n.n o.dst,slR (slE T o e)),(true,some (l.map f,lo,hi)),λo e r=>eL (slK (slE T o e)) f r,λ{a o need H} ha hc=>by
    simp only[Prod.mk.injEq] at hc;obtain⟨hd,hk⟩:=hc;cases he:slE T o need with
    | none=>rw[he] at hk;cases hk
    | some w=>obtain⟨k,w⟩:=w;rw[he] at hk;cases Option.some.inj hk;exact aS2 t.default.down f ha hd he⟩
def sAI : Option (AV×Int×Int×Nat×Nat)->Option (Nat×List AV×Int×Int×Nat)
  | some (.im (.arr _ k es),lo,hi,m,k')=>match Nat.beq k k' with | true=>some (k,es,lo,hi,m) | false=>none
  | _=>none
def bSI[t:TKI P T]{α:Type}(f:α->AV){m:Nat}{v:Vector α m}{lo hi:Int}:BR P T n (dM v.toList lo hi):=
  ⟨λo e=>(dOK n.n o.dst,slR (sAI (slA T o e))),(true,some (v.toList.map f,lo,hi,m)),λo e r=>eL (slK (sAI (slA T o e))) f r,λ{a o need H} ha hc=>by
    simp only[Prod.mk.injEq] at hc;obtain⟨hd,hk⟩:=hc;generalize hs:slA T o need=w at *;unfold sAI at hk ⊢;split at hk
    · split at hk <;> cases hk;rename_i hb;obtain rfl:=Nat.eq_of_beq_eq_true hb;exact aTt t.default.down f _ ha hd hs
    · cases hk⟩
def apK(x:Option (App×Nat×Nat)):Nat:=match x with | some (a,_)=>a.k | none=>0
def bAp[t:TKI P T]{α:Type}(f:α->AV){b:Nat}{l r:List α}:BU P T n (fL b l r):=
  ⟨λo e H _=>(dOK n.n o.dst,match aLB T o e H with | some (a,x,y)=>some (a.es,a.ys,a.bytes,x,y) | none=>none),λo e H _=>(true,some (l.map f,r.map f,b,l.length,l.length*apK (aLB T o e H))),
   λo e H a=>match aLB T o e H with | some (x,_)=>eO x.id x.k f a | none=>default,
   λo e H a=>match aLB T o e H with | some (x,_)=>⟨[(x.id,.tail (a.length*x.k))],[]⟩ | none=>⟨[],[]⟩,λ{a o need H} ha hc=>by
    simp only[Prod.mk.injEq] at hc;obtain⟨hd,hk⟩:=hc;cases he:aLB T o need H with
    | none=>rw[he] at hk;cases hk
    | some w=>
      obtain⟨⟨id,k,es,ys,b'⟩,x,y⟩:=w;rw[he] at hk;simp only[Option.some.injEq,Prod.mk.injEq] at hk;obtain⟨rfl,rfl,rfl,rfl,hb⟩:=hk;change y=l.length*k at hb;subst hb;exact aTO t.default.down f ha hd he⟩
def bLd[t:TKI P T]{α:Type}(g:α->AV)(m:Nat){l:List α}{j:Nat}:BU P T n l[j]? :=
  ⟨λo e H a=>(dOK n.n o.dst,match ldE T o e H m (g a) with | some (es,i,f,_)=>some (es,i,f) | none=>none),λo e H a=>(true,some (l.map g,j,aEi o e)),λo e H a=>ldX T o e H m (g a),λ_ _ _ _=>⟨[],[]⟩,λ{a o need H} ha hc=>by
    simp only[Prod.mk.injEq] at hc;obtain⟨hd,hk⟩:=hc;refine aNg t.default.down g m ha hd ?_;unfold ldX;split at hk
    · rename_i he;simp only[Option.some.injEq,Prod.mk.injEq] at hk;obtain⟨rfl,rfl,rfl⟩:=hk;rw[he]
    · cases hk⟩
def stU(o:Oper)(need:Env)(H:List Box)(m:Nat)(es:List AV):Option (Nat×Box):=
  match o.op with
  | .store _ p _=>match opd need none p with
    | some (.ref id path _)=>match H[id]? with
      | some (.var c)=>match loc c 0 (path.take m) with
        | some (.arr N k _,_)=>match aAP c (path.take m) (.arr N k es) with
          | some c'=>some (id,.var c')
          | none=>none
        | _=>none
      | _=>none
    | _=>none
  | _=>none
theorem aSW{o:Oper}{need:Env}{H:List Box}{m:Nat}{es:List AV}{w:Nat×Box}(h:stU o need H m es=some w):stH o need H m es=some (H.set w.1 w.2):=by
  unfold stU at h;unfold stH
  repeat' (split at h <;> try cases h)
  simp[*]
def bSv[t:TKI P T]{α:Type}(g:α->AV)(m:Nat)(e':α){N:Nat}{v:Vector α N}{j:Nat}:BU P T n v.toList[j]? :=
  ⟨λo e H a=>(aBR o.dst,(match stE T o e H m (g a) with | some x=>some x | none=>none),aJp (stU o e H m ((v.setIfInBounds j e').toList.map g))),λo e _ _=>(true,some (v.toList.map g,j,aEi o e,g e'),true),λ_ _ _ _ => .v (.bool false),
   λo e H a=>match stU o e H m ((v.setIfInBounds j e').toList.map g) with | some w=>⟨[w],[]⟩ | none=>⟨[],[]⟩,λ{a o need H} ha hc=>by
    simp only[Prod.mk.injEq] at hc;obtain⟨hd,hk,hs⟩:=hc;cases hu:stU o need H m ((v.setIfInBounds j e').toList.map g) with
    | none=>rw[hu] at hs;cases hs
    | some w=>
      refine aSe t.default.down g m v ha e' hd ?_ (aSW hu)
      split at hk
      · rename_i he;rw[he,hk]
      · cases hk⟩
def bRw[t:TKI P T]:BR P T n (some ()):=
  ⟨λo e=>(dOK n.n o.dst,aJp (aR2 T o e)),(true,true),λo e _=>rowX T o e,λ{a o need H} ha hc=>by
    simp only[Prod.mk.injEq] at hc;obtain⟨hd,hk⟩:=hc;unfold rowX;cases he:aR2 T o need with
    | none=>rw[he] at hk;cases hk
    | some w=>exact aSy t.default.down hd he⟩
def shK(o:BinOp):Option (BinOp×IntKind×Int×IntKind×Int)->Option (IntKind×Int×Int)
  | some (.shr,k,a,_,b)=>match o with | .shr=>some (k,a,b) | _=>none
  | some (.shl,k,a,_,b)=>match o with | .shl=>some (k,a,b) | _=>none
  | _=>none
def bSr[t:TKI P T]{k:IntKind}{a b:Int}:BR P T n (wY k a b):=
  ⟨λo e=>(dOK n.n o.dst,shK .shr (aO5 e o)),(true,some (k,a,b)),λ_ _ z=>eI k z,λ{z o need H} hz hc=>by
    simp only[Prod.mk.injEq] at hc;obtain⟨hd,hk⟩:=hc;unfold shK at hk;split at hk
    · rename_i he;cases hk;exact aTM t.default.down hz hd he
    · cases hk
    · cases hk⟩
def bSh[t:TKI P T]{k:IntKind}{a b:Int}:BR P T n (aF1 k a b):=
  ⟨λo e=>(dOK n.n o.dst,shK .shl (aO5 e o)),(true,some (k,a,b)),λ_ _ z=>eI k z,λ{z o need H} hz hc=>by
    simp only[Prod.mk.injEq] at hc;obtain⟨hd,hk⟩:=hc;unfold shK at hk;split at hk
    · cases hk
    · rename_i he;cases hk;exact aSF t.default.down hz hd he
    · cases hk⟩
def bNt{x:Option (Int×Int)}{f:FuncId}{xs:List Value}(c:∀{a},x=some a->aIl P f xs (.tuple #[.int .u64 a.1,.int .u64 a.2])):BR P T n x:=
  ⟨λo e=>(dOK n.n o.dst,natE o e),(true,some (f,xs.map AV.v)),λ_ _ a => .tup [eI .u64 a.1,eI .u64 a.2],λ{z o need H} hz hc=>by
    simp only[Prod.mk.injEq] at hc;exact aTN (c hz) (λ_=>aTj) hc.1 hc.2⟩
def eqC(P:Program){α:Type}(f:α->AV)(m:Nat)(t:TypeId)(a b:α)(op:BinOp)(n:Nat)(o:Oper)(e:Env):=(Nat.ble m 10000,P.eqGuardType P.depth t,λa=>(f a).isAgg,λa=>fK (f a),dOK n o.dst,eqE o e op)
def bEq{t:TypeId}{α:Type}{f:α->AV}{eq:α->α->Bool}{m:Nat}(hE:EqT P t f eq m)(a b:α):BR P T n (some ()):=
  ⟨λo e=>eqC P f m t a b .eql n.n o e,(true,false,λ_=>true,λ_=>true,true,some (t,f a,f b)),λ_ _ _=>eB (eq a b),λ{z o need H} hz hc=>by
    simp only[eqC,Prod.mk.injEq] at hc;obtain⟨h1,h2,h3,h4,h5,h6⟩:=hc;exact aSQ hE a b h1 h2 (congrFun h3) (congrFun h4) h5 h6⟩
def bNe{t:TypeId}{α:Type}{f:α->AV}{eq:α->α->Bool}{m:Nat}(hE:EqT P t f eq m)(a b:α):BR P T n (some ()):=
  ⟨λo e=>eqC P f m t a b .neq n.n o e,(true,false,λ_=>true,λ_=>true,true,some (t,f a,f b)),λ_ _ _=>eB !(eq a b),λ{z o need H} hz hc=>by
    simp only[eqC,Prod.mk.injEq] at hc;obtain⟨h1,h2,h3,h4,h5,h6⟩:=hc;exact aSG hE a b h1 h2 (congrFun h3) (congrFun h4) h5 h6⟩
end
end Go.UK

