/- The own layer: abstract values, their memory, and the steps of the model over them: for any program. -/
import Derived.Test.YtmmabhkichiikaaGreatLib14
namespace Go.UK
open Go
set_option linter.all false
variable [bW]
section
variable {P:Program} {T:TypeId→Option TI} {n:Fr}
section
variable {o:Oper} {need:Env} {H:List Box} {x:AV} {id:Nat}
theorem dsR(hT:TOK P T){α:Type}(f:α->AV){k N:Nat}(l:List α)(e:(dOK n.n o.dst,aNS T o need,l.length*k,H[id]?)=(true,some (k,l.length,l.map f),N,some .dead)):Big P n o need H (.bsl id [] 0 k 0 l.length) (H.set id (.var (.arr N k (l.map f)))):=by
 simp only[Prod.mk.injEq] at e;exact aRN hT id f l e.1 e.2.1 e.2.2.1 e.2.2.2
theorem dsM(hT:TOK P T){α:Type}(f:α->AV)(z0:α){i:Int}{b k:Nat}{kd:TK}{u:Unit}(hx:mkO b i=some u)(hn:(f z0).n=k)(e:(dOK n.n o.dst,mkE T o need,H[id]?)=(true,some (i,⟨k,b,f z0,kd⟩),some .dead)):Big P n o need H (.bsl id [] 0 k 0 i.toNat) (H.set id (.var (.arr (i.toNat*k) k ((List.replicate i.toNat z0).map f)))):=by
 simp only[Prod.mk.injEq] at e;exact aUg hT id f z0 hx e.1 e.2.1 hn e.2.2
end
end
end Go.UK

open Bool renaming and_eq_true→am
open List renaming all_eq_true→ca,append_assoc→av,append_nil→fq,cons_append→du,getElem?_append_left→bd,map_cons→gr,mem_append→ba,mem_cons→fe,mem_of_getElem?→az,range→bl
open Nat renaming beq→au,blt→jg,eq_of_beq_eq_true→ag,le_refl→ay
namespace Go.UK
open Go
set_option linter.all false
variable [bW]
structure EU where
 u:List (Nat×Box)
 new:List Box
abbrev EF:=List (Nat×EU)
def aEn{α β:Type}(f:α->β):List α->List β
 | []=>[]
 | x :: r=>f x :: aEn f r
def aEv{α β:Type}(f:α->β):List α->List β
 | []=>[]
 | x :: r=>f x :: aEv f r
theorem aQK{α β:Type}(f:α->β):∀l:List α,aEn f l=l.map f
 | []=>rfl
 | x :: r=>by simp only[aEn,gr,aQK f r]
theorem aPd{α β:Type}(f:α->β):∀l:List α,aEv f l=l.map f
 | []=>rfl
 | x :: r=>by simp only[aEv,gr,aPd f r]
theorem aQE{α β:Type}{f g:α->β}{l:List α}(h:aEn f l=aEv g l):∀x∈l,f x=g x:=List.map_inj_left.1 (by rw[<- aQK,<- aPd,h])
def apU(H:List Box)(e:EU):List Box:=match e.new with | []=>aSN H e.u | b :: r=>aSN H e.u++(b :: r)
def aB0(i:Nat):EF->Option EU
 | []=>none
 | (c,u) :: r=>match au c i with | true=>some u | false=>aB0 i r
def fOn : List Box->EF->Array Bool->List Box
 | H,[],_=>H
 | H,(i,u) :: r,listed=>match listed.getD i false with | true=>fOn (apU H u) r listed | false=>fOn H r listed
def aNW : List Box->EF->List Box
 | H,[]=>H
 | H,(_,u) :: r=>aNW (apU H u) r
def prs(C:List (List Nat))(i:Nat):List Box->List Box->EF->List (List Box×List Box)
 | H,K,[]=>[(H,K)]
 | H,K,(c,u) :: r=>match au c i with
  | true=>prs C i H (apU K u) r
  | false=>match inC C c i with
   | true=>prs C i H K r
   | false=>match inC C i c with
    | true=>prs C i (apU H u) (apU K u) r
    | false=>prs C i H K r++prs C i (apU H u) (apU K u) r
def aCC(ops:Array Oper)(C:List (List Nat))(ms:List MI)(es:EF)(B:Env):Bool:=
 au ms.length ops.size&&(
 aEt ops.size (λi=>(dir ops i).all λj=>jg j i)&&(
 aEt ops.size (λi=>dEq ((ops[i]?).bind (·.dst)) (dAt ms i))&&(
 aEt ops.size (λj=>aEt j λi => !aEE (dAt ms i) (dAt ms j))&&(
 (aFK ms B&&aS8 C ms ops.size)&&es.all (λq=>jg q.1 ops.size)))))
section
variable {P:Program} {T:TypeId→Option TI} {n:Fr} {ops:Array Oper}
def aSp(P:Program)(n:Fr)(ops:Array Oper)(C:List (List Nat))(ms:List MI)(es:EF)(B:Env)(H:List Box)(i:Nat):Prop:=
 ∀o x env,ops[i]? = some o->ms[i]? = some x->Sub (iB C ms B i) env->∀q∈prs C i H H es,opS P n ops o ⟨env,q.1⟩ ⟨x.put env,q.2⟩
theorem aEV{C:List (List Nat)}{listed:Array Bool}{i:Nat}(hi:i < listed.size)(hcl:∀s,inC C i s=true->lF listed s)(hni:∀c,inC C c i=true->¬lF listed c)(hu:¬lF listed i):∀(H K:List Box) (es:EF),(fOn H es listed,fOn K es (listed.setIfInBounds i true))∈prs C i H K es
 | H,K,[]=>by simp[fOn,prs]
 | H,K,(c,x) :: r=>by
  unfold fOn prs;have hon:∀c,lF listed c↔listed.getD c false=true:=λ_=>Iff.rfl;cases h0:au c i with
  | true=>
   have e:=ag h0;subst e;have h1:(listed.setIfInBounds c true).getD c false=true:=(aAG hi).2 (.inl rfl)
   have h2:listed.getD c false=false:=by cases hg:listed.getD c false with | true=>exact absurd hg hu | false=>rfl
   rw[h1,h2]
   exact aEV hi hcl hni hu H _ r
  | false=>
   have hne:i≠c:=λe=>by subst e;simp at h0
   rw[yC false hne]
   cases h1:inC C c i with
   | true=>
    have hn:=hni c h1;unfold lF at hn;cases hg:listed.getD c false with
    | true=>exact absurd hg hn
    | false=>exact aEV hi hcl hni hu H K r
   | false=>
    cases h2:inC C i c with
    | true=>
     have:=hcl c h2;unfold lF at this;rw[this]
     exact aEV hi hcl hni hu _ _ r
    | false=>
     cases hg:listed.getD c false with
     | true=>exact ba.2 (.inr (aEV hi hcl hni hu _ _ r))
     | false=>exact ba.2 (.inl (aEV hi hcl hni hu H K r))
theorem aPq{listed:Array Bool}:∀(H:List Box) (es:EF),(∀q∈es,listed.getD q.1 false=true)->fOn H es listed=aNW H es
 | H,[],_=>rfl
 | H,(c,x) :: r,h=>by
  unfold fOn aNW;rw[h (c,x) (by simp)]
  exact aPq _ r (λq hq=>h q (by simp[hq]))
theorem aMo{listed:Array Bool}(h:∀i,¬lF listed i):∀(H:List Box) (es:EF),fOn H es listed=H
 | H,[]=>rfl
 | H,(c,x) :: r=>by
  unfold fOn;split
  ·rename_i hon;exact absurd hon (h c)
  ·exact aMo h H r
theorem aFL{C:List (List Nat)}{i:Nat}:∀(H:List Box) (es:EF),aB0 i es=none->∀q∈prs C i H H es,q.2=q.1
 | H,[],_,q,hq=>by
  have:q=(H,H):=by simpa[prs] using hq
  rw[this]
 | H,(c,u) :: r,h,q,hq=>by
  unfold aB0 at h;unfold prs at hq;split at h
  ·cases h
  ·rename_i hb;rw[hb] at hq;dsimp only at hq;split at hq
   ·exact aFL H r h q hq
   ·split at hq
    ·exact aFL _ r h q hq
    ·rcases ba.1 hq with h' | h'
     ·exact aFL _ r h q h'
     ·exact aFL _ r h q h'
theorem aV4{C:List (List Nat)}(hC:C=uT ops){ms:List MI}{es:EF}{B:Env}{H:List Box}{ctx:Mem}{Q:Exit->Act->World->Prop}(hok:aCC ops C ms es B=true)(hst:∀i,i < ops.size->aSp P n ops C ms es B H i)
  (hk:∀a w env,Sat n ctx ⟨env,aNW H es⟩ a w->(∀k v,cC B k=some (none,v)->(∀x∈ms,aDP x.d k=false)->cC env k=some (none,v))->(∀(j:Nat) (x:MI) d v,ms[j]? = some x->x.d=some d->x.e=some v->cC env d=some (none,v))->Q .normal a w) :
  ∀(fuel:Nat) (listed:Array Bool) (a:Act) (w:World) (env:Env),listed.size=ops.size->Down ops listed->(∀i,lF listed i->i < ops.size)->uc listed ops.size<=fuel ->
  Sat n ctx ⟨env,fOn H es listed⟩ a w->(∀k v,cC B k=some (none,v)->(∀(j:Nat) x,ms[j]? = some x->lF listed j->aDP x.d k=false)->cC env k=some (none,v))->(∀(j:Nat) (x:MI) d v,ms[j]? = some x->lF listed j->x.d=some d->x.e=some v->cC env d=some (none,v))->wpAnyIn n.F 0 P .any ops Q fuel listed a w:=by
 simp only[aCC,am] at hok;obtain⟨h1,h2,h3,h4,⟨h5,h5k⟩,h7⟩:=hok;have hsz:=ag h1;have hcs:∀q∈es,q.1 < ops.size:=λq hq=>by
  have h8:Nat.ble (q.1+1) ops.size=true:=ca.1 h7 q hq;have:=Nat.le_of_ble_eq_true h8;omega
 have done:∀(listed:Array Bool) (a:Act) (w:World) (env:Env),(∀i,i < ops.size->lF listed i)->Sat n ctx ⟨env,fOn H es listed⟩ a w->(∀k v,cC B k=some (none,v)->(∀(j:Nat) x,ms[j]? = some x->lF listed j->aDP x.d k=false)->cC env k=some (none,v)) ->
   (∀(j:Nat) (x:MI) d v,ms[j]? = some x->lF listed j->x.d=some d->x.e=some v->cC env d=some (none,v))->Q .normal a w:=by
  intro listed a w env hall hsat hB hE;rw[aPq H es (λq hq=>hall q.1 (hcs q hq))] at hsat;exact hk a w env hsat (λk v hb hl=>hB k v hb λj x hx _=>hl x (az hx)) (λj x d v hx=>hE j x d v hx (hall j (by have:=aZ hx;omega)))
 have nothing:∀(listed:Array Bool),(∀i,i < ops.size->lF listed i)->Region.ready .any ops listed=[]:=by
  intro listed hall;refine List.eq_nil_iff_forall_not_mem.2 λi hi=>?_;obtain⟨r1,r2,_⟩:=aC5 hi;exact aLh r1 (hall i r2)
 intro fuel
 induction fuel with
 | zero=>
  intro listed a w env hs hd hm hc hsat hB hE;have hall:∀i,i < ops.size->lF listed i:=aMD ops.size (by omega)
  exact⟨nothing listed hall,done listed a w env hall hsat hB hE⟩
 | succ fuel ih=>
  intro listed a w env hs hd hm hc hsat hB hE;refine⟨λh0=>?_,λi hi=>?_⟩
  ·refine done listed a w env (λj hj=>?_) hsat hB hE;apply Classical.byContradiction;intro hn;obtain⟨i,hi⟩:=aJ3 hs h2 j hj hn;rw[h0] at hi;cases hi
  ·obtain⟨r1,r2,r3⟩:=aC5 hi;have hu:=aLh r1;have hcl:∀s,inC C i s=true->lF listed s:=λs hs'=>aHB hd i _ r3 s (aGQ hC hs')
   have hni:∀c,inC C c i=true->¬lF listed c:=λc hc' hon=>hu (aHB hd c _ (hd c hon) i (aGQ hC hc'))
   have him:i < ms.length:=by omega
   have ho:ops[i]? = some ops[i]:=Array.getElem?_eq_getElem r2;have hx:ms[i]? = some ms[i]:=List.getElem?_eq_getElem him;have hBf:∀i e,cC B i=some e->e.1=none:=λi e h=>aAe h5 h;have hsub:Sub (iB C ms B i) env:=by
    intro k e hl;unfold iB at hl;rw[hx] at hl;dsimp only at hl;have hkm:k∈ms[i].keys:=aDH (f:=λk=>aAr C ms B i k i) hl;have hord:∀(j:Nat) x,ms[j]? = some x->lF listed j->aDP x.d k=true->inC C i j=true/\j < i:=by
     intro j x hjx hon hdh;rcases aJr h5k r2 (hm j hon) hx hjx hkm hdh with h' | h' | h'
     ·exact h'
     ·exact absurd hon (hni j h')
     ·subst h';exact absurd hon hu
    refine aLn (on:=lF listed) hcl (λv hb hl=>hB k v hb hl) hBf (λj x d v hjx hj hd' he=>hE j x d v hjx hj hd' he) (λj x hjx hon hdh=>(hord j x hjx hon hdh).1) i ?_ (aJF (f:=λk=>aAr C ms B i k i) hl)
    intro j x hij hjx hon;cases hc:aDP x.d k with
    | false=>rfl
    | true=>have:=(hord j x hjx hon hc).2;omega
   have hstab:=hst i r2 ops[i] ms[i] env ho hx hsub;have hdst:(ops[i]).dst=ms[i].d:=by
    have:=kE h3 i r2;rw[ho] at this;simp only[Option.bind_some,dAt,hx] at this;generalize (ops[i]).dst=u at *;generalize ms[i].d=v at *;cases u <;> cases v <;> simp[dEq] at this ⊢;exact this
   have hops:opS P n ops ops[i] ⟨env,fOn H es listed⟩ ⟨ms[i].put env,fOn H es (listed.setIfInBounds i true)⟩:=hstab _ (aEV (by omega) hcl hni hu H H es)
   have hstep:=hops ctx a w Q hsat;rw[aPS ho]
   have next:∀a' w',Sat n ctx ⟨ms[i].put env,fOn H es (listed.setIfInBounds i true)⟩ a' w'->wpAnyIn n.F 0 P .any ops Q fuel (listed.setIfInBounds i true) a' w':=by
    intro a' w' hs';refine ih _ a' w' _ (by simpa using hs) ?_ ?_ ?_ hs' ?_ ?_
    ·intro p hp j hj;rw[aAG (by omega)] at hp ⊢;rcases hp with hp | hp
     ·subst hp;exact .inr (r3 j hj)
     ·exact .inr (hd p hp j hj)
    ·intro p hp;rw[aAG (by omega)] at hp;rcases hp with hp | hp
     ·subst hp;exact r2
     ·exact hm p hp
    ·have:=aO5 (k:=ops.size) (show i < listed.size by omega) (by
      cases hc':listed.getD i false with
      | false=>rfl
      | true=>exact absurd hc' hu) r2
     omega
    ·intro k v hke hno;exact aB7 (hno i _ hx ((aAG (by omega)).2 (.inl rfl))) (hB k v hke λj x hjx hon=>hno j x hjx ((aAG (by omega)).2 (.inr hon)))
    ·intro j x d v hjx hj hdx hex;rw[aAG (by omega)] at hj;by_cases hji:j=i
     ·subst hji;rw[hx] at hjx;cases hjx;exact aHc hdx hex
     ·have hjo:=hj.resolve_left hji;refine aB7 ?_ (hE j x d v hjx hjo hdx hex)
      have hjm:=aZ hjx;have hcl':aEE ms[i].d x.d=false:=by
       have hi':dAt ms i=ms[i].d:=by unfold dAt;rw[hx]
       have hj':dAt ms j=x.d:=by unfold dAt;rw[hjx]
       rw[<- hi',<- hj']
       rcases Nat.lt_trichotomy i j with hlt | hlt | hlt
       ·have:=kE (kE h4 j (by omega)) i hlt;simpa using this
       ·exact absurd hlt.symm hji
       ·have:=kE (kE h4 i r2) j hlt;have h9:aEE (dAt ms j) (dAt ms i)=false:=by simpa using this
        generalize dAt ms i=u at *;generalize dAt ms j=v at *;cases u <;> cases v <;> first | rfl | (simp only[aEE] at h9 ⊢;rw[aKn];exact h9)
      rw[hdx] at hcl';cases hdi:ms[i].d with
      | none=>rfl
      | some di=>rw[hdi] at hcl';exact hcl'
   split
   ·rename_i hw;rw[if_pos hw] at hstep;exact Oper.wpIn_mono next hstep
   ·rename_i hw;rw[if_neg hw] at hstep;exact⟨λ_ _=>trivial,next _ _ hstep⟩
theorem aQT{id:Nat}{l:List Oper}{Q:Exit->ASt->Prop}{st:ASt}(hm:P.follows .mixedOrders=true){ms:List MI}{es:EF}
  (hok:aCC l.toArray (uT l.toArray) ms es st.env=true) (hst:∀i,i < l.toArray.size->aSp P n l.toArray (uT l.toArray) ms es st.env st.H i)
  (hk:Q .normal ⟨aD6 ms st.env,aNW st.H es⟩):aw P n (.region id l.toArray true) Q st:=by
 intro ctx a w hs;refine wpIn_region_any hm ?_;obtain⟨bs,hmm⟩:=hs;have hdrew:Sat n ctx st a { w with drawn:=w.drawn+1 }:=by
  have hl:eD w w.drew:=eD.drew w;exact⟨bs,{ h:=rfl,ok:=OK.later hl hmm.ok,ext:=hmm.ext.trans (Ext.later hl),env:=hmm.env.ext (Ext.later hl),size:=hmm.size,low:=hmm.low,defers:=wQ.ext hmm.ok (Ext.later hl) hmm.defers,nod:=hmm.nod,outs:=λp hp=>(hmm.outs p hp).ext (Ext.later hl) }⟩
 have hl0:∀i,¬lF (Array.replicate l.toArray.size false) i:=by
  intro i h;unfold lF at h;rw[Array.getD_eq_getD_getElem?] at h;rw[Array.getElem?_replicate] at h;split at h <;> simp at h
 have hb5:aFK ms st.env=true:=by
  simp only[aCC,am] at hok;exact hok.2.2.2.2.1.1
 have hlen:ms.length=l.toArray.size:=by
  simp only[aCC,am] at hok;exact ag hok.1
 refine aV4 rfl (ctx:=ctx) hok hst ?_ _ _ _ _ st.env (by simp) (λi h=>absurd h (hl0 i)) (λi h=>absurd h (hl0 i)) ?_ ?_ (λ_ _ h _=>h) (λj x d v _ h=>absurd h (hl0 j))
 ·intro a w env hs hB hE;refine⟨_,hk,aGH (st:=⟨env,aNW st.H es⟩) (λi e h=>aGc (λi e h=>aAe hb5 h) (λv=>hB i v) (λx hx d v hd he=>?_) e h) hs⟩
  obtain⟨j,hj⟩:=List.getElem?_of_mem hx;exact hE j x d v hj hd he
 ·have:∀k,uc (Array.replicate l.toArray.size false) k<=k:=by
   intro k
   induction k with
   | zero=>exact ay _
   | succ k ih=>unfold uc;split <;> omega
  exact this _
 ·rw[aMo hl0]
  exact hdrew
end
def aL9(H:List Box)(p x:AV):Option (Nat×Box):=
 match p with
 | .ref id path o=>match H[id]? with
  | some (.var c)=>match loc c 0 path with
   | some (x0,o')=>match au o' o&&au x0.n x.n with
    | true=>match aC1 c path x with
     | some c'=>some (id,.var c')
     | none=>none
    | false=>none
   | none=>none
  | _=>none
 | _=>none
theorem aLj{H:List Box}{p x:AV}{q:Nat×Box}(h:aL9 H p x=some q):aAV H p x=some (H.set q.1 q.2):=by
 unfold aL9 at h;split at h <;> try cases h
 rename_i id path o;split at h <;> try cases h
 rename_i c hc;split at h <;> try cases h
 rename_i x0 o' hl;split at h <;> try cases h
 rename_i hb;split at h <;> cases h;rename_i c' hs;simp[aAV,hc,hl,hb,hs]
def notNw(o:Oper):Bool:=match o.op with | .alloc _=>false | .box _ _=>false | _=>true
def newQ(T:TypeId->Option TI)(o:Oper)(need:Env):Option AV:=match allE T o with | some x=>some x | none=>boxE o need
def plQ(T:TypeId->Option TI)(im:Bool)(n:Nat)(o:Oper)(need:Env)(H:List Box)(nx:Nat):Option (AV×EU):=
 match o.op with
 | .store t p v=>match o.dst with
  | some _=>none
  | none=>match opd need none p,opd need none v,T t with
   | some q,some x,some i=>match au x.n i.size&&iF x with
    | true=>match aL9 H q x with
     | some u=>some (.v (.bool false),⟨[u],[]⟩)
     | none=>none
    | false=>none
   | _,_,_=>none
 | .pick _ _ _=>match plU T im n o need H with | some (x,_)=>some (x,⟨[],[]⟩) | none=>none
 | _=>match dOK n o.dst with
  | true=>match im||notNw o with
   | true=>match ev T im (opd need none) H o with | some (x,none)=>some (x,⟨[],[]⟩) | _=>none
   | false=>match newQ T o need with
    | some z=>match H[nx]? with
     | some .dead=>some (.ref nx [] 0,⟨[(nx,.var z)],[]⟩)
     | _=>match ev T im (opd need none) H o with | some (x,some b)=>some (x,⟨[],[b]⟩) | _=>none
    | _=>none
  | false=>none
section
variable {P:Program} {T:TypeId→Option TI} {n:Fr}
theorem aPV(hT:TOK P T){im:Bool}{o:Oper}{need:Env}{H:List Box}{nx:Nat}{x:AV}{u:EU}(h:plQ T im n.n o need H nx=some (x,u)):Big P n o need H x (apU H u):=by
 unfold plQ at h;split at h
 ·rename_i t p v ho;split at h <;> try cases h
  rename_i hd;split at h <;> try cases h
  rename_i q y i hq hy hi;split at h <;> try cases h
  rename_i hb;split at h <;> cases h;rename_i w hw;refine aID (im:=im) hT ?_;simp only[plU,hd,dOK,ho,hq,hy,hi,hb,aLj hw]
  rfl
 ·rename_i c y z ho;split at h <;> cases h;rename_i H' h;have e:H'=H:=by
   unfold plU at h;split at h <;> try cases h
   rw[ho] at h;cases c <;> dsimp only at h
   case tmp c=>
    split at h <;> try cases h
    split at h <;> (split at h <;> cases h;rfl)
   all_goals (split at h <;> try cases h) <;> (rename_i hv;unfold ev at hv;rw[ho] at hv;cases hv)
  subst e;exact aID hT h
 ·split at h <;> try cases h
  rename_i hd;split at h
  ·split at h <;> cases h;rename_i hv;exact aOz hT hd hv
  ·split at h <;> try cases h
   rename_i z hz;split at h
   ·cases h;rename_i hx;unfold newQ at hz;split at hz
    ·rename_i ha;cases hz;exact aO6 hT nx hd ha hx
    ·exact aSD nx hd hz hx
   ·split at h <;> cases h;rename_i hv;exact aOz hT hd hv
end
structure DQ where
 i:Nat
 ms:List MI
 es:EF
 H:List Box
 nx:Nat
 gs:List Nat
def aMj(l:List Oper)(C:List (List Nat))(B:Env)(q:DQ):Env:=(aAm l (sK l q.i)).map λk=>(k,aAr C q.ms B q.i k q.i)
def nxU(nx:Nat)(u:List (Nat×Box)):Nat:=u.foldl (λm e=>match jg e.1 m with | true=>m | false=>e.1+1) nx
def aE9(l:List Oper)(q:DQ)(x:AV)(u:EU)(gs:List Nat):DQ:=
 ⟨q.i+1,q.ms++[⟨aAm l (sK l q.i),(sK l q.i).dst,some x⟩],match u with | ⟨[],[]⟩=>q.es | u=>q.es++[(q.i,u)],apU q.H u,nxU q.nx u.u,gs⟩
def dpl(T:TypeId->Option TI)(im:Nat->Bool)(n:Nat)(l:List Oper)(C:List (List Nat))(B:Env)(q:DQ):DQ:=
 match aDh l (sK l q.i) (aMj l C B q) with
 | true=>aE9 l q (.tup []) ⟨[],[]⟩ q.gs
 | false=>match plQ T (aQx im (sK l q.i)) n (sK l q.i) (aMj l C B q) q.H q.nx with
  | some (x,u)=>aE9 l q x u q.gs
  | none=>q
def aRx(T:TypeId->Option TI)(im:Nat->Bool)(n:Nat)(l:List Oper)(C:List (List Nat))(B:Env):Nat->DQ->DQ
 | 0,q=>q
 | k+1,q=>aRx T im n l C B k (dpl T im n l C B q)
def uAt(i:Nat)(es:EF):EU:=match aB0 i es with | some u=>u | none=>⟨[],[]⟩
def nxOf(H:List Box):List (Nat×Box)->Nat
 | []=>H.length
 | (id,_) :: _=>id
def chkB(l:List Oper)(C:List (List Nat))(B:Env)(q:DQ)(i:Nat):Bool:=
 match aDh l (sK l i) (iB C q.ms B i) with
 | true=>aIO (eAt q.ms i)&&aD8 (aB0 i q.es) && !(q.gs.any (au i))
 | false=>gOK l.toArray (sK l i) (iB C q.ms B i)&&aMT (eAt q.ms i)
def chkL(T:TypeId->Option TI)(im:Nat->Bool)(n:Nat)(l:List Oper)(C:List (List Nat))(B:Env)(H0:List Box)(q:DQ)(i:Nat):List (Option (AV×EU)×List Box):=
 match aDh l (sK l i) (iB C q.ms B i)||q.gs.any (au i) with
 | true=>[]
 | false=>aEn (λH=>(plQ T (aQx im (sK l i)) n (sK l i) (iB C q.ms B i) H.1 (nxOf H.1 (uAt i q.es).u),apU H.1 (uAt i q.es))) (prs C i H0 H0 q.es)
def chkR(l:List Oper)(C:List (List Nat))(B:Env)(H0:List Box)(q:DQ)(i:Nat):List (Option (AV×EU)×List Box):=
 match aDh l (sK l i) (iB C q.ms B i)||q.gs.any (au i) with
 | true=>[]
 | false=>aEv (λH=>(some ((eAt q.ms i).getD default,uAt i q.es),H.2)) (prs C i H0 H0 q.es)
def OB(P:Program)(n:Fr)(l:List Oper)(C:List (List Nat))(B:Env)(H0:List Box)(ms:List MI)(es:EF)(i:Nat):Prop:=
 ∃x,eAt ms i=some x/\∀q∈prs C i H0 H0 es,Big P n (sK l i) (iB C ms B i) q.1 x q.2
section
variable {P:Program} {T:TypeId→Option TI} {im:Nat→Bool} {n:Fr} {l:List Oper} {C:List (List Nat)} {B:Env} {H0:List Box}
theorem stabQ(hT:TOK P T){q:DQ}{i:Nat}(hi:i < l.toArray.size)(hB:aCC l.toArray C q.ms q.es B=true)(hdb:chkB l C B q i=true)(hde:chkL T im n.n l C B H0 q i=chkR l C B H0 q i)(hdst:l.all (λo=>dOK n.n o.dst)=true)
  (hg:∀g∈q.gs,OB P n l C B H0 q.ms q.es g):aSp P n l.toArray C q.ms q.es B H0 i:=by
 obtain⟨_,ms,es,_,_,gs⟩:=q;dsimp only at *;intro o x env ho hx hs H' hH';obtain⟨H',K'⟩:=H';dsimp only;have hlo:l[i]? = some o:=by simpa using ho
 have ho':sK l i=o:=by unfold sK;rw[hlo];rfl
 have hdo:dOK n.n o.dst=true:=ca.1 hdst o (az hlo)
 have hxd:x.d=o.dst:=by
  simp only[aCC,am] at hB;have:=kE hB.2.2.1 i hi;rw[ho] at this;simp only[Option.bind_some,dAt,hx] at this;generalize o.dst=u at *;generalize x.d=v at *;cases u <;> cases v <;> simp[dEq] at this ⊢;exact this.symm
 have hex:eAt ms i=x.e:=by unfold eAt;rw[hx]
 unfold chkB at hdb;unfold chkL chkR at hde;simp only[ho',hex] at hdb hde;have fin:∀(v:AV),x.e=some v->gOK l.toArray o (iB C ms B i)=true->Big P n o (iB C ms B i) H' v K'->opS P n l.toArray o ⟨env,H'⟩ ⟨x.put env,K'⟩:=by
  intro v hv hg hb;have:=aPp hs hg hb;unfold MI.put;rw[hv,hxd]
  cases hd:o.dst with
  | none=>rw[hd] at this;exact this
  | some d=>rw[hd] at this;exact this
 cases hdead:aDh l o (iB C ms B i) with
 | true=>
  rw[hdead] at hdb;simp only[am] at hdb;have hnc:aB0 i es=none:=by cases hc:aB0 i es with | none=>rfl | some _=>rw[hc] at hdb;cases hdb.1.2
  have hne:x.e=some (.tup []):=aFp hdb.1.1;have:=aM4 (P:=P) (n:=n) (H:=H') ho hs hdead hdo;have e:K'=H':=aFL _ _ hnc _ hH';subst e;unfold MI.put;rw[hne,hxd]
  exact this
 | false=>
  rw[hdead] at hdb hde;simp only[am,Bool.false_or] at hdb hde;obtain⟨hg',hsome⟩:=hdb;obtain⟨v,hv⟩:∃v,x.e=some v:=by cases hc:x.e with | none=>rw[hc] at hsome;cases hsome | some v=>exact⟨v,rfl⟩
  cases hgs:gs.any (au i) with
  | true=>
   obtain⟨g,hg1,hg2⟩:=List.any_eq_true.1 hgs;have e:=ag hg2;subst e;obtain⟨y,h1,h2⟩:=hg i hg1;rw[hex,hv] at h1;cases h1;have:=h2 _ hH';rw[ho'] at this;exact fin v hv hg' this
  | false=>
   rw[hgs,hv] at hde;simp only[Option.getD_some] at hde;have:=aQE hde _ hH';simp only[Prod.mk.injEq] at this;have hb:=aPV hT this.1;rw[this.2] at hb;exact fin v hv hg' hb
def DX(q:DQ)(ms:List MI)(es:EF):Prop:=∃xs ys,ms=q.ms++xs/\es=q.es++ys/\∀y∈ys,q.i<=y.1
def DV(q:DQ):Prop:=q.i=q.ms.length/\∀e∈q.es,e.1 < q.i
theorem aEf{ms xs:List MI}{i k:Nat}:∀{j:Nat},j<=ms.length->aAr C (ms++xs) B i k j=aAr C ms B i k j
 | 0,_=>rfl
 | j+1,h=>by
  unfold aAr;rw[bd (by omega),aEf (j:=j) (by omega)]
theorem aOT{ms xs:List MI}{x:MI}:iB C (ms++x :: xs) B ms.length=x.keys.map λk=>(k,aAr C ms B ms.length k ms.length):=by
 unfold iB;rw[List.getElem?_append_right (ay _),Nat.sub_self]
 dsimp only[List.getElem?_cons_zero]
 congr 1;funext k;rw[aEf (ay _)]
theorem aQj{ms xs ys:List MI}{g:Nat}(h:g < ms.length):iB C (ms++xs) B g=iB C (ms++ys) B g:=by
 unfold iB;rw[bd h,bd h]
 cases ms[g]? with
 | none=>rfl
 | some x=>dsimp only;congr 1;funext k;rw[aEf (by omega),aEf (by omega)]
theorem aVw{ms xs ys:List MI}{g:Nat}(h:g < ms.length):eAt (ms++xs) g=eAt (ms++ys) g:=by
 unfold eAt;rw[bd h,bd h]
theorem aGM{i:Nat}:∀{es ys:EF},aB0 i (es++ys)=match aB0 i es with | some u=>some u | none=>aB0 i ys
 | [],ys=>rfl
 | (c,u) :: es,ys=>by
  simp only[du,aB0]
  cases au c i with
  | true=>rfl
  | false=>exact aGM
theorem aEd{i:Nat}:∀{es:EF},(∀e∈es,e.1≠i)->aB0 i es=none
 | [],_=>rfl
 | (c,u) :: es,h=>by
  unfold aB0;rw[rY (h (c,u) (by simp))]
  exact aEd λe he=>h e (by simp[he])
theorem aLS{q:DQ}{x:AV}{u:EU}{gs:List Nat}:(u=⟨[],[]⟩/\(aE9 l q x u gs).es=q.es)\/(u≠⟨[],[]⟩/\(aE9 l q x u gs).es=q.es++[(q.i,u)]):=by
 unfold aE9;dsimp only;split
 ·exact .inl ⟨rfl,rfl⟩
 ·rename_i h;exact .inr ⟨h,rfl⟩
theorem aQG{q:DQ}{x:AV}{u:EU}{gs:List Nat}(h:DV q):DV (aE9 l q x u gs):=by
 refine⟨by simp[aE9,h.1],λe he=>?_⟩
 show e.1 < q.i+1;rcases aLS (l:=l) (q:=q) (x:=x) (u:=u) (gs:=gs) with ⟨_,h1⟩ | ⟨_,h1⟩
 ·rw[h1] at he;have:=h.2 e he;omega
 ·rw[h1] at he;rcases ba.1 he with h' | h'
  ·have:=h.2 e h';omega
  ·have:e=(q.i,u):=by simpa using h'
   subst this;dsimp only;omega
theorem aPE{q:DQ}{x:AV}{u:EU}{gs:List Nat}{ms:List MI}{es:EF}(h:DX (aE9 l q x u gs) ms es):DX q ms es:=by
 obtain⟨xs,ys,h1,h2,h3⟩:=h;have h3:∀y∈ys,q.i+1<=y.1:=h3;rcases aLS (l:=l) (q:=q) (x:=x) (u:=u) (gs:=gs) with ⟨_,g⟩ | ⟨_,g⟩
 ·rw[g] at h2;exact⟨_,ys,h1.trans (av ..),h2,λy hy=>by have:=h3 y hy;omega⟩
 ·rw[g] at h2;exact⟨_,(q.i,u) :: ys,h1.trans (av ..),h2.trans (by simp),λy hy=>by
   rcases fe.1 hy with e | e
   ·subst e;exact ay _
   ·have:=h3 y e;omega⟩
theorem aUq{q:DQ}{x:AV}{u:EU}{gs:List Nat}{ms:List MI}{es:EF}(hv:DV q)(h:DX (aE9 l q x u gs) ms es):uAt q.i es=u/\(u=⟨[],[]⟩->aB0 q.i es=none)/\eAt ms q.i=some x/\iB C ms B q.i=aMj l C B q:=by
 obtain⟨xs,ys,h1,h2,h3⟩:=h;have h3:∀y∈ys,q.i+1<=y.1:=h3;have e0:aB0 q.i q.es=none:=aEd λe he e'=>by have:=hv.2 e he;omega
 have e1:aB0 q.i ys=none:=aEd λe he e'=>by have:=h3 e he;omega
 have e2:(u=⟨[],[]⟩/\aB0 q.i es=none)\/(u≠⟨[],[]⟩/\aB0 q.i es=some u):=by
  rcases aLS (l:=l) (q:=q) (x:=x) (u:=u) (gs:=gs) with ⟨g0,g⟩ | ⟨g0,g⟩
  ·refine .inl ⟨g0,?_⟩;rw[h2,g,aGM,e0];exact e1
  ·refine .inr ⟨g0,?_⟩;rw[h2,g,av,aGM,e0];simp[aB0]
 refine⟨?_,λhu=>?_,?_,?_⟩
 ·unfold uAt;rcases e2 with ⟨g,e⟩ | ⟨_,e⟩
  ·rw[e,g]
  ·rw[e]
 ·rcases e2 with ⟨_,e⟩ | ⟨e,_⟩
  ·exact e
  ·exact absurd hu e
 ·unfold eAt;have h1:ms=(q.ms++[⟨aAm l (sK l q.i),(sK l q.i).dst,some x⟩])++xs:=h1;rw[h1,hv.1]
  simp
 ·have h1:ms=(q.ms++[⟨aAm l (sK l q.i),(sK l q.i).dst,some x⟩])++xs:=h1;rw[h1,av,hv.1]
  show iB C (q.ms++(_ :: xs)) B q.ms.length=_;rw[aOT]
  unfold aMj;rw[hv.1]
theorem dplV{q:DQ}(h:DV q):DV (dpl T im n.n l C B q):=by
 unfold dpl;split
 ·exact aQG h
 ·split
  ·exact aQG h
  ·exact h
theorem dplX{q:DQ}{ms:List MI}{es:EF}(h:DX (dpl T im n.n l C B q) ms es):DX q ms es:=by
 unfold dpl at h;split at h
 ·exact aPE h
 ·split at h
  ·exact aPE h
  ·exact h
theorem dplG{q:DQ}:(dpl T im n.n l C B q).gs=q.gs:=by
 unfold dpl;split
 ·rfl
 ·split <;> rfl
theorem advV : ∀{k:Nat} {q:DQ},DV q->DV (aRx T im n.n l C B k q)
 | 0,_,h=>h
 | k+1,_,h=>advV (k:=k) (dplV h)
theorem advX : ∀{k:Nat} {q:DQ} {ms:List MI} {es:EF},DX (aRx T im n.n l C B k q) ms es->DX q ms es
 | 0,_,_,_,h=>h
 | k+1,_,_,_,h=>dplX (advX (k:=k) h)
theorem advG : ∀{k:Nat} {q:DQ},(aRx T im n.n l C B k q).gs=q.gs
 | 0,_=>rfl
 | k+1,_=>(advG (k:=k)).trans dplG
end
def dH(p:Pt)(m:List Bool):List Box:=fV p++aL4 m
def dCl(p:Pt):List (List Nat):=uT (lPt p).toArray
def dEn(p:Pt):Env:=aHU (wG p)
def cX(T:TypeId->Option TI)(im:Nat->Bool)(n:Nat)(p:Pt)(k:Nat)(q:DQ):DQ:=aRx T im n (lPt p) (dCl p) (dEn p) k q
def opD(p:Pt)(q:DQ):Oper:=sK (lPt p) q.i
def wZ(p:Pt)(q:DQ):Env:=aMj (lPt p) (dCl p) (dEn p) q
def aCq(p:Pt)(q:DQ)(x:AV)(u:EU):DQ:=aE9 (lPt p) q x u (q.i :: q.gs)
def stD(p:Pt)(m:List Bool)(i:Nat)(es:EF):List (List Box×List Box):=prs (dCl p) i (dH p m) (dH p m) es
def aMn(q:DQ):Option AV:=match q.ms.getLast? with | some x=>x.e | none=>none
def aGY : List MI->Option AV->List MI
 | [],_=>[]
 | [x],e=>[⟨x.keys,x.d,e⟩]
 | x :: r,e=>x :: aGY r e
def aLC(q:DQ)(b:Bool)(gs:List Nat):DQ:={ q with ms:=aGY q.ms (some (.v (.bool b))),gs:=gs }
section
variable {P:Program} {T:TypeId→Option TI} {im:Nat→Bool} {n:Fr} {Q:Exit→ASt→Prop} {p:Pt} {m:List Bool} {q:DQ} {τ:Type} {L R:EF→τ}
def DD(P:Program)(T:TypeId->Option TI)(im:Nat->Bool)(n:Fr)(Q:Exit->ASt->Prop)(p:Pt)(m:List Bool)(q:DQ){τ:Type}(L R:EF->τ):Prop:=
 DV q->(∀ms es,DX q ms es->L es=R es->∀g∈q.gs,OB P n (lPt p) (dCl p) (dEn p) (dH p m) ms es g)->At P T im n Q p
theorem DD.a(k:Nat)(h:DD P T im n Q p m (cX T im n.n p k q) L R):DD P T im n Q p m q L R:=
 λhv ho=>h (advV hv) λms es hx e g hg=>ho ms es (advX hx) e g (by rw[show(cX T im n.n p k q).gs=q.gs from advG] at hg;exact hg)
theorem At.D{p:Pt}(k:Nat)(m:List Bool){π:Prop}(h:π->DD P T im n Q (Go.UK.adv T im [] n.n k p) m ⟨0,[],[],dH (Go.UK.adv T im [] n.n k p) m,(fV (Go.UK.adv T im [] n.n k p)).length,[]⟩ (λ_=>()) (λ_=>()))(e0:π):At P T im n Q p:=
 At.adv k (h e0 ⟨rfl,λ_ h=>by cases h⟩ λ_ _ _ _ g hg=>by cases hg)
theorem DD.o(k:Nat){π:Prop}{y:AV}(b:∀H,Big P n (opD p (cX T im n.n p k q)) (wZ p (cX T im n.n p k q)) H y H)(h:π->DD P T im n Q p m (aCq p (cX T im n.n p k q) y ⟨[],[]⟩) L R)(e:π):DD P T im n Q p m q L R:=by
 refine DD.a k ?_;generalize cX T im n.n p k q=q at *;intro hv ho;refine h e (aQG hv) λms es hx hl g hg=>?_;rcases fe.1 hg with e1 | e1
 ·subst e1;obtain⟨_,h1,h2,h3⟩:=aUq (C:=dCl p) (B:=dEn p) hv hx;refine⟨y,h2,λH hH=>?_⟩
  rw[h3,aFL _ _ (h1 rfl) H hH]
  exact b H.1
 ·exact ho ms es (aPE hx) hl g e1
theorem DD.b{α β:Type}{x:Option α}{f:α->Option β}{r:β}(k:Nat){y:α->AV}(b:∀{a},x=some a->∀H,Big P n (opD p (cX T im n.n p k q)) (wZ p (cX T im n.n p k q)) H (y a) H)
  (h:∀a,f a=some r->DD P T im n Q p m (aCq p (cX T im n.n p k q) (y a) ⟨[],[]⟩) L R) (e:Option.bind x f=some r):DD P T im n Q p m q L R:=by
 obtain⟨a,e1,e2⟩:=aD1 e;exact DD.o k (b e1) (h a) e2
theorem DD.w(k:Nat){π:Prop}{σ:Type}(y:AV)(u:EU){L' R':List Box->σ}(b:∀H,L' H=R' H->Big P n (opD p (cX T im n.n p k q)) (wZ p (cX T im n.n p k q)) H y (apU H u))
  (h:π->DD P T im n Q p m (aCq p (cX T im n.n p k q) y u) (λes=>(L es,aEn (λH=>(L' H.1,apU H.1 u)) (stD p m (cX T im n.n p k q).i es))) (λes=>(R es,aEv (λH=>(R' H.1,H.2)) (stD p m (cX T im n.n p k q).i es)))) (e:π):DD P T im n Q p m q L R:=by
 refine DD.a k ?_;generalize cX T im n.n p k q=q at *;intro hv ho;refine h e (aQG hv) λms es hx hl g hg=>?_;simp only[Prod.mk.injEq] at hl;rcases fe.1 hg with e1 | e1
 ·subst e1;obtain⟨_,_,h2,h3⟩:=aUq (C:=dCl p) (B:=dEn p) hv hx;refine⟨y,h2,λH hH=>?_⟩
  have he:=aQE hl.2 H hH;simp only[Prod.mk.injEq] at he;rw[h3,<- he.2]
  exact b H.1 he.1
 ·exact ho ms es (aPE hx) hl.1 g e1
theorem aHe : ∀{ms:List MI} {x:MI} {e:Option AV},aGY (ms++[x]) e=ms++[⟨x.keys,x.d,e⟩]
 | [],_,_=>rfl
 | [a],_,_=>rfl
 | a :: b :: ms,x,e=>by
  have:=aHe (ms:=b :: ms) (x:=x) (e:=e)
  simp only[du] at this ⊢;rw[aGY,this]
  simp
theorem aJE{q:DQ}{v:AV}(h:aMn q=some v):∃ms x,q.ms=ms++[x]/\x.e=some v:=by
 unfold aMn at h;split at h
 ·rename_i x hx;obtain⟨ms,e⟩:=List.getLast?_eq_some_iff.1 hx;exact⟨ms,x,e,h⟩
 ·cases h
theorem aN8{q:DQ}{b:Bool}(h:aMn q=some (.v (.bool b)))(gs:List Nat):aLC q b gs={ q with gs:=gs }:=by
 obtain⟨ms0,x,hm,hx⟩:=aJE h;have e:aGY q.ms (some (.v (.bool b)))=q.ms:=by rw[hm,aHe,<- hx]
 unfold aLC;rw[e]
theorem DD.g{α:Type}{b:Bool}{px py:Option α}{r:α}(k:Nat)(h1:px=some r->DD P T im n Q p m (aLC (cX T im n.n p k q) true (cX T im n.n p k q).gs) L R)(h2:py=some r->DD P T im n Q p m (aLC (cX T im n.n p k q) false (cX T im n.n p k q).gs) L R)
  (hb:aMn (cX T im n.n p k q)=some (.v (.bool b)):=by kernel_rfl) (e:cond b px py=some r):DD P T im n Q p m q L R:=by
 refine DD.a k ?_;generalize cX T im n.n p k q=q at *;cases b with
 | true=>have h:=h1 e;rwa[aN8 hb] at h
 | false=>have h:=h2 e;rwa[aN8 hb] at h
def pl1(T:TypeId->Option TI)(im:Nat->Bool)(n:Nat)(p:Pt)(q:DQ)(H:List Box×List Box):Option (AV×EU):=
 plQ T (aQx im (sK (lPt p) (q.i - 1))) n (sK (lPt p) (q.i - 1)) (iB (dCl p) q.ms (dEn p) (q.i - 1)) H.1 0
theorem DD.s(hT:TOK P T){α:Type}{b:Bool}{px py:Option α}{r:α}(k:Nat)
  (h1:px=some r->DD P T im n Q p m (aLC (cX T im n.n p k q) true (((cX T im n.n p k q).i - 1) :: (cX T im n.n p k q).gs)) (λes=>(L es,aEn (pl1 T im n.n p (cX T im n.n p k q)) (stD p m ((cX T im n.n p k q).i - 1) es))) (λes=>(R es,aEv (λ_=>some (.v (.bool b),⟨[],[]⟩)) (stD p m ((cX T im n.n p k q).i - 1) es))))
  (h2:py=some r->DD P T im n Q p m (aLC (cX T im n.n p k q) false (((cX T im n.n p k q).i - 1) :: (cX T im n.n p k q).gs)) (λes=>(L es,aEn (pl1 T im n.n p (cX T im n.n p k q)) (stD p m ((cX T im n.n p k q).i - 1) es))) (λes=>(R es,aEv (λ_=>some (.v (.bool b),⟨[],[]⟩)) (stD p m ((cX T im n.n p k q).i - 1) es))))
  (hb:(aMn (cX T im n.n p k q),aD8 (aB0 ((cX T im n.n p k q).i - 1) (cX T im n.n p k q).es))=(some (.v (.bool b)),true):=by kernel_rfl) (e:cond b px py=some r):DD P T im n Q p m q L R:=by
 refine DD.a k ?_;generalize cX T im n.n p k q=q at *;simp only[Prod.mk.injEq] at hb;obtain⟨hb,hu⟩:=hb;obtain⟨ms0,x,hm,hx⟩:=aJE hb;have key:DD P T im n Q p m (aLC q b ((q.i - 1) :: q.gs)) (λes=>(L es,aEn (pl1 T im n.n p q) (stD p m (q.i - 1) es))) (λes=>(R es,aEv (λ_=>some (.v (.bool b),⟨[],[]⟩)) (stD p m (q.i - 1) es))):=by
  cases b with
  | true=>exact h1 e
  | false=>exact h2 e
 rw[aN8 hb] at key;intro hv ho;have hl:q.i=ms0.length+1:=by rw[hv.1,hm];simp
 refine key hv λms es hX hE g hg=>?_;simp only[Prod.mk.injEq] at hE;rcases fe.1 hg with e1 | e1
 ·subst e1;obtain⟨xs,ys,g1,g2,g3⟩:=hX;dsimp only at g1 g2 g3;have hlt:q.i - 1 < q.ms.length:=by have:=hv.1;omega
  refine⟨.v (.bool b),?_,λH hH=>?_⟩
  ·have:=aVw (ms:=q.ms) (xs:=xs) (ys:=[]) hlt;rw[<- g1,fq] at this;rw[this]
   unfold eAt;rw[hm,show q.i - 1=ms0.length by omega]
   simp[hx]
  ·have e2:aB0 (q.i - 1) es=none:=by
    rw[g2,aGM]
    cases hc:aB0 (q.i - 1) q.es with
    | some u=>rw[hc] at hu;cases hu
    | none=>exact aEd λe he e'=>by have:=g3 e he;omega
   have e3:iB (dCl p) ms (dEn p) (q.i - 1)=iB (dCl p) q.ms (dEn p) (q.i - 1):=by
    have:=aQj (C:=dCl p) (B:=dEn p) (ms:=q.ms) (xs:=xs) (ys:=[]) hlt;rw[<- g1,fq] at this;exact this
   rw[e3,aFL _ _ e2 H hH]
   exact aPV hT (aQE hE.2 H hH)
 ·exact ho ms es hX hE.1 g e1
theorem DD.e(hT:TOK P T)(hm:P.follows .mixedOrders=true)(k:Nat){π:Prop}(h:π->At P T im n Q (aBy (aLd p) ⟨aD6 (cX T im n.n p k q).ms (dEn p),aNW (dH p m) (cX T im n.n p k q).es⟩))
  (hB:(aSn p,aCC (lPt p).toArray (dCl p) (cX T im n.n p k q).ms (cX T im n.n p k q).es (dEn p),aEt (lPt p).toArray.size (chkB (lPt p) (dCl p) (dEn p) (cX T im n.n p k q)),(lPt p).all (λo=>dOK n.n o.dst))=(true,true,true,true):=by kernel_rfl)
  (hE:(L (cX T im n.n p k q).es,aEn (chkL T im n.n (lPt p) (dCl p) (dEn p) (dH p m) (cX T im n.n p k q)) (bl (lPt p).toArray.size))=(R (cX T im n.n p k q).es,aEv (chkR (lPt p) (dCl p) (dEn p) (dH p m) (cX T im n.n p k q)) (bl (lPt p).toArray.size)):=by kernel_rfl) (e0:π):DD P T im n Q p m q L R:=by
 have h:=h e0;refine DD.a k ?_;generalize cX T im n.n p k q=q at *;intro hv ho;simp only[Prod.mk.injEq] at hB hE;obtain⟨b1,b2,b3,b4⟩:=hB;obtain⟨id,arr,ks,st,rfl⟩:=aK8 b1;intro hT' hm';have hob:=ho q.ms q.es ⟨[],[],by simp,by simp,λ_ h=>by cases h⟩ hE.1;have:=aQT (l:=arr.toList) (id:=id) (st:=⟨aHU st.env,st.H++aL4 m⟩) (Q:=λe s=>e = .normal/\s=⟨aD6 q.ms (aHU st.env),aNW (st.H++aL4 m) q.es⟩) hm b2
  (λi hi=>stabQ (T:=T) (im:=im) hT hi b2 (kE b3 i hi) (aQE hE.2 i (List.mem_range.2 hi)) b4 hob) ⟨rfl,rfl⟩
 intro ctx a w hs;refine wpIn_mono (this ctx a w (aI7 m (aPe (l:=[]) hs))) ?_;rintro e a' w' ⟨s,⟨rfl,rfl⟩,h2⟩
 exact⟨_,At.popN hT' hm' h,h2⟩
end
end Go.UK

open Option renaming bind→aa
namespace Go.UK
open Go
set_option linter.all false
variable [bW]
theorem aJo : ∀(σ:List Nat) (H xs:List Box),oV H σ xs=aSN H (σ.zip xs)
 | [],H,xs=>by cases xs <;> rfl
 | s :: σ,H,[]=>rfl
 | s :: σ,H,x :: xs=>aJo σ (H.set s x) xs
def euC(σ:List Nat)(m:Nat)(H':List Box):EU:=⟨σ.zip ((H'.take σ.length).map (jD (rn σ m))),(H'.drop σ.length).map (jD (rn σ m))⟩
theorem aSE(H:List Box)(e:EU):apU H e=aSN H e.u++e.new:=by
 obtain⟨u,new⟩:=e;cases new with
 | nil=>simp[apU]
 | cons b r=>rfl
theorem aPc{σ:List Nat}{H H':List Box}:cU H σ H'=apU H (euC σ H.length H'):=by
 rw[aSE]
 unfold cU euC;rw[aJo]
section
variable {P:Program} {T:TypeId→Option TI} {im:Nat→Bool} {n:Fr} {Q:Exit→ASt→Prop} {p:Pt}
theorem At.y{α β:Type}{x:Option α}{f:α->Option β}{r:β}(k:Nat){fid:FuncId}{args:List AV}{ret:α->AV}(c:∀{a},x=some a->FnM P fid [] args (ret a) [])
  (h:∀a,f a=some r->At P T im n Q (aHR (Go.UK.adv T im [] n.n k p) (ret a) (fV (Go.UK.adv T im [] n.n k p))))
  (hc:(aNQ (Go.UK.adv T im [] n.n k p),lA P fid,aB5 n (aDn (Go.UK.adv T im [] n.n k p)) (fV (Go.UK.adv T im [] n.n k p)) [] [] args,aB9 (aDn (Go.UK.adv T im [] n.n k p)) (wG (Go.UK.adv T im [] n.n k p)) (fV (Go.UK.adv T im [] n.n k p)) [] [] args,λa=>ren (rn [] (fV (Go.UK.adv T im [] n.n k p)).length) (ret a))
   = (true,true,true,(some (fid,renL (rn [] (fV (Go.UK.adv T im [] n.n k p)).length) args),[]),ret):=by kernel_rfl) (e:aa x f=some r):At P T im n Q p:=by
 simp only[Prod.mk.injEq] at hc;obtain⟨c1,c2,c3,c4,c5⟩:=hc;exact At.b k (λa ha=>aMJ (c ha) c2 c3 c4 (congrFun c5 a)) h c1 e
theorem At.Y{α β:Type}{x:Option α}{f:α->Option β}{r:β}(k:Nat)(σ:List Nat){fid:FuncId}{Hc:List Box}{args:List AV}{ret:α->AV}{Hc':α->List Box}(c:∀{a},x=some a->FnM P fid Hc args (ret a) (Hc' a))
  (h:∀a,f a=some r->At P T im n Q (aHR (Go.UK.adv T im [] n.n k p) (ren (rn σ (fV (Go.UK.adv T im [] n.n k p)).length) (ret a)) (cU (fV (Go.UK.adv T im [] n.n k p)) σ (Hc' a))))
  (hc:(aNQ (Go.UK.adv T im [] n.n k p),lA P fid,aB5 n (aDn (Go.UK.adv T im [] n.n k p)) (fV (Go.UK.adv T im [] n.n k p)) σ Hc args,aB9 (aDn (Go.UK.adv T im [] n.n k p)) (wG (Go.UK.adv T im [] n.n k p)) (fV (Go.UK.adv T im [] n.n k p)) σ Hc args)
   = (true,true,true,(some (fid,renL (rn σ (fV (Go.UK.adv T im [] n.n k p)).length) args),Hc.map (jD (rn σ (fV (Go.UK.adv T im [] n.n k p)).length)))):=by kernel_rfl) (e:aa x f=some r):At P T im n Q p:=by
 simp only[Prod.mk.injEq] at hc;obtain⟨c1,c2,c3,c4⟩:=hc;exact At.b k (λa ha=>rI σ (c ha) c2 c3 c4) h c1 e
theorem At.i(hT:TOK P T){β γ:Type}{l:List γ}{i:Int}{f:γ->Option β}{r:β}(k:Nat)(F:γ->AV)(h:∀a,f a=some r->At P T im n Q (aHR (Go.UK.adv T im [] n.n k p) (.im (F a)) (fV (Go.UK.adv T im [] n.n k p))))
  (hc:(aNQ (Go.UK.adv T im [] n.n k p),dOK n.n (aDn (Go.UK.adv T im [] n.n k p)).dst,idxE T (aDn (Go.UK.adv T im [] n.n k p)) (wG (Go.UK.adv T im [] n.n k p)))=(true,true,some (l.map F,i)):=by kernel_rfl) (e:aa (idx l i) f=some r):At P T im n Q p:=by
 simp only[Prod.mk.injEq] at hc;exact At.b k (λa ha=>aPP hT F ha hc.2.1 hc.2.2) h hc.1 e
section
variable {m:List Bool} {q:DQ} {τ:Type} {L R:EF→τ}
theorem DD.y{α β:Type}{x:Option α}{f:α->Option β}{r:β}(k:Nat){fid:FuncId}{args:List AV}{ret:α->AV}(c:∀{a},x=some a->FnM P fid [] args (ret a) [])
  (h:∀a,f a=some r->DD P T im n Q p m (aCq p (cX T im n.n p k q) (ret a) ⟨[],[]⟩) L R)
  (hc:(λH:List Box=>(lA P fid,aB5 n (opD p (cX T im n.n p k q)) H [] [] args,aB9 (opD p (cX T im n.n p k q)) (wZ p (cX T im n.n p k q)) H [] [] args,λa=>ren (rn [] H.length) (ret a)))
   = (λH=>(true,true,(some (fid,renL (rn [] H.length) args),[]),ret)):=by kernel_rfl) (e:aa x f=some r):DD P T im n Q p m q L R:=by
 refine DD.b k (λ{a} ha H=>?_) h e;have:=congrFun hc H;simp only[Prod.mk.injEq] at this;obtain⟨c2,c3,c4,c5⟩:=this;exact aMJ (c ha) c2 c3 c4 (congrFun c5 a)
theorem DD.Yo{π:Prop}(k:Nat)(σ:List Nat){fid:FuncId}{Hc:List Box}{args:List AV}{ret:AV}{Hc':List Box}(c:FnM P fid Hc args ret Hc')
  (h:π->DD P T im n Q p m (aCq p (cX T im n.n p k q) (ren (rn σ 0) ret) (euC σ 0 Hc'))
   (λes=>(L es,aEn (λH=>((lA P fid,aB5 n (opD p (cX T im n.n p k q)) H.1 σ Hc args,aB9 (opD p (cX T im n.n p k q)) (wZ p (cX T im n.n p k q)) H.1 σ Hc args,ren (rn σ H.1.length) ret,euC σ H.1.length Hc'),apU H.1 (euC σ 0 Hc'))) (stD p m (cX T im n.n p k q).i es)))
   (λes=>(R es,aEv (λH=>((true,true,(some (fid,renL (rn σ H.1.length) args),Hc.map (jD (rn σ H.1.length))),ren (rn σ 0) ret,euC σ 0 Hc'),H.2)) (stD p m (cX T im n.n p k q).i es)))) (e:π):DD P T im n Q p m q L R:=by
 refine DD.w k _ _ (L':=λH=>(lA P fid,aB5 n (opD p (cX T im n.n p k q)) H σ Hc args,aB9 (opD p (cX T im n.n p k q)) (wZ p (cX T im n.n p k q)) H σ Hc args,ren (rn σ H.length) ret,euC σ H.length Hc')) (R':=λH=>(true,true,(some (fid,renL (rn σ H.length) args),Hc.map (jD (rn σ H.length))),ren (rn σ 0) ret,euC σ 0 Hc')) (λH hH=>?_) h e;simp only[Prod.mk.injEq] at hH;obtain⟨c2,c3,c4,c5,c6⟩:=hH;rw[<- c5,<- c6,<- aPc]
 exact rI σ c c2 c3 c4
theorem DD.Y{α β:Type}{x:Option α}{f:α->Option β}{r:β}(k:Nat)(σ:List Nat){fid:FuncId}{Hc:List Box}{args:List AV}{ret:α->AV}{Hc':α->List Box}(c:∀{a},x=some a->FnM P fid Hc args (ret a) (Hc' a))
  (h:∀a,f a=some r->DD P T im n Q p m (aCq p (cX T im n.n p k q) (ren (rn σ 0) (ret a)) (euC σ 0 (Hc' a)))
   (λes=>(L es,aEn (λH=>((lA P fid,aB5 n (opD p (cX T im n.n p k q)) H.1 σ Hc args,aB9 (opD p (cX T im n.n p k q)) (wZ p (cX T im n.n p k q)) H.1 σ Hc args,ren (rn σ H.1.length) (ret a),euC σ H.1.length (Hc' a)),apU H.1 (euC σ 0 (Hc' a)))) (stD p m (cX T im n.n p k q).i es)))
   (λes=>(R es,aEv (λH=>((true,true,(some (fid,renL (rn σ H.1.length) args),Hc.map (jD (rn σ H.1.length))),ren (rn σ 0) (ret a),euC σ 0 (Hc' a)),H.2)) (stD p m (cX T im n.n p k q).i es)))) (e:aa x f=some r):DD P T im n Q p m q L R:=by
 obtain⟨a,e1,e2⟩:=aD1 e;exact DD.Yo k σ (c e1) (h a) e2
theorem DD.Zo{π:Prop}(k:Nat)(σ:List Nat)(w:Nat){fid:FuncId}{Hc:List Box}{args:List AV}{ret:AV}{Hc':List Box}(c:FnM P fid Hc args ret Hc')
  (h:π->DD P T im n Q p m (aCq p (cX T im n.n p k q) (ren (rn σ w) ret) (euC σ w Hc'))
   (λes=>(L es,aEn (λH=>((lA P fid,aB5 n (opD p (cX T im n.n p k q)) H.1 σ Hc args,aB9 (opD p (cX T im n.n p k q)) (wZ p (cX T im n.n p k q)) H.1 σ Hc args,H.1.length),apU H.1 (euC σ w Hc'))) (stD p m (cX T im n.n p k q).i es)))
   (λes=>(R es,aEv (λH=>((true,true,(some (fid,renL (rn σ w) args),Hc.map (jD (rn σ w))),w),H.2)) (stD p m (cX T im n.n p k q).i es)))) (e:π):DD P T im n Q p m q L R:=by
 refine DD.w k _ _ (L':=λH=>(lA P fid,aB5 n (opD p (cX T im n.n p k q)) H σ Hc args,aB9 (opD p (cX T im n.n p k q)) (wZ p (cX T im n.n p k q)) H σ Hc args,H.length)) (R':=λ_=>(true,true,(some (fid,renL (rn σ w) args),Hc.map (jD (rn σ w))),w)) (λH hH=>?_) h e;simp only[Prod.mk.injEq] at hH;obtain⟨c2,c3,c4,c5⟩:=hH;rw[<- c5] at c4 ⊢;rw[<- aPc]
 exact rI σ c c2 c3 c4
theorem DD.Z{α β:Type}{x:Option α}{f:α->Option β}{r:β}(k:Nat)(σ:List Nat)(w:Nat){fid:FuncId}{Hc:List Box}{args:List AV}{ret:α->AV}{Hc':α->List Box}(c:∀{a},x=some a->FnM P fid Hc args (ret a) (Hc' a))
  (h:∀a,f a=some r->DD P T im n Q p m (aCq p (cX T im n.n p k q) (ren (rn σ w) (ret a)) (euC σ w (Hc' a)))
   (λes=>(L es,aEn (λH=>((lA P fid,aB5 n (opD p (cX T im n.n p k q)) H.1 σ Hc args,aB9 (opD p (cX T im n.n p k q)) (wZ p (cX T im n.n p k q)) H.1 σ Hc args,H.1.length),apU H.1 (euC σ w (Hc' a)))) (stD p m (cX T im n.n p k q).i es)))
   (λes=>(R es,aEv (λH=>((true,true,(some (fid,renL (rn σ w) args),Hc.map (jD (rn σ w))),w),H.2)) (stD p m (cX T im n.n p k q).i es)))) (e:aa x f=some r):DD P T im n Q p m q L R:=by
 obtain⟨a,e1,e2⟩:=aD1 e;exact DD.Zo k σ w (c e1) (h a) e2
theorem DD.N{π:Prop}(k w:Nat)(y:Nat->AV)(new:List Box)(b:∀H,Big P n (opD p (cX T im n.n p k q)) (wZ p (cX T im n.n p k q)) H (y H.length) (H++new))
  (h:π->DD P T im n Q p m (aCq p (cX T im n.n p k q) (y w) ⟨[],new⟩)
   (λes=>(L es,aEn (λH=>(H.1.length,apU H.1 ⟨[],new⟩)) (stD p m (cX T im n.n p k q).i es))) (λes=>(R es,aEv (λH=>(w,H.2)) (stD p m (cX T im n.n p k q).i es)))) (e:π):DD P T im n Q p m q L R:=by
 refine DD.w k _ ⟨[],new⟩ (L':=λH=>H.length) (R':=λ_=>w) (λH hH=>?_) h e;rw[aSE,<- hH]
 exact b H
theorem pj1{α β:Type}{a b:α}{c d:β}(e:(a,c)=(b,d)):a=b:=congrArg Prod.fst e
theorem pj2{α β:Type}{a b:α}{c d:β}(e:(a,c)=(b,d)):c=d:=congrArg Prod.snd e
theorem DD.i(hT:TOK P T){β γ:Type}{l:List γ}{i:Int}{f:γ->Option β}{r:β}(k:Nat)(F:γ->AV)(h:∀a,f a=some r->DD P T im n Q p m (aCq p (cX T im n.n p k q) (.im (F a)) ⟨[],[]⟩) L R)
  (hc:(dOK n.n (opD p (cX T im n.n p k q)).dst,idxE T (opD p (cX T im n.n p k q)) (wZ p (cX T im n.n p k q)))=(true,some (l.map F,i)):=by kernel_rfl) (e:aa (idx l i) f=some r):DD P T im n Q p m q L R:=by
 simp only[Prod.mk.injEq] at hc;exact DD.b k (λha H=>aPP hT F ha hc.1 hc.2) h e
theorem DD.l(hT:TOK P T){α β:Type}(k:Nat)(y g:α->AV)(j0:Nat){l:List α}{j:Nat}{f:α->Option β}{r:β}
  (h:∀a,f a=some r->DD P T im n Q p m (aCq p (cX T im n.n p k q) (y a) ⟨[],[]⟩) (λes=>(L es,aEn (λH=>((dOK n.n (opD p (cX T im n.n p k q)).dst,ldE T (opD p (cX T im n.n p k q)) (wZ p (cX T im n.n p k q)) H.1 j0 (g a),ldX T (opD p (cX T im n.n p k q)) (wZ p (cX T im n.n p k q)) H.1 j0 (g a)),apU H.1 ⟨[],[]⟩)) (stD p m (cX T im n.n p k q).i es)))
   (λes=>(R es,aEv (λH=>((true,some (l.map g,j,aJV (opD p (cX T im n.n p k q)) (wZ p (cX T im n.n p k q)),y a),y a),H.2)) (stD p m (cX T im n.n p k q).i es)))) (e:aa l[j]? f=some r):DD P T im n Q p m q L R:=by
 obtain⟨a,e1,e2⟩:=aD1 e;refine DD.w k (y a) ⟨[],[]⟩ (L':=λH=>(dOK n.n (opD p (cX T im n.n p k q)).dst,ldE T (opD p (cX T im n.n p k q)) (wZ p (cX T im n.n p k q)) H j0 (g a),ldX T (opD p (cX T im n.n p k q)) (wZ p (cX T im n.n p k q)) H j0 (g a)))
  (R':=λ_=>(true,some (l.map g,j,aJV (opD p (cX T im n.n p k q)) (wZ p (cX T im n.n p k q)),y a),y a)) (λH hH=>?_) (h a) e2
 simp only[Prod.mk.injEq] at hH;obtain⟨h1,h2,h3⟩:=hH;have:=qG (P:=P) (n:=n) hT g j0 e1 (o:=opD p (cX T im n.n p k q)) (need:=wZ p (cX T im n.n p k q)) (H:=H) h1 (by rw[h2,h3])
 rwa[h3] at this
end
def CU0{α:Type}(f:Nat->α)(k:Nat)(_:Unit):α:=f k
def cu2{α0 α1 β:Type}(f:α0->α1->β):α0×α1->β
 | (x0,x1)=>f x0 x1
def CU2{α0 α1 β:Type}(f:Nat->α0->α1->β)(k:Nat):α0×α1->β
 | (x0,x1)=>f k x0 x1
def cu3{α0 α1 α2 β:Type}(f:α0->α1->α2->β):α0×α1×α2->β
 | (x0,x1,x2)=>f x0 x1 x2
def CU3{α0 α1 α2 β:Type}(f:Nat->α0->α1->α2->β)(k:Nat):α0×α1×α2->β
 | (x0,x1,x2)=>f k x0 x1 x2
def cu4{α0 α1 α2 α3 β:Type}(f:α0->α1->α2->α3->β):α0×α1×α2×α3->β
 | (x0,x1,x2,x3)=>f x0 x1 x2 x3
def CU4{α0 α1 α2 α3 β:Type}(f:Nat->α0->α1->α2->α3->β)(k:Nat):α0×α1×α2×α3->β
 | (x0,x1,x2,x3)=>f k x0 x1 x2 x3
def cu5{α0 α1 α2 α3 α4 β:Type}(f:α0->α1->α2->α3->α4->β):α0×α1×α2×α3×α4->β
 | (x0,x1,x2,x3,x4)=>f x0 x1 x2 x3 x4
def CU5{α0 α1 α2 α3 α4 β:Type}(f:Nat->α0->α1->α2->α3->α4->β)(k:Nat):α0×α1×α2×α3×α4->β
 | (x0,x1,x2,x3,x4)=>f k x0 x1 x2 x3 x4
def cu6{α0 α1 α2 α3 α4 α5 β:Type}(f:α0->α1->α2->α3->α4->α5->β):α0×α1×α2×α3×α4×α5->β
 | (x0,x1,x2,x3,x4,x5)=>f x0 x1 x2 x3 x4 x5
def CU6{α0 α1 α2 α3 α4 α5 β:Type}(f:Nat->α0->α1->α2->α3->α4->α5->β)(k:Nat):α0×α1×α2×α3×α4×α5->β
 | (x0,x1,x2,x3,x4,x5)=>f k x0 x1 x2 x3 x4 x5
def cu7{α0 α1 α2 α3 α4 α5 α6 β:Type}(f:α0->α1->α2->α3->α4->α5->α6->β):α0×α1×α2×α3×α4×α5×α6->β
 | (x0,x1,x2,x3,x4,x5,x6)=>f x0 x1 x2 x3 x4 x5 x6
def CU7{α0 α1 α2 α3 α4 α5 α6 β:Type}(f:Nat->α0->α1->α2->α3->α4->α5->α6->β)(k:Nat):α0×α1×α2×α3×α4×α5×α6->β
 | (x0,x1,x2,x3,x4,x5,x6)=>f k x0 x1 x2 x3 x4 x5 x6
def cu9{α0 α1 α2 α3 α4 α5 α6 α7 α8 β:Type}(f:α0->α1->α2->α3->α4->α5->α6->α7->α8->β):α0×α1×α2×α3×α4×α5×α6×α7×α8->β
 | (x0,x1,x2,x3,x4,x5,x6,x7,x8)=>f x0 x1 x2 x3 x4 x5 x6 x7 x8
def CU9{α0 α1 α2 α3 α4 α5 α6 α7 α8 β:Type}(f:Nat->α0->α1->α2->α3->α4->α5->α6->α7->α8->β)(k:Nat):α0×α1×α2×α3×α4×α5×α6×α7×α8->β
 | (x0,x1,x2,x3,x4,x5,x6,x7,x8)=>f k x0 x1 x2 x3 x4 x5 x6 x7 x8
theorem un2{α0 α1:Type}{P:α0×α1->Prop}(h:∀x0 x1,P (x0,x1))(s:α0×α1):P s:=h s.1 s.2
theorem un3{α0 α1 α2:Type}{P:α0×α1×α2->Prop}(h:∀x0 x1 x2,P (x0,x1,x2))(s:α0×α1×α2):P s:=h s.1 s.2.1 s.2.2
theorem un4{α0 α1 α2 α3:Type}{P:α0×α1×α2×α3->Prop}(h:∀x0 x1 x2 x3,P (x0,x1,x2,x3))(s:α0×α1×α2×α3):P s:=h s.1 s.2.1 s.2.2.1 s.2.2.2
theorem un5{α0 α1 α2 α3 α4:Type}{P:α0×α1×α2×α3×α4->Prop}(h:∀x0 x1 x2 x3 x4,P (x0,x1,x2,x3,x4))(s:α0×α1×α2×α3×α4):P s:=h s.1 s.2.1 s.2.2.1 s.2.2.2.1 s.2.2.2.2
theorem un6{α0 α1 α2 α3 α4 α5:Type}{P:α0×α1×α2×α3×α4×α5->Prop}(h:∀x0 x1 x2 x3 x4 x5,P (x0,x1,x2,x3,x4,x5))(s:α0×α1×α2×α3×α4×α5):P s:=h s.1 s.2.1 s.2.2.1 s.2.2.2.1 s.2.2.2.2.1 s.2.2.2.2.2
theorem un7{α0 α1 α2 α3 α4 α5 α6:Type}{P:α0×α1×α2×α3×α4×α5×α6->Prop}(h:∀x0 x1 x2 x3 x4 x5 x6,P (x0,x1,x2,x3,x4,x5,x6))(s:α0×α1×α2×α3×α4×α5×α6):P s:=h s.1 s.2.1 s.2.2.1 s.2.2.2.1 s.2.2.2.2.1 s.2.2.2.2.2.1 s.2.2.2.2.2.2
theorem un9{α0 α1 α2 α3 α4 α5 α6 α7 α8:Type}{P:α0×α1×α2×α3×α4×α5×α6×α7×α8->Prop}(h:∀x0 x1 x2 x3 x4 x5 x6 x7 x8,P (x0,x1,x2,x3,x4,x5,x6,x7,x8))(s:α0×α1×α2×α3×α4×α5×α6×α7×α8):P s:=h s.1 s.2.1 s.2.2.1 s.2.2.2.1 s.2.2.2.2.1 s.2.2.2.2.2.1 s.2.2.2.2.2.2.1 s.2.2.2.2.2.2.2.1 s.2.2.2.2.2.2.2.2
abbrev USt:=List (Nat×AV)×List (Nat×Box)×List Box
def LQ{S α:Type}(n:Fr)(g:Nat->S->Option α)(v:S->ASt)(x:α)(j:Nat)(s:ASt):Prop:=∃s',g j s'=some x/\JR n (v s') s
theorem At.M{S α ρ:Type}{X:Option α}{F:α->Option ρ}{r:ρ}(k:Nat)(ks:List Nat)(m:Nat)(t:α->USt)(ks1:List Nat)(m1:Nat)(g:Nat->S->Option α)(v:S->USt)(s0:S)(N:Nat)
  (h:∀x j s,g (j+1) s=some x->At P T im n (tn (λs'=>∃i,i < j+1/\LQ n g (λs=>upS (dG (Go.UK.adv T im [] n.n k p)) ks1 (v s).1 m1 (v s).2.1 (v s).2.2) x i s') (inB (aTJ (Go.UK.adv T im [] n.n k p)) (tn (Go.UK.JR n (upS (dG (Go.UK.adv T im [] n.n k p)) ks (t x).1 m (t x).2.1 (t x).2.2)) (kQ P n Q (pS 1 (Go.UK.adv T im [] n.n k p))))))
   (.code (aNU (Go.UK.adv T im [] n.n k p)) [] (upS (dG (Go.UK.adv T im [] n.n k p)) ks1 (v s).1 m1 (v s).2.1 (v s).2.2)))
  (hy:∀x,F x=some r->At P T im n Q (Go.UK.aBy (pS 1 (Go.UK.adv T im [] n.n k p)) (upS (dG (Go.UK.adv T im [] n.n k p)) ks (t x).1 m (t x).2.1 (t x).2.2)))
  (hX:X=g N s0:=by exact rfl) (hz:∀s,g 0 s=none:=by intro _;rfl)
  (hi:(aQw (Go.UK.adv T im [] n.n k p),cOK n (dG (Go.UK.adv T im [] n.n k p)) (upS (dG (Go.UK.adv T im [] n.n k p)) ks1 (v s0).1 m1 (v s0).2.1 (v s0).2.2),cSt (dG (Go.UK.adv T im [] n.n k p)) (upS (dG (Go.UK.adv T im [] n.n k p)) ks1 (v s0).1 m1 (v s0).2.1 (v s0).2.2))=(true,true,upS (dG (Go.UK.adv T im [] n.n k p)) ks1 (v s0).1 m1 (v s0).2.1 (v s0).2.2):=by kernel_rfl)
  (e:aa X F=some r):At P T im n Q p:=by
 simp only[Prod.mk.injEq] at hi;refine At.l k _ (λx J j s=>LQ n g (λs=>upS (dG (Go.UK.adv T im [] n.n k p)) ks1 (v s).1 m1 (v s).2.1 (v s).2.2) x j s) N (λx hx=>⟨s0,hX▸hx,Go.UK.jr (by rw[hi.2.1,hi.2.2])⟩) (λx j s hs=>?_) hy hi.1 e;obtain⟨s',h1,h2⟩:=hs;cases j with
 | zero=>rw[hz] at h1;cases h1
 | succ j=>exact At.jr h2 (h x j s') h1
theorem At.MS{S α β ρ:Type}{X:Option (Sum α β)}{F:α->Option ρ}{G:β->Option ρ}{r:ρ}(k:Nat)(ks:List Nat)(m:Nat)(t:α->USt)(ks1:List Nat)(m1:Nat)(g:Nat->S->Option (Sum α β))(v:S->USt)(s0:S)(N:Nat)
  (h:∀o,jY o F G=some r->∀j s,g (j+1) s=some o->At P T im n (tn (λs'=>∃i,i < j+1/\LQ n g (λs=>upS (dG (Go.UK.adv T im [] n.n k p)) ks1 (v s).1 m1 (v s).2.1 (v s).2.2) o i s') (inB (aTJ (Go.UK.adv T im [] n.n k p)) (tn (Go.UK.JS n (λx=>upS (dG (Go.UK.adv T im [] n.n k p)) ks (t x).1 m (t x).2.1 (t x).2.2) o) (kQ P n Q (pS 1 (Go.UK.adv T im [] n.n k p))))))
   (.code (aNU (Go.UK.adv T im [] n.n k p)) [] (upS (dG (Go.UK.adv T im [] n.n k p)) ks1 (v s).1 m1 (v s).2.1 (v s).2.2)))
  (hy:∀x,F x=some r->At P T im n Q (Go.UK.aBy (pS 1 (Go.UK.adv T im [] n.n k p)) (upS (dG (Go.UK.adv T im [] n.n k p)) ks (t x).1 m (t x).2.1 (t x).2.2)))
  (hX:X=g N s0:=by exact rfl) (hz:∀s,g 0 s=none:=by intro _;rfl)
  (hi:(aQw (Go.UK.adv T im [] n.n k p),cOK n (dG (Go.UK.adv T im [] n.n k p)) (upS (dG (Go.UK.adv T im [] n.n k p)) ks1 (v s0).1 m1 (v s0).2.1 (v s0).2.2),cSt (dG (Go.UK.adv T im [] n.n k p)) (upS (dG (Go.UK.adv T im [] n.n k p)) ks1 (v s0).1 m1 (v s0).2.1 (v s0).2.2))=(true,true,upS (dG (Go.UK.adv T im [] n.n k p)) ks1 (v s0).1 m1 (v s0).2.1 (v s0).2.2):=by kernel_rfl)
  (e:aa X (λo=>jY o F G)=some r):At P T im n Q p:=by
 simp only[Prod.mk.injEq] at hi;refine At.ls k _ (λx J j s=>LQ n g (λs=>upS (dG (Go.UK.adv T im [] n.n k p)) ks1 (v s).1 m1 (v s).2.1 (v s).2.2) x j s) N (λx hx=>⟨s0,hX▸hx,Go.UK.jr (by rw[hi.2.1,hi.2.2])⟩) (λx hx j s hs=>?_) hy hi.1 e;obtain⟨s',h1,h2⟩:=hs;cases j with
 | zero=>rw[hz] at h1;cases h1
 | succ j=>exact At.jr h2 (h x hx j s') h1
theorem At.vw{S α:Type}(k:Nat){g:Nat->S->Option α}{v:S->ASt}{x:α}{j:Nat}(s:S)(hj:JR n (v s) (dG (Go.UK.adv T im [] n.n k p)))(e:g j s=some x)(hc:aKI (Go.UK.adv T im [] n.n k p)=true:=by kernel_rfl):At P T im n (tn (λs'=>∃i,i < j+1/\LQ n g v x i s') Q) p:=
 At.k k ⟨s,e,hj⟩ hc
theorem At.v{S α:Type}(k:Nat){g:Nat->S->Option α}{v:S->ASt}{x:α}{j:Nat}(s:S)(e:g j s=some x)
  (hc:(aKI (Go.UK.adv T im [] n.n k p),cOK n (dG (Go.UK.adv T im [] n.n k p)) (v s),cSt (dG (Go.UK.adv T im [] n.n k p)) (v s))=(true,true,v s):=by kernel_rfl):At P T im n (tn (λs'=>∃i,i < j+1/\LQ n g v x i s') Q) p:=by
 simp only[Prod.mk.injEq] at hc;exact At.vw k s (Go.UK.jr (by rw[hc.2.1,hc.2.2])) e hc.1
end
end Go.UK

namespace Go.UK
open Go
set_option linter.all false
variable [bW]
theorem aVO{k:Nat}:∀(ps qs:List AV),(∀e∈ps,e.n=k)->∀e∈wkL ps qs,e.n=k
 | [],_,h=>by unfold wkL;exact h
 | p :: ps,[],h=>by unfold wkL;exact h
 | p :: ps,q :: qs,h=>by
  unfold wkL;intro e he;rcases List.mem_cons.1 he with he | he
  ·rw[he,(aQQ p q).1];exact h p (by simp)
  ·exact aVO ps qs (λe he=>h e (by simp[he])) e he
def wkA(d:Nat)(qs:List AV)(st:ASt):ASt:=
 match get st.env d with
 | some (.arr n k es)=>match dataL (wkL es qs) with
  | true=>⟨(d,some (none,.arr n k (wkL es qs))) :: st.env,st.H⟩
  | false=>st
 | _=>st
section
variable {P:Program} {T:TypeId→Option TI} {im:Nat→Bool} {n:Fr} {Q:Exit→ASt→Prop} {p:Pt}
theorem aUd{st:ASt}{d:Nat}{qs:List AV}{ctx:Mem}{a:Act}{w:World}(h:Sat n ctx st a w):Sat n ctx (wkA d qs st) a w:=by
 unfold wkA;split
 ·rename_i n' k es hx;split
  ·rename_i ht;obtain⟨bs,hm⟩:=h;obtain⟨v,h1,h2⟩:=hm.env.get hx;refine⟨bs,{ h:=rfl,ok:=hm.ok,ext:=hm.ext,env := ?_,size:=hm.size,low:=hm.low,defers:=hm.defers,nod:=hm.nod,outs:=hm.outs }⟩
   intro i e hl;simp only[cC] at hl;split at hl
   ·rename_i hi;have hi:=Nat.eq_of_beq_eq_true hi;subst hi;cases hl;refine⟨v,h1,?_⟩
    obtain⟨ys,e1,h3⟩:=Rv.agg h2 rfl;subst e1;refine Rv.of_agg (x := .arr n' k (wkL es qs)) ?_ rfl;simp only[Rc] at h3 ⊢;exact⟨h3.1,aVO es qs h3.2.1,RcL.rd (μ:=⟨st.H,bs,w,ctx.F⟩) _ _ ht (wkL_rc es qs _ (RdL.rc _ _ h3.2.2))⟩
   ·exact hm.env i e hl
  ·exact h
 ·exact h
theorem At.wa{π:Prop}(k d:Nat)(qs:List AV)(h:π->At P T im n Q (zS (Go.UK.adv T im [] n.n k p) (wkA d qs (dG (Go.UK.adv T im [] n.n k p)))))(e0:π):At P T im n Q p:=At.t k (λhx=>aUd hx) h e0
theorem aPO{t s:ASt}(b z:Nat)(l:List Nat)(h:JR n t (ownB b z l s)):JR n t s:=λctx a w hs=>h ctx a w (aHJ hs)
theorem At.gp{π:Prop}{ks:List Fo}{st:ASt}(ss bs:List Nat)(id m m':Nat)(e:m'=m)(h:π->At P T im n Q (Go.UK.aBy ks (glS ss bs id m' st)))(hc:glS ss bs id m st=st:=by kernel_rfl)(e0:π):At P T im n Q (Go.UK.aBy ks st):=by
 subst e;have h:=h e0;rwa[hc] at h
end
end Go.UK

