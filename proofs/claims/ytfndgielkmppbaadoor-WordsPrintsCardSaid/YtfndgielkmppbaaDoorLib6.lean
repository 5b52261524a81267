/- The own layer: abstract values, their memory, and the steps of the model over them: for any program. -/
import Derived.Test.YtfndgielkmppbaaDoorLib5
namespace Go.UK
open Go
set_option linter.all false
variable [aV]
section
variable {P:Program} {T:TypeId→Option TI} {n:Fr}
def mkO(b:Nat)(i:Int):Option Unit:=cond (decide (0<=i)&&decide (i<=140737488355328)&&decide (i*b<=140737488355328)) (some ()) none
theorem mkO_t{b:Nat}{i:Int}{u:Unit}(h:mkO b i=some u):0<=i/\i<=140737488355328/\i*b<=140737488355328:=by
 unfold mkO at h;cases hc:(decide (0<=i)&&decide (i<=140737488355328)&&decide (i*b<=140737488355328)) with
 | true=>simp only[Bool.and_eq_true,decide_eq_true_eq] at hc;exact⟨hc.1.1,hc.1.2,hc.2⟩
 | false=>rw[hc] at h;cases h
end
end Go.UK

open Bool renaming and_eq_true→am,not_eq_true'→fb,or_eq_true→fp
open Nat renaming beq→ax,eq_of_beq_eq_true→ag
namespace Go.UK
open Go
set_option linter.all false
variable [aV]
abbrev ES:=List (Nat×Nat×Box)
def iL(i:Nat):ES->Option (Nat×Box)
 | []=>none
 | (c,id,x) :: r=>match ax c i with | true=>some (id,x) | false=>iL i r
def sOn : List Box->ES->Array Bool->List Box
 | H,[],_=>H
 | H,(i,id,x) :: r,listed=>match listed.getD i false with | true=>sOn (H.set id x) r listed | false=>sOn H r listed
def aAx : List Box->ES->List Box
 | H,[]=>H
 | H,(_,id,x) :: r=>aAx (H.set id x) r
def esOK(C:List (List Nat)):ES->Bool
 | []=>true
 | (i,id,_) :: r=>r.all (λq=>(!(ax q.2.1 id)||inC C q.1 i) && !(ax q.1 i))&&esOK C r
def eK(C:List (List Nat))(i:Nat):List Box->ES->List (List Box)
 | H,[]=>[H]
 | H,(c,id,x) :: r=>match inC C c i||ax c i with
  | true=>eK C i H r
  | false=>match inC C i c with
   | true=>eK C i (H.set id x) r
   | false=>eK C i H r++eK C i (H.set id x) r
def nC(ops:Array Oper)(C:List (List Nat))(ms:List MI)(es:ES)(B:Env):Bool:=
 ax ms.length ops.size&&(
 oZ ops.size (λi=>(dir ops i).all λj=>Nat.blt j i)&&(
 oZ ops.size (λi=>dEq ((ops[i]?).bind (·.dst)) (dAt ms i))&&(
 oZ ops.size (λj=>oZ j λi => !oD (dAt ms i) (dAt ms j))&&(
 (pL ms B&&aCa C ms ops.size)&&(
 esOK C es&&es.all (λq=>Nat.blt q.1 ops.size))))))
section
variable {P:Program} {T:TypeId→Option TI} {n:Fr} {ops:Array Oper}
def aEp(P:Program)(n:Fr)(ops:Array Oper)(C:List (List Nat))(ms:List MI)(es:ES)(B:Env)(H:List Box)(i:Nat):Prop:=
 ∀o x env,ops[i]? = some o->ms[i]? = some x->Sub (cE C ms B i) env ->
  ∀H'∈eK C i H es,opS P n ops o ⟨env,H'⟩ ⟨match x.d with | some d=>(match x.e with | some v=>env.set d (none,v) | none=>env.del d) | none=>env,match iL i es with | some (id,y)=>H'.set id y | none=>H'⟩
theorem jN{C:List (List Nat)}{listed:Array Bool}{i:Nat}(hcl:∀s,inC C i s=true->cP listed s)(hni:∀c,inC C c i=true->¬cP listed c)(hu:¬cP listed i):∀(H:List Box) (es:ES),sOn H es listed∈eK C i H es
 | H,[]=>by simp[sOn,eK]
 | H,(c,id,x) :: r=>by
  unfold sOn eK;cases h1:inC C c i||ax c i with
  | true=>
   have hn:¬cP listed c:=by
    simp only[fp] at h1;rcases h1 with h1 | h1
    ·exact hni c h1
    ·rw[ag h1];exact hu
   unfold cP at hn;cases hg:listed.getD c false with
   | true=>exact absurd hg hn
   | false=>exact jN hcl hni hu H r
  | false=>
   cases h2:inC C i c with
   | true=>
    have:=hcl c h2;unfold cP at this;rw[this]
    exact jN hcl hni hu _ r
   | false=>
    cases hg:listed.getD c false with
    | true=>exact List.mem_append.2 (.inr (jN hcl hni hu _ r))
    | false=>exact List.mem_append.2 (.inl (jN hcl hni hu _ r))
theorem nI{listed:Array Bool}{i:Nat}:∀(H:List Box) (es:ES),iL i es=none->sOn H es (listed.setIfInBounds i true)=sOn H es listed
 | H,[],_=>rfl
 | H,(c,id,x) :: r,h=>by
  unfold iL at h;split at h
  ·cases h
  ·rename_i hb;unfold sOn;have hne:i≠c:=λe=>by subst e;simp at hb
   rw[fZ false hne,nI H r h,nI (H.set id x) r h]
theorem uP{listed:Array Bool}{id:Nat}{y:Box}:∀(H:List Box) (es:ES),(∀q∈es,q.2.1=id->¬cP listed q.1)->sOn (H.set id y) es listed=(sOn H es listed).set id y
 | H,[],_=>rfl
 | H,(c,id',x) :: r,h=>by
  unfold sOn;have hr:∀q∈r,q.2.1=id->¬cP listed q.1:=λq hq=>h q (by simp[hq])
  cases hg:listed.getD c false with
  | false=>exact uP H r hr
  | true=>
   have hne:id'≠id:=λe=>h (c,id',x) (by simp) e hg;dsimp only;rw[List.set_comm _ _ (Ne.symm hne)]
   exact uP _ r hr
theorem xN{C:List (List Nat)}{listed:Array Bool}{i:Nat}(hi:i < listed.size)(hu:¬cP listed i)(hni:∀c,inC C c i=true->¬cP listed c):∀(H:List Box) (es:ES) (id:Nat) (y:Box),esOK C es=true->iL i es=some (id,y) ->
  sOn H es (listed.setIfInBounds i true)=(sOn H es listed).set id y
 | H,[],id,y,_,h=>by simp[iL] at h
 | H,(c,id',x) :: r,id,y,hk,h=>by
  simp only[esOK,am] at hk;unfold iL at h;split at h
  ·rename_i hb;cases h;have e:=ag hb;subst e;have hall:=List.all_eq_true.1 hk.1;have hnone:iL c r=none:=by
    have key:∀(r:ES),(∀q∈r,ax q.1 c=false)->iL c r=none:=by
     intro r
     induction r with
     | nil=>intro _;rfl
     | cons q r ih=>
      intro hq;unfold iL;rw[hq q (by simp)]
      exact ih λq' hq'=>hq q' (by simp[hq'])
    exact key r λq hq=>by have:=hall q hq;simp only[am,fb] at this;exact this.2
   unfold sOn;have h1:(listed.setIfInBounds c true).getD c false=true:=(jS hi).2 (.inl rfl)
   have h2:listed.getD c false=false:=by cases hg:listed.getD c false with | true=>exact absurd hg hu | false=>rfl
   rw[h1,h2]
   dsimp only;rw[nI _ r hnone]
   refine uP H r λq hq hid=>?_;have:=hall q hq;simp only[am,fp,fb] at this;rcases this.1 with h3 | h3
   ·rw[hid] at h3;simp at h3
   ·exact hni q.1 h3
  ·rename_i hb;have hne:i≠c:=λe=>by subst e;simp at hb
   unfold sOn;rw[fZ false hne]
   cases hg:listed.getD c false with
   | true=>exact xN hi hu hni _ r id y hk.2 h
   | false=>exact xN hi hu hni _ r id y hk.2 h
theorem aBY{listed:Array Bool}:∀(H:List Box) (es:ES),(∀q∈es,listed.getD q.1 false=true)->sOn H es listed=aAx H es
 | H,[],_=>rfl
 | H,(c,id,x) :: r,h=>by
  unfold sOn aAx;rw[h (c,id,x) (by simp)]
  exact aBY _ r (λq hq=>h q (by simp[hq]))
theorem zK{listed:Array Bool}(h:∀i,¬cP listed i):∀(H:List Box) (es:ES),sOn H es listed=H
 | H,[]=>rfl
 | H,(c,id,x) :: r=>by
  unfold sOn;split
  ·rename_i hon;exact absurd hon (h c)
  ·exact zK h H r
theorem aFi{C:List (List Nat)}(hC:C=dW ops){ms:List MI}{es:ES}{B:Env}{H:List Box}{ctx:Mem}{Q:Exit->Act->World->Prop}(hok:nC ops C ms es B=true)(hst:∀i,i < ops.size->aEp P n ops C ms es B H i)
  (hk:∀a w env,Sat n ctx ⟨env,aAx H es⟩ a w->(∀k v,bA B k=some (none,v)->(∀x∈ms,mW x.d k=false)->bA env k=some (none,v))->(∀(j:Nat) (x:MI) d v,ms[j]? = some x->x.d=some d->x.e=some v->bA env d=some (none,v))->Q .normal a w) :
  ∀(fuel:Nat) (listed:Array Bool) (a:Act) (w:World) (env:Env),listed.size=ops.size->Down ops listed->(∀i,cP listed i->i < ops.size)->uc listed ops.size<=fuel ->
  Sat n ctx ⟨env,sOn H es listed⟩ a w->(∀k v,bA B k=some (none,v)->(∀(j:Nat) x,ms[j]? = some x->cP listed j->mW x.d k=false)->bA env k=some (none,v))->(∀(j:Nat) (x:MI) d v,ms[j]? = some x->cP listed j->x.d=some d->x.e=some v->bA env d=some (none,v))->wpAnyIn n.F 0 P .any ops Q fuel listed a w:=by
 simp only[nC,am] at hok;obtain⟨h1,h2,h3,h4,⟨h5,h5k⟩,h6,h7⟩:=hok;have hsz:=ag h1;have hcs:∀q∈es,q.1 < ops.size:=λq hq=>by
  have h8:Nat.ble (q.1+1) ops.size=true:=List.all_eq_true.1 h7 q hq;have:=Nat.le_of_ble_eq_true h8;omega
 have done:∀(listed:Array Bool) (a:Act) (w:World) (env:Env),(∀i,i < ops.size->cP listed i)->Sat n ctx ⟨env,sOn H es listed⟩ a w->(∀k v,bA B k=some (none,v)->(∀(j:Nat) x,ms[j]? = some x->cP listed j->mW x.d k=false)->bA env k=some (none,v)) ->
   (∀(j:Nat) (x:MI) d v,ms[j]? = some x->cP listed j->x.d=some d->x.e=some v->bA env d=some (none,v))->Q .normal a w:=by
  intro listed a w env hall hsat hB hE;rw[aBY H es (λq hq=>hall q.1 (hcs q hq))] at hsat;exact hk a w env hsat (λk v hb hl=>hB k v hb λj x hx _=>hl x (List.mem_of_getElem? hx)) (λj x d v hx=>hE j x d v hx (hall j (by have:=aJ hx;omega)))
 have nothing:∀(listed:Array Bool),(∀i,i < ops.size->cP listed i)->Region.ready .any ops listed=[]:=by
  intro listed hall;refine List.eq_nil_iff_forall_not_mem.2 λi hi=>?_;obtain⟨r1,r2,_⟩:=mT hi;exact yL r1 (hall i r2)
 intro fuel
 induction fuel with
 | zero=>
  intro listed a w env hs hd hm hc hsat hB hE;have hall:∀i,i < ops.size->cP listed i:=xB ops.size (by omega)
  exact⟨nothing listed hall,done listed a w env hall hsat hB hE⟩
 | succ fuel ih=>
  intro listed a w env hs hd hm hc hsat hB hE;refine⟨λh0=>?_,λi hi=>?_⟩
  ·refine done listed a w env (λj hj=>?_) hsat hB hE;apply Classical.byContradiction;intro hn;obtain⟨i,hi⟩:=tK hs h2 j hj hn;rw[h0] at hi;cases hi
  ·obtain⟨r1,r2,r3⟩:=mT hi;have hu:=yL r1;have hcl:∀s,inC C i s=true->cP listed s:=λs hs'=>qW hd i _ r3 s (qO hC hs')
   have hni:∀c,inC C c i=true->¬cP listed c:=λc hc' hon=>hu (qW hd c _ (hd c hon) i (qO hC hc'))
   have him:i < ms.length:=by omega
   have ho:ops[i]? = some ops[i]:=Array.getElem?_eq_getElem r2;have hx:ms[i]? = some ms[i]:=List.getElem?_eq_getElem him;have hBf:∀i e,bA B i=some e->e.1=none:=λi e h=>kG h5 h;have hsub:Sub (cE C ms B i) env:=by
    intro k e hl;unfold cE at hl;rw[hx] at hl;dsimp only at hl;have hkm:k∈ms[i].keys:=mY (f:=λk=>lN C ms B i k i) hl;have hord:∀(j:Nat) x,ms[j]? = some x->cP listed j->mW x.d k=true->inC C i j=true/\j < i:=by
     intro j x hjx hon hdh;rcases uI h5k r2 (hm j hon) hx hjx hkm hdh with h' | h' | h'
     ·exact h'
     ·exact absurd hon (hni j h')
     ·subst h';exact absurd hon hu
    refine yF (on:=cP listed) hcl (λv hb hl=>hB k v hb hl) hBf (λj x d v hjx hj hd' he=>hE j x d v hjx hj hd' he) (λj x hjx hon hdh=>(hord j x hjx hon hdh).1) i ?_ (vE (f:=λk=>lN C ms B i k i) hl)
    intro j x hij hjx hon;cases hc:mW x.d k with
    | false=>rfl
    | true=>have:=(hord j x hjx hon hc).2;omega
   have hstab:=hst i r2 ops[i] ms[i] env ho hx hsub;have hdst:(ops[i]).dst=ms[i].d:=by
    have:=cU h3 i r2;rw[ho] at this;simp only[Option.bind_some,dAt,hx] at this;generalize (ops[i]).dst=u at *;generalize ms[i].d=v at *;cases u <;> cases v <;> simp[dEq] at this ⊢;exact this
   have hops:opS P n ops ops[i] ⟨env,sOn H es listed⟩ ⟨ms[i].put env,sOn H es (listed.setIfInBounds i true)⟩:=by
    cases hch:iL i es with
    | none=>
     have h9:=hstab _ (jN hcl hni hu H es)
     rw[hch] at h9;rw[nI H es hch]
     exact h9
    | some q=>
     obtain⟨id,y⟩:=q;have h9:=hstab _ (jN hcl hni hu H es)
     rw[hch] at h9;rw[xN (by omega) hu hni H es id y h6 hch]
     exact h9
   have hstep:=hops ctx a w Q hsat;rw[aBV ho]
   have next:∀a' w',Sat n ctx ⟨ms[i].put env,sOn H es (listed.setIfInBounds i true)⟩ a' w'->wpAnyIn n.F 0 P .any ops Q fuel (listed.setIfInBounds i true) a' w':=by
    intro a' w' hs';refine ih _ a' w' _ (by simpa using hs) ?_ ?_ ?_ hs' ?_ ?_
    ·intro p hp j hj;rw[jS (by omega)] at hp ⊢;rcases hp with hp | hp
     ·subst hp;exact .inr (r3 j hj)
     ·exact .inr (hd p hp j hj)
    ·intro p hp;rw[jS (by omega)] at hp;rcases hp with hp | hp
     ·subst hp;exact r2
     ·exact hm p hp
    ·have:=aAg (k:=ops.size) (show i < listed.size by omega) (by
      cases hc':listed.getD i false with
      | false=>rfl
      | true=>exact absurd hc' hu) r2
     omega
    ·intro k v hke hno;exact lU (hno i _ hx ((jS (by omega)).2 (.inl rfl))) (hB k v hke λj x hjx hon=>hno j x hjx ((jS (by omega)).2 (.inr hon)))
    ·intro j x d v hjx hj hdx hex;rw[jS (by omega)] at hj;by_cases hji:j=i
     ·subst hji;rw[hx] at hjx;cases hjx;exact sC hdx hex
     ·have hjo:=hj.resolve_left hji;refine lU ?_ (hE j x d v hjx hjo hdx hex)
      have hjm:=aJ hjx;have hcl':oD ms[i].d x.d=false:=by
       have hi':dAt ms i=ms[i].d:=by unfold dAt;rw[hx]
       have hj':dAt ms j=x.d:=by unfold dAt;rw[hjx]
       rw[<- hi',<- hj']
       rcases Nat.lt_trichotomy i j with hlt | hlt | hlt
       ·have:=cU (cU h4 j (by omega)) i hlt;simpa using this
       ·exact absurd hlt.symm hji
       ·have:=cU (cU h4 i r2) j hlt;have h9:oD (dAt ms j) (dAt ms i)=false:=by simpa using this
        generalize dAt ms i=u at *;generalize dAt ms j=v at *;cases u <;> cases v <;> first | rfl | (simp only[oD] at h9 ⊢;rw[vX];exact h9)
      rw[hdx] at hcl';cases hdi:ms[i].d with
      | none=>rfl
      | some di=>rw[hdi] at hcl';exact hcl'
   split
   ·rename_i hw;rw[if_pos hw] at hstep;exact Oper.wpIn_mono next hstep
   ·rename_i hw;rw[if_neg hw] at hstep;exact⟨λ_ _=>trivial,next _ _ hstep⟩
theorem aCM{id:Nat}{l:List Oper}{Q:Exit->ASt->Prop}{st:ASt}(hm:P.follows .mixedOrders=true){ms:List MI}{es:ES}
  (hok:nC l.toArray (dW l.toArray) ms es st.env=true) (hst:∀i,i < l.toArray.size->aEp P n l.toArray (dW l.toArray) ms es st.env st.H i)
  (hk:Q .normal ⟨pM ms st.env,aAx st.H es⟩):aw P n (.region id l.toArray true) Q st:=by
 intro ctx a w hs;refine wpIn_region_any hm ?_;obtain⟨bs,hmm⟩:=hs;have hdrew:Sat n ctx st a { w with drawn:=w.drawn+1 }:=by
  have hl:bV w w.drew:=bV.drew w;exact⟨bs,{ h:=rfl,ok:=OK.later hl hmm.ok,ext:=hmm.ext.trans (Ext.later hl),env:=hmm.env.ext (Ext.later hl),size:=hmm.size,low:=hmm.low,defers:=jA.ext hmm.ok (Ext.later hl) hmm.defers,nod:=hmm.nod,outs:=λp hp=>(hmm.outs p hp).ext (Ext.later hl) }⟩
 have hl0:∀i,¬cP (Array.replicate l.toArray.size false) i:=by
  intro i h;unfold cP at h;rw[Array.getD_eq_getD_getElem?] at h;rw[Array.getElem?_replicate] at h;split at h <;> simp at h
 have hb5:pL ms st.env=true:=by
  simp only[nC,am] at hok;exact hok.2.2.2.2.1.1
 have hlen:ms.length=l.toArray.size:=by
  simp only[nC,am] at hok;exact ag hok.1
 refine aFi rfl (ctx:=ctx) hok hst ?_ _ _ _ _ st.env (by simp) (λi h=>absurd h (hl0 i)) (λi h=>absurd h (hl0 i)) ?_ ?_ (λ_ _ h _=>h) (λj x d v _ h=>absurd h (hl0 j))
 ·intro a w env hs hB hE;refine⟨_,hk,oW (st:=⟨env,aAx st.H es⟩) (λi e h=>qH (λi e h=>kG hb5 h) (λv=>hB i v) (λx hx d v hd he=>?_) e h) hs⟩
  obtain⟨j,hj⟩:=List.getElem?_of_mem hx;exact hE j x d v hj hd he
 ·have:∀k,uc (Array.replicate l.toArray.size false) k<=k:=by
   intro k
   induction k with
   | zero=>exact Nat.le_refl _
   | succ k ih=>unfold uc;split <;> omega
  exact this _
 ·rw[zK hl0]
  exact hdrew
end
end Go.UK

namespace Go.UK
open Go
set_option linter.all false
variable [aV]
structure DS2 where
 ms:List MI
 es:ES
 H:List Box
structure OE where
 x:AV
 id:Nat
 y:Box
 b0:Box
abbrev O2S:=List (Nat×OE)
def refId(ρ:Operand->Option AV)(o:Oper):Option Nat:=
 match o.op with
 | .store _ p _=>match ρ p with | some (.ref id _ _)=>some id | _=>none
 | _=>none
def aFT(T:TypeId->Option TI)(im:Nat->Bool)(n:Nat)(l:List Oper)(C:List (List Nat))(B:Env)(o1:O1)(o2:O2S)(i:Nat)(o:Oper)(s:DS2):DS2:=
 match nK l o ((hS l o).map λk=>(k,lN C s.ms B i k i)) with
 | true=>⟨s.ms++[⟨hS l o,o.dst,some (.tup [])⟩],s.es,s.H⟩
 | false=>match eP o1 i with
  | some x=>⟨s.ms++[⟨hS l o,o.dst,some x⟩],s.es,s.H⟩
  | none=>match eP o2 i with
   | some f=>⟨s.ms++[⟨hS l o,o.dst,some f.x⟩],s.es++[(i,f.id,f.y)],s.H.set f.id f.y⟩
   | none=>match plU T (aDb im o) n o ((hS l o).map λk=>(k,lN C s.ms B i k i)) s.H with
    | some (x,H')=>match refId (opd ((hS l o).map λk=>(k,lN C s.ms B i k i)) none) o with
     | some id=>⟨s.ms++[⟨hS l o,o.dst,some x⟩],s.es++[(i,id,(H'[id]?).getD .dead)],H'⟩
     | none=>⟨s.ms++[⟨hS l o,o.dst,some x⟩],s.es,s.H⟩
    | none=>⟨s.ms++[⟨hS l o,o.dst,none⟩],s.es,s.H⟩
def aE5(T:TypeId->Option TI)(im:Nat->Bool)(n:Nat)(l:List Oper)(C:List (List Nat))(B:Env)(o1:O1)(o2:O2S):Nat->List Oper->DS2->DS2
 | _,[],s=>s
 | i,o :: r,s=>aE5 T im n l C B o1 o2 (i+1) r (aFT T im n l C B o1 o2 i o s)
def iM(T:TypeId->Option TI)(im:Nat->Bool)(n:Nat)(l:List Oper)(st:ASt)(o1:O1)(o2:O2S):DS2:=
 aE5 T im n l (dW l.toArray) st.env o1 o2 0 l ⟨[],[],st.H⟩
def aBm(T:TypeId->Option TI)(im:Nat->Bool)(n:Nat)(l:List Oper)(st:ASt)(o1:O1)(o2:O2S):ASt:=
 ⟨pM (iM T im n l st o1 o2).ms st.env,aAx st.H (iM T im n l st o1 o2).es⟩
def effH(i:Nat)(es:ES)(H:List Box):List Box:=match iL i es with | some (id,y)=>H.set id y | none=>H
def dBS(l:List Oper)(C:List (List Nat))(ms:List MI)(es:ES)(B:Env)(o1:O1)(o2:O2S)(i:Nat):Bool:=
 match nK l (hY l i) (cE C ms B i) with
 | true=>sT (eAt ms i)&&xQ (iL i es)
 | false=>gOK l.toArray (hY l i) (cE C ms B i)&&(aAk (eAt ms i)&&(match eP o1 i with
  | some _=>xQ (iL i es)
  | none=>match eP o2 i with
   | some f=>match iL i es with | some (id,_)=>Nat.beq id f.id | none=>false
   | none=>true))
def effY(i:Nat)(es:ES):Box:=match iL i es with | some (_,y)=>y | none => .dead
def dLS(T:TypeId->Option TI)(im:Nat->Bool)(n:Nat)(l:List Oper)(C:List (List Nat))(ms:List MI)(es:ES)(B:Env)(H:List Box)(o1:O1)(o2:O2S)(i:Nat):List (Option (AV×List Box)):=
 match nK l (hY l i) (cE C ms B i) with
 | true=>[]
 | false=>match eP o1 i with
  | some x=>[some (x,[])]
  | none=>match eP o2 i with
   | some f=>some (f.x,[f.y]) :: (eK C i H es).map λH'=>match H'[f.id]? with | some b=>some (f.x,[b]) | none=>none
   | none=>(eK C i H es).map λH'=>plU T (aDb im (hY l i)) n (hY l i) (cE C ms B i) H'
def dRS(l:List Oper)(C:List (List Nat))(ms:List MI)(es:ES)(B:Env)(H:List Box)(o1:O1)(o2:O2S)(i:Nat):List (Option (AV×List Box)):=
 match nK l (hY l i) (cE C ms B i) with
 | true=>[]
 | false=>match eP o1 i with
  | some _=>[some ((eAt ms i).getD default,[])]
  | none=>match eP o2 i with
   | some f=>some ((eAt ms i).getD default,[effY i es]) :: (eK C i H es).map λ_=>some (f.x,[f.b0])
   | none=>(eK C i H es).map λH'=>some ((eAt ms i).getD default,effH i es H')
def wV(l:List Oper)(C:List (List Nat))(s:DS2)(st:ASt)(o1:O1)(o2:O2S):Bool:=
 nC l.toArray C s.ms s.es st.env&&oZ l.toArray.size (dBS l C s.ms s.es st.env o1 o2)
def yA(T:TypeId->Option TI)(im:Nat->Bool)(n:Nat)(l:List Oper)(C:List (List Nat))(s:DS2)(st:ASt)(o1:O1)(o2:O2S):List (List (Option (AV×List Box))):=
 (List.range l.toArray.size).map (dLS T im n l C s.ms s.es st.env st.H o1 o2)
def xM(l:List Oper)(C:List (List Nat))(s:DS2)(st:ASt)(o1:O1)(o2:O2S):List (List (Option (AV×List Box))):=
 (List.range l.toArray.size).map (dRS l C s.ms s.es st.env st.H o1 o2)
section
variable {P:Program} {T:TypeId→Option TI} {n:Fr}
end
end Go.UK

namespace Go.UK
open Go
set_option linter.all false
variable [aV]
theorem aFS{w:World}{H:List Box}{bs:List (Option Nat)}{F:Nat->Nat->Prop}(ok:(⟨H,bs,w,F⟩:Mem).OK){id:Nat}(hd:H[id]? = some .dead){x:AV}{ys:Array Value}(hc:Rc ⟨H,bs,w,F⟩ x ys.toList)(T:TypeId) :
  Ext ⟨H,bs,w,F⟩ ⟨H.set id (.var x),bs.set id (some w.heap.size),w.alloc (.cells ys T),F⟩/\(⟨H.set id (.var x),bs.set id (some w.heap.size),w.alloc (.cells ys T),F⟩:Mem).OK /\
  (bs.set id (some w.heap.size))[id]? = some (some w.heap.size)/\(H.set id (.var x))[id]? = some (.var x):=by
 have hl:bs.length=H.length:=ok.len;have hid:=aJ hd;obtain⟨ob,hob⟩:∃ob,bs[id]? = some ob:=⟨bs[id]'(by omega),List.getElem?_eq_getElem (by omega)⟩
 have hlt:=bV.alloc w ys T;have ne_of:∀{i:Nat} {y:Box},H[i]? = some y->y ≠ .dead->id≠i:=λh hy e=>by subst e;rw[hd] at h;cases h;exact hy rfl
 have back:∀(i b:Nat) (y:Box),(bs.set id (some w.heap.size))[i]? = some (some b)->(H.set id (.var x))[i]? = some y->(i=id/\b=w.heap.size)\/(id≠i/\bs[i]? = some (some b)/\H[i]? = some y):=by
  intro i b y h1 h2;by_cases e:id=i
  ·subst e;rw[cA hob] at h1;cases h1;exact .inl ⟨rfl,rfl⟩
  ·rw[aQ e] at h1 h2;exact .inr ⟨e,h1,h2⟩
 have ext:Ext ⟨H,bs,w,F⟩ ⟨H.set id (.var x),bs.set id (some w.heap.size),w.alloc (.cells ys T),F⟩:={
  size:=hlt.size
  len:=by simp
  cells:=λb o hb _=>iC (hlt.block b hb)
  blocks:=λb hb _=>hlt.block b hb
  mm:=λb o hb ho=>by
   obtain⟨i,h1,h2⟩:=ho;dsimp only at h1 h2 hb;rcases h2 with ⟨y,h2,h3⟩ | ⟨m,h2,h3⟩
   ·rcases back i b y h1 h2 with ⟨_,e⟩ | ⟨_,g1,g2⟩
    ·omega
    ·exact⟨i,g1,.inl ⟨y,g2,h3⟩⟩
   ·rcases back i b _ h1 h2 with ⟨_,e⟩ | ⟨_,g1,g2⟩
    ·omega
    ·exact⟨i,g1,.inr ⟨m,g2,h3⟩⟩
  same:=rfl
  vars:=λi c hc'=>by
   have e:=ne_of hc' (by simp)
   exact⟨⟨c,(aQ e).trans hc'⟩,aQ e⟩
  maps:=λi c hc'=>by
   have e:=ne_of hc' (by simp)
   exact⟨⟨c,(aQ e).trans hc'⟩,aQ e⟩
  loops:=λi c hc'=>by
   have e:=ne_of hc' (by simp)
   exact⟨⟨c,(aQ e).trans hc'⟩,aQ e⟩
  toks:=λi m' hi hm=>by
   dsimp only at hm;by_cases e:id=i
   ·subst e;rw[cA hd] at hm;cases hm
   ·rw[aQ e] at hm;exact⟨m',hm,Nat.le_refl _,λ_=>⟨aQ e,λb s _ hr=>dP (hlt.block b (by obtain⟨c,TT,h1,_⟩:=hr;exact dA h1)) hr⟩⟩
  gros:=λi q es' hi hm=>by
   dsimp only at hm;by_cases e:id=i
   ·subst e;rw[cA hd] at hm;cases hm
   ·rw[aQ e] at hm;exact⟨es',hm,Nat.le_refl _,λ_=>⟨aQ e,λb s _ hr=>dP (hlt.block b (by obtain⟨c,TT,h1,_⟩:=hr;exact dA h1)) hr⟩⟩
  os:=hlt.os
  tape:=hlt.tape
  output:=hlt.output }
 refine⟨ext,?_,cA hob,cA hd⟩
 refine⟨λb o hf=>Nat.lt_of_lt_of_le (ok.foreign b o hf) hlt.size,?_,by simp[hl],?_,?_,λg hg=>ext.globAt (ok.glob g hg)⟩
 ·intro b o ho hf;exact ok.clear b o (ext.mm b o (ok.foreign b o hf) ho) hf
 ·intro i o y ho hy;dsimp only at ho hy;by_cases e:id=i
  ·subst e;rw[cA hob] at ho;rw[cA hd] at hy;cases ho;cases hy;exact⟨w.heap.size,ys,T,rfl,dK,Rc.ext ext _ _ hc⟩
  ·rw[aQ e] at ho hy;have hok:=ok.box i o y ho hy;refine fU ext (λb hb hdd=>?_) hok;subst hb;exact hlt.block b (oC hdd hok)
 ·intro i j b y z h1 h2 h3 h4 h5 h6;dsimp only at h1 h2 h3 h4;rcases back i b y h1 h3 with ⟨e1,e2⟩ | ⟨e1,g1,g2⟩
  ·rcases back j b z h2 h4 with ⟨e3,e4⟩ | ⟨e3,g3,g4⟩
   ·omega
   ·have:=bK ok (b:=b) g3 g4 h6;dsimp only at this;omega
  ·rcases back j b z h2 h4 with ⟨e3,e4⟩ | ⟨e3,g3,g4⟩
   ·have:=bK ok (b:=b) g1 g2 h5;dsimp only at this;omega
   ·exact ok.apart i j b y z g1 g3 g2 g4 h5 h6
section
variable {P:Program} {T:TypeId→Option TI} {n:Fr}
def allE(T:TypeId->Option TI)(o:Oper):Option AV:=
 match o.op with
 | .alloc t=>match T t with
  | some i=>some i.zero
  | none=>none
 | _=>none
theorem cL(hT:TOK P T){o:Oper}{need:Env}{H:List Box}(id:Nat){x:AV}(hd:dOK n.n o.dst=true)(h:allE T o=some x)(hb:H[id]? = some .dead):Big P n o need H (.ref id [] 0) (H.set id (.var x)):=by
 unfold allE at h;split at h <;> try cases h
 rename_i t ho;split at h <;> cases h;rename_i i ht;refine fE hd λa μ ok hH hE=>?_;obtain⟨H0,bs,w,F⟩:=μ;dsimp only at hH;subst hH;obtain⟨y,ys,h1,h2,h3,h4,h5⟩:=lA hT ht w;obtain⟨k2,k3,k4,k5⟩:=aFS ok hb (x:=i.zero) (ys:=y.cells) (by rw[h3];simpa using pI _ _ h2) t;refine⟨_,⟨.pointer (some ⟨w.heap.size,0,none⟩),?_,?_,k2,k3⟩,rfl⟩
 ·simp[execOp,ho,Instr.alloc,h1,lH]
 ·show Rv0 _ _ _;simp only[Rv0,AV.isAgg,Rc,Bool.false_eq_true,if_false]
  exact⟨_,_,k4,k5,rfl⟩
theorem yT{st:ASt}{ctx:Mem}{a:Act}{w:World}(h:Sat n ctx st a w):∀m,Sat n ctx ⟨st.env,st.H++List.replicate m .dead⟩ a w
 | 0=>by simpa using h
 | m+1=>by
  have ih:=yT h m;obtain⟨bs,hm⟩:=ih;have ext:=Ext.snoc (F:=ctx.F) hm.ok.len (bV.refl w) .dead none (by intro b e;cases e)
  have ok:=OK.snoc hm.ok (bV.refl w) (x := .dead) (o:=none) (by intro b e;cases e) trivial;refine⟨bs++[none],?_⟩
  rw[List.replicate_succ',<- List.append_assoc]
  exact { h:=rfl,ok:=ok,ext:=hm.ext.trans ext,env:=hm.env.ext ext,size:=hm.size,low:=hm.low,defers:=jA.ext hm.ok ext hm.defers,nod:=hm.nod,outs:=λp hp=>(hm.outs p hp).ext ext }
end
end Go.UK

namespace Go.UK
open Go
set_option linter.all false
variable [aV]
section
variable {P:Program} {T:TypeId→Option TI} {n:Fr}
end
end Go.UK

