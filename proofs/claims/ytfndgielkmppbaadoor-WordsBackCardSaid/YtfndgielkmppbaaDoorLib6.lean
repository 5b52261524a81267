/- The own layer: abstract values, their memory, and the steps of the model over them: for any program. -/
import Derived.Test.YtfndgielkmppbaaDoorLib5
namespace Go.UK
open Go
set_option linter.all false
variable [bA]
section
variable {P:Program} {T:TypeId→Option TI} {n:Fr}
def mkO(b:Nat)(i:Int):Option Unit:=cond (decide (0<=i)&&decide (i<=140737488355328)&&decide (i*b<=140737488355328)) (some ()) none
theorem mkO_t{b:Nat}{i:Int}{u:Unit}(h:mkO b i=some u):0<=i/\i<=140737488355328/\i*b<=140737488355328:=by
 unfold mkO at h;cases hc:(decide (0<=i)&&decide (i<=140737488355328)&&decide (i*b<=140737488355328)) with
 | true=>simp only[Bool.and_eq_true,decide_eq_true_eq] at hc;exact⟨hc.1.1,hc.1.2,hc.2⟩
 | false=>rw[hc] at h;cases h
end
end Go.UK

open Bool renaming and_eq_true→ag,not_eq_true'→eg,or_eq_true→fa
open Nat renaming beq→az,eq_of_beq_eq_true→ai
namespace Go.UK
open Go
set_option linter.all false
variable [bA]
abbrev ES:=List (Nat×Nat×Box)
def hQ(i:Nat):ES->Option (Nat×Box)
 | []=>none
 | (c,id,x) :: r=>match az c i with | true=>some (id,x) | false=>hQ i r
def sOn : List Box->ES->Array Bool->List Box
 | H,[],_=>H
 | H,(i,id,x) :: r,listed=>match listed.getD i false with | true=>sOn (H.set id x) r listed | false=>sOn H r listed
def aAi : List Box->ES->List Box
 | H,[]=>H
 | H,(_,id,x) :: r=>aAi (H.set id x) r
def esOK(C:List (List Nat)):ES->Bool
 | []=>true
 | (i,id,_) :: r=>r.all (λq=>(!(az q.2.1 id)||inC C q.1 i) && !(az q.1 i))&&esOK C r
def dU(C:List (List Nat))(i:Nat):List Box->ES->List (List Box)
 | H,[]=>[H]
 | H,(c,id,x) :: r=>match inC C c i||az c i with
  | true=>dU C i H r
  | false=>match inC C i c with
   | true=>dU C i (H.set id x) r
   | false=>dU C i H r++dU C i (H.set id x) r
def mK(ops:Array Oper)(C:List (List Nat))(ms:List MI)(es:ES)(B:Env):Bool:=
 az ms.length ops.size&&(
 oA ops.size (λi=>(dir ops i).all λj=>Nat.blt j i)&&(
 oA ops.size (λi=>dEq ((ops[i]?).bind (·.dst)) (dAt ms i))&&(
 oA ops.size (λj=>oA j λi => !nK (dAt ms i) (dAt ms j))&&(
 (oI ms B&&aCy C ms ops.size)&&(
 esOK C es&&es.all (λq=>Nat.blt q.1 ops.size))))))
section
variable {P:Program} {T:TypeId→Option TI} {n:Fr} {ops:Array Oper}
def aFS(P:Program)(n:Fr)(ops:Array Oper)(C:List (List Nat))(ms:List MI)(es:ES)(B:Env)(H:List Box)(i:Nat):Prop:=
 ∀o x env,ops[i]? = some o->ms[i]? = some x->Sub (cF C ms B i) env ->
  ∀H'∈dU C i H es,opS P n ops o ⟨env,H'⟩ ⟨match x.d with | some d=>(match x.e with | some v=>env.set d (none,v) | none=>env.del d) | none=>env,match hQ i es with | some (id,y)=>H'.set id y | none=>H'⟩
theorem jF{C:List (List Nat)}{listed:Array Bool}{i:Nat}(hcl:∀s,inC C i s=true->cL listed s)(hni:∀c,inC C c i=true->¬cL listed c)(hu:¬cL listed i):∀(H:List Box) (es:ES),sOn H es listed∈dU C i H es
 | H,[]=>by simp[sOn,dU]
 | H,(c,id,x) :: r=>by
  unfold sOn dU;cases h1:inC C c i||az c i with
  | true=>
   have hn:¬cL listed c:=by
    simp only[fa] at h1;rcases h1 with h1 | h1
    ·exact hni c h1
    ·rw[ai h1];exact hu
   unfold cL at hn;cases hg:listed.getD c false with
   | true=>exact absurd hg hn
   | false=>exact jF hcl hni hu H r
  | false=>
   cases h2:inC C i c with
   | true=>
    have:=hcl c h2;unfold cL at this;rw[this]
    exact jF hcl hni hu _ r
   | false=>
    cases hg:listed.getD c false with
    | true=>exact List.mem_append.2 (.inr (jF hcl hni hu _ r))
    | false=>exact List.mem_append.2 (.inl (jF hcl hni hu _ r))
theorem mH{listed:Array Bool}{i:Nat}:∀(H:List Box) (es:ES),hQ i es=none->sOn H es (listed.setIfInBounds i true)=sOn H es listed
 | H,[],_=>rfl
 | H,(c,id,x) :: r,h=>by
  unfold hQ at h;split at h
  ·cases h
  ·rename_i hb;unfold sOn;have hne:i≠c:=λe=>by subst e;simp at hb
   rw[fT false hne,mH H r h,mH (H.set id x) r h]
theorem uF{listed:Array Bool}{id:Nat}{y:Box}:∀(H:List Box) (es:ES),(∀q∈es,q.2.1=id->¬cL listed q.1)->sOn (H.set id y) es listed=(sOn H es listed).set id y
 | H,[],_=>rfl
 | H,(c,id',x) :: r,h=>by
  unfold sOn;have hr:∀q∈r,q.2.1=id->¬cL listed q.1:=λq hq=>h q (by simp[hq])
  cases hg:listed.getD c false with
  | false=>exact uF H r hr
  | true=>
   have hne:id'≠id:=λe=>h (c,id',x) (by simp) e hg;dsimp only;rw[List.set_comm _ _ (Ne.symm hne)]
   exact uF _ r hr
theorem vV{C:List (List Nat)}{listed:Array Bool}{i:Nat}(hi:i < listed.size)(hu:¬cL listed i)(hni:∀c,inC C c i=true->¬cL listed c):∀(H:List Box) (es:ES) (id:Nat) (y:Box),esOK C es=true->hQ i es=some (id,y) ->
  sOn H es (listed.setIfInBounds i true)=(sOn H es listed).set id y
 | H,[],id,y,_,h=>by simp[hQ] at h
 | H,(c,id',x) :: r,id,y,hk,h=>by
  simp only[esOK,ag] at hk;unfold hQ at h;split at h
  ·rename_i hb;cases h;have e:=ai hb;subst e;have hall:=List.all_eq_true.1 hk.1;have hnone:hQ c r=none:=by
    have key:∀(r:ES),(∀q∈r,az q.1 c=false)->hQ c r=none:=by
     intro r
     induction r with
     | nil=>intro _;rfl
     | cons q r ih=>
      intro hq;unfold hQ;rw[hq q (by simp)]
      exact ih λq' hq'=>hq q' (by simp[hq'])
    exact key r λq hq=>by have:=hall q hq;simp only[ag,eg] at this;exact this.2
   unfold sOn;have h1:(listed.setIfInBounds c true).getD c false=true:=(jD hi).2 (.inl rfl)
   have h2:listed.getD c false=false:=by cases hg:listed.getD c false with | true=>exact absurd hg hu | false=>rfl
   rw[h1,h2]
   dsimp only;rw[mH _ r hnone]
   refine uF H r λq hq hid=>?_;have:=hall q hq;simp only[ag,fa,eg] at this;rcases this.1 with h3 | h3
   ·rw[hid] at h3;simp at h3
   ·exact hni q.1 h3
  ·rename_i hb;have hne:i≠c:=λe=>by subst e;simp at hb
   unfold sOn;rw[fT false hne]
   cases hg:listed.getD c false with
   | true=>exact vV hi hu hni _ r id y hk.2 h
   | false=>exact vV hi hu hni _ r id y hk.2 h
theorem aA4{listed:Array Bool}:∀(H:List Box) (es:ES),(∀q∈es,listed.getD q.1 false=true)->sOn H es listed=aAi H es
 | H,[],_=>rfl
 | H,(c,id,x) :: r,h=>by
  unfold sOn aAi;rw[h (c,id,x) (by simp)]
  exact aA4 _ r (λq hq=>h q (by simp[hq]))
theorem zU{listed:Array Bool}(h:∀i,¬cL listed i):∀(H:List Box) (es:ES),sOn H es listed=H
 | H,[]=>rfl
 | H,(c,id,x) :: r=>by
  unfold sOn;split
  ·rename_i hon;exact absurd hon (h c)
  ·exact zU h H r
theorem aGa{C:List (List Nat)}(hC:C=dK ops){ms:List MI}{es:ES}{B:Env}{H:List Box}{ctx:Mem}{Q:Exit->Act->World->Prop}(hok:mK ops C ms es B=true)(hst:∀i,i < ops.size->aFS P n ops C ms es B H i)
  (hk:∀a w env,Sat n ctx ⟨env,aAi H es⟩ a w->(∀k v,bI B k=some (none,v)->(∀x∈ms,mI x.d k=false)->bI env k=some (none,v))->(∀(j:Nat) (x:MI) d v,ms[j]? = some x->x.d=some d->x.e=some v->bI env d=some (none,v))->Q .normal a w) :
  ∀(fuel:Nat) (listed:Array Bool) (a:Act) (w:World) (env:Env),listed.size=ops.size->Down ops listed->(∀i,cL listed i->i < ops.size)->uc listed ops.size<=fuel ->
  Sat n ctx ⟨env,sOn H es listed⟩ a w->(∀k v,bI B k=some (none,v)->(∀(j:Nat) x,ms[j]? = some x->cL listed j->mI x.d k=false)->bI env k=some (none,v))->(∀(j:Nat) (x:MI) d v,ms[j]? = some x->cL listed j->x.d=some d->x.e=some v->bI env d=some (none,v))->wpAnyIn n.F 0 P .any ops Q fuel listed a w:=by
 simp only[mK,ag] at hok;obtain⟨h1,h2,h3,h4,⟨h5,h5k⟩,h6,h7⟩:=hok;have hsz:=ai h1;have hcs:∀q∈es,q.1 < ops.size:=λq hq=>by
  have h8:Nat.ble (q.1+1) ops.size=true:=List.all_eq_true.1 h7 q hq;have:=Nat.le_of_ble_eq_true h8;omega
 have done:∀(listed:Array Bool) (a:Act) (w:World) (env:Env),(∀i,i < ops.size->cL listed i)->Sat n ctx ⟨env,sOn H es listed⟩ a w->(∀k v,bI B k=some (none,v)->(∀(j:Nat) x,ms[j]? = some x->cL listed j->mI x.d k=false)->bI env k=some (none,v)) ->
   (∀(j:Nat) (x:MI) d v,ms[j]? = some x->cL listed j->x.d=some d->x.e=some v->bI env d=some (none,v))->Q .normal a w:=by
  intro listed a w env hall hsat hB hE;rw[aA4 H es (λq hq=>hall q.1 (hcs q hq))] at hsat;exact hk a w env hsat (λk v hb hl=>hB k v hb λj x hx _=>hl x (List.mem_of_getElem? hx)) (λj x d v hx=>hE j x d v hx (hall j (by have:=aO hx;omega)))
 have nothing:∀(listed:Array Bool),(∀i,i < ops.size->cL listed i)->Region.ready .any ops listed=[]:=by
  intro listed hall;refine List.eq_nil_iff_forall_not_mem.2 λi hi=>?_;obtain⟨r1,r2,_⟩:=mG hi;exact wT r1 (hall i r2)
 intro fuel
 induction fuel with
 | zero=>
  intro listed a w env hs hd hm hc hsat hB hE;have hall:∀i,i < ops.size->cL listed i:=xJ ops.size (by omega)
  exact⟨nothing listed hall,done listed a w env hall hsat hB hE⟩
 | succ fuel ih=>
  intro listed a w env hs hd hm hc hsat hB hE;refine⟨λh0=>?_,λi hi=>?_⟩
  ·refine done listed a w env (λj hj=>?_) hsat hB hE;apply Classical.byContradiction;intro hn;obtain⟨i,hi⟩:=tL hs h2 j hj hn;rw[h0] at hi;cases hi
  ·obtain⟨r1,r2,r3⟩:=mG hi;have hu:=wT r1;have hcl:∀s,inC C i s=true->cL listed s:=λs hs'=>qM hd i _ r3 s (pH hC hs')
   have hni:∀c,inC C c i=true->¬cL listed c:=λc hc' hon=>hu (qM hd c _ (hd c hon) i (pH hC hc'))
   have him:i < ms.length:=by omega
   have ho:ops[i]? = some ops[i]:=Array.getElem?_eq_getElem r2;have hx:ms[i]? = some ms[i]:=List.getElem?_eq_getElem him;have hBf:∀i e,bI B i=some e->e.1=none:=λi e h=>jN h5 h;have hsub:Sub (cF C ms B i) env:=by
    intro k e hl;unfold cF at hl;rw[hx] at hl;dsimp only at hl;have hkm:k∈ms[i].keys:=lX (f:=λk=>kU C ms B i k i) hl;have hord:∀(j:Nat) x,ms[j]? = some x->cL listed j->mI x.d k=true->inC C i j=true/\j < i:=by
     intro j x hjx hon hdh;rcases sX h5k r2 (hm j hon) hx hjx hkm hdh with h' | h' | h'
     ·exact h'
     ·exact absurd hon (hni j h')
     ·subst h';exact absurd hon hu
    refine wB (on:=cL listed) hcl (λv hb hl=>hB k v hb hl) hBf (λj x d v hjx hj hd' he=>hE j x d v hjx hj hd' he) (λj x hjx hon hdh=>(hord j x hjx hon hdh).1) i ?_ (sQ (f:=λk=>kU C ms B i k i) hl)
    intro j x hij hjx hon;cases hc:mI x.d k with
    | false=>rfl
    | true=>have:=(hord j x hjx hon hc).2;omega
   have hstab:=hst i r2 ops[i] ms[i] env ho hx hsub;have hdst:(ops[i]).dst=ms[i].d:=by
    have:=cM h3 i r2;rw[ho] at this;simp only[Option.bind_some,dAt,hx] at this;generalize (ops[i]).dst=u at *;generalize ms[i].d=v at *;cases u <;> cases v <;> simp[dEq] at this ⊢;exact this
   have hops:opS P n ops ops[i] ⟨env,sOn H es listed⟩ ⟨ms[i].put env,sOn H es (listed.setIfInBounds i true)⟩:=by
    cases hch:hQ i es with
    | none=>
     have h9:=hstab _ (jF hcl hni hu H es)
     rw[hch] at h9;rw[mH H es hch]
     exact h9
    | some q=>
     obtain⟨id,y⟩:=q;have h9:=hstab _ (jF hcl hni hu H es)
     rw[hch] at h9;rw[vV (by omega) hu hni H es id y h6 hch]
     exact h9
   have hstep:=hops ctx a w Q hsat;rw[aBH ho]
   have next:∀a' w',Sat n ctx ⟨ms[i].put env,sOn H es (listed.setIfInBounds i true)⟩ a' w'->wpAnyIn n.F 0 P .any ops Q fuel (listed.setIfInBounds i true) a' w':=by
    intro a' w' hs';refine ih _ a' w' _ (by simpa using hs) ?_ ?_ ?_ hs' ?_ ?_
    ·intro p hp j hj;rw[jD (by omega)] at hp ⊢;rcases hp with hp | hp
     ·subst hp;exact .inr (r3 j hj)
     ·exact .inr (hd p hp j hj)
    ·intro p hp;rw[jD (by omega)] at hp;rcases hp with hp | hp
     ·subst hp;exact r2
     ·exact hm p hp
    ·have:=aAW (k:=ops.size) (show i < listed.size by omega) (by
      cases hc':listed.getD i false with
      | false=>rfl
      | true=>exact absurd hc' hu) r2
     omega
    ·intro k v hke hno;exact kT (hno i _ hx ((jD (by omega)).2 (.inl rfl))) (hB k v hke λj x hjx hon=>hno j x hjx ((jD (by omega)).2 (.inr hon)))
    ·intro j x d v hjx hj hdx hex;rw[jD (by omega)] at hj;by_cases hji:j=i
     ·subst hji;rw[hx] at hjx;cases hjx;exact rA hdx hex
     ·have hjo:=hj.resolve_left hji;refine kT ?_ (hE j x d v hjx hjo hdx hex)
      have hjm:=aO hjx;have hcl':nK ms[i].d x.d=false:=by
       have hi':dAt ms i=ms[i].d:=by unfold dAt;rw[hx]
       have hj':dAt ms j=x.d:=by unfold dAt;rw[hjx]
       rw[<- hi',<- hj']
       rcases Nat.lt_trichotomy i j with hlt | hlt | hlt
       ·have:=cM (cM h4 j (by omega)) i hlt;simpa using this
       ·exact absurd hlt.symm hji
       ·have:=cM (cM h4 i r2) j hlt;have h9:nK (dAt ms j) (dAt ms i)=false:=by simpa using this
        generalize dAt ms i=u at *;generalize dAt ms j=v at *;cases u <;> cases v <;> first | rfl | (simp only[nK] at h9 ⊢;rw[vC];exact h9)
      rw[hdx] at hcl';cases hdi:ms[i].d with
      | none=>rfl
      | some di=>rw[hdi] at hcl';exact hcl'
   split
   ·rename_i hw;rw[if_pos hw] at hstep;exact Oper.wpIn_mono next hstep
   ·rename_i hw;rw[if_neg hw] at hstep;exact⟨λ_ _=>trivial,next _ _ hstep⟩
theorem aCO{id:Nat}{l:List Oper}{Q:Exit->ASt->Prop}{st:ASt}(hm:P.follows .mixedOrders=true){ms:List MI}{es:ES}
  (hok:mK l.toArray (dK l.toArray) ms es st.env=true) (hst:∀i,i < l.toArray.size->aFS P n l.toArray (dK l.toArray) ms es st.env st.H i)
  (hk:Q .normal ⟨oT ms st.env,aAi st.H es⟩):aw P n (.region id l.toArray true) Q st:=by
 intro ctx a w hs;refine wpIn_region_any hm ?_;obtain⟨bs,hmm⟩:=hs;have hdrew:Sat n ctx st a { w with drawn:=w.drawn+1 }:=by
  have hl:bV w w.drew:=bV.drew w;exact⟨bs,{ h:=rfl,ok:=OK.later hl hmm.ok,ext:=hmm.ext.trans (Ext.later hl),env:=hmm.env.ext (Ext.later hl),size:=hmm.size,low:=hmm.low,defers:=iT.ext hmm.ok (Ext.later hl) hmm.defers,nod:=hmm.nod,outs:=λp hp=>(hmm.outs p hp).ext (Ext.later hl) }⟩
 have hl0:∀i,¬cL (Array.replicate l.toArray.size false) i:=by
  intro i h;unfold cL at h;rw[Array.getD_eq_getD_getElem?] at h;rw[Array.getElem?_replicate] at h;split at h <;> simp at h
 have hb5:oI ms st.env=true:=by
  simp only[mK,ag] at hok;exact hok.2.2.2.2.1.1
 have hlen:ms.length=l.toArray.size:=by
  simp only[mK,ag] at hok;exact ai hok.1
 refine aGa rfl (ctx:=ctx) hok hst ?_ _ _ _ _ st.env (by simp) (λi h=>absurd h (hl0 i)) (λi h=>absurd h (hl0 i)) ?_ ?_ (λ_ _ h _=>h) (λj x d v _ h=>absurd h (hl0 j))
 ·intro a w env hs hB hE;refine⟨_,hk,nW (st:=⟨env,aAi st.H es⟩) (λi e h=>pG (λi e h=>jN hb5 h) (λv=>hB i v) (λx hx d v hd he=>?_) e h) hs⟩
  obtain⟨j,hj⟩:=List.getElem?_of_mem hx;exact hE j x d v hj hd he
 ·have:∀k,uc (Array.replicate l.toArray.size false) k<=k:=by
   intro k
   induction k with
   | zero=>exact Nat.le_refl _
   | succ k ih=>unfold uc;split <;> omega
  exact this _
 ·rw[zU hl0]
  exact hdrew
end
end Go.UK

namespace Go.UK
open Go
set_option linter.all false
variable [bA]
structure DS2 where
 ms:List MI
 es:ES
 H:List Box
structure OE where
 x:AV
 id:Nat
 y:Box
 b0:Box
abbrev O2S:=List (Nat×OE)
def refId(ρ:Operand->Option AV)(o:Oper):Option Nat:=
 match o.op with
 | .store _ p _=>match ρ p with | some (.ref id _ _)=>some id | _=>none
 | _=>none
def aF0(T:TypeId->Option TI)(im:Nat->Bool)(n:Nat)(l:List Oper)(C:List (List Nat))(B:Env)(o1:O1)(o2:O2S)(i:Nat)(o:Oper)(s:DS2):DS2:=
 match mO l o ((fR l o).map λk=>(k,kU C s.ms B i k i)) with
 | true=>⟨s.ms++[⟨fR l o,o.dst,some (.tup [])⟩],s.es,s.H⟩
 | false=>match eE o1 i with
  | some x=>⟨s.ms++[⟨fR l o,o.dst,some x⟩],s.es,s.H⟩
  | none=>match eE o2 i with
   | some f=>⟨s.ms++[⟨fR l o,o.dst,some f.x⟩],s.es++[(i,f.id,f.y)],s.H.set f.id f.y⟩
   | none=>match plU T (aDc im o) n o ((fR l o).map λk=>(k,kU C s.ms B i k i)) s.H with
    | some (x,H')=>match refId (opd ((fR l o).map λk=>(k,kU C s.ms B i k i)) none) o with
     | some id=>⟨s.ms++[⟨fR l o,o.dst,some x⟩],s.es++[(i,id,(H'[id]?).getD .dead)],H'⟩
     | none=>⟨s.ms++[⟨fR l o,o.dst,some x⟩],s.es,s.H⟩
    | none=>⟨s.ms++[⟨fR l o,o.dst,none⟩],s.es,s.H⟩
def aFU(T:TypeId->Option TI)(im:Nat->Bool)(n:Nat)(l:List Oper)(C:List (List Nat))(B:Env)(o1:O1)(o2:O2S):Nat->List Oper->DS2->DS2
 | _,[],s=>s
 | i,o :: r,s=>aFU T im n l C B o1 o2 (i+1) r (aF0 T im n l C B o1 o2 i o s)
def hS(T:TypeId->Option TI)(im:Nat->Bool)(n:Nat)(l:List Oper)(st:ASt)(o1:O1)(o2:O2S):DS2:=
 aFU T im n l (dK l.toArray) st.env o1 o2 0 l ⟨[],[],st.H⟩
def aCZ(T:TypeId->Option TI)(im:Nat->Bool)(n:Nat)(l:List Oper)(st:ASt)(o1:O1)(o2:O2S):ASt:=
 ⟨oT (hS T im n l st o1 o2).ms st.env,aAi st.H (hS T im n l st o1 o2).es⟩
def effH(i:Nat)(es:ES)(H:List Box):List Box:=match hQ i es with | some (id,y)=>H.set id y | none=>H
def dBS(l:List Oper)(C:List (List Nat))(ms:List MI)(es:ES)(B:Env)(o1:O1)(o2:O2S)(i:Nat):Bool:=
 match mO l (fN l i) (cF C ms B i) with
 | true=>sA (eAt ms i)&&qF (hQ i es)
 | false=>gOK l.toArray (fN l i) (cF C ms B i)&&(wY (eAt ms i)&&(match eE o1 i with
  | some _=>qF (hQ i es)
  | none=>match eE o2 i with
   | some f=>match hQ i es with | some (id,_)=>Nat.beq id f.id | none=>false
   | none=>true))
def effY(i:Nat)(es:ES):Box:=match hQ i es with | some (_,y)=>y | none => .dead
def dLS(T:TypeId->Option TI)(im:Nat->Bool)(n:Nat)(l:List Oper)(C:List (List Nat))(ms:List MI)(es:ES)(B:Env)(H:List Box)(o1:O1)(o2:O2S)(i:Nat):List (Option (AV×List Box)):=
 match mO l (fN l i) (cF C ms B i) with
 | true=>[]
 | false=>match eE o1 i with
  | some x=>[some (x,[])]
  | none=>match eE o2 i with
   | some f=>some (f.x,[f.y]) :: (dU C i H es).map λH'=>match H'[f.id]? with | some b=>some (f.x,[b]) | none=>none
   | none=>(dU C i H es).map λH'=>plU T (aDc im (fN l i)) n (fN l i) (cF C ms B i) H'
def dRS(l:List Oper)(C:List (List Nat))(ms:List MI)(es:ES)(B:Env)(H:List Box)(o1:O1)(o2:O2S)(i:Nat):List (Option (AV×List Box)):=
 match mO l (fN l i) (cF C ms B i) with
 | true=>[]
 | false=>match eE o1 i with
  | some _=>[some ((eAt ms i).getD default,[])]
  | none=>match eE o2 i with
   | some f=>some ((eAt ms i).getD default,[effY i es]) :: (dU C i H es).map λ_=>some (f.x,[f.b0])
   | none=>(dU C i H es).map λH'=>some ((eAt ms i).getD default,effH i es H')
def wU(l:List Oper)(C:List (List Nat))(s:DS2)(st:ASt)(o1:O1)(o2:O2S):Bool:=
 mK l.toArray C s.ms s.es st.env&&oA l.toArray.size (dBS l C s.ms s.es st.env o1 o2)
def xN(T:TypeId->Option TI)(im:Nat->Bool)(n:Nat)(l:List Oper)(C:List (List Nat))(s:DS2)(st:ASt)(o1:O1)(o2:O2S):List (List (Option (AV×List Box))):=
 (List.range l.toArray.size).map (dLS T im n l C s.ms s.es st.env st.H o1 o2)
def wR(l:List Oper)(C:List (List Nat))(s:DS2)(st:ASt)(o1:O1)(o2:O2S):List (List (Option (AV×List Box))):=
 (List.range l.toArray.size).map (dRS l C s.ms s.es st.env st.H o1 o2)
section
variable {P:Program} {T:TypeId→Option TI} {n:Fr}
end
end Go.UK

namespace Go.UK
open Go
set_option linter.all false
variable [bA]
theorem aGK{w:World}{H:List Box}{bs:List (Option Nat)}{F:Nat->Nat->Prop}(ok:(⟨H,bs,w,F⟩:Mem).OK){id:Nat}(hd:H[id]? = some .dead){x:AV}{ys:Array Value}(hc:Rc ⟨H,bs,w,F⟩ x ys.toList)(T:TypeId) :
  Ext ⟨H,bs,w,F⟩ ⟨H.set id (.var x),bs.set id (some w.heap.size),w.alloc (.cells ys T),F⟩/\(⟨H.set id (.var x),bs.set id (some w.heap.size),w.alloc (.cells ys T),F⟩:Mem).OK /\
  (bs.set id (some w.heap.size))[id]? = some (some w.heap.size)/\(H.set id (.var x))[id]? = some (.var x):=by
 have hl:bs.length=H.length:=ok.len;have hid:=aO hd;obtain⟨ob,hob⟩:∃ob,bs[id]? = some ob:=⟨bs[id]'(by omega),List.getElem?_eq_getElem (by omega)⟩
 have hlt:=bV.alloc w ys T;have ne_of:∀{i:Nat} {y:Box},H[i]? = some y->y ≠ .dead->id≠i:=λh hy e=>by subst e;rw[hd] at h;cases h;exact hy rfl
 have back:∀(i b:Nat) (y:Box),(bs.set id (some w.heap.size))[i]? = some (some b)->(H.set id (.var x))[i]? = some y->(i=id/\b=w.heap.size)\/(id≠i/\bs[i]? = some (some b)/\H[i]? = some y):=by
  intro i b y h1 h2;by_cases e:id=i
  ·subst e;rw[cB hob] at h1;cases h1;exact .inl ⟨rfl,rfl⟩
  ·rw[aX e] at h1 h2;exact .inr ⟨e,h1,h2⟩
 have ext:Ext ⟨H,bs,w,F⟩ ⟨H.set id (.var x),bs.set id (some w.heap.size),w.alloc (.cells ys T),F⟩:={
  size:=hlt.size
  len:=by simp
  cells:=λb o hb _=>fW (hlt.block b hb)
  blocks:=λb hb _=>hlt.block b hb
  mm:=λb o hb ho=>by
   obtain⟨i,h1,h2⟩:=ho;dsimp only at h1 h2 hb;rcases h2 with ⟨y,h2,h3⟩ | ⟨m,h2,h3⟩
   ·rcases back i b y h1 h2 with ⟨_,e⟩ | ⟨_,g1,g2⟩
    ·omega
    ·exact⟨i,g1,.inl ⟨y,g2,h3⟩⟩
   ·rcases back i b _ h1 h2 with ⟨_,e⟩ | ⟨_,g1,g2⟩
    ·omega
    ·exact⟨i,g1,.inr ⟨m,g2,h3⟩⟩
  same:=rfl
  vars:=λi c hc'=>by
   have e:=ne_of hc' (by simp)
   exact⟨⟨c,(aX e).trans hc'⟩,aX e⟩
  maps:=λi c hc'=>by
   have e:=ne_of hc' (by simp)
   exact⟨⟨c,(aX e).trans hc'⟩,aX e⟩
  loops:=λi c hc'=>by
   have e:=ne_of hc' (by simp)
   exact⟨⟨c,(aX e).trans hc'⟩,aX e⟩
  toks:=λi m' hi hm=>by
   dsimp only at hm;by_cases e:id=i
   ·subst e;rw[cB hd] at hm;cases hm
   ·rw[aX e] at hm;exact⟨m',hm,Nat.le_refl _,λ_=>⟨aX e,λb s _ hr=>dD (hlt.block b (by obtain⟨c,TT,h1,_⟩:=hr;exact cQ h1)) hr⟩⟩
  gros:=λi q es' hi hm=>by
   dsimp only at hm;by_cases e:id=i
   ·subst e;rw[cB hd] at hm;cases hm
   ·rw[aX e] at hm;exact⟨es',hm,Nat.le_refl _,λ_=>⟨aX e,λb s _ hr=>dD (hlt.block b (by obtain⟨c,TT,h1,_⟩:=hr;exact cQ h1)) hr⟩⟩
  os:=hlt.os
  tape:=hlt.tape
  output:=hlt.output }
 refine⟨ext,?_,cB hob,cB hd⟩
 refine⟨λb o hf=>Nat.lt_of_lt_of_le (ok.foreign b o hf) hlt.size,?_,by simp[hl],?_,?_,λg hg=>ext.globAt (ok.glob g hg)⟩
 ·intro b o ho hf;exact ok.clear b o (ext.mm b o (ok.foreign b o hf) ho) hf
 ·intro i o y ho hy;dsimp only at ho hy;by_cases e:id=i
  ·subst e;rw[cB hob] at ho;rw[cB hd] at hy;cases ho;cases hy;exact⟨w.heap.size,ys,T,rfl,cZ,Rc.ext ext _ _ hc⟩
  ·rw[aX e] at ho hy;have hok:=ok.box i o y ho hy;refine fG ext (λb hb hdd=>?_) hok;subst hb;exact hlt.block b (nE hdd hok)
 ·intro i j b y z h1 h2 h3 h4 h5 h6;dsimp only at h1 h2 h3 h4;rcases back i b y h1 h3 with ⟨e1,e2⟩ | ⟨e1,g1,g2⟩
  ·rcases back j b z h2 h4 with ⟨e3,e4⟩ | ⟨e3,g3,g4⟩
   ·omega
   ·have:=bP ok (b:=b) g3 g4 h6;dsimp only at this;omega
  ·rcases back j b z h2 h4 with ⟨e3,e4⟩ | ⟨e3,g3,g4⟩
   ·have:=bP ok (b:=b) g1 g2 h5;dsimp only at this;omega
   ·exact ok.apart i j b y z g1 g3 g2 g4 h5 h6
section
variable {P:Program} {T:TypeId→Option TI} {n:Fr}
def allE(T:TypeId->Option TI)(o:Oper):Option AV:=
 match o.op with
 | .alloc t=>match T t with
  | some i=>some i.zero
  | none=>none
 | _=>none
theorem dT(hT:TOK P T){o:Oper}{need:Env}{H:List Box}(id:Nat){x:AV}(hd:dOK n.n o.dst=true)(h:allE T o=some x)(hb:H[id]? = some .dead):Big P n o need H (.ref id [] 0) (H.set id (.var x)):=by
 unfold allE at h;split at h <;> try cases h
 rename_i t ho;split at h <;> cases h;rename_i i ht;refine eQ hd λa μ ok hH hE=>?_;obtain⟨H0,bs,w,F⟩:=μ;dsimp only at hH;subst hH;obtain⟨y,ys,h1,h2,h3,h4,h5⟩:=kG hT ht w;obtain⟨k2,k3,k4,k5⟩:=aGK ok hb (x:=i.zero) (ys:=y.cells) (by rw[h3];simpa using oQ _ _ h2) t;refine⟨_,⟨.pointer (some ⟨w.heap.size,0,none⟩),?_,?_,k2,k3⟩,rfl⟩
 ·simp[execOp,ho,Instr.alloc,h1,kH]
 ·show Rv0 _ _ _;simp only[Rv0,AV.isAgg,Rc,Bool.false_eq_true,if_false]
  exact⟨_,_,k4,k5,rfl⟩
theorem yI{st:ASt}{ctx:Mem}{a:Act}{w:World}(h:Sat n ctx st a w):∀m,Sat n ctx ⟨st.env,st.H++List.replicate m .dead⟩ a w
 | 0=>by simpa using h
 | m+1=>by
  have ih:=yI h m;obtain⟨bs,hm⟩:=ih;have ext:=Ext.snoc (F:=ctx.F) hm.ok.len (bV.refl w) .dead none (by intro b e;cases e)
  have ok:=OK.snoc hm.ok (bV.refl w) (x := .dead) (o:=none) (by intro b e;cases e) trivial;refine⟨bs++[none],?_⟩
  rw[List.replicate_succ',<- List.append_assoc]
  exact { h:=rfl,ok:=ok,ext:=hm.ext.trans ext,env:=hm.env.ext ext,size:=hm.size,low:=hm.low,defers:=iT.ext hm.ok ext hm.defers,nod:=hm.nod,outs:=λp hp=>(hm.outs p hp).ext ext }
end
end Go.UK

namespace Go.UK
open Go
set_option linter.all false
variable [bA]
section
variable {P:Program} {T:TypeId→Option TI} {n:Fr}
theorem RvL.rcl{μ:Mem}:∀{ps:List AV} {ys:List Value},RvL μ ps ys->kC ps=true->RcL μ ps ys
 | [],ys,h,_=>by simp only[RcL];exact h
 | p :: ps,ys,⟨y,r,e,h1,h2⟩,ha=>by
  simp only[kC] at ha;split at ha
  ·cases ha
  ·rename_i h0;simp only[RcL]
   subst e;unfold Rv0 at h1;rw[h0] at h1;exact⟨[y],r,rfl,by simpa using h1,RvL.rcl h2 ha⟩
def mkfE(o:Oper)(need:Env):Option AV:=
 match o.op with
 | .makeFunc (.func f) first cap=>match first.toList,aAp (opd need none) cap.toList with
  | [],some avs=>match kC avs with
   | true=>some (.fn (.func f) [] avs)
   | false=>none
  | _,_=>none
 | _=>none
theorem aBf{o:Oper}{need:Env}{H:List Box}{x:AV}(hd:dOK n.n o.dst=true)(h:mkfE o need=some x):Big P n o need H x H:=by
 unfold mkfE at h;split at h <;> try cases h
 rename_i f first cap ho
 split at h <;> try cases h
 rename_i avs hfi hcap;split at h <;> cases h;rename_i hag;refine eQ hd λa μ ok hH hE=>⟨μ,⟨.func (.func f) #[] (cap.toList.map a.eval).toArray,?_,?_,Ext.refl _,ok⟩,hH⟩
 ·have e1:first=#[]:=by
   have:=congrArg List.toArray hfi;simpa using this
  subst e1;simp only[execOp,ho,Instr.makeFunc]
  rw[show(cap.toList.map a.eval).toArray=cap.map a.eval by rw[<- List.map_toArray]]
  simp[Sem.run_bind,Sem.run_pure,Result.andThen_ok]
 ·have hv:=nR (λy v hv=>aY hE noG hv) _ _ hcap;show Rv0 μ (.fn (.func f) [] avs) _;unfold Rv0;rw[show AV.isAgg (.fn (.func f) [] avs)=false from rfl]
  simp only[Rc]
  exact⟨[],cap.toList.map a.eval,rfl,by simp[RcL],hv.rcl hag⟩
end
end Go.UK

