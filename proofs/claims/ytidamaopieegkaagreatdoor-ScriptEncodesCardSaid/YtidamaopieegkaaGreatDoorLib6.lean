/- The own layer: abstract values, their memory, and the steps of the model over them: for any program. -/
import Derived.Test.YtidamaopieegkaaGreatDoorLib5
open Bool renaming false_eq_true→am
open List renaming replicate→aj
open Go.Result renaming andThen_ok→ai
open Go.Sem renaming run_bind→an,run_pure→ay
namespace Go.UK
open Go
set_option linter.all false
variable [aZ]
section
variable {P:Program} {T:TypeId→Option TI} {n:Fr}
theorem aF5{w:World}{H:List Box}{bs:List (Option Nat)}{F:Nat->Nat->Prop}(ok:(⟨H,bs,w,F⟩:Mem).OK){es:List AV}{k N:Nat}{ys:List Value}(hk:∀e∈es,e.n=k)(hc:RdL w (⟨H,bs,w,F⟩:Mem).M es ys)(hN:ys.length=N)(T:TypeId)(len:Nat)(hlen:len=es.length) :
  let μ':Mem:=⟨H++[.var (.arr N k es)],bs++[some w.heap.size],w.alloc (.cells ys.toArray T),F⟩
  Rv μ' (.bsl H.length [] 0 k 0 len) (.slice (some ⟨w.heap.size,0,none⟩) len len)/\Ext ⟨H,bs,w,F⟩ μ'/\μ'.OK:=by
 intro μ';have hrc:Rc ⟨H,bs,w,F⟩ (.arr N k es) ys.toArray.toList:=by
  simp only[Rc]
  exact⟨hN,hk,hc⟩
 obtain⟨_,h2,h3⟩:=aAx ok hrc T;refine⟨?_,h2,h3⟩
 show Rv0 _ _ _;simp only[Rv0,AV.isAgg,Rc,am,if_false]
 refine⟨w.heap.size,.arr N k es,len,?_,?_,Nat.le_refl _,by simp⟩
 ·have hl:bs.length=H.length:=ok.len;show(bs++[some w.heap.size])[H.length]? = _;rw[<- hl]
  simp
 ·show(H++[Box.var (.arr N k es)])[H.length]? = _;simp
def aE7 : Operand->Operand->Bool
 | .tmp a,.tmp b=>Nat.beq a b
 | .const (.int .i64 a),.const (.int .i64 b)=>decide (a=b)
 | _,_=>false
theorem aFz{x y:Operand}(h:aE7 x y=true):x=y:=by
 unfold aE7 at h;split at h
 ·rw[Nat.eq_of_beq_eq_true h]
 ·rw[of_decide_eq_true h]
 ·cases h
def mkE(T:TypeId->Option TI)(o:Oper)(need:Env):Option (Int×TI):=
 match o.op with
 | .makeSlice t a b=>match aE7 a b,opd need none a,T t with
  | true,some (.v (.int .i64 i)),some ⟨_,_,_,.sl e⟩=>match T e with
   | some ei=>some (i,ei)
   | none=>none
  | _,_,_=>none
 | _=>none
def mkO(b:Nat)(i:Int):Option Unit:=cond (decide (0<=i)&&decide (i<=140737488355328)&&decide (i*b<=140737488355328)) (some ()) none
theorem mkO_t{b:Nat}{i:Int}{u:Unit}(h:mkO b i=some u):0<=i/\i<=140737488355328/\i*b<=140737488355328:=by
 unfold mkO at h;cases hc:(decide (0<=i)&&decide (i<=140737488355328)&&decide (i*b<=140737488355328)) with
 | true=>simp only[Bool.and_eq_true,decide_eq_true_eq] at hc;exact⟨hc.1.1,hc.1.2,hc.2⟩
 | false=>rw[hc] at h;cases h
theorem aHE(hT:TOK P T){o:Oper}{need:Env}{i:Int}{ei:TI}(h:mkE T o need=some (i,ei))(h0:0<=i)(h1:i<=140737488355328)(h2:i*ei.bytes<=140737488355328){a:Act}{μ:Mem}(hE:eF μ need a.tmps) :
  ∃(zs:List Value) (e:TypeId),cst ei.zero=some zs/\zs.length=ei.size/\(execOp a.eval o).run P μ.w = .ok (.value (.slice (some ⟨μ.w.heap.size,0,none⟩) i.toNat i.toNat)) (μ.w.alloc (.cells (aj i.toNat zs).flatten.toArray e)):=by
 unfold mkE at h;split at h <;> try cases h
 rename_i t x y ho;split at h <;> try cases h
 rename_i i' sz b1 z e hb hx ht;split at h <;> cases h;rename_i he;have hxy:=aFz hb;subst hxy;have ex:=bW (aS hE noG hx)
 obtain⟨d,hd,hk⟩:=(hT t _ ht).kind;simp only[TK.fits] at hk;subst hk;obtain⟨zv,zs,g1,g2,g3,g4,g5⟩:=oA hT he μ.w;obtain⟨te,k1,k2,k3⟩:=vS hT he μ.w;refine⟨zs,e,g2,g4,?_⟩
 have hw:IntKind.i64.wrap i=i:=by rw[IntKind.wrap_i64];omega
 have e1:¬i < 0:=by omega
 have e2:¬((te.bytes:Int)*i > 2 ^ 48):=by rw[k2,Int.mul_comm];omega
 simp only[execOp,ho,Instr.makeSlice,an,run_underlying hd,ai,ex,asInt,asIntOf,ay,k1,hw,run_askRoom,fA hT he]
 simp only[decide_eq_false e1,decide_eq_false e2,Bool.or_false,am,if_false,Int.lt_irrefl,or_self,gt_iff_lt,false_or,ai,an,run_askRoom]
 simp only[show(false||decide False)=false by simp,am,if_false,an,run_askRoom,ai,fA hT he]
 by_cases hz:i.toNat*ei.size=0
 ·have hfl:(aj i.toNat zs).flatten=[]:=List.eq_nil_of_length_eq_zero (by rw[iE,g4];exact hz)
  rw[hfl]
  simp only[hz,if_true,an,ay,ai]
  rw[show(Array.map (λx:Nat=>(#[]:Array Value)[x % (#[]:Array Value).size]!) (Array.range 0))=[].toArray from by simp]
  simp only[newRow,an,run_newObj,ai,ay,World.alloc_eq]
 ·have hflat:(Array.range (i.toNat*ei.size)).map (λq=>zs.toArray[q % zs.toArray.size]!)=(aj i.toNat zs).flatten.toArray:=by
   rw[<- Array.toList_inj,Array.toList_map,Array.toList_range]
   exact sL g4 i.toNat
  simp only[if_neg hz,an,g1,ai,ay,g3,hflat]
  simp only[newRow,an,run_newObj,ai,ay,World.alloc_eq]
theorem aHj(hT:TOK P T){o:Oper}{need:Env}{H:List Box}{α:Type}(f:α->AV)(z0:α){i:Int}{b k:Nat}{kd:TK}{u:Unit}(hx:mkO b i=some u)(hd:dOK n.n o.dst=true)(h:mkE T o need=some (i,⟨k,b,f z0,kd⟩))(hn:(f z0).n=k) :
  Big P n o need H (.bsl H.length [] 0 k 0 i.toNat) (H++[.var (.arr (i.toNat*k) k ((aj i.toNat z0).map f))]):=by
 obtain⟨h0,h1,h2⟩:=mkO_t hx;refine dX hd λa μ ok hH hE=>?_;obtain⟨zs,e,g1,g2,hrun⟩:=aHE (P:=P) hT h h0 h1 h2 hE;obtain⟨H0,bs,w,F⟩:=μ;dsimp only at hH;subst hH;have hc:RdL w (⟨H0,bs,w,F⟩:Mem).M ((aj i.toNat z0).map f) (aj i.toNat zs).flatten:=by
  rw[List.map_replicate]
  exact xA (vC _ _ g1) _
 obtain⟨hv,ext,ok'⟩:=aF5 (k:=k) (N:=i.toNat*k) ok (by intro e he;obtain⟨y,hy,rfl⟩:=List.mem_map.1 he;rw[List.eq_of_mem_replicate hy];exact hn) hc (by rw[iE,g2]) e i.toNat (by simp)
 exact⟨_,⟨_,hrun,hv,ext,ok'⟩,rfl⟩
end
def lenO{α:Type}(l:List α)(n:Nat):Option Unit:=cond (Nat.beq l.length n) (some ()) none
theorem aHb{α:Type}{l:List α}{n:Nat}{u:Unit}(h:lenO l n=some u):l.length=n:=by
 unfold lenO at h;cases hc:Nat.beq l.length n with
 | true=>exact Nat.eq_of_beq_eq_true hc
 | false=>rw[hc] at h;cases h
theorem lenM{α:Type}(f:α->AV){l:List α}{n:Nat}{u:Unit}(h:lenO l n=some u):(List.map f l).length=n:=(List.length_map _).trans (aHb h)
end Go.UK

open Bool renaming and_eq_true→ak,not_eq_true'→fk,or_eq_true→gc
open Nat renaming beq→aq,eq_of_beq_eq_true→ag
namespace Go.UK
open Go
set_option linter.all false
variable [aZ]
abbrev ES:=List (Nat×Nat×Box)
def lC(i:Nat):ES->Option (Nat×Box)
 | []=>none
 | (c,id,x) :: r=>match aq c i with | true=>some (id,x) | false=>lC i r
def sOn : List Box->ES->Array Bool->List Box
 | H,[],_=>H
 | H,(i,id,x) :: r,listed=>match listed.getD i false with | true=>sOn (H.set id x) r listed | false=>sOn H r listed
def aCB : List Box->ES->List Box
 | H,[]=>H
 | H,(_,id,x) :: r=>aCB (H.set id x) r
def esOK(C:List (List Nat)):ES->Bool
 | []=>true
 | (i,id,_) :: r=>r.all (λq=>(!(aq q.2.1 id)||inC C q.1 i) && !(aq q.1 i))&&esOK C r
def fR(C:List (List Nat))(i:Nat):List Box->ES->List (List Box)
 | H,[]=>[H]
 | H,(c,id,x) :: r=>match inC C c i||aq c i with
  | true=>fR C i H r
  | false=>match inC C i c with
   | true=>fR C i (H.set id x) r
   | false=>fR C i H r++fR C i (H.set id x) r
def qS(ops:Array Oper)(C:List (List Nat))(ms:List MI)(es:ES)(B:Env):Bool:=
 aq ms.length ops.size&&(
 sR ops.size (λi=>(dir ops i).all λj=>Nat.blt j i)&&(
 sR ops.size (λi=>dEq ((ops[i]?).bind (·.dst)) (dAt ms i))&&(
 sR ops.size (λj=>sR j λi => !sB (dAt ms i) (dAt ms j))&&(
 (tU ms B&&aEG C ms ops.size)&&(
 esOK C es&&es.all (λq=>Nat.blt q.1 ops.size))))))
section
variable {P:Program} {T:TypeId→Option TI} {n:Fr} {ops:Array Oper}
def aGq(P:Program)(n:Fr)(ops:Array Oper)(C:List (List Nat))(ms:List MI)(es:ES)(B:Env)(H:List Box)(i:Nat):Prop:=
 ∀o x env,ops[i]? = some o->ms[i]? = some x->Sub (cJ C ms B i) env ->
  ∀H'∈fR C i H es,opS P n ops o ⟨env,H'⟩ ⟨match x.d with | some d=>(match x.e with | some v=>env.set d (none,v) | none=>env.del d) | none=>env,match lC i es with | some (id,y)=>H'.set id y | none=>H'⟩
theorem mF{C:List (List Nat)}{listed:Array Bool}{i:Nat}(hcl:∀s,inC C i s=true->dG listed s)(hni:∀c,inC C c i=true->¬dG listed c)(hu:¬dG listed i):∀(H:List Box) (es:ES),sOn H es listed∈fR C i H es
 | H,[]=>by simp[sOn,fR]
 | H,(c,id,x) :: r=>by
  unfold sOn fR;cases h1:inC C c i||aq c i with
  | true=>
   have hn:¬dG listed c:=by
    simp only[gc] at h1;rcases h1 with h1 | h1
    ·exact hni c h1
    ·rw[ag h1];exact hu
   unfold dG at hn;cases hg:listed.getD c false with
   | true=>exact absurd hg hn
   | false=>exact mF hcl hni hu H r
  | false=>
   cases h2:inC C i c with
   | true=>
    have:=hcl c h2;unfold dG at this;rw[this]
    exact mF hcl hni hu _ r
   | false=>
    cases hg:listed.getD c false with
    | true=>exact List.mem_append.2 (.inr (mF hcl hni hu _ r))
    | false=>exact List.mem_append.2 (.inl (mF hcl hni hu _ r))
theorem qJ{listed:Array Bool}{i:Nat}:∀(H:List Box) (es:ES),lC i es=none->sOn H es (listed.setIfInBounds i true)=sOn H es listed
 | H,[],_=>rfl
 | H,(c,id,x) :: r,h=>by
  unfold lC at h;split at h
  ·cases h
  ·rename_i hb;unfold sOn;have hne:i≠c:=λe=>by subst e;simp at hb
   rw[kN false hne,qJ H r h,qJ (H.set id x) r h]
theorem xU{listed:Array Bool}{id:Nat}{y:Box}:∀(H:List Box) (es:ES),(∀q∈es,q.2.1=id->¬dG listed q.1)->sOn (H.set id y) es listed=(sOn H es listed).set id y
 | H,[],_=>rfl
 | H,(c,id',x) :: r,h=>by
  unfold sOn;have hr:∀q∈r,q.2.1=id->¬dG listed q.1:=λq hq=>h q (by simp[hq])
  cases hg:listed.getD c false with
  | false=>exact xU H r hr
  | true=>
   have hne:id'≠id:=λe=>h (c,id',x) (by simp) e hg;dsimp only;rw[List.set_comm _ _ (Ne.symm hne)]
   exact xU _ r hr
theorem aAY{C:List (List Nat)}{listed:Array Bool}{i:Nat}(hi:i < listed.size)(hu:¬dG listed i)(hni:∀c,inC C c i=true->¬dG listed c):∀(H:List Box) (es:ES) (id:Nat) (y:Box),esOK C es=true->lC i es=some (id,y) ->
  sOn H es (listed.setIfInBounds i true)=(sOn H es listed).set id y
 | H,[],id,y,_,h=>by simp[lC] at h
 | H,(c,id',x) :: r,id,y,hk,h=>by
  simp only[esOK,ak] at hk;unfold lC at h;split at h
  ·rename_i hb;cases h;have e:=ag hb;subst e;have hall:=List.all_eq_true.1 hk.1;have hnone:lC c r=none:=by
    have key:∀(r:ES),(∀q∈r,aq q.1 c=false)->lC c r=none:=by
     intro r
     induction r with
     | nil=>intro _;rfl
     | cons q r ih=>
      intro hq;unfold lC;rw[hq q (by simp)]
      exact ih λq' hq'=>hq q' (by simp[hq'])
    exact key r λq hq=>by have:=hall q hq;simp only[ak,fk] at this;exact this.2
   unfold sOn;have h1:(listed.setIfInBounds c true).getD c false=true:=(mI hi).2 (.inl rfl)
   have h2:listed.getD c false=false:=by cases hg:listed.getD c false with | true=>exact absurd hg hu | false=>rfl
   rw[h1,h2]
   dsimp only;rw[qJ _ r hnone]
   refine xU H r λq hq hid=>?_;have:=hall q hq;simp only[ak,gc,fk] at this;rcases this.1 with h3 | h3
   ·rw[hid] at h3;simp at h3
   ·exact hni q.1 h3
  ·rename_i hb;have hne:i≠c:=λe=>by subst e;simp at hb
   unfold sOn;rw[kN false hne]
   cases hg:listed.getD c false with
   | true=>exact aAY hi hu hni _ r id y hk.2 h
   | false=>exact aAY hi hu hni _ r id y hk.2 h
theorem aDM{listed:Array Bool}:∀(H:List Box) (es:ES),(∀q∈es,listed.getD q.1 false=true)->sOn H es listed=aCB H es
 | H,[],_=>rfl
 | H,(c,id,x) :: r,h=>by
  unfold sOn aCB;rw[h (c,id,x) (by simp)]
  exact aDM _ r (λq hq=>h q (by simp[hq]))
theorem aBm{listed:Array Bool}(h:∀i,¬dG listed i):∀(H:List Box) (es:ES),sOn H es listed=H
 | H,[]=>rfl
 | H,(c,id,x) :: r=>by
  unfold sOn;split
  ·rename_i hon;exact absurd hon (h c)
  ·exact aBm h H r
theorem aHY{C:List (List Nat)}(hC:C=eV ops){ms:List MI}{es:ES}{B:Env}{H:List Box}{ctx:Mem}{Q:Exit->Act->World->Prop}(hok:qS ops C ms es B=true)(hst:∀i,i < ops.size->aGq P n ops C ms es B H i)
  (hk:∀a w env,Sat n ctx ⟨env,aCB H es⟩ a w->(∀k v,bD B k=some (none,v)->(∀x∈ms,qL x.d k=false)->bD env k=some (none,v))->(∀(j:Nat) (x:MI) d v,ms[j]? = some x->x.d=some d->x.e=some v->bD env d=some (none,v))->Q .normal a w) :
  ∀(fuel:Nat) (listed:Array Bool) (a:Act) (w:World) (env:Env),listed.size=ops.size->Down ops listed->(∀i,dG listed i->i < ops.size)->uc listed ops.size<=fuel ->
  Sat n ctx ⟨env,sOn H es listed⟩ a w->(∀k v,bD B k=some (none,v)->(∀(j:Nat) x,ms[j]? = some x->dG listed j->qL x.d k=false)->bD env k=some (none,v))->(∀(j:Nat) (x:MI) d v,ms[j]? = some x->dG listed j->x.d=some d->x.e=some v->bD env d=some (none,v))->wpAnyIn n.F 0 P .any ops Q fuel listed a w:=by
 simp only[qS,ak] at hok;obtain⟨h1,h2,h3,h4,⟨h5,h5k⟩,h6,h7⟩:=hok;have hsz:=ag h1;have hcs:∀q∈es,q.1 < ops.size:=λq hq=>by
  have h8:Nat.ble (q.1+1) ops.size=true:=List.all_eq_true.1 h7 q hq;have:=Nat.le_of_ble_eq_true h8;omega
 have done:∀(listed:Array Bool) (a:Act) (w:World) (env:Env),(∀i,i < ops.size->dG listed i)->Sat n ctx ⟨env,sOn H es listed⟩ a w->(∀k v,bD B k=some (none,v)->(∀(j:Nat) x,ms[j]? = some x->dG listed j->qL x.d k=false)->bD env k=some (none,v)) ->
   (∀(j:Nat) (x:MI) d v,ms[j]? = some x->dG listed j->x.d=some d->x.e=some v->bD env d=some (none,v))->Q .normal a w:=by
  intro listed a w env hall hsat hB hE;rw[aDM H es (λq hq=>hall q.1 (hcs q hq))] at hsat;exact hk a w env hsat (λk v hb hl=>hB k v hb λj x hx _=>hl x (List.mem_of_getElem? hx)) (λj x d v hx=>hE j x d v hx (hall j (by have:=aR hx;omega)))
 have nothing:∀(listed:Array Bool),(∀i,i < ops.size->dG listed i)->Region.ready .any ops listed=[]:=by
  intro listed hall;refine List.eq_nil_iff_forall_not_mem.2 λi hi=>?_;obtain⟨r1,r2,_⟩:=qI hi;exact aAu r1 (hall i r2)
 intro fuel
 induction fuel with
 | zero=>
  intro listed a w env hs hd hm hc hsat hB hE;have hall:∀i,i < ops.size->dG listed i:=aAz ops.size (by omega)
  exact⟨nothing listed hall,done listed a w env hall hsat hB hE⟩
 | succ fuel ih=>
  intro listed a w env hs hd hm hc hsat hB hE;refine⟨λh0=>?_,λi hi=>?_⟩
  ·refine done listed a w env (λj hj=>?_) hsat hB hE;apply Classical.byContradiction;intro hn;obtain⟨i,hi⟩:=yV hs h2 j hj hn;rw[h0] at hi;cases hi
  ·obtain⟨r1,r2,r3⟩:=qI hi;have hu:=aAu r1;have hcl:∀s,inC C i s=true->dG listed s:=λs hs'=>vX hd i _ r3 s (uP hC hs')
   have hni:∀c,inC C c i=true->¬dG listed c:=λc hc' hon=>hu (vX hd c _ (hd c hon) i (uP hC hc'))
   have him:i < ms.length:=by omega
   have ho:ops[i]? = some ops[i]:=Array.getElem?_eq_getElem r2;have hx:ms[i]? = some ms[i]:=List.getElem?_eq_getElem him;have hBf:∀i e,bD B i=some e->e.1=none:=λi e h=>mV h5 h;have hsub:Sub (cJ C ms B i) env:=by
    intro k e hl;unfold cJ at hl;rw[hx] at hl;dsimp only at hl;have hkm:k∈ms[i].keys:=qM (f:=λk=>oV C ms B i k i) hl;have hord:∀(j:Nat) x,ms[j]? = some x->dG listed j->qL x.d k=true->inC C i j=true/\j < i:=by
     intro j x hjx hon hdh;rcases yQ h5k r2 (hm j hon) hx hjx hkm hdh with h' | h' | h'
     ·exact h'
     ·exact absurd hon (hni j h')
     ·subst h';exact absurd hon hu
    refine aAg (on:=dG listed) hcl (λv hb hl=>hB k v hb hl) hBf (λj x d v hjx hj hd' he=>hE j x d v hjx hj hd' he) (λj x hjx hon hdh=>(hord j x hjx hon hdh).1) i ?_ (yX (f:=λk=>oV C ms B i k i) hl)
    intro j x hij hjx hon;cases hc:qL x.d k with
    | false=>rfl
    | true=>have:=(hord j x hjx hon hc).2;omega
   have hstab:=hst i r2 ops[i] ms[i] env ho hx hsub;have hdst:(ops[i]).dst=ms[i].d:=by
    have:=dJ h3 i r2;rw[ho] at this;simp only[Option.bind_some,dAt,hx] at this;generalize (ops[i]).dst=u at *;generalize ms[i].d=v at *;cases u <;> cases v <;> simp[dEq] at this ⊢;exact this
   have hops:opS P n ops ops[i] ⟨env,sOn H es listed⟩ ⟨ms[i].put env,sOn H es (listed.setIfInBounds i true)⟩:=by
    cases hch:lC i es with
    | none=>
     have h9:=hstab _ (mF hcl hni hu H es)
     rw[hch] at h9;rw[qJ H es hch]
     exact h9
    | some q=>
     obtain⟨id,y⟩:=q;have h9:=hstab _ (mF hcl hni hu H es)
     rw[hch] at h9;rw[aAY (by omega) hu hni H es id y h6 hch]
     exact h9
   have hstep:=hops ctx a w Q hsat;rw[aDL ho]
   have next:∀a' w',Sat n ctx ⟨ms[i].put env,sOn H es (listed.setIfInBounds i true)⟩ a' w'->wpAnyIn n.F 0 P .any ops Q fuel (listed.setIfInBounds i true) a' w':=by
    intro a' w' hs';refine ih _ a' w' _ (by simpa using hs) ?_ ?_ ?_ hs' ?_ ?_
    ·intro p hp j hj;rw[mI (by omega)] at hp ⊢;rcases hp with hp | hp
     ·subst hp;exact .inr (r3 j hj)
     ·exact .inr (hd p hp j hj)
    ·intro p hp;rw[mI (by omega)] at hp;rcases hp with hp | hp
     ·subst hp;exact r2
     ·exact hm p hp
    ·have:=aCZ (k:=ops.size) (show i < listed.size by omega) (by
      cases hc':listed.getD i false with
      | false=>rfl
      | true=>exact absurd hc' hu) r2
     omega
    ·intro k v hke hno;exact oY (hno i _ hx ((mI (by omega)).2 (.inl rfl))) (hB k v hke λj x hjx hon=>hno j x hjx ((mI (by omega)).2 (.inr hon)))
    ·intro j x d v hjx hj hdx hex;rw[mI (by omega)] at hj;by_cases hji:j=i
     ·subst hji;rw[hx] at hjx;cases hjx;exact wP hdx hex
     ·have hjo:=hj.resolve_left hji;refine oY ?_ (hE j x d v hjx hjo hdx hex)
      have hjm:=aR hjx;have hcl':sB ms[i].d x.d=false:=by
       have hi':dAt ms i=ms[i].d:=by unfold dAt;rw[hx]
       have hj':dAt ms j=x.d:=by unfold dAt;rw[hjx]
       rw[<- hi',<- hj']
       rcases Nat.lt_trichotomy i j with hlt | hlt | hlt
       ·have:=dJ (dJ h4 j (by omega)) i hlt;simpa using this
       ·exact absurd hlt.symm hji
       ·have:=dJ (dJ h4 i r2) j hlt;have h9:sB (dAt ms j) (dAt ms i)=false:=by simpa using this
        generalize dAt ms i=u at *;generalize dAt ms j=v at *;cases u <;> cases v <;> first | rfl | (simp only[sB] at h9 ⊢;rw[aAG];exact h9)
      rw[hdx] at hcl';cases hdi:ms[i].d with
      | none=>rfl
      | some di=>rw[hdi] at hcl';exact hcl'
   split
   ·rename_i hw;rw[if_pos hw] at hstep;exact Oper.wpIn_mono next hstep
   ·rename_i hw;rw[if_neg hw] at hstep;exact⟨λ_ _=>trivial,next _ _ hstep⟩
theorem aEB{id:Nat}{l:List Oper}{Q:Exit->ASt->Prop}{st:ASt}(hm:P.follows .mixedOrders=true){ms:List MI}{es:ES}
  (hok:qS l.toArray (eV l.toArray) ms es st.env=true) (hst:∀i,i < l.toArray.size->aGq P n l.toArray (eV l.toArray) ms es st.env st.H i)
  (hk:Q .normal ⟨tI ms st.env,aCB st.H es⟩):aw P n (.region id l.toArray true) Q st:=by
 intro ctx a w hs;refine wpIn_region_any hm ?_;obtain⟨bs,hmm⟩:=hs;have hdrew:Sat n ctx st a { w with drawn:=w.drawn+1 }:=by
  have hl:cG w w.drew:=cG.drew w;exact⟨bs,{ h:=rfl,ok:=OK.later hl hmm.ok,ext:=hmm.ext.trans (Ext.later hl),env:=hmm.env.ext (Ext.later hl),size:=hmm.size,low:=hmm.low,defers:=lY.ext hmm.ok (Ext.later hl) hmm.defers,nod:=hmm.nod,outs:=λp hp=>(hmm.outs p hp).ext (Ext.later hl) }⟩
 have hl0:∀i,¬dG (Array.replicate l.toArray.size false) i:=by
  intro i h;unfold dG at h;rw[Array.getD_eq_getD_getElem?] at h;rw[Array.getElem?_replicate] at h;split at h <;> simp at h
 have hb5:tU ms st.env=true:=by
  simp only[qS,ak] at hok;exact hok.2.2.2.2.1.1
 have hlen:ms.length=l.toArray.size:=by
  simp only[qS,ak] at hok;exact ag hok.1
 refine aHY rfl (ctx:=ctx) hok hst ?_ _ _ _ _ st.env (by simp) (λi h=>absurd h (hl0 i)) (λi h=>absurd h (hl0 i)) ?_ ?_ (λ_ _ h _=>h) (λj x d v _ h=>absurd h (hl0 j))
 ·intro a w env hs hB hE;refine⟨_,hk,sI (st:=⟨env,aCB st.H es⟩) (λi e h=>uE (λi e h=>mV hb5 h) (λv=>hB i v) (λx hx d v hd he=>?_) e h) hs⟩
  obtain⟨j,hj⟩:=List.getElem?_of_mem hx;exact hE j x d v hj hd he
 ·have:∀k,uc (Array.replicate l.toArray.size false) k<=k:=by
   intro k
   induction k with
   | zero=>exact Nat.le_refl _
   | succ k ih=>unfold uc;split <;> omega
  exact this _
 ·rw[aBm hl0]
  exact hdrew
end
end Go.UK

namespace Go.UK
open Go
set_option linter.all false
variable [aZ]
structure DS2 where
 ms:List MI
 es:ES
 H:List Box
structure OE where
 x:AV
 id:Nat
 y:Box
 b0:Box
abbrev O2S:=List (Nat×OE)
def refId(ρ:Operand->Option AV)(o:Oper):Option Nat:=
 match o.op with
 | .store _ p _=>match ρ p with | some (.ref id _ _)=>some id | _=>none
 | _=>none
def aHF(T:TypeId->Option TI)(im:Nat->Bool)(n:Nat)(l:List Oper)(C:List (List Nat))(B:Env)(o1:O1)(o2:O2S)(i:Nat)(o:Oper)(s:DS2):DS2:=
 match qW l o ((kL l o).map λk=>(k,oV C s.ms B i k i)) with
 | true=>⟨s.ms++[⟨kL l o,o.dst,some (.tup [])⟩],s.es,s.H⟩
 | false=>match fU o1 i with
  | some x=>⟨s.ms++[⟨kL l o,o.dst,some x⟩],s.es,s.H⟩
  | none=>match fU o2 i with
   | some f=>⟨s.ms++[⟨kL l o,o.dst,some f.x⟩],s.es++[(i,f.id,f.y)],s.H.set f.id f.y⟩
   | none=>match plU T (aEW im o) n o ((kL l o).map λk=>(k,oV C s.ms B i k i)) s.H with
    | some (x,H')=>match refId (opd ((kL l o).map λk=>(k,oV C s.ms B i k i)) none) o with
     | some id=>⟨s.ms++[⟨kL l o,o.dst,some x⟩],s.es++[(i,id,(H'[id]?).getD .dead)],H'⟩
     | none=>⟨s.ms++[⟨kL l o,o.dst,some x⟩],s.es,s.H⟩
    | none=>⟨s.ms++[⟨kL l o,o.dst,none⟩],s.es,s.H⟩
def aG3(T:TypeId->Option TI)(im:Nat->Bool)(n:Nat)(l:List Oper)(C:List (List Nat))(B:Env)(o1:O1)(o2:O2S):Nat->List Oper->DS2->DS2
 | _,[],s=>s
 | i,o :: r,s=>aG3 T im n l C B o1 o2 (i+1) r (aHF T im n l C B o1 o2 i o s)
def lF(T:TypeId->Option TI)(im:Nat->Bool)(n:Nat)(l:List Oper)(st:ASt)(o1:O1)(o2:O2S):DS2:=
 aG3 T im n l (eV l.toArray) st.env o1 o2 0 l ⟨[],[],st.H⟩
def aDh(T:TypeId->Option TI)(im:Nat->Bool)(n:Nat)(l:List Oper)(st:ASt)(o1:O1)(o2:O2S):ASt:=
 ⟨tI (lF T im n l st o1 o2).ms st.env,aCB st.H (lF T im n l st o1 o2).es⟩
def effH(i:Nat)(es:ES)(H:List Box):List Box:=match lC i es with | some (id,y)=>H.set id y | none=>H
def dBS(l:List Oper)(C:List (List Nat))(ms:List MI)(es:ES)(B:Env)(o1:O1)(o2:O2S)(i:Nat):Bool:=
 match qW l (jC l i) (cJ C ms B i) with
 | true=>xB (eAt ms i)&&vM (lC i es)
 | false=>gOK l.toArray (jC l i) (cJ C ms B i)&&(aAn (eAt ms i)&&(match fU o1 i with
  | some _=>vM (lC i es)
  | none=>match fU o2 i with
   | some f=>match lC i es with | some (id,_)=>Nat.beq id f.id | none=>false
   | none=>true))
def effY(i:Nat)(es:ES):Box:=match lC i es with | some (_,y)=>y | none => .dead
def dLS(T:TypeId->Option TI)(im:Nat->Bool)(n:Nat)(l:List Oper)(C:List (List Nat))(ms:List MI)(es:ES)(B:Env)(H:List Box)(o1:O1)(o2:O2S)(i:Nat):List (Option (AV×List Box)):=
 match qW l (jC l i) (cJ C ms B i) with
 | true=>[]
 | false=>match fU o1 i with
  | some x=>[some (x,[])]
  | none=>match fU o2 i with
   | some f=>some (f.x,[f.y]) :: (fR C i H es).map λH'=>match H'[f.id]? with | some b=>some (f.x,[b]) | none=>none
   | none=>(fR C i H es).map λH'=>plU T (aEW im (jC l i)) n (jC l i) (cJ C ms B i) H'
def dRS(l:List Oper)(C:List (List Nat))(ms:List MI)(es:ES)(B:Env)(H:List Box)(o1:O1)(o2:O2S)(i:Nat):List (Option (AV×List Box)):=
 match qW l (jC l i) (cJ C ms B i) with
 | true=>[]
 | false=>match fU o1 i with
  | some _=>[some ((eAt ms i).getD default,[])]
  | none=>match fU o2 i with
   | some f=>some ((eAt ms i).getD default,[effY i es]) :: (fR C i H es).map λ_=>some (f.x,[f.b0])
   | none=>(fR C i H es).map λH'=>some ((eAt ms i).getD default,effH i es H')
def aAW(l:List Oper)(C:List (List Nat))(s:DS2)(st:ASt)(o1:O1)(o2:O2S):Bool:=
 qS l.toArray C s.ms s.es st.env&&sR l.toArray.size (dBS l C s.ms s.es st.env o1 o2)
def aAZ(T:TypeId->Option TI)(im:Nat->Bool)(n:Nat)(l:List Oper)(C:List (List Nat))(s:DS2)(st:ASt)(o1:O1)(o2:O2S):List (List (Option (AV×List Box))):=
 (List.range l.toArray.size).map (dLS T im n l C s.ms s.es st.env st.H o1 o2)
def aAb(l:List Oper)(C:List (List Nat))(s:DS2)(st:ASt)(o1:O1)(o2:O2S):List (List (Option (AV×List Box))):=
 (List.range l.toArray.size).map (dRS l C s.ms s.es st.env st.H o1 o2)
section
variable {P:Program} {T:TypeId→Option TI} {n:Fr}
end
end Go.UK

namespace Go.UK
open Go
set_option linter.all false
variable [aZ]
theorem aHX{w:World}{H:List Box}{bs:List (Option Nat)}{F:Nat->Nat->Prop}(ok:(⟨H,bs,w,F⟩:Mem).OK){id:Nat}(hd:H[id]? = some .dead){x:AV}{ys:Array Value}(hc:Rc ⟨H,bs,w,F⟩ x ys.toList)(T:TypeId) :
  Ext ⟨H,bs,w,F⟩ ⟨H.set id (.var x),bs.set id (some w.heap.size),w.alloc (.cells ys T),F⟩/\(⟨H.set id (.var x),bs.set id (some w.heap.size),w.alloc (.cells ys T),F⟩:Mem).OK /\
  (bs.set id (some w.heap.size))[id]? = some (some w.heap.size)/\(H.set id (.var x))[id]? = some (.var x):=by
 have hl:bs.length=H.length:=ok.len;have hid:=aR hd;obtain⟨ob,hob⟩:∃ob,bs[id]? = some ob:=⟨bs[id]'(by omega),List.getElem?_eq_getElem (by omega)⟩
 have hlt:=cG.alloc w ys T;have ne_of:∀{i:Nat} {y:Box},H[i]? = some y->y ≠ .dead->id≠i:=λh hy e=>by subst e;rw[hd] at h;cases h;exact hy rfl
 have back:∀(i b:Nat) (y:Box),(bs.set id (some w.heap.size))[i]? = some (some b)->(H.set id (.var x))[i]? = some y->(i=id/\b=w.heap.size)\/(id≠i/\bs[i]? = some (some b)/\H[i]? = some y):=by
  intro i b y h1 h2;by_cases e:id=i
  ·subst e;rw[cM hob] at h1;cases h1;exact .inl ⟨rfl,rfl⟩
  ·rw[aW e] at h1 h2;exact .inr ⟨e,h1,h2⟩
 have ext:Ext ⟨H,bs,w,F⟩ ⟨H.set id (.var x),bs.set id (some w.heap.size),w.alloc (.cells ys T),F⟩:={
  size:=hlt.size
  len:=by simp
  cells:=λb o hb _=>kT (hlt.block b hb)
  blocks:=λb hb _=>hlt.block b hb
  mm:=λb o hb ho=>by
   obtain⟨i,h1,h2⟩:=ho;dsimp only at h1 h2 hb;rcases h2 with ⟨y,h2,h3⟩ | ⟨m,h2,h3⟩
   ·rcases back i b y h1 h2 with ⟨_,e⟩ | ⟨_,g1,g2⟩
    ·omega
    ·exact⟨i,g1,.inl ⟨y,g2,h3⟩⟩
   ·rcases back i b _ h1 h2 with ⟨_,e⟩ | ⟨_,g1,g2⟩
    ·omega
    ·exact⟨i,g1,.inr ⟨m,g2,h3⟩⟩
  same:=rfl
  vars:=λi c hc'=>by
   have e:=ne_of hc' (by simp)
   exact⟨⟨c,(aW e).trans hc'⟩,aW e⟩
  maps:=λi c hc'=>by
   have e:=ne_of hc' (by simp)
   exact⟨⟨c,(aW e).trans hc'⟩,aW e⟩
  loops:=λi c hc'=>by
   have e:=ne_of hc' (by simp)
   exact⟨⟨c,(aW e).trans hc'⟩,aW e⟩
  toks:=λi m' hi hm=>by
   dsimp only at hm;by_cases e:id=i
   ·subst e;rw[cM hd] at hm;cases hm
   ·rw[aW e] at hm;exact⟨m',hm,Nat.le_refl _,λ_=>⟨aW e,λb s _ hr=>eE (hlt.block b (by obtain⟨c,TT,h1,_⟩:=hr;exact dN h1)) hr⟩⟩
  gros:=λi q es' hi hm=>by
   dsimp only at hm;by_cases e:id=i
   ·subst e;rw[cM hd] at hm;cases hm
   ·rw[aW e] at hm;exact⟨es',hm,Nat.le_refl _,λ_=>⟨aW e,λb s _ hr=>eE (hlt.block b (by obtain⟨c,TT,h1,_⟩:=hr;exact dN h1)) hr⟩⟩
  os:=hlt.os
  tape:=hlt.tape
  output:=hlt.output }
 refine⟨ext,?_,cM hob,cM hd⟩
 refine⟨λb o hf=>Nat.lt_of_lt_of_le (ok.foreign b o hf) hlt.size,?_,by simp[hl],?_,?_,λg hg=>ext.globAt (ok.glob g hg)⟩
 ·intro b o ho hf;exact ok.clear b o (ext.mm b o (ok.foreign b o hf) ho) hf
 ·intro i o y ho hy;dsimp only at ho hy;by_cases e:id=i
  ·subst e;rw[cM hob] at ho;rw[cM hd] at hy;cases ho;cases hy;exact⟨w.heap.size,ys,T,rfl,dM,Rc.ext ext _ _ hc⟩
  ·rw[aW e] at ho hy;have hok:=ok.box i o y ho hy;refine jG ext (λb hb hdd=>?_) hok;subst hb;exact hlt.block b (rP hdd hok)
 ·intro i j b y z h1 h2 h3 h4 h5 h6;dsimp only at h1 h2 h3 h4;rcases back i b y h1 h3 with ⟨e1,e2⟩ | ⟨e1,g1,g2⟩
  ·rcases back j b z h2 h4 with ⟨e3,e4⟩ | ⟨e3,g3,g4⟩
   ·omega
   ·have:=bQ ok (b:=b) g3 g4 h6;dsimp only at this;omega
  ·rcases back j b z h2 h4 with ⟨e3,e4⟩ | ⟨e3,g3,g4⟩
   ·have:=bQ ok (b:=b) g1 g2 h5;dsimp only at this;omega
   ·exact ok.apart i j b y z g1 g3 g2 g4 h5 h6
section
variable {P:Program} {T:TypeId→Option TI} {n:Fr}
def allE(T:TypeId->Option TI)(o:Oper):Option AV:=
 match o.op with
 | .alloc t=>match T t with
  | some i=>some i.zero
  | none=>none
 | _=>none
theorem bC(hT:TOK P T){o:Oper}{need:Env}{H:List Box}(id:Nat){x:AV}(hd:dOK n.n o.dst=true)(h:allE T o=some x)(hb:H[id]? = some .dead):Big P n o need H (.ref id [] 0) (H.set id (.var x)):=by
 unfold allE at h;split at h <;> try cases h
 rename_i t ho;split at h <;> cases h;rename_i i ht;refine dX hd λa μ ok hH hE=>?_;obtain⟨H0,bs,w,F⟩:=μ;dsimp only at hH;subst hH;obtain⟨y,ys,h1,h2,h3,h4,h5⟩:=oA hT ht w;obtain⟨k2,k3,k4,k5⟩:=aHX ok hb (x:=i.zero) (ys:=y.cells) (by rw[h3];simpa using tG _ _ h2) t;refine⟨_,⟨.pointer (some ⟨w.heap.size,0,none⟩),?_,?_,k2,k3⟩,rfl⟩
 ·simp[execOp,ho,Instr.alloc,h1,oJ]
 ·show Rv0 _ _ _;simp only[Rv0,AV.isAgg,Rc,Bool.false_eq_true,if_false]
  exact⟨_,_,k4,k5,rfl⟩
theorem aBy{st:ASt}{ctx:Mem}{a:Act}{w:World}(h:Sat n ctx st a w):∀m,Sat n ctx ⟨st.env,st.H++List.replicate m .dead⟩ a w
 | 0=>by simpa using h
 | m+1=>by
  have ih:=aBy h m;obtain⟨bs,hm⟩:=ih;have ext:=Ext.snoc (F:=ctx.F) hm.ok.len (cG.refl w) .dead none (by intro b e;cases e)
  have ok:=OK.snoc hm.ok (cG.refl w) (x := .dead) (o:=none) (by intro b e;cases e) trivial;refine⟨bs++[none],?_⟩
  rw[List.replicate_succ',<- List.append_assoc]
  exact { h:=rfl,ok:=ok,ext:=hm.ext.trans ext,env:=hm.env.ext ext,size:=hm.size,low:=hm.low,defers:=lY.ext hm.ok ext hm.defers,nod:=hm.nod,outs:=λp hp=>(hm.outs p hp).ext ext }
end
end Go.UK

namespace Go.UK
open Go
set_option linter.all false
variable [aZ]
section
variable {P:Program} {T:TypeId→Option TI} {n:Fr}
end
end Go.UK

