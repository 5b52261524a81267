/- The own layer: abstract values, their memory, and the steps of the model over them: for any program. -/
import Derived.Test.YtidamaopieegkaaGreatDoorLib5
open Bool renaming false_eq_true→aq
open List renaming replicate→al
open Go.Result renaming andThen_ok→ak
open Go.Sem renaming run_bind→ar,run_pure→be
namespace Go.UK
open Go
set_option linter.all false
variable [bJ]
section
variable {P:Program} {T:TypeId→Option TI} {n:Fr}
theorem aFy{w:World}{H:List Box}{bs:List (Option Nat)}{F:Nat->Nat->Prop}(ok:(⟨H,bs,w,F⟩:Mem).OK){es:List AV}{k N:Nat}{ys:List Value}(hk:∀e∈es,e.n=k)(hc:RdL w (⟨H,bs,w,F⟩:Mem).M es ys)(hN:ys.length=N)(T:TypeId)(len:Nat)(hlen:len=es.length) :
  let μ':Mem:=⟨H++[.var (.arr N k es)],bs++[some w.heap.size],w.alloc (.cells ys.toArray T),F⟩
  Rv μ' (.bsl H.length [] 0 k 0 len) (.slice (some ⟨w.heap.size,0,none⟩) len len)/\Ext ⟨H,bs,w,F⟩ μ'/\μ'.OK:=by
 intro μ';have hrc:Rc ⟨H,bs,w,F⟩ (.arr N k es) ys.toArray.toList:=by
  simp only[Rc]
  exact⟨hN,hk,hc⟩
 obtain⟨_,h2,h3⟩:=aAR ok hrc T;refine⟨?_,h2,h3⟩
 show Rv0 _ _ _;simp only[Rv0,AV.isAgg,Rc,aq,if_false]
 refine⟨w.heap.size,.arr N k es,len,?_,?_,Nat.le_refl _,by simp⟩
 ·have hl:bs.length=H.length:=ok.len;show(bs++[some w.heap.size])[H.length]? = _;rw[<- hl]
  simp
 ·show(H++[Box.var (.arr N k es)])[H.length]? = _;simp
def aFn : Operand->Operand->Bool
 | .tmp a,.tmp b=>Nat.beq a b
 | .const (.int .i64 a),.const (.int .i64 b)=>decide (a=b)
 | _,_=>false
theorem aGL{x y:Operand}(h:aFn x y=true):x=y:=by
 unfold aFn at h;split at h
 ·rw[Nat.eq_of_beq_eq_true h]
 ·rw[of_decide_eq_true h]
 ·cases h
def mkE(T:TypeId->Option TI)(o:Oper)(need:Env):Option (Int×TI):=
 match o.op with
 | .makeSlice t a b=>match aFn a b,opd need none a,T t with
  | true,some (.v (.int .i64 i)),some ⟨_,_,_,.sl e⟩=>match T e with
   | some ei=>some (i,ei)
   | none=>none
  | _,_,_=>none
 | _=>none
def mkO(b:Nat)(i:Int):Option Unit:=cond (decide (0<=i)&&decide (i<=140737488355328)&&decide (i*b<=140737488355328)) (some ()) none
theorem mkO_t{b:Nat}{i:Int}{u:Unit}(h:mkO b i=some u):0<=i/\i<=140737488355328/\i*b<=140737488355328:=by
 unfold mkO at h;cases hc:(decide (0<=i)&&decide (i<=140737488355328)&&decide (i*b<=140737488355328)) with
 | true=>simp only[Bool.and_eq_true,decide_eq_true_eq] at hc;exact⟨hc.1.1,hc.1.2,hc.2⟩
 | false=>rw[hc] at h;cases h
theorem aHr(hT:TOK P T){o:Oper}{need:Env}{i:Int}{ei:TI}(h:mkE T o need=some (i,ei))(h0:0<=i)(h1:i<=140737488355328)(h2:i*ei.bytes<=140737488355328){a:Act}{μ:Mem}(hE:eE μ need a.tmps) :
  ∃(zs:List Value) (e:TypeId),cst ei.zero=some zs/\zs.length=ei.size/\(execOp a.eval o).run P μ.w = .ok (.value (.slice (some ⟨μ.w.heap.size,0,none⟩) i.toNat i.toNat)) (μ.w.alloc (.cells (al i.toNat zs).flatten.toArray e)):=by
 unfold mkE at h;split at h <;> try cases h
 rename_i t x y ho;split at h <;> try cases h
 rename_i i' sz b1 z e hb hx ht;split at h <;> cases h;rename_i he;have hxy:=aGL hb;subst hxy;have ex:=cC (aT hE noG hx)
 obtain⟨d,hd,hk⟩:=(hT t _ ht).kind;simp only[TK.fits] at hk;subst hk;obtain⟨zv,zs,g1,g2,g3,g4,g5⟩:=nC hT he μ.w;obtain⟨te,k1,k2,k3⟩:=uJ hT he μ.w;refine⟨zs,e,g2,g4,?_⟩
 have hw:IntKind.i64.wrap i=i:=by rw[IntKind.wrap_i64];omega
 have e1:¬i < 0:=by omega
 have e2:¬((te.bytes:Int)*i > 2 ^ 48):=by rw[k2,Int.mul_comm];omega
 simp only[execOp,ho,Instr.makeSlice,ar,run_underlying hd,ak,ex,asInt,asIntOf,be,k1,hw,run_askRoom,eU hT he]
 simp only[decide_eq_false e1,decide_eq_false e2,Bool.or_false,aq,if_false,Int.lt_irrefl,or_self,gt_iff_lt,false_or,ak,ar,run_askRoom]
 simp only[show(false||decide False)=false by simp,aq,if_false,ar,run_askRoom,ak,eU hT he]
 by_cases hz:i.toNat*ei.size=0
 ·have hfl:(al i.toNat zs).flatten=[]:=List.eq_nil_of_length_eq_zero (by rw[fV,g4];exact hz)
  rw[hfl]
  simp only[hz,if_true,ar,be,ak]
  rw[show(Array.map (λx:Nat=>(#[]:Array Value)[x % (#[]:Array Value).size]!) (Array.range 0))=[].toArray from by simp]
  simp only[newRow,ar,run_newObj,ak,be,World.alloc_eq]
 ·have hflat:(Array.range (i.toNat*ei.size)).map (λq=>zs.toArray[q % zs.toArray.size]!)=(al i.toNat zs).flatten.toArray:=by
   rw[<- Array.toList_inj,Array.toList_map,Array.toList_range]
   exact rS g4 i.toNat
  simp only[if_neg hz,ar,g1,ak,be,g3,hflat]
  simp only[newRow,ar,run_newObj,ak,be,World.alloc_eq]
theorem aH1(hT:TOK P T){o:Oper}{need:Env}{H:List Box}{α:Type}(f:α->AV)(z0:α){i:Int}{b k:Nat}{kd:TK}{u:Unit}(hx:mkO b i=some u)(hd:dOK n.n o.dst=true)(h:mkE T o need=some (i,⟨k,b,f z0,kd⟩))(hn:(f z0).n=k) :
  Big P n o need H (.bsl H.length [] 0 k 0 i.toNat) (H++[.var (.arr (i.toNat*k) k ((al i.toNat z0).map f))]):=by
 obtain⟨h0,h1,h2⟩:=mkO_t hx;refine dX hd λa μ ok hH hE=>?_;obtain⟨zs,e,g1,g2,hrun⟩:=aHr (P:=P) hT h h0 h1 h2 hE;obtain⟨H0,bs,w,F⟩:=μ;dsimp only at hH;subst hH;have hc:RdL w (⟨H0,bs,w,F⟩:Mem).M ((al i.toNat z0).map f) (al i.toNat zs).flatten:=by
  rw[List.map_replicate]
  exact wL (uO _ _ g1) _
 obtain⟨hv,ext,ok'⟩:=aFy (k:=k) (N:=i.toNat*k) ok (by intro e he;obtain⟨y,hy,rfl⟩:=List.mem_map.1 he;rw[List.eq_of_mem_replicate hy];exact hn) hc (by rw[fV,g2]) e i.toNat (by simp)
 exact⟨_,⟨_,hrun,hv,ext,ok'⟩,rfl⟩
end
def lenO{α:Type}(l:List α)(n:Nat):Option Unit:=cond (Nat.beq l.length n) (some ()) none
theorem aH9{α:Type}{l:List α}{n:Nat}{u:Unit}(h:lenO l n=some u):l.length=n:=by
 unfold lenO at h;cases hc:Nat.beq l.length n with
 | true=>exact Nat.eq_of_beq_eq_true hc
 | false=>rw[hc] at h;cases h
theorem lenM{α:Type}(f:α->AV){l:List α}{n:Nat}{u:Unit}(h:lenO l n=some u):(List.map f l).length=n:=(List.length_map _).trans (aH9 h)
end Go.UK

open Bool renaming and_eq_true→aj,not_eq_true'→fy,or_eq_true→gu
open List renaming all_eq_true→br,mem_append→c7
open Nat renaming beq→ay,eq_of_beq_eq_true→ai
namespace Go.UK
open Go
set_option linter.all false
variable [bJ]
abbrev ES:=List (Nat×List (Nat×Box))
def lR : List Box->List (Nat×Box)->List Box
 | H,[]=>H
 | H,(id,x) :: r=>lR (H.set id x) r
def aCP(u v:List (Nat×Box)):Bool:=u.all λa=>v.all λb => !(ay a.1 b.1)
theorem aBm{id:Nat}{y:Box}:∀(v:List (Nat×Box)) (H:List Box),(∀b∈v,id≠b.1)->lR (H.set id y) v=(lR H v).set id y
 | [],H,_=>rfl
 | (i,x) :: r,H,h=>by
  unfold lR;rw[List.set_comm _ _ (h (i,x) (by simp)),aBm r _ λb hb=>h b (by simp[hb])]
theorem zI : ∀(u v:List (Nat×Box)) (H:List Box),aCP u v=true->lR (lR H u) v=lR (lR H v) u
 | [],v,H,_=>rfl
 | (id,y) :: r,v,H,h=>by
  simp only[aCP,List.all_cons,aj] at h;show lR (lR (H.set id y) r) v=lR ((lR H v).set id y) r;rw[zI r v _ h.2,aBm v H λb hb e=>by have:=br.1 h.1 b hb;rw[e] at this;simp at this]
def kI(i:Nat):ES->Option (List (Nat×Box))
 | []=>none
 | (c,u) :: r=>match ay c i with | true=>some u | false=>kI i r
def sOn : List Box->ES->Array Bool->List Box
 | H,[],_=>H
 | H,(i,u) :: r,listed=>match listed.getD i false with | true=>sOn (lR H u) r listed | false=>sOn H r listed
def aCk : List Box->ES->List Box
 | H,[]=>H
 | H,(_,u) :: r=>aCk (lR H u) r
def esOK(C:List (List Nat)):ES->Bool
 | []=>true
 | (i,u) :: r=>r.all (λq=>(aCP q.2 u||inC C q.1 i) && !(ay q.1 i))&&esOK C r
def fY(C:List (List Nat))(i:Nat):List Box->ES->List (List Box)
 | H,[]=>[H]
 | H,(c,u) :: r=>match inC C c i||ay c i with
  | true=>fY C i H r
  | false=>match inC C i c with
   | true=>fY C i (lR H u) r
   | false=>fY C i H r++fY C i (lR H u) r
def pN(ops:Array Oper)(C:List (List Nat))(ms:List MI)(es:ES)(B:Env):Bool:=
 ay ms.length ops.size&&(
 rZ ops.size (λi=>(dir ops i).all λj=>Nat.blt j i)&&(
 rZ ops.size (λi=>dEq ((ops[i]?).bind (·.dst)) (dAt ms i))&&(
 rZ ops.size (λj=>rZ j λi => !rJ (dAt ms i) (dAt ms j))&&(
 (sR ms B&&aE3 C ms ops.size)&&(
 esOK C es&&es.all (λq=>Nat.blt q.1 ops.size))))))
section
variable {P:Program} {T:TypeId→Option TI} {n:Fr} {ops:Array Oper}
def aG5(P:Program)(n:Fr)(ops:Array Oper)(C:List (List Nat))(ms:List MI)(es:ES)(B:Env)(H:List Box)(i:Nat):Prop:=
 ∀o x env,ops[i]? = some o->ms[i]? = some x->Sub (cN C ms B i) env ->
  ∀H'∈fY C i H es,opS P n ops o ⟨env,H'⟩ ⟨match x.d with | some d=>(match x.e with | some v=>env.set d (none,v) | none=>env.del d) | none=>env,match kI i es with | some u=>lR H' u | none=>H'⟩
theorem lP{C:List (List Nat)}{listed:Array Bool}{i:Nat}(hcl:∀s,inC C i s=true->dI listed s)(hni:∀c,inC C c i=true->¬dI listed c)(hu:¬dI listed i):∀(H:List Box) (es:ES),sOn H es listed∈fY C i H es
 | H,[]=>by simp[sOn,fY]
 | H,(c,x) :: r=>by
  unfold sOn fY;cases h1:inC C c i||ay c i with
  | true=>
   have hn:¬dI listed c:=by
    simp only[gu] at h1;rcases h1 with h1 | h1
    ·exact hni c h1
    ·rw[ai h1];exact hu
   unfold dI at hn;cases hg:listed.getD c false with
   | true=>exact absurd hg hn
   | false=>exact lP hcl hni hu H r
  | false=>
   cases h2:inC C i c with
   | true=>
    have:=hcl c h2;unfold dI at this;rw[this]
    exact lP hcl hni hu _ r
   | false=>
    cases hg:listed.getD c false with
    | true=>exact c7.2 (.inr (lP hcl hni hu _ r))
    | false=>exact c7.2 (.inl (lP hcl hni hu _ r))
theorem pH{listed:Array Bool}{i:Nat}:∀(H:List Box) (es:ES),kI i es=none->sOn H es (listed.setIfInBounds i true)=sOn H es listed
 | H,[],_=>rfl
 | H,(c,x) :: r,h=>by
  unfold kI at h;split at h
  ·cases h
  ·rename_i hb;unfold sOn;have hne:i≠c:=λe=>by subst e;simp at hb
   rw[jT false hne,pH H r h,pH (lR H x) r h]
theorem yU{listed:Array Bool}{u:List (Nat×Box)}:∀(H:List Box) (es:ES),(∀q∈es,aCP q.2 u=false->¬dI listed q.1)->sOn (lR H u) es listed=lR (sOn H es listed) u
 | H,[],_=>rfl
 | H,(c,x) :: r,h=>by
  unfold sOn;have hr:∀q∈r,aCP q.2 u=false->¬dI listed q.1:=λq hq=>h q (by simp[hq])
  cases hg:listed.getD c false with
  | false=>exact yU H r hr
  | true=>
   have hne:aCP x u=true:=by cases hd:aCP x u with | true=>rfl | false=>exact absurd hg (h (c,x) (by simp) hd)
   dsimp only;rw[<- zI x u H hne]
   exact yU _ r hr
theorem aA4{C:List (List Nat)}{listed:Array Bool}{i:Nat}(hi:i < listed.size)(hu:¬dI listed i)(hni:∀c,inC C c i=true->¬dI listed c):∀(H:List Box) (es:ES) (u:List (Nat×Box)),esOK C es=true->kI i es=some u ->
  sOn H es (listed.setIfInBounds i true)=lR (sOn H es listed) u
 | H,[],u,_,h=>by simp[kI] at h
 | H,(c,x) :: r,u,hk,h=>by
  simp only[esOK,aj] at hk;unfold kI at h;split at h
  ·rename_i hb;cases h;have e:=ai hb;subst e;have hall:=br.1 hk.1;have hnone:kI c r=none:=by
    have key:∀(r:ES),(∀q∈r,ay q.1 c=false)->kI c r=none:=by
     intro r
     induction r with
     | nil=>intro _;rfl
     | cons q r ih=>
      intro hq;unfold kI;rw[hq q (by simp)]
      exact ih λq' hq'=>hq q' (by simp[hq'])
    exact key r λq hq=>by have:=hall q hq;simp only[aj,fy] at this;exact this.2
   unfold sOn;have h1:(listed.setIfInBounds c true).getD c false=true:=(lL hi).2 (.inl rfl)
   have h2:listed.getD c false=false:=by cases hg:listed.getD c false with | true=>exact absurd hg hu | false=>rfl
   rw[h1,h2]
   dsimp only;rw[pH _ r hnone]
   refine yU H r λq hq hid=>?_;have:=hall q hq;simp only[aj,gu,fy] at this;rcases this.1 with h3 | h3
   ·rw[hid] at h3;cases h3
   ·exact hni q.1 h3
  ·rename_i hb;have hne:i≠c:=λe=>by subst e;simp at hb
   unfold sOn;rw[jT false hne]
   cases hg:listed.getD c false with
   | true=>exact aA4 hi hu hni _ r u hk.2 h
   | false=>exact aA4 hi hu hni _ r u hk.2 h
theorem aDJ{listed:Array Bool}:∀(H:List Box) (es:ES),(∀q∈es,listed.getD q.1 false=true)->sOn H es listed=aCk H es
 | H,[],_=>rfl
 | H,(c,x) :: r,h=>by
  unfold sOn aCk;rw[h (c,x) (by simp)]
  exact aDJ _ r (λq hq=>h q (by simp[hq]))
theorem aBz{listed:Array Bool}(h:∀i,¬dI listed i):∀(H:List Box) (es:ES),sOn H es listed=H
 | H,[]=>rfl
 | H,(c,x) :: r=>by
  unfold sOn;split
  ·rename_i hon;exact absurd hon (h c)
  ·exact aBz h H r
theorem aHe{C:List (List Nat)}(hC:C=eT ops){ms:List MI}{es:ES}{B:Env}{H:List Box}{ctx:Mem}{Q:Exit->Act->World->Prop}(hok:pN ops C ms es B=true)(hst:∀i,i < ops.size->aG5 P n ops C ms es B H i)
  (hk:∀a w env,Sat n ctx ⟨env,aCk H es⟩ a w->(∀k v,bM B k=some (none,v)->(∀x∈ms,pD x.d k=false)->bM env k=some (none,v))->(∀(j:Nat) (x:MI) d v,ms[j]? = some x->x.d=some d->x.e=some v->bM env d=some (none,v))->Q .normal a w) :
  ∀(fuel:Nat) (listed:Array Bool) (a:Act) (w:World) (env:Env),listed.size=ops.size->Down ops listed->(∀i,dI listed i->i < ops.size)->uc listed ops.size<=fuel ->
  Sat n ctx ⟨env,sOn H es listed⟩ a w->(∀k v,bM B k=some (none,v)->(∀(j:Nat) x,ms[j]? = some x->dI listed j->pD x.d k=false)->bM env k=some (none,v))->(∀(j:Nat) (x:MI) d v,ms[j]? = some x->dI listed j->x.d=some d->x.e=some v->bM env d=some (none,v))->wpAnyIn n.F 0 P .any ops Q fuel listed a w:=by
 simp only[pN,aj] at hok;obtain⟨h1,h2,h3,h4,⟨h5,h5k⟩,h6,h7⟩:=hok;have hsz:=ai h1;have hcs:∀q∈es,q.1 < ops.size:=λq hq=>by
  have h8:Nat.ble (q.1+1) ops.size=true:=br.1 h7 q hq;have:=Nat.le_of_ble_eq_true h8;omega
 have done:∀(listed:Array Bool) (a:Act) (w:World) (env:Env),(∀i,i < ops.size->dI listed i)->Sat n ctx ⟨env,sOn H es listed⟩ a w->(∀k v,bM B k=some (none,v)->(∀(j:Nat) x,ms[j]? = some x->dI listed j->pD x.d k=false)->bM env k=some (none,v)) ->
   (∀(j:Nat) (x:MI) d v,ms[j]? = some x->dI listed j->x.d=some d->x.e=some v->bM env d=some (none,v))->Q .normal a w:=by
  intro listed a w env hall hsat hB hE;rw[aDJ H es (λq hq=>hall q.1 (hcs q hq))] at hsat;exact hk a w env hsat (λk v hb hl=>hB k v hb λj x hx _=>hl x (List.mem_of_getElem? hx)) (λj x d v hx=>hE j x d v hx (hall j (by have:=aS hx;omega)))
 have nothing:∀(listed:Array Bool),(∀i,i < ops.size->dI listed i)->Region.ready .any ops listed=[]:=by
  intro listed hall;refine List.eq_nil_iff_forall_not_mem.2 λi hi=>?_;obtain⟨r1,r2,_⟩:=pC hi;exact aAO r1 (hall i r2)
 intro fuel
 induction fuel with
 | zero=>
  intro listed a w env hs hd hm hc hsat hB hE;have hall:∀i,i < ops.size->dI listed i:=aAd ops.size (by omega)
  exact⟨nothing listed hall,done listed a w env hall hsat hB hE⟩
 | succ fuel ih=>
  intro listed a w env hs hd hm hc hsat hB hE;refine⟨λh0=>?_,λi hi=>?_⟩
  ·refine done listed a w env (λj hj=>?_) hsat hB hE;apply Classical.byContradiction;intro hn;obtain⟨i,hi⟩:=yF hs h2 j hj hn;rw[h0] at hi;cases hi
  ·obtain⟨r1,r2,r3⟩:=pC hi;have hu:=aAO r1;have hcl:∀s,inC C i s=true->dI listed s:=λs hs'=>uI hd i _ r3 s (tW hC hs')
   have hni:∀c,inC C c i=true->¬dI listed c:=λc hc' hon=>hu (uI hd c _ (hd c hon) i (tW hC hc'))
   have him:i < ms.length:=by omega
   have ho:ops[i]? = some ops[i]:=Array.getElem?_eq_getElem r2;have hx:ms[i]? = some ms[i]:=List.getElem?_eq_getElem him;have hBf:∀i e,bM B i=some e->e.1=none:=λi e h=>mC h5 h;have hsub:Sub (cN C ms B i) env:=by
    intro k e hl;unfold cN at hl;rw[hx] at hl;dsimp only at hl;have hkm:k∈ms[i].keys:=pG (f:=λk=>nX C ms B i k i) hl;have hord:∀(j:Nat) x,ms[j]? = some x->dI listed j->pD x.d k=true->inC C i j=true/\j < i:=by
     intro j x hjx hon hdh;rcases yB h5k r2 (hm j hon) hx hjx hkm hdh with h' | h' | h'
     ·exact h'
     ·exact absurd hon (hni j h')
     ·subst h';exact absurd hon hu
    refine aA0 (on:=dI listed) hcl (λv hb hl=>hB k v hb hl) hBf (λj x d v hjx hj hd' he=>hE j x d v hjx hj hd' he) (λj x hjx hon hdh=>(hord j x hjx hon hdh).1) i ?_ (yD (f:=λk=>nX C ms B i k i) hl)
    intro j x hij hjx hon;cases hc:pD x.d k with
    | false=>rfl
    | true=>have:=(hord j x hjx hon hc).2;omega
   have hstab:=hst i r2 ops[i] ms[i] env ho hx hsub;have hdst:(ops[i]).dst=ms[i].d:=by
    have:=dM h3 i r2;rw[ho] at this;simp only[Option.bind_some,dAt,hx] at this;generalize (ops[i]).dst=u at *;generalize ms[i].d=v at *;cases u <;> cases v <;> simp[dEq] at this ⊢;exact this
   have hops:opS P n ops ops[i] ⟨env,sOn H es listed⟩ ⟨ms[i].put env,sOn H es (listed.setIfInBounds i true)⟩:=by
    cases hch:kI i es with
    | none=>
     have h9:=hstab _ (lP hcl hni hu H es)
     rw[hch] at h9;rw[pH H es hch]
     exact h9
    | some q=>
     have h9:=hstab _ (lP hcl hni hu H es)
     rw[hch] at h9;rw[aA4 (by omega) hu hni H es q h6 hch]
     exact h9
   have hstep:=hops ctx a w Q hsat;rw[aCr ho]
   have next:∀a' w',Sat n ctx ⟨ms[i].put env,sOn H es (listed.setIfInBounds i true)⟩ a' w'->wpAnyIn n.F 0 P .any ops Q fuel (listed.setIfInBounds i true) a' w':=by
    intro a' w' hs';refine ih _ a' w' _ (by simpa using hs) ?_ ?_ ?_ hs' ?_ ?_
    ·intro p hp j hj;rw[lL (by omega)] at hp ⊢;rcases hp with hp | hp
     ·subst hp;exact .inr (r3 j hj)
     ·exact .inr (hd p hp j hj)
    ·intro p hp;rw[lL (by omega)] at hp;rcases hp with hp | hp
     ·subst hp;exact r2
     ·exact hm p hp
    ·have:=aCY (k:=ops.size) (show i < listed.size by omega) (by
      cases hc':listed.getD i false with
      | false=>rfl
      | true=>exact absurd hc' hu) r2
     omega
    ·intro k v hke hno;exact nU (hno i _ hx ((lL (by omega)).2 (.inl rfl))) (hB k v hke λj x hjx hon=>hno j x hjx ((lL (by omega)).2 (.inr hon)))
    ·intro j x d v hjx hj hdx hex;rw[lL (by omega)] at hj;by_cases hji:j=i
     ·subst hji;rw[hx] at hjx;cases hjx;exact wC hdx hex
     ·have hjo:=hj.resolve_left hji;refine nU ?_ (hE j x d v hjx hjo hdx hex)
      have hjm:=aS hjx;have hcl':rJ ms[i].d x.d=false:=by
       have hi':dAt ms i=ms[i].d:=by unfold dAt;rw[hx]
       have hj':dAt ms j=x.d:=by unfold dAt;rw[hjx]
       rw[<- hi',<- hj']
       rcases Nat.lt_trichotomy i j with hlt | hlt | hlt
       ·have:=dM (dM h4 j (by omega)) i hlt;simpa using this
       ·exact absurd hlt.symm hji
       ·have:=dM (dM h4 i r2) j hlt;have h9:rJ (dAt ms j) (dAt ms i)=false:=by simpa using this
        generalize dAt ms i=u at *;generalize dAt ms j=v at *;cases u <;> cases v <;> first | rfl | (simp only[rJ] at h9 ⊢;rw[zN];exact h9)
      rw[hdx] at hcl';cases hdi:ms[i].d with
      | none=>rfl
      | some di=>rw[hdi] at hcl';exact hcl'
   split
   ·rename_i hw;rw[if_pos hw] at hstep;exact Oper.wpIn_mono next hstep
   ·rename_i hw;rw[if_neg hw] at hstep;exact⟨λ_ _=>trivial,next _ _ hstep⟩
theorem aD7{id:Nat}{l:List Oper}{Q:Exit->ASt->Prop}{st:ASt}(hm:P.follows .mixedOrders=true){ms:List MI}{es:ES}
  (hok:pN l.toArray (eT l.toArray) ms es st.env=true) (hst:∀i,i < l.toArray.size->aG5 P n l.toArray (eT l.toArray) ms es st.env st.H i)
  (hk:Q .normal ⟨sU ms st.env,aCk st.H es⟩):aw P n (.region id l.toArray true) Q st:=by
 intro ctx a w hs;refine wpIn_region_any hm ?_;obtain⟨bs,hmm⟩:=hs;have hdrew:Sat n ctx st a { w with drawn:=w.drawn+1 }:=by
  have hl:cM w w.drew:=cM.drew w;exact⟨bs,{ h:=rfl,ok:=OK.later hl hmm.ok,ext:=hmm.ext.trans (Ext.later hl),env:=hmm.env.ext (Ext.later hl),size:=hmm.size,low:=hmm.low,defers:=lK.ext hmm.ok (Ext.later hl) hmm.defers,nod:=hmm.nod,outs:=λp hp=>(hmm.outs p hp).ext (Ext.later hl) }⟩
 have hl0:∀i,¬dI (Array.replicate l.toArray.size false) i:=by
  intro i h;unfold dI at h;rw[Array.getD_eq_getD_getElem?] at h;rw[Array.getElem?_replicate] at h;split at h <;> simp at h
 have hb5:sR ms st.env=true:=by
  simp only[pN,aj] at hok;exact hok.2.2.2.2.1.1
 have hlen:ms.length=l.toArray.size:=by
  simp only[pN,aj] at hok;exact ai hok.1
 refine aHe rfl (ctx:=ctx) hok hst ?_ _ _ _ _ st.env (by simp) (λi h=>absurd h (hl0 i)) (λi h=>absurd h (hl0 i)) ?_ ?_ (λ_ _ h _=>h) (λj x d v _ h=>absurd h (hl0 j))
 ·intro a w env hs hB hE;refine⟨_,hk,rO (st:=⟨env,aCk st.H es⟩) (λi e h=>tY (λi e h=>mC hb5 h) (λv=>hB i v) (λx hx d v hd he=>?_) e h) hs⟩
  obtain⟨j,hj⟩:=List.getElem?_of_mem hx;exact hE j x d v hj hd he
 ·have:∀k,uc (Array.replicate l.toArray.size false) k<=k:=by
   intro k
   induction k with
   | zero=>exact Nat.le_refl _
   | succ k ih=>unfold uc;split <;> omega
  exact this _
 ·rw[aBz hl0]
  exact hdrew
end
end Go.UK

namespace Go.UK
open Go
set_option linter.all false
variable [bJ]
structure DS2 where
 ms:List MI
 es:ES
 H:List Box
structure OE where
 x:AV
 u:List (Nat×Box)
abbrev O2S:=List (Nat×OE)
def refId(ρ:Operand->Option AV)(o:Oper):Option Nat:=
 match o.op with
 | .store _ p _=>match ρ p with | some (.ref id _ _)=>some id | _=>none
 | _=>none
def aHo(T:TypeId->Option TI)(im:Nat->Bool)(n:Nat)(l:List Oper)(C:List (List Nat))(B:Env)(o1:O1)(o2:O2S)(i:Nat)(o:Oper)(s:DS2):DS2:=
 match qD l o ((jK l o).map λk=>(k,nX C s.ms B i k i)) with
 | true=>⟨s.ms++[⟨jK l o,o.dst,some (.tup [])⟩],s.es,s.H⟩
 | false=>match fL o1 i with
  | some x=>⟨s.ms++[⟨jK l o,o.dst,some x⟩],s.es,s.H⟩
  | none=>match fL o2 i with
   | some f=>⟨s.ms++[⟨jK l o,o.dst,some f.x⟩],s.es++[(i,f.u)],lR s.H f.u⟩
   | none=>match plU T (aE4 im o) n o ((jK l o).map λk=>(k,nX C s.ms B i k i)) s.H with
    | some (x,H')=>match refId (opd ((jK l o).map λk=>(k,nX C s.ms B i k i)) none) o with
     | some id=>⟨s.ms++[⟨jK l o,o.dst,some x⟩],s.es++[(i,[(id,(H'[id]?).getD .dead)])],H'⟩
     | none=>⟨s.ms++[⟨jK l o,o.dst,some x⟩],s.es,s.H⟩
    | none=>⟨s.ms++[⟨jK l o,o.dst,none⟩],s.es,s.H⟩
def aHL(T:TypeId->Option TI)(im:Nat->Bool)(n:Nat)(l:List Oper)(C:List (List Nat))(B:Env)(o1:O1)(o2:O2S):Nat->List Oper->DS2->DS2
 | _,[],s=>s
 | i,o :: r,s=>aHL T im n l C B o1 o2 (i+1) r (aHo T im n l C B o1 o2 i o s)
def kE(T:TypeId->Option TI)(im:Nat->Bool)(n:Nat)(l:List Oper)(st:ASt)(o1:O1)(o2:O2S):DS2:=
 aHL T im n l (eT l.toArray) st.env o1 o2 0 l ⟨[],[],st.H⟩
def aDu(T:TypeId->Option TI)(im:Nat->Bool)(n:Nat)(l:List Oper)(st:ASt)(o1:O1)(o2:O2S):ASt:=
 ⟨sU (kE T im n l st o1 o2).ms st.env,aCk st.H (kE T im n l st o1 o2).es⟩
def effH(i:Nat)(es:ES)(H:List Box):List Box:=match kI i es with | some u=>lR H u | none=>H
def aDB : List Nat->List Nat->Bool
 | [],[]=>true
 | a :: l,b :: r=>Nat.beq a b&&aDB l r
 | _,_=>false
theorem aBy : ∀{u v:List (Nat×Box)},aDB (u.map (·.1)) (v.map (·.1))=true->u.map (·.2)=v.map (·.2)->u=v
 | [],[],_,_=>rfl
 | [],_ :: _,h,_=>by cases h
 | _ :: _,[],h,_=>by cases h
 | (a,x) :: l,(b,y) :: r,h,e=>by
  simp only[List.map_cons,aDB,Bool.and_eq_true,List.cons.injEq] at h e;rw[Nat.eq_of_beq_eq_true h.1,e.1,aBy h.2 e.2]
def dBS(l:List Oper)(C:List (List Nat))(ms:List MI)(es:ES)(B:Env)(o1:O1)(o2:O2S)(i:Nat):Bool:=
 match qD l (iO l i) (cN C ms B i) with
 | true=>wT (eAt ms i)&&vD (kI i es)
 | false=>gOK l.toArray (iO l i) (cN C ms B i)&&(aAV (eAt ms i)&&(match fL o1 i with
  | some _=>vD (kI i es)
  | none=>match fL o2 i with
   | some f=>match kI i es with | some u=>aDB (u.map (·.1)) (f.u.map (·.1)) | none=>false
   | none=>true))
def effY(i:Nat)(es:ES):List Box:=match kI i es with | some u=>u.map (·.2) | none=>[]
def dLS(T:TypeId->Option TI)(im:Nat->Bool)(n:Nat)(l:List Oper)(C:List (List Nat))(ms:List MI)(es:ES)(B:Env)(H:List Box)(o1:O1)(o2:O2S)(i:Nat):List (Option (AV×List Box)):=
 match qD l (iO l i) (cN C ms B i) with
 | true=>[]
 | false=>match fL o1 i with
  | some x=>[some (x,[])]
  | none=>match fL o2 i with
   | some f=>[some (f.x,f.u.map (·.2))]
   | none=>(fY C i H es).map λH'=>plU T (aE4 im (iO l i)) n (iO l i) (cN C ms B i) H'
def dRS(l:List Oper)(C:List (List Nat))(ms:List MI)(es:ES)(B:Env)(H:List Box)(o1:O1)(o2:O2S)(i:Nat):List (Option (AV×List Box)):=
 match qD l (iO l i) (cN C ms B i) with
 | true=>[]
 | false=>match fL o1 i with
  | some _=>[some ((eAt ms i).getD default,[])]
  | none=>match fL o2 i with
   | some f=>[some ((eAt ms i).getD default,effY i es)]
   | none=>(fY C i H es).map λH'=>some ((eAt ms i).getD default,effH i es H')
def aAg(l:List Oper)(C:List (List Nat))(s:DS2)(st:ASt)(o1:O1)(o2:O2S):Bool:=
 pN l.toArray C s.ms s.es st.env&&rZ l.toArray.size (dBS l C s.ms s.es st.env o1 o2)
def aAu(T:TypeId->Option TI)(im:Nat->Bool)(n:Nat)(l:List Oper)(C:List (List Nat))(s:DS2)(st:ASt)(o1:O1)(o2:O2S):List (List (Option (AV×List Box))):=
 (List.range l.toArray.size).map (dLS T im n l C s.ms s.es st.env st.H o1 o2)
def aAe(l:List Oper)(C:List (List Nat))(s:DS2)(st:ASt)(o1:O1)(o2:O2S):List (List (Option (AV×List Box))):=
 (List.range l.toArray.size).map (dRS l C s.ms s.es st.env st.H o1 o2)
end Go.UK

namespace Go.UK
open Go
set_option linter.all false
variable [bJ]
theorem aHn{w:World}{H:List Box}{bs:List (Option Nat)}{F:Nat->Nat->Prop}(ok:(⟨H,bs,w,F⟩:Mem).OK){id:Nat}(hd:H[id]? = some .dead){x:AV}{ys:Array Value}(hc:Rc ⟨H,bs,w,F⟩ x ys.toList)(T:TypeId) :
  Ext ⟨H,bs,w,F⟩ ⟨H.set id (.var x),bs.set id (some w.heap.size),w.alloc (.cells ys T),F⟩/\(⟨H.set id (.var x),bs.set id (some w.heap.size),w.alloc (.cells ys T),F⟩:Mem).OK /\
  (bs.set id (some w.heap.size))[id]? = some (some w.heap.size)/\(H.set id (.var x))[id]? = some (.var x):=by
 have hl:bs.length=H.length:=ok.len;have hid:=aS hd;obtain⟨ob,hob⟩:∃ob,bs[id]? = some ob:=⟨bs[id]'(by omega),List.getElem?_eq_getElem (by omega)⟩
 have hlt:=cM.alloc w ys T;have ne_of:∀{i:Nat} {y:Box},H[i]? = some y->y ≠ .dead->id≠i:=λh hy e=>by subst e;rw[hd] at h;cases h;exact hy rfl
 have back:∀(i b:Nat) (y:Box),(bs.set id (some w.heap.size))[i]? = some (some b)->(H.set id (.var x))[i]? = some y->(i=id/\b=w.heap.size)\/(id≠i/\bs[i]? = some (some b)/\H[i]? = some y):=by
  intro i b y h1 h2;by_cases e:id=i
  ·subst e;rw[cQ hob] at h1;cases h1;exact .inl ⟨rfl,rfl⟩
  ·rw[bE e] at h1 h2;exact .inr ⟨e,h1,h2⟩
 have ext:Ext ⟨H,bs,w,F⟩ ⟨H.set id (.var x),bs.set id (some w.heap.size),w.alloc (.cells ys T),F⟩:={
  size:=hlt.size
  len:=by simp
  cells:=λb o hb _=>jV (hlt.block b hb)
  blocks:=λb hb _=>hlt.block b hb
  mm:=λb o hb ho=>by
   obtain⟨i,h1,h2⟩:=ho;dsimp only at h1 h2 hb;rcases h2 with ⟨y,h2,h3⟩ | ⟨m,h2,h3⟩
   ·rcases back i b y h1 h2 with ⟨_,e⟩ | ⟨_,g1,g2⟩
    ·omega
    ·exact⟨i,g1,.inl ⟨y,g2,h3⟩⟩
   ·rcases back i b _ h1 h2 with ⟨_,e⟩ | ⟨_,g1,g2⟩
    ·omega
    ·exact⟨i,g1,.inr ⟨m,g2,h3⟩⟩
  same:=rfl
  vars:=λi c hc'=>by
   have e:=ne_of hc' (by simp)
   exact⟨⟨c,(bE e).trans hc'⟩,bE e⟩
  maps:=λi c hc'=>by
   have e:=ne_of hc' (by simp)
   exact⟨⟨c,(bE e).trans hc'⟩,bE e⟩
  loops:=λi c hc'=>by
   have e:=ne_of hc' (by simp)
   exact⟨⟨c,(bE e).trans hc'⟩,bE e⟩
  toks:=λi m' hi hm=>by
   dsimp only at hm;by_cases e:id=i
   ·subst e;rw[cQ hd] at hm;cases hm
   ·rw[bE e] at hm;exact⟨m',hm,Nat.le_refl _,λ_=>⟨bE e,λb s _ hr=>eC (hlt.block b (by obtain⟨c,TT,h1,_⟩:=hr;exact dP h1)) hr⟩⟩
  gros:=λi q es' hi hm=>by
   dsimp only at hm;by_cases e:id=i
   ·subst e;rw[cQ hd] at hm;cases hm
   ·rw[bE e] at hm;exact⟨es',hm,Nat.le_refl _,λ_=>⟨bE e,λb s _ hr=>eC (hlt.block b (by obtain⟨c,TT,h1,_⟩:=hr;exact dP h1)) hr⟩⟩
  os:=hlt.os
  tape:=hlt.tape
  output:=hlt.output }
 refine⟨ext,?_,cQ hob,cQ hd⟩
 refine⟨λb o hf=>Nat.lt_of_lt_of_le (ok.foreign b o hf) hlt.size,?_,by simp[hl],?_,?_,λg hg=>ext.globAt (ok.glob g hg)⟩
 ·intro b o ho hf;exact ok.clear b o (ext.mm b o (ok.foreign b o hf) ho) hf
 ·intro i o y ho hy;dsimp only at ho hy;by_cases e:id=i
  ·subst e;rw[cQ hob] at ho;rw[cQ hd] at hy;cases ho;cases hy;exact⟨w.heap.size,ys,T,rfl,dO,Rc.ext ext _ _ hc⟩
  ·rw[bE e] at ho hy;have hok:=ok.box i o y ho hy;refine iV ext (λb hb hdd=>?_) hok;subst hb;exact hlt.block b (rD hdd hok)
 ·intro i j b y z h1 h2 h3 h4 h5 h6;dsimp only at h1 h2 h3 h4;rcases back i b y h1 h3 with ⟨e1,e2⟩ | ⟨e1,g1,g2⟩
  ·rcases back j b z h2 h4 with ⟨e3,e4⟩ | ⟨e3,g3,g4⟩
   ·omega
   ·have:=bX ok (b:=b) g3 g4 h6;dsimp only at this;omega
  ·rcases back j b z h2 h4 with ⟨e3,e4⟩ | ⟨e3,g3,g4⟩
   ·have:=bX ok (b:=b) g1 g2 h5;dsimp only at this;omega
   ·exact ok.apart i j b y z g1 g3 g2 g4 h5 h6
section
variable {P:Program} {T:TypeId→Option TI} {n:Fr}
def allE(T:TypeId->Option TI)(o:Oper):Option AV:=
 match o.op with
 | .alloc t=>match T t with
  | some i=>some i.zero
  | none=>none
 | _=>none
theorem bK(hT:TOK P T){o:Oper}{need:Env}{H:List Box}(id:Nat){x:AV}(hd:dOK n.n o.dst=true)(h:allE T o=some x)(hb:H[id]? = some .dead):Big P n o need H (.ref id [] 0) (H.set id (.var x)):=by
 unfold allE at h;split at h <;> try cases h
 rename_i t ho;split at h <;> cases h;rename_i i ht;refine dX hd λa μ ok hH hE=>?_;obtain⟨H0,bs,w,F⟩:=μ;dsimp only at hH;subst hH;obtain⟨y,ys,h1,h2,h3,h4,h5⟩:=nC hT ht w;obtain⟨k2,k3,k4,k5⟩:=aHn ok hb (x:=i.zero) (ys:=y.cells) (by rw[h3];simpa using sY _ _ h2) t;refine⟨_,⟨.pointer (some ⟨w.heap.size,0,none⟩),?_,?_,k2,k3⟩,rfl⟩
 ·simp[execOp,ho,Instr.alloc,h1,nK]
 ·show Rv0 _ _ _;simp only[Rv0,AV.isAgg,Rc,Bool.false_eq_true,if_false]
  exact⟨_,_,k4,k5,rfl⟩
theorem aA6{st:ASt}{ctx:Mem}{a:Act}{w:World}(h:Sat n ctx st a w):∀m,Sat n ctx ⟨st.env,st.H++List.replicate m .dead⟩ a w
 | 0=>by simpa using h
 | m+1=>by
  have ih:=aA6 h m;obtain⟨bs,hm⟩:=ih;have ext:=Ext.snoc (F:=ctx.F) hm.ok.len (cM.refl w) .dead none (by intro b e;cases e)
  have ok:=OK.snoc hm.ok (cM.refl w) (x := .dead) (o:=none) (by intro b e;cases e) trivial;refine⟨bs++[none],?_⟩
  rw[List.replicate_succ',<- List.append_assoc]
  exact { h:=rfl,ok:=ok,ext:=hm.ext.trans ext,env:=hm.env.ext ext,size:=hm.size,low:=hm.low,defers:=lK.ext hm.ok ext hm.defers,nod:=hm.nod,outs:=λp hp=>(hm.outs p hp).ext ext }
end
end Go.UK

namespace Go.UK
open Go
set_option linter.all false
variable [bJ]
section
variable {P:Program} {T:TypeId→Option TI} {n:Fr}
end
end Go.UK

