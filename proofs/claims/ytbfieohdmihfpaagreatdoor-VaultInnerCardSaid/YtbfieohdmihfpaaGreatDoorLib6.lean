/- The own layer: abstract values, their memory, and the steps of the model over them: for any program. -/
import Derived.Test.YtbfieohdmihfpaaGreatDoorLib5
open Bool renaming false_eq_true→au
open List renaming replicate→aj
open Go.Result renaming andThen_ok→am
open Go.Sem renaming run_bind→bf,run_pure→ck
namespace Go.UK
open Go
set_option linter.all false
variable [bL]
section
variable {P:Program} {T:TypeId→Option TI} {n:Fr}
theorem aS7{w:World}{H:List Box}{bs:List (Option Nat)}{F:Nat->Nat->Prop}(ok:(⟨H,bs,w,F⟩:Mem).OK){es:List AV}{k N:Nat}{ys:List Value}(hk:∀e∈es,e.n=k)(hc:RdL w (⟨H,bs,w,F⟩:Mem).M es ys)(hN:ys.length=N)(T:TypeId)(len:Nat)(hlen:len=es.length) :
  let μ':Mem:=⟨H++[.var (.arr N k es)],bs++[some w.heap.size],w.alloc (.cells ys.toArray T),F⟩
  Rv μ' (.bsl H.length [] 0 k 0 len) (.slice (some ⟨w.heap.size,0,none⟩) len len)/\Ext ⟨H,bs,w,F⟩ μ'/\μ'.OK:=by
 intro μ';have hrc:Rc ⟨H,bs,w,F⟩ (.arr N k es) ys.toArray.toList:=by
  simp only[Rc]
  exact⟨hN,hk,hc⟩
 obtain⟨_,h2,h3⟩:=aJR ok hrc T;refine⟨?_,h2,h3⟩
 show Rv0 _ _ _;simp only[Rv0,AV.isAgg,Rc,au,if_false]
 refine⟨w.heap.size,.arr N k es,len,?_,?_,Nat.le_refl _,by simp⟩
 ·have hl:bs.length=H.length:=ok.len;show(bs++[some w.heap.size])[H.length]? = _;rw[<- hl]
  simp
 ·show(H++[Box.var (.arr N k es)])[H.length]? = _;simp
def aP4 : Operand->Operand->Bool
 | .tmp a,.tmp b=>Nat.beq a b
 | .const (.int .i64 a),.const (.int .i64 b)=>decide (a=b)
 | _,_=>false
theorem aTS{x y:Operand}(h:aP4 x y=true):x=y:=by
 unfold aP4 at h;split at h
 ·rw[Nat.eq_of_beq_eq_true h]
 ·rw[of_decide_eq_true h]
 ·cases h
def mkE(T:TypeId->Option TI)(o:Oper)(need:Env):Option (Int×TI):=
 match o.op with
 | .makeSlice t a b=>match aP4 a b,opd need none a,T t with
  | true,some (.v (.int .i64 i)),some ⟨_,_,_,.sl e⟩=>match T e with
   | some ei=>some (i,ei)
   | none=>none
  | _,_,_=>none
 | _=>none
def mkO(b:Nat)(i:Int):Option Unit:=cond (decide (0<=i)&&decide (i<=140737488355328)&&decide (i*b<=140737488355328)) (some ()) none
theorem mkO_t{b:Nat}{i:Int}{u:Unit}(h:mkO b i=some u):0<=i/\i<=140737488355328/\i*b<=140737488355328:=by
 unfold mkO at h;cases hc:(decide (0<=i)&&decide (i<=140737488355328)&&decide (i*b<=140737488355328)) with
 | true=>simp only[Bool.and_eq_true,decide_eq_true_eq] at hc;exact⟨hc.1.1,hc.1.2,hc.2⟩
 | false=>rw[hc] at h;cases h
theorem aWd(hT:TOK P T){o:Oper}{need:Env}{i:Int}{ei:TI}(h:mkE T o need=some (i,ei))(h0:0<=i)(h1:i<=140737488355328)(h2:i*ei.bytes<=140737488355328){a:Act}{μ:Mem}(hE:eY μ need a.tmps) :
  ∃(zs:List Value) (e:TypeId),cst ei.zero=some zs/\zs.length=ei.size/\(execOp a.eval o).run P μ.w = .ok (.value (.slice (some ⟨μ.w.heap.size,0,none⟩) i.toNat i.toNat)) (μ.w.alloc (.cells (aj i.toNat zs).flatten.toArray e)):=by
 unfold mkE at h;split at h <;> try cases h
 rename_i t x y ho;split at h <;> try cases h
 rename_i i' sz b1 z e hb hx ht;split at h <;> cases h;rename_i he;have hxy:=aTS hb;subst hxy;have ex:=bH (aR hE noG hx)
 obtain⟨d,hd,hk⟩:=(hT t _ ht).kind;simp only[TK.fits] at hk;subst hk;obtain⟨zv,zs,g1,g2,g3,g4,g5⟩:=uL hT he μ.w;obtain⟨te,k1,k2,k3⟩:=aEx hT he μ.w;refine⟨zs,e,g2,g4,?_⟩
 have hw:IntKind.i64.wrap i=i:=by rw[IntKind.wrap_i64];omega
 have e1:¬i < 0:=by omega
 have e2:¬((te.bytes:Int)*i > 2 ^ 48):=by rw[k2,Int.mul_comm];omega
 simp only[execOp,ho,Instr.makeSlice,bf,run_underlying hd,am,ex,asInt,asIntOf,ck,k1,hw,run_askRoom,lU hT he]
 simp only[decide_eq_false e1,decide_eq_false e2,Bool.or_false,au,if_false,Int.lt_irrefl,or_self,gt_iff_lt,false_or,am,bf,run_askRoom]
 simp only[show(false||decide False)=false by simp,au,if_false,bf,run_askRoom,am,lU hT he]
 by_cases hz:i.toNat*ei.size=0
 ·have hfl:(aj i.toNat zs).flatten=[]:=List.eq_nil_of_length_eq_zero (by rw[oB,g4];exact hz)
  rw[hfl]
  simp only[hz,if_true,bf,ck,am]
  rw[show(Array.map (λx:Nat=>(#[]:Array Value)[x % (#[]:Array Value).size]!) (Array.range 0))=[].toArray from by simp]
  simp only[newRow,bf,run_newObj,am,ck,World.alloc_eq]
 ·have hflat:(Array.range (i.toNat*ei.size)).map (λq=>zs.toArray[q % zs.toArray.size]!)=(aj i.toNat zs).flatten.toArray:=by
   rw[<- Array.toList_inj,Array.toList_map,Array.toList_range]
   exact aB1 g4 i.toNat
  simp only[if_neg hz,bf,g1,am,ck,g3,hflat]
  simp only[newRow,bf,run_newObj,am,ck,World.alloc_eq]
theorem aMV(hT:TOK P T){o:Oper}{need:Env}{H:List Box}{α:Type}(f:α->AV)(z0:α){i:Int}{b k:Nat}{kd:TK}{u:Unit}(hx:mkO b i=some u)(hd:dOK n.n o.dst=true)(h:mkE T o need=some (i,⟨k,b,f z0,kd⟩))(hn:(f z0).n=k) :
  Big P n o need H (.bsl H.length [] 0 k 0 i.toNat) (H++[.var (.arr (i.toNat*k) k ((aj i.toNat z0).map f))]):=by
 obtain⟨h0,h1,h2⟩:=mkO_t hx;refine cY hd λa μ ok hH hE=>?_;obtain⟨zs,e,g1,g2,hrun⟩:=aWd (P:=P) hT h h0 h1 h2 hE;obtain⟨H0,bs,w,F⟩:=μ;dsimp only at hH;subst hH;have hc:RdL w (⟨H0,bs,w,F⟩:Mem).M ((aj i.toNat z0).map f) (aj i.toNat zs).flatten:=by
  rw[List.map_replicate]
  exact aGI (aEh _ _ g1) _
 obtain⟨hv,ext,ok'⟩:=aS7 (k:=k) (N:=i.toNat*k) ok (by intro e he;obtain⟨y,hy,rfl⟩:=List.mem_map.1 he;rw[List.eq_of_mem_replicate hy];exact hn) hc (by rw[oB,g2]) e i.toNat (by simp)
 exact⟨_,⟨_,hrun,hv,ext,ok'⟩,rfl⟩
end
def aF7{α:Type}(l:List α)(n:Nat):Option Unit:=cond (Nat.beq l.length n) (some ()) none
theorem aWK{α:Type}{l:List α}{n:Nat}{u:Unit}(h:aF7 l n=some u):l.length=n:=by
 unfold aF7 at h;cases hc:Nat.beq l.length n with
 | true=>exact Nat.eq_of_beq_eq_true hc
 | false=>rw[hc] at h;cases h
theorem lenM{α:Type}(f:α->AV){l:List α}{n:Nat}{u:Unit}(h:aF7 l n=some u):(List.map f l).length=n:=(List.length_map _).trans (aWK h)
end Go.UK

namespace Go.UK
open Go
set_option linter.all false
variable [bL]
def aQc : List Box->List (Nat×Box)->List Box
 | H,[]=>H
 | H,(id,x) :: r=>aQc (H.set id x) r
section
variable {P:Program} {T:TypeId→Option TI} {n:Fr} {ops:Array Oper}
end
end Go.UK

namespace Go.UK
open Go
set_option linter.all false
variable [bL]
end Go.UK

namespace Go.UK
open Go
set_option linter.all false
variable [bL]
theorem aQT{w:World}{H:List Box}{bs:List (Option Nat)}{F:Nat->Nat->Prop}(ok:(⟨H,bs,w,F⟩:Mem).OK){id:Nat}(hd:H[id]? = some .dead){x:AV}{ys:Array Value}(hc:Rc ⟨H,bs,w,F⟩ x ys.toList)(T:TypeId) :
  Ext ⟨H,bs,w,F⟩ ⟨H.set id (.var x),bs.set id (some w.heap.size),w.alloc (.cells ys T),F⟩/\(⟨H.set id (.var x),bs.set id (some w.heap.size),w.alloc (.cells ys T),F⟩:Mem).OK /\
  (bs.set id (some w.heap.size))[id]? = some (some w.heap.size)/\(H.set id (.var x))[id]? = some (.var x):=by
 have hl:bs.length=H.length:=ok.len;have hid:=aX hd;obtain⟨ob,hob⟩:∃ob,bs[id]? = some ob:=⟨bs[id]'(by omega),List.getElem?_eq_getElem (by omega)⟩
 have hlt:=cL.alloc w ys T;have ne_of:∀{i:Nat} {y:Box},H[i]? = some y->y ≠ .dead->id≠i:=λh hy e=>by subst e;rw[hd] at h;cases h;exact hy rfl
 have back:∀(i b:Nat) (y:Box),(bs.set id (some w.heap.size))[i]? = some (some b)->(H.set id (.var x))[i]? = some y->(i=id/\b=w.heap.size)\/(id≠i/\bs[i]? = some (some b)/\H[i]? = some y):=by
  intro i b y h1 h2;by_cases e:id=i
  ·subst e;rw[bW hob] at h1;cases h1;exact .inl ⟨rfl,rfl⟩
  ·rw[aW e] at h1 h2;exact .inr ⟨e,h1,h2⟩
 have ext:Ext ⟨H,bs,w,F⟩ ⟨H.set id (.var x),bs.set id (some w.heap.size),w.alloc (.cells ys T),F⟩:={
  size:=hlt.size
  len:=by simp
  cells:=λb o hb _=>mR (hlt.block b hb)
  blocks:=λb hb _=>hlt.block b hb
  mm:=λb o hb ho=>by
   obtain⟨i,h1,h2⟩:=ho;dsimp only at h1 h2 hb;rcases h2 with ⟨y,h2,h3⟩ | ⟨m,h2,h3⟩
   ·rcases back i b y h1 h2 with ⟨_,e⟩ | ⟨_,g1,g2⟩
    ·omega
    ·exact⟨i,g1,.inl ⟨y,g2,h3⟩⟩
   ·rcases back i b _ h1 h2 with ⟨_,e⟩ | ⟨_,g1,g2⟩
    ·omega
    ·exact⟨i,g1,.inr ⟨m,g2,h3⟩⟩
  same:=rfl
  vars:=λi c hc'=>by
   have e:=ne_of hc' (by simp)
   exact⟨⟨c,(aW e).trans hc'⟩,aW e⟩
  maps:=λi c hc'=>by
   have e:=ne_of hc' (by simp)
   exact⟨⟨c,(aW e).trans hc'⟩,aW e⟩
  loops:=λi c hc'=>by
   have e:=ne_of hc' (by simp)
   exact⟨⟨c,(aW e).trans hc'⟩,aW e⟩
  toks:=λi m' hi hm=>by
   dsimp only at hm;by_cases e:id=i
   ·subst e;rw[bW hd] at hm;cases hm
   ·rw[aW e] at hm;exact⟨m',hm,Nat.le_refl _,λ_=>⟨aW e,λb s _ hr=>oI (hlt.block b (by obtain⟨c,TT,h1,_⟩:=hr;exact cG h1)) hr⟩⟩
  gros:=λi q es' hi hm=>by
   dsimp only at hm;by_cases e:id=i
   ·subst e;rw[bW hd] at hm;cases hm
   ·rw[aW e] at hm;exact⟨es',hm,Nat.le_refl _,λ_=>⟨aW e,λb s T _ hr=>mV (hlt.block b (by obtain⟨c,h1,_⟩:=hr;exact cG h1)) hr⟩⟩
  os:=hlt.os
  tape:=hlt.tape
  output:=hlt.output }
 refine⟨ext,?_,bW hob,bW hd⟩
 refine⟨λb o hf=>Nat.lt_of_lt_of_le (ok.foreign b o hf) hlt.size,?_,by simp[hl],?_,?_,λg hg=>ext.globAt (ok.glob g hg)⟩
 ·intro b o ho hf;exact ok.clear b o (ext.mm b o (ok.foreign b o hf) ho) hf
 ·intro i o y ho hy;dsimp only at ho hy;by_cases e:id=i
  ·subst e;rw[bW hob] at ho;rw[bW hd] at hy;cases ho;cases hy;exact⟨w.heap.size,ys,T,rfl,eV,Rc.ext ext _ _ hc⟩
  ·rw[aW e] at ho hy;have hok:=ok.box i o y ho hy;refine mE ext (λb hb hdd=>?_) hok;subst hb;exact hlt.block b (aAT hdd hok)
 ·intro i j b y z h1 h2 h3 h4 h5 h6;dsimp only at h1 h2 h3 h4;rcases back i b y h1 h3 with ⟨e1,e2⟩ | ⟨e1,g1,g2⟩
  ·rcases back j b z h2 h4 with ⟨e3,e4⟩ | ⟨e3,g3,g4⟩
   ·omega
   ·have:=bU ok (b:=b) g3 g4 h6;dsimp only at this;omega
  ·rcases back j b z h2 h4 with ⟨e3,e4⟩ | ⟨e3,g3,g4⟩
   ·have:=bU ok (b:=b) g1 g2 h5;dsimp only at this;omega
   ·exact ok.apart i j b y z g1 g3 g2 g4 h5 h6
section
variable {P:Program} {T:TypeId→Option TI} {n:Fr}
def allE(T:TypeId->Option TI)(o:Oper):Option AV:=
 match o.op with
 | .alloc t=>match T t with
  | some i=>some i.zero
  | none=>none
 | _=>none
def boxE(o:Oper)(need:Env):Option AV:=
 match o.op with
 | .box _ v=>match opd need none v with
  | some x=>match fK x with
   | true=>some x
   | false=>none
  | none=>none
 | _=>none
theorem aMP(hT:TOK P T){o:Oper}{need:Env}{H:List Box}(id:Nat){x:AV}(hd:dOK n.n o.dst=true)(h:allE T o=some x)(hb:H[id]? = some .dead):Big P n o need H (.ref id [] 0) (H.set id (.var x)):=by
 unfold allE at h;split at h <;> try cases h
 rename_i t ho;split at h <;> cases h;rename_i i ht;refine cY hd λa μ ok hH hE=>?_;obtain⟨H0,bs,w,F⟩:=μ;dsimp only at hH;subst hH;obtain⟨y,ys,h1,h2,h3,h4,h5⟩:=uL hT ht w;obtain⟨k2,k3,k4,k5⟩:=aQT ok hb (x:=i.zero) (ys:=y.cells) (by rw[h3];simpa using aBs _ _ h2) t;refine⟨_,⟨.pointer (some ⟨w.heap.size,0,none⟩),?_,?_,k2,k3⟩,rfl⟩
 ·simp[execOp,ho,Instr.alloc,h1,tR]
 ·show Rv0 _ _ _;simp only[Rv0,AV.isAgg,Rc,Bool.false_eq_true,if_false]
  exact⟨_,_,k4,k5,rfl⟩
theorem aQD{o:Oper}{need:Env}{H:List Box}(id:Nat){x:AV}(hd:dOK n.n o.dst=true)(h:boxE o need=some x)(hb:H[id]? = some .dead):Big P n o need H (.ref id [] 0) (H.set id (.var x)):=by
 unfold boxE at h;split at h <;> try cases h
 rename_i t v ho;split at h <;> try cases h
 rename_i x' hx;split at h <;> cases h;rename_i hn;refine cY hd λa μ ok hH hE=>?_;obtain⟨H0,bs,w,F⟩:=μ;dsimp only at hH;subst hH;obtain⟨k2,k3,k4,k5⟩:=aQT ok hb ((aR hE noG hx).cells (mX hn)) t;refine⟨_,⟨.pointer (some ⟨w.heap.size,0,none⟩),?_,?_,k2,k3⟩,rfl⟩
 ·simp[execOp,ho,Instr.box,tR]
 ·show Rv0 _ _ _;simp only[Rv0,AV.isAgg,Rc,Bool.false_eq_true,if_false]
  exact⟨_,_,k4,k5,rfl⟩
theorem aKz{st:ASt}{ctx:Mem}{a:Act}{w:World}(h:Sat n ctx st a w):∀m,Sat n ctx ⟨st.env,st.H++List.replicate m .dead⟩ a w
 | 0=>by simpa using h
 | m+1=>by
  have ih:=aKz h m;obtain⟨bs,hm⟩:=ih;have ext:=Ext.snoc (F:=ctx.F) hm.ok.len (cL.refl w) .dead none (by intro b e;cases e)
  have ok:=OK.snoc hm.ok (cL.refl w) (x := .dead) (o:=none) (by intro b e;cases e) trivial;refine⟨bs++[none],?_⟩
  rw[List.replicate_succ',<- List.append_assoc]
  exact { h:=rfl,ok:=ok,ext:=hm.ext.trans ext,env:=hm.env.ext ext,size:=hm.size,low:=hm.low,defers:=tV.ext hm.ok ext hm.defers,nod:=hm.nod,outs:=λp hp=>(hm.outs p hp).ext ext }
end
end Go.UK

namespace Go.UK
open Go
set_option linter.all false
variable [bL]
section
variable {P:Program} {T:TypeId→Option TI} {n:Fr}
theorem RvL.rcl{μ:Mem}:∀{ps:List AV} {ys:List Value},RvL μ ps ys->xW ps=true->RcL μ ps ys
 | [],ys,h,_=>by simp only[RcL];exact h
 | p :: ps,ys,⟨y,r,e,h1,h2⟩,ha=>by
  simp only[xW] at ha;split at ha
  ·cases ha
  ·rename_i h0;simp only[RcL]
   subst e;unfold Rv0 at h1;rw[h0] at h1;exact⟨[y],r,rfl,by simpa using h1,RvL.rcl h2 ha⟩
def mkfE(o:Oper)(need:Env):Option AV:=
 match o.op with
 | .makeFunc (.func f) first cap=>match first.toList,aJL (opd need none) cap.toList with
  | [],some avs=>match xW avs with
   | true=>some (.fn (.func f) [] avs)
   | false=>none
  | _,_=>none
 | _=>none
theorem aJo{o:Oper}{need:Env}{H:List Box}{x:AV}(hd:dOK n.n o.dst=true)(h:mkfE o need=some x):Big P n o need H x H:=by
 unfold mkfE at h;split at h <;> try cases h
 rename_i f first cap ho
 split at h <;> try cases h
 rename_i avs hfi hcap;split at h <;> cases h;rename_i hag;refine cY hd λa μ ok hH hE=>⟨μ,⟨.func (.func f) #[] (cap.toList.map a.eval).toArray,?_,?_,Ext.refl _,ok⟩,hH⟩
 ·have e1:first=#[]:=by
   have:=congrArg List.toArray hfi;simpa using this
  subst e1;simp only[execOp,ho,Instr.makeFunc]
  rw[show(cap.toList.map a.eval).toArray=cap.map a.eval by rw[<- List.map_toArray]]
  simp[Sem.run_bind,Sem.run_pure,Result.andThen_ok]
 ·have hv:=yD (λy v hv=>aR hE noG hv) _ _ hcap;show Rv0 μ (.fn (.func f) [] avs) _;unfold Rv0;rw[show AV.isAgg (.fn (.func f) [] avs)=false from rfl]
  simp only[Rc]
  exact⟨[],cap.toList.map a.eval,rfl,by simp[RcL],hv.rcl hag⟩
end
end Go.UK

