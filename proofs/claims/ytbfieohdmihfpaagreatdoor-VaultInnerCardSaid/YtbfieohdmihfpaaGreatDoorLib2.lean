/- The own layer: abstract values, their memory, and the steps of the model over them: for any program. -/
import Derived.Test.YtbfieohdmihfpaaGreatDoorLib1
import Derived.Laws.Tables
open Bool renaming false_eq_true→au
open Nat renaming beq→bp,eq_of_beq_eq_true→ak,le_refl→ca
namespace Go.UK
open Go
set_option linter.all false
variable [bL]
def eQ(P:Program)(o:Oper)(a:Act)(μ:Mem)(x:AV)(μ':Mem):Prop:=
 ∃y,(execOp a.eval o).run P μ.w = .ok (.value y) μ'.w/\Rv μ' x y/\Ext μ μ'/\μ'.OK
theorem Rv.cells{μ:Mem}{x:AV}{y:Value}(h:Rv μ x y)(hx:∀vs,x ≠ .tup vs):Rc μ x y.cells.toList:=by
 have h0:Rv0 μ x y:=by cases x <;> first | exact h | exact absurd rfl (hx _)
 unfold Rv0 at h0;split at h0
 ·obtain⟨ys,e,h1⟩:=h0;subst e;simpa[Value.cells] using h1
 ·have:=Rc.oneCell _ _ h0 y (by simp)
  rw[aI2 this];simpa using h0
theorem Rv.of_cells{μ:Mem}{x:AV}{ys:List Value}(h:Rc μ x ys):Rv μ x (if x.isAgg then .agg ys.toArray else ys.headD undef):=by
 cases ha:x.isAgg with
 | true=>
  have:Rv0 μ x (.agg ys.toArray):=by unfold Rv0;rw[if_pos ha];exact⟨_,rfl,by simpa using h⟩
  cases x <;> first | exact this | simp[AV.isAgg] at ha
 | false=>
  obtain⟨y,e⟩:=h.one ha;subst e;have:Rv0 μ x y:=by unfold Rv0;rw[if_neg (by simp[ha])];exact h
  cases x <;> first | exact this | simp[Rc] at h
theorem Rv.agg{μ:Mem}{x:AV}{y:Value}(h:Rv μ x y)(hx:x.isAgg=true):∃ys,y = .agg ys/\Rc μ x ys.toList:=by
 have h0:Rv0 μ x y:=by cases x <;> first | exact h | simp[AV.isAgg] at hx
 unfold Rv0 at h0;rwa[if_pos hx] at h0
theorem Rv.of_agg{μ:Mem}{x:AV}{ys:Array Value}(h:Rc μ x ys.toList)(hx:x.isAgg=true):Rv μ x (.agg ys):=by
 have:=Rv.of_cells h;rw[if_pos hx] at this;simpa using this
theorem Rv.of_one{μ:Mem}{x:AV}{y:Value}(h:Rc μ x [y])(hx:x.isAgg=false):Rv μ x y:=by
 have:=Rv.of_cells h;rw[if_neg (by simp[hx])] at this;simpa using this
theorem aBW{μ:Mem}{id o:Nat}{p:List Nat}{y:Value}(h:Rv μ (.ref id p o) y):∃b c,μ.bs[id]? = some (some b)/\μ.H[id]? = some (.var c)/\y = .pointer (some ⟨b,o,none⟩):=by
 simpa[Rv,Rv0,AV.isAgg,Rc] using h
theorem aKZ{μ:Mem}{x:AV}{y:Value}(h:Rv μ (.im x) y):∃b off zs,y = .pointer (some ⟨b,off,none⟩)/\Rd μ.w μ.M x zs/\μ.at b off zs:=by
 simpa[Rv,Rv0,AV.isAgg,Rc] using h
section
variable {P:Program} {T:TypeId→Option TI} {μ:Mem} {a:Act}
theorem eQ.here{o:Oper}{x:AV}{y:Value}(ok:μ.OK)(h:(execOp a.eval o).run P μ.w = .ok (.value y) μ.w)(hy:Rv μ x y):eQ P o a μ x μ:=
 ⟨y,h,hy,Ext.refl μ,ok⟩
theorem aQa{w:World}{H:List Box}{bs:List (Option Nat)}{F:Nat->Nat->Prop}(ok:(⟨H,bs,w,F⟩:Mem).OK){ys:Array Value}{T:TypeId} :
  (⟨H,bs,w.alloc (.cells ys T),F⟩:Mem).at w.heap.size 0 ys.toList:=by
 intro j y hy;refine⟨?_,?_⟩
 ·simp only[World.cell?,eV]
  simpa using hy
 ·rintro(hf | ⟨id,h1,h2⟩)
  ·exact Nat.lt_irrefl _ (ok.foreign _ _ hf)
  have:w.heap.size < w.heap.size:=by
   rcases h2 with ⟨c,h2,hw⟩ | ⟨m,h2,_⟩
   ·exact bU ok (b:=w.heap.size) h1 h2 (Box.whole_live hw)
   ·exact bU ok (b:=w.heap.size) h1 h2 (by simp)
  omega
theorem aNs{w:World}{H:List Box}{bs:List (Option Nat)}{F:Nat->Nat->Prop}(ok:(⟨H,bs,w,F⟩:Mem).OK){x:AV}{ys:Array Value}(hc:Rd w (⟨H,bs,w,F⟩:Mem).M x ys.toList)(T:TypeId) :
  Rv ⟨H,bs,w.alloc (.cells ys T),F⟩ (.im x) (.pointer (some ⟨w.heap.size,0,none⟩)):=by
 have ext:Ext ⟨H,bs,w,F⟩ ⟨H,bs,w.alloc (.cells ys T),F⟩:=Ext.later (cL.alloc _ _ _)
 show Rv0 _ _ _;simp only[Rv0,AV.isAgg,Rc,au,if_false]
 exact⟨w.heap.size,0,ys.toList,rfl,Rd.mono ext.keeps _ _ hc,aQa ok⟩
theorem aVA{w:World}{H:List Box}{bs:List (Option Nat)}{F:Nat->Nat->Prop}(ok:(⟨H,bs,w,F⟩:Mem).OK){x:AV}{ys:Array Value}(hd:data x=true)(hc:Rc ⟨H,bs,w,F⟩ x ys.toList)(T:TypeId) :
  Rv ⟨H,bs,w.alloc (.cells ys T),F⟩ (.im x) (.pointer (some ⟨w.heap.size,0,none⟩)):=aNs ok (Rc.rd _ _ hd hc) T
theorem aJR{w:World}{H:List Box}{bs:List (Option Nat)}{F:Nat->Nat->Prop}(ok:(⟨H,bs,w,F⟩:Mem).OK){x:AV}{ys:Array Value}(hc:Rc ⟨H,bs,w,F⟩ x ys.toList)(T:TypeId) :
  let μ':Mem:=⟨H++[.var x],bs++[some w.heap.size],w.alloc (.cells ys T),F⟩
  Rv μ' (.ref H.length [] 0) (.pointer (some ⟨w.heap.size,0,none⟩))/\Ext ⟨H,bs,w,F⟩ μ'/\μ'.OK:=by
 intro μ';have hlt:=cL.alloc w ys T;have ext:Ext ⟨H,bs,w,F⟩ μ':=Ext.snoc ok.len hlt _ _ (by intro b e;cases e;exact ca _)
 refine⟨?_,ext,OK.snoc ok hlt (by intro b e;cases e;exact ca _) ⟨w.heap.size,ys,T,rfl,eV,Rc.ext ext _ _ hc⟩⟩
 show Rv0 _ _ _;simp only[Rv0,AV.isAgg,Rc,au,if_false]
 have hl:bs.length=H.length:=ok.len;refine⟨w.heap.size,x,?_,?_,rfl⟩
 ·show(bs++[some w.heap.size])[H.length]? = _;rw[<- hl];simp
 ·show(H++[Box.var x])[H.length]? = _;simp
theorem tR(t:TypeId)(v:Value)(w:World):(newVar t v).run P w = .ok ⟨w.heap.size,0,none⟩ (w.alloc (.cells v.cells t)):=by
 simp[newVar,newRow]
theorem zO(hT:TOK P T){t:TypeId}{i:TI}(ht:T t=some i){x:AV}{b off:Nat}{zs:List Value}(hx:Rc μ x zs)(hag:x.isAgg=i.kind.agg)(hn:x.n=i.size)
  (hz:∀j y,zs[j]? = some y->μ.w.cell? ⟨b,off+j,none⟩=some y):∃y,(loadVar t ⟨b,off,none⟩).run P μ.w = .ok y μ.w/\Rv μ x y:=by
 have hl:=Rc.length _ _ hx;obtain⟨d,hd,hk⟩:=(hT t i ht).kind;have hagg:(isAgg t).run P μ.w = .ok i.kind.agg μ.w:=by
  simp only[isAgg,Sem.run_bind,run_underlying hd,Result.andThen_ok]
  cases hkk:i.kind <;> rw[hkk] at hk <;> simp only[TK.fits] at hk
  case other=>cases d <;> first | rfl | exact absurd rfl (hk.1 _) | exact absurd rfl (hk.2 _ _)
  case st=>obtain⟨fs,e,_⟩:=hk;subst e;rfl
  all_goals (subst hk;rfl)
 cases ha:i.kind.agg with
 | true=>
  refine⟨.agg zs.toArray,?_,Rv.of_agg (by simpa using hx) (hag.trans ha)⟩
  simp only[loadVar,Sem.run_bind,hagg,ha,Result.andThen_ok,if_true,lU hT ht]
  rw[show i.size=zs.length by omega,tI hz]
  simp
 | false=>
  obtain⟨y,e⟩:=hx.one (hag.trans ha)
  subst e;refine⟨y,?_,Rv.of_one hx (hag.trans ha)⟩
  have:=hz 0 y rfl;simp only[loadVar,Sem.run_bind,hagg,ha,Result.andThen_ok,au,if_false]
  simp at this;simp[this]
end
def aHp(H:List Box):AV->Option AV
 | .ref id p o=>match H[id]? with
  | some (.var c)=>match loc c 0 p with
   | some (x,o')=>match bp o' o with | true=>some x | false=>none
   | none=>none
  | _=>none
 | .im x=>some x
 | _=>none
theorem aGa{μ:Mem}{x p:AV}{y:Value}(ok:μ.OK)(h:aHp μ.H p=some x)(hp:Rv μ p y) :
  ∃b off zs,y = .pointer (some ⟨b,off,none⟩)/\Rc μ x zs/\∀(j:Nat) v,zs[j]? = some v->μ.w.cell? ⟨b,off+j,none⟩=some v:=by
 cases p with
 | ref id path o=>
  obtain⟨b,c,h1,h2,h3⟩:=aBW hp;simp only[aHp,h2] at h;split at h
  ·rename_i x' o' hl;split at h
   ·rename_i hb;cases h;have e:=ak hb;subst e;obtain⟨b',ys,T,g1,g2,g3⟩:=ok.box id _ _ h1 h2;cases g1;obtain⟨pre,mid,post,k1,k2,k3,_⟩:=rR path c 0 _ x ys.toList hl g3;refine⟨b,o',mid,h3,k3,λj v hv=>?_⟩
    have hj:=aX hv;simp only[World.cell?,g2]
    have:ys[o'+j]? = some v:=by
     rw[<- Array.getElem?_toList,k1,<- k2,List.append_assoc,Nat.zero_add,List.getElem?_append_right (by omega),Nat.add_sub_cancel_left,List.getElem?_append_left hj]
     exact hv
    simpa using this
   ·cases h
  ·cases h
 | im x'=>
  simp only[aHp,Option.some.injEq] at h;subst h;obtain⟨b,off,zs,h1,h2,h3⟩:=aKZ hp;exact⟨b,off,zs,h1,Rd.rc _ _ h2,λj v hv=>(h3 j v hv).1⟩
 | _=>simp[aHp] at h
section
variable {P:Program} {T:TypeId→Option TI} {μ:Mem} {a:Act}
theorem aOs(hT:TOK P T){o:Oper}{t:TypeId}{p:Operand}{i:TI}{x q:AV}(ho:o.op = .load t p)(ok:μ.OK)(ht:T t=some i)
  (hq:Rv μ q (a.eval p)) (hd:aHp μ.H q=some x) (hag:x.isAgg=i.kind.agg) (hn:x.n=i.size):eQ P o a μ x μ:=by
 obtain⟨b,off,zs,h1,h2,h3⟩:=aGa ok hd hq;obtain⟨y,h4,h5⟩:=zO hT ht h2 hag hn h3;refine eQ.here ok ?_ h5;simp[execOp,ho,Instr.loadAt,h1,Instr.sureAddr,h4]
def vX(H:List Box)(p x:AV):Option (List Box):=
 match p with
 | .ref id path o=>match H[id]? with
  | some (.var c)=>match loc c 0 path with
   | some (x0,o')=>match bp o' o&&bp x0.n x.n with
    | true=>match aAP c path x with
     | some c'=>some (H.set id (.var c'))
     | none=>none
    | false=>none
   | none=>none
  | _=>none
 | _=>none
theorem aKf{x p:AV}{y:Value}{H:List Box}{bs:List (Option Nat)}{w:World}{F:Nat->Nat->Prop}{H':List Box}(ok:(⟨H,bs,w,F⟩:Mem).OK)(h:vX H p x=some H')(hp:Rv ⟨H,bs,w,F⟩ p y)
  {vs:List Value} (hv:Rc ⟨H,bs,w,F⟩ x vs) :
  ∃b off w',y = .pointer (some ⟨b,off,none⟩)/\(∀P:Program,(storeCells ⟨b,off,none⟩ vs).run P w = .ok () w')/\Ext ⟨H,bs,w,F⟩ ⟨H',bs,w',F⟩/\(⟨H',bs,w',F⟩:Mem).OK:=by
 cases p with
 | ref id path o=>
  obtain⟨b,c,h1,h2,h3⟩:=aBW hp;simp only at h1 h2;simp only[vX,h2] at h;split at h
  ·rename_i x0 o' hl;split at h
   ·rename_i hbn;split at h
    ·rename_i c' hc';cases h;simp only[Bool.and_eq_true] at hbn;have e:=ak hbn.1;have en:=ak hbn.2;subst e;obtain⟨b',ys,T,g1,g2,g3⟩:=ok.box id _ _ h1 h2;cases g1;obtain⟨pre,mid,post,k1,k2,k3,k4⟩:=rR path c 0 _ x0 ys.toList hl g3;obtain⟨k5,k6⟩:=k4 x vs c' hc' en.symm hv;have l1:=Rc.length _ _ k3;have l2:=Rc.length _ _ hv;have l3:ys.size=pre.length+mid.length+post.length:=by
      have:=congrArg List.length k1;simp at this;omega
     have hsz:o'+0+vs.length<=ys.size:=by omega
     refine⟨b,o',_,h3,λP=>nU vs o' 0 w ys g2 hsz (Rc.oneCell _ _ hv),?_,?_⟩
     ·exact Ext.store h1 h2 g2 ok
     ·refine OK.store h1 h2 g2 ok ?_;rw[oN _ _ _ hsz,k1]
      have e1:List.take (o'+0) (pre++mid++post)=pre:=by
       rw[List.append_assoc,show o'+0=pre.length by omega];simp
      have e2:List.drop (o'+0+vs.length) (pre++mid++post)=post:=by
       rw[show o'+0+vs.length=(pre++mid).length by simp;omega];simp
      rw[e1,e2]
      exact k5
    ·cases h
   ·cases h
  ·cases h
 | _=>simp[vX] at h
theorem aAs(hT:TOK P T){t:TypeId}{i:TI}(ht:T t=some i){w w':World}{v:Value}{ad:Addr}(hn:v.cells.size=i.size)
  (h:(storeCells ad v.cells.toList).run P w = .ok () w'):(storeVar t ad v).run P w = .ok () w':=by
 simp[storeVar,lU hT ht,hn,h]
theorem aHs(hT:TOK P T){o:Oper}{t:TypeId}{p v:Operand}{i:TI}{x q:AV}{H':List Box}(ho:o.op = .store t p v)(ok:μ.OK)(ht:T t=some i)
  (hq:Rv μ q (a.eval p)) (hx:Rv μ x (a.eval v)) (hd:vX μ.H q x=some H') (hn:x.n=i.size) (htup:∀vs,x ≠ .tup vs) :
  ∃w',(execOp a.eval o).run P μ.w = .ok .skip w'/\Ext μ ⟨H',μ.bs,w',μ.F⟩/\(⟨H',μ.bs,w',μ.F⟩:Mem).OK:=by
 have hc:=hx.cells htup;obtain⟨H,bs,w,F⟩:=μ;obtain⟨b,off,w',h1,h2,h3,h4⟩:=aKf ok hd hq hc;refine⟨w',?_,h3,h4⟩
 have l:=Rc.length _ _ hc;have:=aAs hT ht (v:=a.eval v) (by simpa[hn] using l) (h2 P)
 simp[execOp,ho,Instr.storeAt,h1,Instr.sureAddr,this]
end
end Go.UK

open Array renaming getElem?_toList→f9
open BitVec renaming ofInt→bz
open Bool renaming false_eq_true→au
open List renaming append_assoc→an,getElem?_append_left→bx,getElem?_append_right→cf,getElem?_map→ci
open Nat renaming add_assoc→jl,add_sub_cancel_left→go,beq→bp,eq_of_beq_eq_true→ak
open Go.Result renaming andThen_ok→am
open Go.Sem renaming run_bind→bf,run_pure→ck
namespace Go.UK
open Go
set_option linter.all false
variable [bL]
section
variable {P:Program} {T:TypeId→Option TI} {μ:Mem} {a:Act}
theorem Rv.field_im{ps:List AV}{n j:Nat}{x:AV}{y:Value}(hp:Rv μ (.im (.st n ps)) y)(hj:ps[j]? = some x) :
  ∃b off,y = .pointer (some ⟨b,off,none⟩)/\Rv μ (.im x) (.pointer (some ⟨b,off+xD (ps.take j),none⟩)):=by
 obtain⟨b,off,zs,h1,h2,h3⟩:=aKZ hp;simp only[Rd] at h2;obtain⟨y1,y2,y3,g1,g2,g3,g4⟩:=h2.2.pick hj;refine⟨b,off,h1,?_⟩
 have l1:=RdL.length g2;show Rv0 _ _ _;simp only[Rv0,AV.isAgg,Rc,au,if_false]
 refine⟨b,_,y2,rfl,g3,λi v hv=>?_⟩
 have:=h3 (y1.length+i) v (by rw[g1,an,cf (by omega),go,bx (aX hv)];exact hv)
 rw[<- l1,jl]
 exact this
theorem Rv.elem_im{es:List AV}{n k i:Nat}{x:AV}{y:Value}(hp:Rv μ (.im (.arr n k es)) y)(hj:es[i]? = some x) :
  ∃b off,y = .pointer (some ⟨b,off,none⟩)/\Rv μ (.im x) (.pointer (some ⟨b,off+i*k,none⟩)):=by
 obtain⟨b,off,zs,h1,h2,h3⟩:=aKZ hp;simp only[Rd] at h2;obtain⟨y1,y2,y3,g1,g2,g3,g4⟩:=h2.2.2.pick hj;refine⟨b,off,h1,?_⟩
 have l1:=RdL.length g2;rw[tL (k:=k) (λe he=>h2.2.1 e (List.mem_of_mem_take he)),List.length_take,Nat.min_eq_left (Nat.le_of_lt (aX hj))] at l1;show Rv0 _ _ _;simp only[Rv0,AV.isAgg,Rc,au,if_false]
 refine⟨b,_,y2,rfl,g3,λq v hv=>?_⟩
 have:=h3 (y1.length+q) v (by rw[g1,an,cf (by omega),go,bx (aX hv)];exact hv)
 rw[<- l1,jl]
 exact this
theorem aG5{μ:Mem}{id k ln:Nat}{j:GJ}{y:Value}(h:Rv μ (.gro id k ln j) y):μ.gro id k ln j y:=by
 have h:Rv0 μ (.gro id k ln j) y:=h;simp only[Rv0,AV.isAgg,au,if_false,Rc] at h;obtain⟨z,e,h1⟩:=h;cases e;exact h1
theorem aGp{μ:Mem}{id k ln:Nat}{j:GJ}{y:Value}(h:μ.gro id k ln j y):Rv μ (.gro id k ln j) y:=by
 show Rv0 μ (.gro id k ln j) y;simp only[Rv0,AV.isAgg,au,if_false,Rc]
 exact⟨y,rfl,h⟩
def xZ(T:TypeId->Option TI)(s:TypeId)(f:Nat):AV->Option AV
 | .ref id path o=>match T s with
  | some { kind := .st l,.. }=>match l[f]? with
   | some (off,ft)=>match T ft with
    | some i=>match bp i.size 0 with | true=>none | false=>some (.ref id (path++[f]) (o+off))
    | none=>none
   | none=>none
  | _=>none
 | .im (.st _ ps)=>match T s with
  | some { kind := .st l,.. }=>match l[f]? with
   | some (off,ft)=>match T ft with
    | some i=>match bp i.size 0 with
     | true=>none
     | false=>match ps[f]? with
      | some x=>match bp (xD (ps.take f)) off with | true=>some (.im x) | false=>none
      | none=>none
    | none=>none
   | none=>none
  | _=>none
 | .gro id k ln (.ptr j o)=>match T s with
  | some { kind := .st l,.. }=>match l[f]? with
   | some (off,ft)=>match T ft with
    | some i=>match bp i.size 0 with | true=>none | false=>some (.gro id k ln (.ptr j (o+off)))
    | none=>none
   | none=>none
  | _=>none
 | _=>none
theorem aBb(hT:TOK P T){s:TypeId}{n b1:Nat}{z:AV}{l:List (Nat×TypeId)}(hs:T s=some ⟨n,b1,z,.st l⟩){f off:Nat}{ft:TypeId}(hf:l[f]? = some (off,ft)){i:TI}(hi:T ft=some i)
  (hz:i.size≠0) (w:World) (b o:Nat):(Instr.fieldAt s (.pointer (some ⟨b,o,none⟩)) f).run P w = .ok (.pointer (some ⟨b,o+off,none⟩)) w:=by
 obtain⟨d,hd,hk⟩:=(hT s _ hs).kind;simp only[TK.fits] at hk;obtain⟨fs,e,he⟩:=hk;subst e;subst he;rw[ci] at hf;cases hff:fs.toList[f]? with
 | none=>rw[hff] at hf;cases hf
 | some fd=>
  rw[hff] at hf;simp only[Option.map_some,Option.some.injEq,Prod.mk.injEq] at hf;obtain⟨rfl,rfl⟩:=hf;have hfa:fs[f]? = some fd:=by rw[<- f9];exact hff
  simp[Instr.fieldAt,run_underlying hd,hfa,Instr.sureAddr,fieldPlace,lU hT hi,hz,pV]
theorem aGT(hT:TOK P T){o:Oper}{s:TypeId}{p:Operand}{f:Nat}{q x:AV}(ho:o.op = .fieldAddr s p f)(ok:μ.OK)
  (hq:Rv μ q (a.eval p)) (hd:xZ T s f q=some x):eQ P o a μ x μ:=by
 cases q with
 | ref id path of=>
  obtain⟨b,c,h1,h2,h3⟩:=aBW hq;simp only[xZ] at hd;split at hd <;> try cases hd
  rename_i l hs;split at hd <;> try cases hd
  rename_i off ft hf;split at hd <;> try cases hd
  rename_i i hi;split at hd <;> try cases hd
  rename_i hz;refine eQ.here (y := .pointer (some ⟨b,of+off,none⟩)) ok ?_ ?_
  ·simp[execOp,ho,h3,aBb hT hs hf hi (by intro e;rw[e] at hz;cases hz)]
  ·show Rv0 _ _ _;simp only[Rv0,AV.isAgg,Rc,au,if_false]
   exact⟨b,c,h1,h2,rfl⟩
 | im q=>
  cases q with
  | st n ps=>
   simp only[xZ] at hd;split at hd <;> try cases hd
   rename_i l hs;split at hd <;> try cases hd
   rename_i off ft hf;split at hd <;> try cases hd
   rename_i i hi;split at hd <;> try cases hd
   rename_i hz;split at hd <;> try cases hd
   rename_i x' hx';split at hd <;> try cases hd
   rename_i hb;obtain⟨b,of,h1,h2⟩:=hq.field_im hx';rw[ak hb] at h2;refine eQ.here (y := .pointer (some ⟨b,of+off,none⟩)) ok ?_ h2;simp[execOp,ho,h1,aBb hT hs hf hi (by intro e;rw[e] at hz;cases hz)]
  | _=>simp[xZ] at hd
 | gro id k ln jo=>
  cases jo with
  | all=>simp[xZ] at hd
  | sub _ _=>simp[xZ] at hd
  | ptr j of=>
   obtain⟨h1,ad,cap,h2,h3⟩:=aG5 hq;simp only[aIf] at h2;simp only[xZ] at hd;split at hd <;> try cases hd
   rename_i l hs;split at hd <;> try cases hd
   rename_i off ft hf;split at hd <;> try cases hd
   rename_i i hi;split at hd <;> try cases hd
   rename_i hz;refine eQ.here (y := .pointer (some ⟨ad.getD 0,j*k+of+off,none⟩)) ok ?_ (aGp ⟨h1,ad,cap,by simp only[aIf,jl],h3⟩)
   simp[execOp,ho,h2,aBb hT hs hf hi (by intro e;rw[e] at hz;cases hz)]
 | _=>simp[xZ] at hd
def wH(T:TypeId->Option TI)(t:TypeId)(i:Int):AV->Option AV
 | .ref id path o=>match T t with
  | some { kind := .arr _ e,.. }=>match T e with
   | some ei=>some (.ref id (path++[i.toNat]) (o+i.toNat*ei.size))
   | none=>none
  | _=>none
 | .im (.arr _ k es)=>match T t with
  | some { kind := .arr _ e,.. }=>match T e with
   | some ei=>match bp ei.size k with
    | true=>match es[i.toNat]? with | some x=>some (.im x) | none=>none
    | false=>none
   | none=>none
  | _=>none
 | _=>none
def aEz(T:TypeId->Option TI)(t:TypeId):Nat:=match T t with | some { kind := .arr len _,.. }=>len | _=>0
theorem aA8(hT:TOK P T){t e:TypeId}{n b1 len:Nat}{z:AV}(hs:T t=some ⟨n,b1,z,.arr len e⟩){ei:TI}(he:T e=some ei){k:IntKind}{i:Int}(h0:0<=i)(h1:i < len)
  (w:World) (b o:Nat):(Instr.indexAt t (.pointer (some ⟨b,o,none⟩)) (.int k i)).run P w = .ok (.pointer (some ⟨b,o+i.toNat*ei.size,none⟩)) w:=by
 obtain⟨d,hd,hk⟩:=(hT t _ hs).kind;simp only[TK.fits] at hk;subst hk;simp[Instr.indexAt,asIntOf,run_underlying hd,Instr.sureAddr,h0,h1,lU hT he,pV]
theorem aAB(hT:TOK P T){o:Oper}{t:TypeId}{p ix:Operand}{k:IntKind}{i:Int}{q x:AV}(ho:o.op = .indexAddr t p ix)(ok:μ.OK)
  (hq:Rv μ q (a.eval p)) (hix:Rv μ (.v (.int k i)) (a.eval ix)) (h0:0<=i) (h1:i < aEz T t) (hd:wH T t i q=some x):eQ P o a μ x μ:=by
 have eix:=bH hix;cases q with
 | ref id path of=>
  obtain⟨b,c,g1,g2,g3⟩:=aBW hq;simp only[wH] at hd;split at hd <;> try cases hd
  rename_i len e hs;split at hd <;> try cases hd
  rename_i ei he;simp only[aEz,hs] at h1;refine eQ.here (y := .pointer (some ⟨b,of+i.toNat*ei.size,none⟩)) ok ?_ ?_
  ·simp[execOp,ho,g3,eix,aA8 hT hs he h0 h1]
  ·show Rv0 _ _ _;simp only[Rv0,AV.isAgg,Rc,au,if_false]
   exact⟨b,c,g1,g2,rfl⟩
 | im q=>
  cases q with
  | arr n k' es=>
   simp only[wH] at hd;split at hd <;> try cases hd
   rename_i len e hs;split at hd <;> try cases hd
   rename_i ei he;split at hd <;> try cases hd
   rename_i hb;split at hd <;> try cases hd
   rename_i x' hx';simp only[aEz,hs] at h1;obtain⟨b,of,g1,g2⟩:=hq.elem_im hx';rw[<- ak hb] at g2;refine eQ.here (y := .pointer (some ⟨b,of+i.toNat*ei.size,none⟩)) ok ?_ g2;simp[execOp,ho,g1,eix,aA8 hT hs he h0 h1]
  | _=>simp[wH] at hd
 | _=>simp[wH] at hd
theorem aAC(hT:TOK P T){t:TypeId}{i:TI}(ht:T t=some i){x:AV}{cs:Array Value}{y1 y2 y3:List Value}(hc:cs.toList=y1++y2++y3)(hx:Rc μ x y2)
  (hag:x.isAgg=i.kind.agg) (hn:x.n=i.size) (w:World):∃y,(part t cs y1.length).run P w = .ok y w/\Rv μ x y:=by
 have hl:=Rc.length _ _ hx;obtain⟨d,hd,hk⟩:=(hT t i ht).kind;have hagg:(isAgg t).run P w = .ok i.kind.agg w:=by
  simp only[isAgg,bf,run_underlying hd,am]
  cases hkk:i.kind <;> rw[hkk] at hk <;> simp only[TK.fits] at hk
  case other=>cases d <;> first | rfl | exact absurd rfl (hk.1 _) | exact absurd rfl (hk.2 _ _)
  case st=>obtain⟨fs,e,_⟩:=hk;subst e;rfl
  all_goals (subst hk;rfl)
 cases ha:i.kind.agg with
 | true=>
  refine⟨.agg (cs.extract y1.length (y1.length+i.size)),?_,Rv.of_agg ?_ (hag.trans ha)⟩
  ·simp only[part,bf,hagg,ha,am,if_true,lU hT ht];simp
  ·have:(cs.extract y1.length (y1.length+i.size)).toList=y2:=by
    rw[Array.toList_extract,hc,List.extract_eq_take_drop]
    simp;rw[show i.size=y2.length by omega]
    simp
   rw[this];exact hx
 | false=>
  obtain⟨y,e⟩:=hx.one (hag.trans ha)
  subst e;have hy:cs[y1.length]? = some y:=by rw[<- f9,hc];simp
  refine⟨y,?_,Rv.of_one hx (hag.trans ha)⟩
  simp only[part,bf,hagg,ha,am,au,if_false]
  simp[hy]
theorem aLt(hT:TOK P T){o:Oper}{s:TypeId}{p:Operand}{f n b1 sz off:Nat}{ps:List AV}{x:AV}{z:AV}{l:List (Nat×TypeId)}{ft:TypeId}{i:TI}(ho:o.op = .field s p f)(ok:μ.OK)
  (hq:Rv μ (.st n ps) (a.eval p)) (hs:T s=some ⟨sz,b1,z,.st l⟩) (hf:l[f]? = some (off,ft)) (hi:T ft=some i) (hx:ps[f]? = some x) (hoff:xD (ps.take f)=off)
  (hag:x.isAgg=i.kind.agg) (hn:x.n=i.size):eQ P o a μ x μ:=by
 obtain⟨ys,e1,h1⟩:=hq.agg rfl;simp only[Rc] at h1;obtain⟨y1,y2,y3,g1,g2,g3,g4⟩:=h1.2.pick hx;have l1:=RcL.length _ _ g2;obtain⟨y,k1,k2⟩:=aAC hT hi (cs:=ys) g1 g3 hag hn μ.w;obtain⟨d,hd,hk⟩:=(hT s _ hs).kind;simp only[TK.fits] at hk;obtain⟨fs,e,he⟩:=hk;subst e;subst he;rw[ci] at hf;cases hff:fs.toList[f]? with
 | none=>rw[hff] at hf;cases hf
 | some fd=>
  rw[hff] at hf;simp only[Option.map_some,Option.some.injEq,Prod.mk.injEq] at hf;obtain⟨e3,e4⟩:=hf;have hfa:fs[f]? = some fd:=by rw[<- f9];exact hff
  refine eQ.here ok ?_ k2;rw[l1,hoff,<- e3,<- e4] at k1;simp[execOp,ho,Instr.field,run_underlying hd,hfa,e1,asAgg,k1]
def aM8(op:BinOp)(k:IntKind)(a b:Int):Option Value:=
 match op with
 | .add=>some (.int k (k.wrap (a+b)))
 | .sub=>some (.int k (k.wrap (a - b)))
 | .mul=>some (.int k (k.wrap (a*b)))
 | .quo=>match decide (b=0) with | true=>none | false=>some (.int k (k.wrap (a.tdiv b)))
 | .rem=>match decide (b=0) with | true=>none | false=>some (.int k (a.tmod b))
 | .and=>some (.int k (k.wrap (bz k.bits a &&& bz k.bits b).toNat))
 | .or=>some (.int k (k.wrap (bz k.bits a ||| bz k.bits b).toNat))
 | .xor=>some (.int k (k.wrap (bz k.bits a ^^^ bz k.bits b).toNat))
 | .andNot=>some (.int k (k.wrap (bz k.bits a &&& ~~~ (bz k.bits b)).toNat))
 | .eql=>some (.bool (a==b))
 | .neq=>some (.bool (a != b))
 | .lss=>some (.bool (a < b))
 | .leq=>some (.bool (a<=b))
 | .gtr=>some (.bool (a > b))
 | .geq=>some (.bool (a>=b))
 | _=>none
def aCB(op:BinOp)(k:IntKind)(a b:Int):Option Value:=
 match decide (b < 0) with
 | true=>none
 | false=>match op with
  | .shl=>some (.int k (k.wrap (a*2 ^ (min b.toNat k.bits))))
  | .shr=>some (.int k (a.fdiv (2 ^ (min b.toNat k.bits))))
  | _=>none
def aGL : BinOp->Bool
 | .shl=>true
 | .shr=>true
 | _=>false
def aQh(op:BinOp)(a b:ByteArray):Option Value:=
 match op with
 | .eql=>some (.bool (a.toList==b.toList))
 | .neq=>some (.bool (!(a.toList==b.toList)))
 | .lss=>some (.bool (Op.bytesLess a.toList b.toList))
 | _=>none
def aMt(op:BinOp)(a b:Bool):Option Value:=
 match op with
 | .eql=>some (.bool (a==b))
 | .neq=>some (.bool (!(a==b)))
 | _=>none
def aI3(op:BinOp)(kind:Option TK)(x y:Value):Option Value:=
 match x,y with
 | .int k a,.int k' b=>match aGL op with
  | true=>aCB op k a b
  | false=>match decide (k=k') with
   | true=>aM8 op k a b
   | false=>none
 | .bool a,.bool b=>match kind with | some .bool=>aMt op a b | _=>none
 | .string a,.string b=>aQh op a b
 | _,_=>none
theorem aBw(op:BinOp)(t:TypeId)(x y:Operand){vx vy:Value}(h1:∀p q:Array Value,¬(vx = .agg p/\vy = .agg q))(h2:¬(vx = .nilIface/\vy = .nilIface))(w:World) :
  (eqGuard op t x y vx vy).run P w = .ok () w:=by
 unfold eqGuard;split
 case h_3=>rfl
 all_goals
  rw[if_neg (by simp)]
  split
  ·exact absurd ⟨by first | rfl | assumption,by first | rfl | assumption⟩ h2
  ·exact absurd ⟨by first | rfl | assumption,by first | rfl | assumption⟩ (h1 _ _)
  ·rfl
theorem aEy{t:TypeId}(ht:P.underlying t=some .bool)(d:Nat)(a b:Bool)(w:World):(Op.equalIn (d+1) t (.bool a) (.bool b)).run P w = .ok (a==b) w:=by
 simp[Op.equalIn,run_underlying ht]
theorem aHH{t:TypeId}(ht:P.underlying t=some .bool)(a b:Bool)(w:World):(Op.equal t (.bool a) (.bool b)).run P w = .ok (a==b) w:=
 aEy ht 9999 a b w
theorem aPM{op:BinOp}{kind:Option TK}{x y z:Value}(h:aI3 op kind x y=some z):z.oneCell'=true:=by
 unfold aI3 aM8 aCB aQh aMt at h
 repeat' (split at h)
 all_goals (cases h;try rfl)
theorem aO9(hT:TOK P T){op:BinOp}{t:TypeId}{x y:Operand}{vx vy z:Value}(h:aI3 op ((T t).map TI.kind) vx vy=some z)(w:World) :
  (do eqGuard op t x y vx vy;binOp op t vx vy).run P w = .ok z w:=by
 unfold aI3 at h;split at h
 ·rename_i k a k' b;rw[bf,aBw op t x y (by simp) (by simp),am]
  split at h
  ·rename_i hs;unfold aCB at h;split at h
   ·cases h
   ·rename_i hb;simp only[decide_eq_false_iff_not] at hb;split at h <;> cases h <;> simp[binOp,Op.shift,hb]
  ·rename_i hs;split at h
   ·rename_i hk;simp only[decide_eq_true_eq] at hk;subst hk;unfold aM8 at h;cases op <;> simp only at h hs <;> first
     | (cases h;done)
     | (cases h;simp[binOp,Op.intArith,Op.intBits,Op.intCmp];done)
     | (split at h;cases h;rename_i hb;cases h;simp only[decide_eq_false_iff_not] at hb;simp[binOp,Op.intDiv,hb])
   ·cases h
 ·rename_i a b;rw[bf,aBw op t x y (by simp) (by simp),am]
  split at h
  ·rename_i hk;cases hi:T t with
   | none=>rw[hi] at hk;cases hk
   | some i=>
    rw[hi] at hk;simp only[Option.map_some,Option.some.injEq] at hk;obtain⟨d,hd,hf⟩:=(hT t i hi).kind;rw[hk] at hf;simp only[TK.fits] at hf;subst hf;unfold aMt at h;split at h <;> cases h <;> simp only[binOp,bf,aHH hd,am,ck]
  ·cases h
 ·rw[bf,aBw op t x y (by simp) (by simp),am]
  unfold aQh at h;split at h <;> cases h <;> simp only[binOp,Op.stringOp,ck]
 ·cases h
theorem aKU(hT:TOK P T){o:Oper}{op:BinOp}{t t':TypeId}{x y:Operand}{vx vy z:Value}(ho:o.op = .binOp op t x y t')(ok:μ.OK)
  (hx:Rv μ (.v vx) (a.eval x)) (hy:Rv μ (.v vy) (a.eval y)) (h:aI3 op ((T t).map TI.kind) vx vy=some z):eQ P o a μ (.v z) μ:=by
 have e1:=bH hx;have e2:=bH hy;refine eQ.here (y:=z) ok ?_ (tQ (aPM h))
 have:=aO9 (x:=x) (y:=y) hT h μ.w;rw[bf] at this;simp only[execOp,ho,e1,e2,bf,this,am,ck]
def evUn(op:UnOp)(x:Value):Option Value:=
 match op,x with
 | .neg,.int k n=>some (.int k (k.wrap (0 - n)))
 | .xor,.int k n=>some (.int k (k.wrap (bz k.bits (if k.signed then -1 else k.max) ^^^ bz k.bits n).toNat))
 | .not,.bool b=>some (.bool !b)
 | _,_=>none
theorem aTm{o:Oper}{op:UnOp}{t:TypeId}{x:Operand}{vx z:Value}(ho:o.op = .unOp op t x)(ok:μ.OK)(hx:Rv μ (.v vx) (a.eval x))(h:evUn op vx=some z):eQ P o a μ (.v z) μ:=by
 have e1:=bH hx;unfold evUn at h;split at h <;> cases h
 all_goals
  refine eQ.here ok ?_ (tQ rfl)
  simp[execOp,ho,e1,Op.unary,Op.intArith,Op.intBits]
theorem aOX(hT:TOK P T){o:Oper}{s t:TypeId}{x:Operand}{k k':IntKind}{n:Int}{i j:TI}(ho:o.op = .convert s t x)(ok:μ.OK)(hx:Rv μ (.v (.int k' n)) (a.eval x))
  (ht:T t=some i) (hk:i.kind = .int k) (hs:T s=some j):eQ P o a μ (.v (.int k (k.wrap n))) μ:=by
 have e1:=bH hx;obtain⟨d,hd,hf⟩:=(hT t i ht).kind;obtain⟨d',hd',_⟩:=(hT s j hs).kind;rw[hk] at hf;simp only[TK.fits] at hf;subst hf;refine eQ.here (y := .int k (k.wrap n)) ok ?_ (tQ rfl)
 simp only[execOp,ho,e1,convert,bf,run_underlying hd,run_underlying hd',am]
 cases d' <;> simp[Conv.intToInt]
end
end Go.UK

open Bool renaming false_eq_true→au
open Nat renaming beq→bp,eq_of_beq_eq_true→ak
open Prod renaming fst→gq
open Go.Sem renaming run_bind→bf
namespace Go.UK
open Go
set_option linter.all false
variable [bL]
section
variable {P:Program} {T:TypeId→Option TI} {μ:Mem} {a:Act}
theorem aIx(cells:Array Value)(off:Nat):∀(vs:List Value) (k:Nat) (c:Array Value),(vs.zipIdx k).foldl (λcs (p:Value×Nat)=>cs.setIfInBounds (off+p.2) p.1) c=jM c (off+k) vs
 | [],_,c=>rfl
 | v :: vs,k,c=>by
  simp only[List.zipIdx_cons,List.foldl_cons,jM]
  rw[aIx cells off vs (k+1)]
  rw[Nat.add_assoc]
theorem aOz{place:Nat->Option (Nat×Nat)}{cells:Array Value}{j:Nat}{v:Value}{rest:List (Nat×Value)}{off size:Nat}(hp:place j=some (off,size))(hs:v.cells.size=size)(hb:off+size<=cells.size) :
  Instr.fill place cells ((j,v) :: rest)=Instr.fill place (jM cells off v.cells.toList) rest:=by
 simp only[Instr.fill,hp]
 rw[if_neg (by simp[hs];omega)]
 congr 1;have:=aIx cells off v.cells.toList 0 cells;simp only[Nat.add_zero] at this;rw[<- this,<- Array.foldl_toList,Array.toList_zipIdx]
def aBn(place:Nat->Option (Nat×Nat)):AV->List (Nat×AV)->Option AV
 | c,[]=>some c
 | c,(j,x) :: r=>match place j with
  | some (off,size)=>match loc c 0 [j] with
   | some (x0,o)=>match bp o off&&bp x0.n size&&bp x.n size with
    | true=>match aAP c [j] x with
     | some c'=>aBn place c' r
     | none=>none
    | false=>none
   | none=>none
  | none=>none
def fK : AV->Bool
 | .tup _=>false
 | _=>true
theorem mX{x:AV}(h:fK x=true):∀vs,x ≠ .tup vs:=by
 intro vs e;subst e;simp[fK] at h
theorem zI{place:Nat->Option (Nat×Nat)}:∀(l:List (Nat×AV)) (vs:List (Nat×Value)) (c c':AV) (ys:Array Value),
  l.map gq=vs.map gq->(∀(i:Nat) (x:Nat×AV) (v:Nat×Value),l[i]? = some x->vs[i]? = some v->Rc μ x.2 v.2.cells.toList) ->
  aBn place c l=some c'->Rc μ c ys.toList->∃ys',Instr.fill place ys vs=some ys'/\Rc μ c' ys'.toList/\c'.n=c.n/\c'.isAgg=c.isAgg
 | [],vs,c,c',ys,hf,_,h,hr=>by
  simp only[aBn,Option.some.injEq] at h;subst h;have:vs=[]:=by cases vs <;> simp at hf ⊢
  subst this;exact⟨ys,rfl,hr,rfl,rfl⟩
 | (j,x) :: l,[],c,c',ys,hf,_,_,_=>by simp at hf
 | (j,x) :: l,(j',v) :: vs,c,c',ys,hf,hv,h,hr=>by
  simp only[List.map_cons,List.cons.injEq] at hf;obtain⟨e,hf⟩:=hf;subst e;have hv0:=hv 0 (j,x) (j,v) rfl rfl;simp only[aBn] at h;split at h <;> try cases h
  rename_i off size hp;split at h <;> try cases h
  rename_i x0 o hl;split at h <;> try cases h
  rename_i hb;split at h <;> try cases h
  rename_i c1 hc1;simp only[Bool.and_eq_true] at hb;have e1:=ak hb.1.1;have e2:=ak hb.1.2;have e3:=ak hb.2;subst e1;obtain⟨pre,mid,post,g1,g2,g3,g4⟩:=rR [j] c 0 o x0 ys.toList hl hr;obtain⟨g5,g6⟩:=g4 x _ c1 hc1 (by omega) hv0;have l1:=Rc.length _ _ hv0;have l2:=Rc.length _ _ g3;have l3:ys.size=pre.length+mid.length+post.length:=by
   have:=congrArg List.length g1;simp at this;omega
  have hsz:v.cells.size=size:=by simp at l1;omega
  rw[aOz hp hsz (by omega)]
  have e1:(jM ys o v.cells.toList).toList=pre++v.cells.toList++post:=by
   rw[oN _ _ _ (by simp;omega),g1]
   have h1:List.take o (pre++mid++post)=pre:=by rw[List.append_assoc,show o=pre.length by omega];simp
   have h2:List.drop (o+v.cells.toList.length) (pre++mid++post)=post:=by
    rw[show o+v.cells.toList.length=(pre++mid).length by simp;omega];simp
   rw[h1,h2]
  obtain⟨ys',k1,k2,k3,k4⟩:=zI l vs c1 c' (jM ys o v.cells.toList) hf (λi x v hx hv'=>hv (i+1) x v hx hv') h (by rw[e1];exact g5)
  refine⟨ys',k1,k2,by omega,k4.trans ?_⟩
  cases c <;> simp only[aAP] at hc1
  case st=>split at hc1 <;> cases hc1 <;> rfl
  case arr=>
   split at hc1 <;> try cases hc1
   split at hc1 <;> cases hc1;rfl
  all_goals cases hc1
def aBi(T:TypeId->Option TI):List (Nat×TypeId)->Option (List (Nat×Nat))
 | []=>some []
 | (off,ft) :: r=>match T ft,aBi T r with
  | some i,some l=>some ((off,i.size) :: l)
  | _,_=>none
def aJC(T:TypeId->Option TI)(t:TypeId)(l:List (Nat×AV)):Option AV:=
 match T t with
 | some { kind := .st fs,zero:=z,.. }=>match aBi T fs with
  | some ps=>aBn (ps.toArray[·]?) z l
  | none=>none
 | some { kind := .arr _ e,zero:=z,.. }=>match T e with
  | some ie=>aBn (λi=>some (i*ie.size,ie.size)) z l
  | none=>none
 | _=>none
theorem aCq(hT:TOK P T):∀(fs:List Field) (ps:List (Nat×Nat)),aBi T (fs.map λf=>(f.offset,f.type))=some ps ->
  fs.mapM (λf=>(P.info? f.type).map λi=>(f.offset,i.size))=some ps
 | [],ps,h=>by simp only[List.map_nil,aBi,Option.some.injEq] at h;subst h;rfl
 | f :: fs,ps,h=>by
  simp only[List.map_cons,aBi] at h;split at h <;> try cases h
  rename_i i l hi hl;obtain⟨ti,ys,h1,h2,_⟩:=(hT _ i hi).info;have:=aCq hT fs l hl;simp[List.mapM_cons,h1,h2,this]
theorem aMx(hT:TOK P T){o:Oper}{t:TypeId}{parts:Array (Nat×Operand)}{l:List (Nat×AV)}{x:AV}(ho:o.op = .build t parts)(ok:μ.OK)
  (hf:l.map gq=parts.toList.map gq) (hl:∀(i:Nat) q p,l[i]? = some q->parts.toList[i]? = some p->Rv μ q.2 (a.eval p.2)/\fK q.2=true) (h:aJC T t l=some x):eQ P o a μ x μ:=by
 have hvs:l.map gq=((parts.map λ(i,x)=>(i,a.eval x)).toList).map gq:=by
  rw[hf];simp
 have hv:∀(i:Nat) (q:Nat×AV) (v:Nat×Value),l[i]? = some q->(parts.map λ(i,x)=>(i,a.eval x)).toList[i]? = some v->Rc μ q.2 v.2.cells.toList:=by
  intro i q v hq hv;rw[Array.toList_map,List.getElem?_map] at hv;cases hp:parts.toList[i]? with
  | none=>rw[hp] at hv;cases hv
  | some p=>
   rw[hp] at hv;simp only[Option.map_some,Option.some.injEq] at hv;subst hv;obtain⟨h1,h2⟩:=hl i q p hq hp;exact h1.cells (mX h2)
 have fin:∀(z:AV) (tt:TI),T t=some tt->tt.zero=z->∀place,aBn place z l=some x->(∀zv ys,(P.info? t).bind (·.zero)=some zv->zv.cells=ys->Instr.fill place ys ((parts.map λ(i,x)=>(i,a.eval x)).toList)=P.built t ((parts.map λ(i,x)=>(i,a.eval x)).toList))->tt.kind.agg=true->eQ P o a μ x μ:=by
  intro z tt htt hz place hfill hbuilt hagg;obtain⟨ti,ys,h1,h2,h3,h4,h5,h6⟩:=(hT t tt htt).info;rw[hagg] at h5;simp only[if_true] at h5;subst hz;obtain⟨ys',k1,k2,k3,k4⟩:=zI l _ tt.zero x ys.toArray hvs hv hfill (by simpa using aBs _ _ h4)
  have:=hbuilt (.agg ys.toArray) ys.toArray (by simp[h1,h5]) (by simp[Value.cells])
  rw[k1] at this;refine eQ.here (y := .agg ys') ok ?_ (Rv.of_agg k2 (k4.trans ((hT t tt htt).shape.trans hagg)))
  have hb:=run_build μ.w t (parts.map λ(i,x)=>(i,a.eval x)) ys' this.symm;simp only[execOp,ho,bf,hb,Result.andThen_ok,Sem.run_pure]
 unfold aJC at h;split at h <;> try cases h
 ·rename_i n b z fs ht;split at h <;> try cases h
  rename_i ps hps;obtain⟨d,hd,hk⟩:=(hT t _ ht).kind;simp only[TK.fits] at hk;obtain⟨flds,e,he⟩:=hk;subst e;rw[<- he] at hps;have hm:=aCq hT _ _ hps;refine fin _ _ ht rfl _ h ?_ rfl;intro zv ys hz hy;unfold Program.built;obtain⟨ti,ys0,h1,_⟩:=(hT t _ ht).info;simp only[h1,Option.bind_some] at hz;simp only[h1,hd,hz,hm,hy]
 ·rename_i n b z len e ht;split at h <;> try cases h
  rename_i ie he;obtain⟨d,hd,hk⟩:=(hT t _ ht).kind;simp only[TK.fits] at hk;subst hk;refine fin _ _ ht rfl _ h ?_ rfl;intro zv ys hz hy;unfold Program.built;obtain⟨ti,ys0,h1,_⟩:=(hT t _ ht).info;obtain⟨te,ys1,g1,g2,_⟩:=(hT e _ he).info;simp only[h1,Option.bind_some] at hz;simp only[h1,hd,hz,g1,g2,hy]
theorem aI6{o:Oper}{x:Operand}{v:AV}(ho:o.op = .move x\/o.op = .assign x)(ok:μ.OK)(hx:Rv μ v (a.eval x)):eQ P o a μ v μ:=by
 refine eQ.here (y:=a.eval x) ok ?_ hx;rcases ho with ho | ho <;> simp[execOp,ho]
theorem aJI{o:Oper}{x:Operand}{vs:List AV}{i:Nat}{v:AV}(ho:o.op = .extract x i)(ok:μ.OK)(hx:Rv μ (.tup vs) (a.eval x))(hv:vs[i]? = some v)(hn:fK v=true):eQ P o a μ v μ:=by
 obtain⟨ys,e,h⟩:=hx;have key:∀(vs:List AV) (ys:List Value) (i:Nat),RvL μ vs ys->vs[i]? = some v->∃y,ys[i]? = some y/\Rv0 μ v y:=by
  intro vs
  induction vs with
  | nil=>intro ys i _ hv;simp at hv
  | cons p vs ih=>
   rintro ys i ⟨y,r,e,h1,h2⟩ hv;subst e;cases i with
   | zero=>simp at hv;subst hv;exact⟨y,rfl,h1⟩
   | succ i=>exact ih r i h2 hv
 obtain⟨y,h1,h2⟩:=key vs ys.toList i h hv;have h1':ys[i]? = some y:=by rw[<- Array.getElem?_toList];exact h1
 refine eQ.here (y:=y) ok ?_ (by cases v <;> first | exact h2 | simp[fK] at hn)
 simp[execOp,ho,Instr.extract,e,h1']
theorem aLy(hT:TOK P T){o:Oper}{t:TypeId}{i:TI}(ho:o.op = .alloc t)(ok:μ.OK)(ht:T t=some i) :
  ∃bs' w',eQ P o a μ (.ref μ.H.length [] 0) ⟨μ.H++[.var i.zero],bs',w',μ.F⟩:=by
 obtain⟨y,ys,h1,h2,h3,h4,h5⟩:=uL hT ht μ.w;obtain⟨H,bs,w,F⟩:=μ;obtain⟨k1,k2,k3⟩:=aJR ok (x:=i.zero) (ys:=y.cells) (by rw[h3];simpa using aBs _ _ h2) t;refine⟨_,_,_,?_,k1,k2,k3⟩
 simp[execOp,ho,Instr.alloc,h1,tR]
theorem aIF(hT:TOK P T){o:Oper}{t:TypeId}{i:TI}(ho:o.op = .alloc t)(ok:μ.OK)(ht:T t=some i) :
  ∃w',eQ P o a μ (.im i.zero) ⟨μ.H,μ.bs,w',μ.F⟩:=by
 obtain⟨y,ys,h1,h2,h3,h4,h5⟩:=uL hT ht μ.w;obtain⟨H,bs,w,F⟩:=μ;refine⟨w.alloc (.cells y.cells t),.pointer (some ⟨w.heap.size,0,none⟩),?_,aNs ok (by rw[h3];simpa using aEh _ _ h2) t,Ext.later (cL.alloc _ _ _),OK.later (cL.alloc _ _ _) ok⟩
 simp[execOp,ho,Instr.alloc,h1,tR]
theorem aRv{o:Oper}{t:TypeId}{v:Operand}{x:AV}(ho:o.op = .box t v)(ok:μ.OK)(hx:Rv μ x (a.eval v))(hn:fK x=true) :
  ∃bs' w',eQ P o a μ (.ref μ.H.length [] 0) ⟨μ.H++[.var x],bs',w',μ.F⟩:=by
 obtain⟨H,bs,w,F⟩:=μ;obtain⟨k1,k2,k3⟩:=aJR ok (hx.cells (mX hn)) t;refine⟨_,_,_,?_,k1,k2,k3⟩
 simp[execOp,ho,Instr.box,tR]
theorem aKs{o:Oper}{t:TypeId}{v:Operand}{x:AV}(ho:o.op = .box t v)(ok:μ.OK)(hdat:data x=true)(hx:Rv μ x (a.eval v))(hn:fK x=true) :
  ∃w',eQ P o a μ (.im x) ⟨μ.H,μ.bs,w',μ.F⟩:=by
 obtain⟨H,bs,w,F⟩:=μ;refine⟨w.alloc (.cells (a.eval v).cells t),.pointer (some ⟨w.heap.size,0,none⟩),?_,aVA ok hdat (hx.cells (mX hn)) t,Ext.later (cL.alloc _ _ _),OK.later (cL.alloc _ _ _) ok⟩
 simp[execOp,ho,Instr.box,tR]
theorem zX{o:Oper}{x:Operand}{v:AV}(ho:o.op = .nilCheck x)(ok:μ.OK)(hx:Rv μ v (a.eval x))(hv:(∃i p q,v = .ref i p q)\/(∃y,v = .im y)\/(∃t y,v = .ifc t y)):eQ P o a μ v μ:=by
 refine eQ.here (y:=a.eval x) ok ?_ hx;rcases hv with ⟨i,p,q,e⟩ | ⟨y,e⟩ | ⟨t,y,e⟩
 ·subst e;obtain⟨b,c,_,_,h⟩:=aBW hx;simp[execOp,ho,h]
 ·subst e;obtain⟨b,c,_,h,_⟩:=aKZ hx;simp[execOp,ho,h]
 ·subst e;have h:∃z,a.eval x = .iface t z:=by
   simp only[Rv,Rv0,AV.isAgg,Rc,au,if_false] at hx;obtain⟨z,h,_⟩:=hx;simp only[List.cons.injEq,and_true] at h;exact⟨z,h⟩
  obtain⟨z,h⟩:=h;simp[execOp,ho,h]
theorem mZ{o:Oper}{b:Builtin}{args:Array Operand}{tys:Array TypeId}(ho:o.op = .call { callee := .builtin b,args,argTypes:=tys })(ev:Operand->Value) :
  ∃cs,(execOp ev o)=builtin b tys o.type cs (args.map ev):=by
 refine⟨(args.map λ | .const _=>true | _=>false),?_⟩
 simp[execOp,ho,resolve,invoke]
 rfl
def aAL : AV->Option Nat
 | .sl _ ln _=>some ln
 | .own _ _ ln _=>some ln
 | .bsl _ _ _ _ _ len=>some len
 | .gro _ _ ln .all=>some ln
 | .gro _ _ _ (.sub _ n)=>some n
 | .v (.slice _ n _)=>some n
 | _=>none
theorem aKa(hT:TOK P T){o:Oper}{x:Operand}{t:TypeId}{i:TI}{e:TypeId}{v:AV}{n:Nat}(ho:o.op = .call { callee := .builtin .len,args:=#[x],argTypes:=#[t] })(ok:μ.OK)
  (ht:T t=some i) (hk:i.kind = .sl e) (hx:Rv μ v (a.eval x)) (hv:aAL v=some n):eQ P o a μ (.v (.int .i64 n)) μ:=by
 obtain⟨cs,he⟩:=mZ ho a.eval;obtain⟨d,hd,hf⟩:=(hT t i ht).kind;rw[hk] at hf;simp only[TK.fits] at hf;subst hf;have hs:∃ad cap,a.eval x = .slice ad n cap:=by
  cases v with
  | sl k ln es=>
   simp only[aAL,Option.some.injEq] at hv;simp only[Rv,Rv0,AV.isAgg,Rc,au,if_false,List.cons.injEq,and_true] at hx;obtain⟨hn,ad,cap,h,_⟩:=hx;exact⟨ad,cap,by rw[h,hn,hv]⟩
  | own id k ln es=>
   simp only[aAL,Option.some.injEq] at hv;simp only[Rv,Rv0,AV.isAgg,Rc,au,if_false,List.cons.injEq,and_true] at hx;obtain⟨hn,ad,cap,h,_⟩:=hx;exact⟨ad,cap,by rw[h,hn,hv]⟩
  | bsl id p o k lo len=>
   simp only[aAL,Option.some.injEq] at hv;simp only[Rv,Rv0,AV.isAgg,Rc,au,if_false,List.cons.injEq,and_true] at hx;obtain⟨b,c,cap,_,_,_,h⟩:=hx;exact⟨_,cap,by rw[h,hv]⟩
  | gro id k ln j=>
   simp only[Rv,Rv0,AV.isAgg,Rc,au,if_false,List.cons.injEq,and_true] at hx;obtain⟨y,h0,_,a1,cap,h,_⟩:=hx;cases j <;> simp only[aAL,Option.some.injEq] at hv <;> cases hv
   ·exact⟨_,cap,by rw[h0,h];rfl⟩
   ·exact⟨_,_,by rw[h0,h];rfl⟩
  | v y=>
   cases y <;> simp only[aAL,Option.some.injEq] at hv <;> try cases hv
   have:=bH hx;exact⟨_,_,this⟩
  | _=>simp[aAL] at hv
 obtain⟨ad,cap,hs⟩:=hs;refine eQ.here (y := .int .i64 n) ok ?_ (tQ rfl)
 simp only[he,builtin,bf]
 simp[Builtin.len_,hs,run_underlying hd,goInt]
theorem aKK(hT:TOK P T){o:Oper}{x:Operand}{t:TypeId}{i:TI}{s:ByteArray}(ho:o.op = .call { callee := .builtin .len,args:=#[x],argTypes:=#[t] })(ok:μ.OK)
  (ht:T t=some i) (hk:i.kind = .str) (hx:Rv μ (.v (.string s)) (a.eval x)):eQ P o a μ (.v (.int .i64 s.size)) μ:=by
 obtain⟨cs,he⟩:=mZ ho a.eval;obtain⟨d,hd,hf⟩:=(hT t i ht).kind;rw[hk] at hf;simp only[TK.fits] at hf;subst hf;have hs:=bH hx;refine eQ.here (y := .int .i64 s.size) ok ?_ (tQ rfl)
 simp only[he,builtin,bf]
 simp[Builtin.len_,hs,run_underlying hd,goInt]
theorem aJe(hT:TOK P T){o:Oper}{x:Operand}{t:TypeId}{i:TI}{n:Nat}{e:TypeId}(ho:o.op = .call { callee := .builtin .len,args:=#[x],argTypes:=#[t] })(ok:μ.OK)
  (ht:T t=some i) (hk:i.kind = .arr n e):eQ P o a μ (.v (.int .i64 n)) μ:=by
 obtain⟨cs,he⟩:=mZ ho a.eval;obtain⟨d,hd,hf⟩:=(hT t i ht).kind;rw[hk] at hf;simp only[TK.fits] at hf;subst hf;refine eQ.here (y := .int .i64 n) ok ?_ (tQ rfl)
 simp only[he,builtin,bf]
 simp[Builtin.len_,run_underlying hd,goInt]
theorem aO8{o:Oper}{x y:Operand}{tys:Array TypeId}{k k':IntKind}{n m:Int}(ho:o.op = .call { callee := .builtin .min,args:=#[x,y],argTypes:=tys })(ok:μ.OK)
  (hx:Rv μ (.v (.int k n)) (a.eval x)) (hy:Rv μ (.v (.int k' m)) (a.eval y)):eQ P o a μ (.v (.int k (if m < n then m else n))) μ:=by
 obtain⟨cs,he⟩:=mZ ho a.eval;have e1:=bH hx;have e2:=bH hy;refine eQ.here (y := .int k (if m < n then m else n)) ok ?_ (tQ rfl)
 simp only[he,builtin,bf]
 simp[Builtin.min_,Builtin.min2,e1,e2]
theorem aOW{o:Oper}{x y:Operand}{tys:Array TypeId}{k k':IntKind}{n m:Int}(ho:o.op = .call { callee := .builtin .max,args:=#[x,y],argTypes:=tys })(ok:μ.OK)
  (hx:Rv μ (.v (.int k n)) (a.eval x)) (hy:Rv μ (.v (.int k' m)) (a.eval y)):eQ P o a μ (.v (.int k (if m > n then m else n))) μ:=by
 obtain⟨cs,he⟩:=mZ ho a.eval;have e1:=bH hx;have e2:=bH hy;refine eQ.here (y := .int k (if m > n then m else n)) ok ?_ (tQ rfl)
 simp only[he,builtin,bf]
 simp[Builtin.max_,Builtin.max2,e1,e2]
end
end Go.UK

open Array renaming getElem?_setIfInBounds_ne→ee
open Bool renaming and_eq_true→b9,false_eq_true→au
open Nat renaming beq→bp,ble→hL,eq_of_beq_eq_true→ak
namespace Go.UK
open Go
set_option linter.all false
variable [bL]
def aON(g:Option (Nat×Bool))(g':Nat×Bool):Bool:=
 match g with
 | some g0=>bp g0.1 g'.1&&(match g0.2,g'.2 with | true,true=>true | false,false=>true | _,_=>false)
 | none=>false
theorem aMi{g:Option (Nat×Bool)}{g':Nat×Bool}(h:aON g g'=true):g=some g':=by
 obtain⟨a',b'⟩:=g';cases g with
 | none=>simp[aON] at h
 | some g0=>
  obtain⟨a,b⟩:=g0;simp only[aON,b9] at h;have:=ak h.1;subst this;cases b <;> cases b' <;> simp at h <;> rfl
def opd(env:Env)(g:Option (Nat×Bool)):Operand->Option AV
 | .tmp t=>match bY env t with
  | some (none,x)=>some x
  | some (some g',x)=>match aON g g' with | true=>some x | false=>none
  | none=>none
 | .const v=>match v.oneCell' with | true=>some (.v v) | false=>none
 | .func f=>some (.fn (.func f) [] [])
 | .global _=>none
theorem aR{μ:Mem}{env:Env}{a:Act}(he:eY μ env a.tmps){g:Option (Nat×Bool)}(hg:∀g',g=some g'->a.tmps[g'.1]? = some (.bool g'.2)){x:Operand}{v:AV}(h:opd env g x=some v) :
  Rv μ v (a.eval x):=by
 cases x with
 | tmp t=>
  simp only[opd] at h;split at h
  ·rename_i e hl;cases h;obtain⟨y,h1,h2⟩:=he t _ hl;simp only[Act.eval,xV h1]
   exact h2
  ·rename_i g' e hl;split at h
   ·rename_i hb;cases h;obtain⟨y,h1,h2⟩:=he t _ hl;simp only[Act.eval,xV h1]
    exact h2 (hg _ (aMi hb))
   ·cases h
  ·cases h
 | const c=>
  simp only[opd] at h;split at h
  ·rename_i hb;cases h;exact tQ hb
  ·cases h
 | func f=>
  simp only[opd,Option.some.injEq] at h;subst h;show Rv0 _ _ _;simp only[Rv0,AV.isAgg,Rc,au,if_false,Act.eval]
  exact⟨[],[],rfl,by simp[RcL],by simp[RcL]⟩
 | global g=>simp[opd] at h
def aL2(ρ:Operand->Option AV):List (Nat×Operand)->Option (List (Nat×AV))
 | []=>some []
 | (i,x) :: r=>match ρ x,aL2 ρ r with
  | some v,some l=>match fK v with | true=>some ((i,v) :: l) | false=>none
  | _,_=>none
theorem aB0{ρ:Operand->Option AV}:∀(ps:List (Nat×Operand)) (l:List (Nat×AV)),aL2 ρ ps=some l->l.map Prod.fst=ps.map Prod.fst /\
  ∀(i:Nat) q p,l[i]? = some q->ps[i]? = some p->ρ p.2=some q.2/\fK q.2=true
 | [],l,h=>by simp only[aL2,Option.some.injEq] at h;subst h;simp
 | (j,x) :: r,l,h=>by
  simp only[aL2] at h;split at h <;> try cases h
  rename_i v l' h1 h2;split at h <;> try cases h
  rename_i hn;obtain⟨g1,g2⟩:=aB0 r l' h2;refine⟨by simp[g1],λi q p hq hp=>?_⟩
  cases i with
  | zero=>
   simp only[List.getElem?_cons_zero,Option.some.injEq] at hq hp;subst hq hp;exact⟨h1,hn⟩
  | succ i=>exact g2 i q p hq hp
def aJL(ρ:Operand->Option AV):List Operand->Option (List AV)
 | []=>some []
 | x :: r=>match ρ x,aJL ρ r with
  | some v,some l=>match fK v with | true=>some (v :: l) | false=>none
  | _,_=>none
def aIr(T:TypeId->Option TI)(t:TypeId)(v:AV):Option Value:=
 match T t with
 | some { kind := .sl _,.. }=>match aAL v with | some n=>some (.int .i64 n) | none=>none
 | some { kind := .str,.. }=>match v with | .v (.string s)=>some (.int .i64 s.size) | _=>none
 | some { kind := .arr n _,.. }=>some (.int .i64 n)
 | _=>none
def inR(i:Int)(len:Nat):Bool:=decide (0<=i)&&decide (i < (len:Int))
def aNf(T:TypeId->Option TI)(s:TypeId)(f:Nat):AV->Option AV
 | .st _ ps=>match T s with
  | some { kind := .st l,.. }=>match l[f]? with
   | some (off,ft)=>match T ft,ps[f]? with
    | some i,some x=>match bp (xD (ps.take f)) off&&bp x.n i.size&&(x.isAgg==i.kind.agg) with
     | true=>some x
     | false=>none
    | _,_=>none
   | none=>none
  | _=>none
 | _=>none
def ev(T:TypeId->Option TI)(im:Bool)(ρ:Operand->Option AV)(H:List Box)(o:Oper):Option (AV×Option Box):=
 match o.op with
 | .move x=>match ρ x with | some v=>some (v,none) | none=>none
 | .assign x=>match ρ x with | some v=>some (v,none) | none=>none
 | .alloc t=>match T t with
  | some i=>match im with
   | true=>some (.im i.zero,none)
   | false=>some (.ref H.length [] 0,some (.var i.zero))
  | none=>none
 | .box _ x=>match ρ x with
  | some v=>match fK v with
   | true=>match im with
    | true=>match data v with | true=>some (.im v,none) | false=>none
    | false=>some (.ref H.length [] 0,some (.var v))
   | false=>none
  | none=>none
 | .build t parts=>match aL2 ρ parts.toList with
  | some l=>match aJC T t l with | some x=>some (x,none) | none=>none
  | none=>none
 | .load t p=>match ρ p,T t with
  | some q,some i=>match aHp H q with
   | some x=>match bp x.n i.size&&(x.isAgg==i.kind.agg) with | true=>some (x,none) | false=>none
   | none=>none
  | _,_=>none
 | .fieldAddr s p f=>match ρ p with
  | some q=>match xZ T s f q with | some x=>some (x,none) | none=>none
  | none=>none
 | .field s p f=>match ρ p with
  | some q=>match aNf T s f q with | some x=>some (x,none) | none=>none
  | none=>none
 | .indexAddr t p ix=>match ρ p,ρ ix with
  | some q,some (.v (.int _ i))=>match inR i (aEz T t) with
   | true=>match wH T t i q with | some x=>some (x,none) | none=>none
   | false=>none
  | _,_=>none
 | .extract x i=>match ρ x with
  | some (.tup vs)=>match vs[i]? with
   | some v=>match fK v with | true=>some (v,none) | false=>none
   | none=>none
  | _=>none
 | .binOp op t x y _=>match ρ x,ρ y with
  | some (.v vx),some (.v vy)=>match aI3 op ((T t).map TI.kind) vx vy with | some z=>some (.v z,none) | none=>none
  | _,_=>none
 | .unOp op _ x=>match ρ x with
  | some (.v vx)=>match evUn op vx with | some z=>some (.v z,none) | none=>none
  | _=>none
 | .convert s t x=>match ρ x,T t,T s with
  | some (.v (.int _ n)),some { kind := .int k,.. },some _=>some (.v (.int k (k.wrap n)),none)
  | _,_,_=>none
 | .nilCheck x=>match ρ x with
  | some (.ref i p q)=>some (.ref i p q,none)
  | some (.im y)=>some (.im y,none)
  | some (.ifc t y)=>some (.ifc t y,none)
  | _=>none
 | .call c=>match c.callee with
  | .builtin .len=>match c.args.toList,c.argTypes.toList with
   | [x],[t]=>match ρ x with
    | some v=>match aIr T t v with | some z=>some (.v z,none) | none=>none
    | none=>none
   | _,_=>none
  | .builtin .min=>match c.args.toList with
   | [x,y]=>match ρ x,ρ y with
    | some (.v (.int k n)),some (.v (.int _ m))=>some (.v (.int k (if m < n then m else n)),none)
    | _,_=>none
   | _=>none
  | .builtin .max=>match c.args.toList with
   | [x,y]=>match ρ x,ρ y with
    | some (.v (.int k n)),some (.v (.int _ m))=>some (.v (.int k (if m > n then m else n)),none)
    | _,_=>none
   | _=>none
  | _=>none
 | _=>none
def aBJ(H:List Box):Option Box->List Box
 | none=>H
 | some b=>H++[b]
section
variable {P:Program} {T:TypeId→Option TI} {n:Fr}
theorem aJg{α:Type}{a:Array α}{l:List α}(h:a.toList=l):a=l.toArray:=by
 rw[<- h]
theorem aD6(hT:TOK P T){im:Bool}{ρ:Operand->Option AV}{μ:Mem}{a:Act}{o:Oper}{x:AV}{b:Option Box}(hρ:∀y v,ρ y=some v->Rv μ v (a.eval y))(ok:μ.OK)
  (h:ev T im ρ μ.H o=some (x,b)):∃bs' w',eQ P o a μ x ⟨aBJ μ.H b,bs',w',μ.F⟩:=by
 have here:∀{x:AV},eQ P o a μ x μ->∃bs' w',eQ P o a μ x ⟨aBJ μ.H none,bs',w',μ.F⟩:=λh=>⟨μ.bs,μ.w,h⟩
 unfold ev at h;split at h
 ·rename_i y ho;split at h <;> cases h;rename_i hy;exact here (aI6 (.inl ho) ok (hρ _ _ hy))
 ·rename_i y ho;split at h <;> cases h;rename_i hy;exact here (aI6 (.inr ho) ok (hρ _ _ hy))
 ·rename_i t ho;split at h <;> try cases h
  rename_i i hi;split at h <;> cases h
  ·obtain⟨w',h'⟩:=aIF (a:=a) hT ho ok hi;exact⟨_,w',h'⟩
  ·exact aLy hT ho ok hi
 ·rename_i t y ho;split at h <;> try cases h
  rename_i v hv;split at h <;> try cases h
  rename_i hn;split at h
  ·split at h <;> cases h;rename_i hdat;obtain⟨w',h'⟩:=aKs (P:=P) ho ok hdat (hρ _ _ hv) hn;exact⟨_,w',h'⟩
  ·cases h;exact aRv ho ok (hρ _ _ hv) hn
 ·rename_i t parts ho;split at h <;> try cases h
  rename_i l hl;split at h <;> cases h;rename_i hb;obtain⟨h1,h2⟩:=aB0 _ _ hl;exact here (aMx hT ho ok h1 (λi q p hq hp=>⟨hρ _ _ (h2 i q p hq hp).1,(h2 i q p hq hp).2⟩) hb)
 ·rename_i t p ho;split at h <;> try cases h
  rename_i q i hq hi;split at h <;> try cases h
  rename_i y hy;split at h <;> cases h;rename_i hb;simp only[b9,beq_iff_eq] at hb;exact here (aOs hT ho ok hi (hρ _ _ hq) hy hb.2 (ak hb.1))
 ·rename_i s p f ho;split at h <;> try cases h
  rename_i q hq;split at h <;> cases h;rename_i hx;exact here (aGT hT ho ok (hρ _ _ hq) hx)
 ·rename_i s p f ho;split at h <;> try cases h
  rename_i q hq;split at h <;> cases h;rename_i hx;cases q <;> simp only[aNf] at hx <;> try cases hx
  rename_i m ps;split at hx <;> try cases hx
  rename_i l hs;split at hx <;> try cases hx
  rename_i off ft hf;split at hx <;> try cases hx
  rename_i i y hi hy;split at hx <;> cases hx;rename_i hb;simp only[b9,beq_iff_eq] at hb;exact here (aLt hT ho ok (hρ _ _ hq) hs hf hi hy (ak hb.1.1) hb.2 (ak hb.1.2))
 ·rename_i t p ix ho;split at h <;> try cases h
  rename_i q k i hq hi;split at h <;> try cases h
  rename_i hr;split at h <;> cases h;rename_i hx;simp only[inR,b9,decide_eq_true_eq] at hr;exact here (aAB hT ho ok (hρ _ _ hq) (hρ _ _ hi) hr.1 hr.2 hx)
 ·rename_i y i ho;split at h <;> try cases h
  rename_i vs hv;split at h <;> try cases h
  rename_i v hvi;split at h <;> cases h;rename_i hn;exact here (aJI ho ok (hρ _ _ hv) hvi hn)
 ·rename_i op t y z t' ho;split at h <;> try cases h
  rename_i vx vy hx hy;split at h <;> cases h;rename_i hz;exact here (aKU hT ho ok (hρ _ _ hx) (hρ _ _ hy) hz)
 ·rename_i op t y ho;split at h <;> try cases h
  rename_i vx hx;split at h <;> cases h;rename_i hz;exact here (aTm ho ok (hρ _ _ hx) hz)
 ·rename_i s t y ho;split at h <;> cases h;rename_i hx ht hs;exact here (aOX hT ho ok (hρ _ _ hx) ht rfl hs)
 ·rename_i y ho;split at h <;> cases h
  ·rename_i hv;exact here (zX ho ok (hρ _ _ hv) (.inl ⟨_,_,_,rfl⟩))
  ·rename_i hv;exact here (zX ho ok (hρ _ _ hv) (.inr (.inl ⟨_,rfl⟩)))
  ·rename_i hv;exact here (zX ho ok (hρ _ _ hv) (.inr (.inr ⟨_,_,rfl⟩)))
 ·rename_i c ho;obtain⟨callee,args,tys⟩:=c;split at h <;> try cases h
  ·rename_i hc;simp only at hc;subst hc;split at h <;> try cases h
   rename_i y t hy ht;split at h <;> try cases h
   rename_i v hv;split at h <;> cases h;rename_i z hz;simp only at hy ht;have e1:=aJg hy;have e2:=aJg ht;subst e1 e2;unfold aIr at hz;split at hz <;> try cases hz
   ·rename_i hi;split at hz <;> cases hz;rename_i hl;exact here (aKa hT ho ok hi rfl (hρ _ _ hv) hl)
   ·rename_i hi;split at hz <;> cases hz;exact here (aKK hT ho ok hi rfl (hρ _ _ hv))
   ·rename_i hi;exact here (aJe hT ho ok hi rfl)
  ·rename_i hc;simp only at hc;subst hc;split at h <;> try cases h
   rename_i y z hy;split at h <;> cases h;rename_i h1 h2;simp only at hy;have e1:=aJg hy;subst e1;exact here (aO8 ho ok (hρ _ _ h1) (hρ _ _ h2))
  ·rename_i hc;simp only at hc;subst hc;split at h <;> try cases h
   rename_i y z hy;split at h <;> cases h;rename_i h1 h2;simp only at hy;have e1:=aJg hy;subst e1;exact here (aOW ho ok (hρ _ _ h1) (hρ _ _ h2))
 ·cases h
def aAh(ops:Array Oper)(j:Nat):Option Nat:=(ops[j]?).bind (·.dst)
def aNn(T:TypeId->Option TI)(im:Nat->Bool)(gl:List Nat)(n:Nat)(o:Oper)(st:ASt):Option ASt:=
 match o.op with
 | .store t p v=>match o.dst with
  | some _=>none
  | none=>match opd st.env none p,opd st.env none v,T t with
   | some q,some x,some i=>match bp x.n i.size&&fK x with
    | true=>match vX st.H q x with
     | some H'=>some ⟨st.env,H'⟩
     | none=>none
    | false=>none
   | _,_,_=>none
 | .pick (.tmp c) x y=>match o.dst with
  | none=>none
  | some d=>match hL n d with
   | true=>none
   | false=>match gl.any (bp c) with
    | true=>match get st.env c with
     | some (.v (.bool true))=>match opd st.env (some (c,true)) x with
      | some v=>some ⟨st.env.set d (none,v),st.H⟩
      | none=>none
     | some (.v (.bool false))=>match opd st.env (some (c,false)) y with
      | some v=>some ⟨st.env.set d (none,v),st.H⟩
      | none=>none
     | _=>none
    | false=>match get st.env c,opd st.env (some (c,true)) x,opd st.env (some (c,false)) y with
     | some (.v (.bool b)),some (.v (.bool p)),some (.v (.bool q))=>some ⟨st.env.set d (none,.v (.bool (cond b p q))),st.H⟩
     | _,_,_=>none
 | _=>match o.dst with
  | none=>match ev T false (opd st.env none) st.H o with
   | some (_,b)=>some ⟨st.env,aBJ st.H b⟩
   | none=>none
  | some d=>match hL n d with
   | true=>none
   | false=>match ev T (im d) (opd st.env none) st.H o with
    | some (x,b)=>some ⟨st.env.set d (none,x),aBJ st.H b⟩
    | none=>none
def stepG(T:TypeId->Option TI)(n:Nat)(o:Oper)(dj d:Nat)(want:Bool)(st:ASt):Option ASt:=
 match hL n d||bp d dj with
 | true=>none
 | false=>match get st.env dj with
  | some (.v (.bool _))=>match ev T true (opd st.env (some (dj,want))) st.H o with
   | some (x,none)=>some ⟨st.env.set d (some (dj,want),x),st.H⟩
   | _=>none
  | _=>none
def aI8 : Bool->Bool->Bool
 | true,true=>true
 | false,false=>true
 | _,_=>false
def aK3(n:Nat)(o:Oper)(st:ASt):Option ASt:=
 match o.dst with
 | some d=>match hL n d with
  | true=>none
  | false=>some ⟨st.env.set d (none,.tup []),st.H⟩
 | none=>some st
def step(T:TypeId->Option TI)(im:Nat->Bool)(gl:List Nat)(n:Nat)(ops:Array Oper)(o:Oper)(st:ASt):Option ASt:=
 match o.guard with
 | none=>aNn T im gl n o st
 | some (j,want)=>match aAh ops j with
  | none=>none
  | some dj=>match gl.any (bp dj) with
   | true=>match get st.env dj with
    | some (.v (.bool b))=>match aI8 b want with
     | true=>aNn T im gl n o st
     | false=>aK3 n o st
    | some (.tup [])=>aK3 n o st
    | _=>none
   | false=>match o.dst with
    | some d=>stepG T n o dj d want st
    | none=>none
def owp(P:Program)(n:Fr)(o:Oper)(st st':ASt):Prop:=
 ∀ctx a w (Qx:Exit->Act->World->Prop),Sat n ctx st a w->o.wpIn n.F 0 P a w (λa' w'=>Sat n ctx st' a' w') Qx
def opS(P:Program)(n:Fr)(ops:Array Oper)(o:Oper)(st st':ASt):Prop:=
 ∀ctx a w (Qx:Exit->Act->World->Prop),Sat n ctx st a w ->
  if Region.wanted o (yielded ops a.tmps) then o.wpIn n.F 0 P a w (λa' w'=>Sat n ctx st' a' w') Qx else Sat n ctx st' (a.put o.dst undef) w
theorem aNA{ops:Array Oper}{o:Oper}{l:List Oper}{st st':ASt}{K:ASt->Prop}(h:opS P n ops o st st')(hk:awl P n ops l K st'):awl P n ops (o :: l) K st:=by
 intro ctx a w hs;refine wpListIn_step λK' hK'=>?_;have:=h ctx a w (lq n ctx K) hs;split
 ·rename_i hw;rw[if_pos hw] at this;exact Oper.wpIn_mono (λa' w' h'=>hK' _ _ (hk ctx a' w' h')) this
 ·rename_i hw;rw[if_neg hw] at this;exact⟨λ_ _=>trivial,hK' _ _ (hk ctx _ _ this)⟩
def gOK(ops:Array Oper)(o:Oper)(env:Env):Bool:=
 match o.guard with
 | none=>true
 | some (j,want)=>match aAh ops j with
  | none=>false
  | some dj=>match get env dj with
   | some (.v (.bool b))=>aI8 b want
   | _=>false
theorem aL5{b c:Bool}(h:aI8 b c=true):b=c:=by cases b <;> cases c <;> first | rfl | cases h
theorem aDT{ops:Array Oper}{tmps:Array Value}{j dj:Nat}{b:Bool}(h:aAh ops j=some dj)(hb:tmps[dj]? = some (.bool b)):yielded ops tmps j=some b:=by
 unfold yielded;have:(ops[j]?).bind (·.dst)=some dj:=h;rw[this]
 simp only[Option.bind_some,hb]
theorem aPj{ops:Array Oper}{o:Oper}{env:Env}{μ:Mem}{tmps:Array Value}(he:eY μ env tmps)(h:gOK ops o env=true):Region.wanted o (yielded ops tmps)=true:=by
 unfold gOK at h;unfold Region.wanted;split at h
 ·rename_i hg;rw[hg]
 ·rename_i j want hg;rw[hg]
  split at h <;> try cases h
  rename_i dj hdj;split at h <;> try cases h
  rename_i b hb;obtain⟨y,h1,h2⟩:=he.get hb;have:=bH h2;subst this;simp only[aDT hdj h1,aL5 h]
  simp
theorem aJU{ops:Array Oper}{o:Oper}{st st':ASt}(hg:gOK ops o st.env=true)(h:owp P n o st st'):opS P n ops o st st':=by
 intro ctx a w Qx hs;have hs':=hs;obtain⟨bs,hm⟩:=hs;rw[if_pos (aPj hm.env hg)]
 exact h ctx a w Qx hs'
theorem wN{o:Oper}{st st':ASt}(h:∀ctx a μ,aDh n ctx st a μ->∃x μ',eQ P o a μ x μ'/\∀y,Rv μ' x y->Ext μ μ'->μ'.OK->Sat n ctx st' (a.put o.dst y) μ'.w):owp P n o st st':=by
 intro ctx a w Qx hs;obtain⟨bs,hm⟩:=hs;obtain⟨x,μ',⟨y,h1,h2,h3,h4⟩,h5⟩:=h ctx a _ hm;refine aAo rfl (aAd h1) ?_;unfold Oper.wp;rw[h1]
 exact h5 y h2 h3 h4
theorem vV{o:Oper}{st st':ASt}(h:∀ctx a w,Sat n ctx st a w->∃w',(execOp a.eval o).run P w = .ok .skip w'/\Sat n ctx st' (a.put o.dst undef) w'):owp P n o st st':=by
 intro ctx a w Qx hs;obtain⟨w',hr,h'⟩:=h ctx a w hs;refine aAo rfl (aOy hr) ?_;unfold Oper.wp;rw[hr]
 exact h'
theorem aGQ{ctx:Mem}{st:ASt}{a:Act}{μ μ':Mem}(hm:aDh n ctx st a μ)(hx:Ext μ μ')(ok:μ'.OK){d:Nat}(hd:d < n.n){x:AV}{y:Value}(hy:Rv μ' x y) :
  Sat n ctx ⟨st.env.set d (none,x),μ'.H⟩ (a.put (some d) y) μ'.w:=(hm.put hx ok hd hy).sat
theorem yK{n d:Nat}(h:hL n d=false):d < n:=by
 rcases Nat.lt_or_ge d n with h' | h'
 ·exact h'
 ·rw[Nat.ble_eq_true_of_le h'] at h;cases h
theorem noG{a:Act}:∀g':Nat×Bool,(none:Option (Nat×Bool))=some g'->a.tmps[g'.1]? = some (.bool g'.2):=by intro g' h;cases h
theorem aFA(hT:TOK P T){im:Nat->Bool}{gl:List Nat}{o:Oper}{st st':ASt}(h:aNn T im gl n.n o st=some st'):owp P n o st st':=by
 have general:(match o.dst with
  | none=>match ev T false (opd st.env none) st.H o with
   | some (_,b)=>some (ASt.mk st.env (aBJ st.H b))
   | none=>none
  | some d=>match hL n.n d with
   | true=>none
   | false=>match ev T (im d) (opd st.env none) st.H o with
    | some (x,b)=>some ⟨st.env.set d (none,x),aBJ st.H b⟩
    | none=>none)=some st'->owp P n o st st':=by
  intro h;refine wN λctx a μ hm=>?_;split at h
  ·rename_i hd;split at h <;> cases h;rename_i x b he;rw[<- hm.h] at he;obtain⟨bs',w',hr⟩:=aD6 (P:=P) (a:=a) hT (λy v hv=>aR hm.env noG hv) hm.ok he;rw[hm.h] at hr;refine⟨x,_,hr,λy hy hx hok=>?_⟩
   rw[hd]
   exact(hm.putn hx hok).sat
  ·rename_i d hd;split at h <;> try cases h
   rename_i hn;split at h <;> cases h;rename_i x b he;rw[<- hm.h] at he;obtain⟨bs',w',hr⟩:=aD6 (P:=P) (a:=a) hT (λy v hv=>aR hm.env noG hv) hm.ok he;rw[hm.h] at hr;refine⟨x,_,hr,λy hy hx hok=>?_⟩
   rw[hd]
   exact aGQ hm hx hok (yK hn) hy
 unfold aNn at h;split at h
 ·rename_i t p v ho;split at h <;> try cases h
  rename_i hd;split at h <;> try cases h
  rename_i q x i hq hx hi;split at h <;> try cases h
  rename_i hb;split at h <;> cases h;rename_i H' hH;simp only[b9] at hb;refine vV λctx a w hs=>?_;obtain⟨bs,hm⟩:=hs;obtain⟨w',h1,h2,h3⟩:=aHs (P:=P) hT ho hm.ok hi (aR hm.env noG hq) (aR hm.env noG hx) hH (ak hb.1) (mX hb.2)
  refine⟨w',h1,bs,?_⟩
  rw[hd]
  exact hm.putn h2 h3
 ·rename_i c x y ho;split at h <;> try cases h
  rename_i d hd;split at h <;> try cases h
  rename_i hn;split at h
  ·split at h <;> try cases h
   ·rename_i hc;split at h <;> cases h;rename_i v hv;refine wN λctx a μ hm=>?_;obtain⟨vc,h1,h2⟩:=hm.env.get hc;have e:=bH h2;subst e;have hvx:=aR (g:=some (c,true)) hm.env (λg' hg'=>by cases hg';exact h1) hv;refine⟨v,μ,?_,λy hy hx hok=>?_⟩
    ·refine eQ.here (y:=a.eval x) hm.ok ?_ hvx;simp only[execOp,ho,asBool,Sem.run_bind]
     have:a.eval (.tmp c) = .bool true:=by simp[Act.eval,xV h1]
     simp[this]
    ·rw[hd,<- hm.h]
     exact aGQ hm hx hok (yK hn) hy
   ·rename_i hc;split at h <;> cases h;rename_i v hv;refine wN λctx a μ hm=>?_;obtain⟨vc,h1,h2⟩:=hm.env.get hc;have e:=bH h2;subst e;have hvx:=aR (g:=some (c,false)) hm.env (λg' hg'=>by cases hg';exact h1) hv;refine⟨v,μ,?_,λy hy hx hok=>?_⟩
    ·refine eQ.here (y:=a.eval y) hm.ok ?_ hvx;simp only[execOp,ho,asBool,Sem.run_bind]
     have:a.eval (.tmp c) = .bool false:=by simp[Act.eval,xV h1]
     simp[this]
    ·rw[hd,<- hm.h]
     exact aGQ hm hx hok (yK hn) hy
  ·split at h <;> cases h;rename_i b p q hc hx hy;refine wN λctx a μ hm=>?_;obtain⟨vc,h1,h2⟩:=hm.env.get hc;have e:=bH h2;subst e;refine⟨.v (.bool (cond b p q)),μ,?_,λy hy hx hok=>?_⟩
   ·refine eQ.here (y := .bool (cond b p q)) hm.ok ?_ (tQ rfl)
    simp only[execOp,ho,Act.eval,xV h1,asBool,Sem.run_bind,Sem.run_pure,Result.andThen_ok]
    cases b with
    | true=>
     have:=bH (aR (g:=some (c,true)) hm.env (λg' hg'=>by cases hg';exact h1) hx)
     simp[<- this,Act.eval]
    | false=>
     have:=bH (aR (g:=some (c,false)) hm.env (λg' hg'=>by cases hg';exact h1) hy)
     simp[<- this,Act.eval]
   ·rw[hd,<- hm.h]
    exact aGQ hm hx hok (yK hn) hy
 ·exact general h
theorem eY.del{μ:Mem}{env:Env}{tmps:Array Value}(he:eY μ env tmps){d:Nat}{y:Value}:eY μ (env.del d) (tmps.setIfInBounds d y):=by
 intro i e' hl;unfold Env.del bY at hl;cases hb:bp d i with
 | true=>rw[hb] at hl;cases hl
 | false=>
  rw[hb] at hl;have hdi:d≠i:=λe=>by subst e;simp at hb
  obtain⟨h1,h2⟩:=aDr hl;obtain⟨y',h3,h4⟩:=he i e' h1;refine⟨y',by rw[ee hdi];exact h3,?_⟩
  unfold yF at *;split
  ·rename_i hn;rw[hn] at h4;exact h4
  ·rename_i j want hn;rw[hn] at h4;intro hj;have:=h2 _ hn;rw[ee (by simpa using this.symm)] at hj;exact h4 hj
theorem aLJ(hT:TOK P T){ops:Array Oper}{o:Oper}{j dj d:Nat}{want:Bool}{st st':ASt}(hg:o.guard=some (j,want))(hdj:aAh ops j=some dj)(hd:o.dst=some d)
  (h:stepG T n.n o dj d want st=some st'):opS P n ops o st st':=by
 unfold stepG at h;split at h <;> try cases h
 rename_i hn;split at h <;> try cases h
 rename_i bb hget;split at h <;> cases h;rename_i x he;simp only[Bool.or_eq_false_iff] at hn;have hdn:=yK hn.1;have hne:dj≠d:=by intro e;subst e;simp at hn
 intro ctx a w Qx hs;obtain⟨bs,hm⟩:=hs;obtain⟨vc,hc1,hc2⟩:=hm.env.get hget;have ec:=bH hc2;subst ec;have hwant:Region.wanted o (yielded ops a.tmps)=(bb==want):=by
  unfold Region.wanted;rw[hg]
  simp only[aDT hdj hc1]
  cases bb <;> cases want <;> rfl
 rw[hwant]
 split
 ·rename_i hb;simp only[beq_iff_eq] at hb;subst hb;obtain⟨bs',w',y,h1,h2,h3,h4⟩:=aD6 (P:=P) (μ:=⟨st.H,bs,w,ctx.F⟩) (a:=a) hT (λy v hv=>aR (g:=some (dj,bb)) hm.env (λg' hg'=>by cases hg';exact hc1) hv) hm.ok he;refine aAo rfl (aAd h1) ?_;unfold Oper.wp;rw[h1]
  simp only[Oper.upon]
  refine⟨bs',?_⟩
  rw[hd]
  exact {
   h:=rfl,ok:=h4,ext:=hm.ext.trans h3
   env:=(hm.env.ext h3).set (by rw[hm.size];exact hdn) (by intro g hg';cases hg';exact hne) (λ_=>h2)
   size:=by simp[Act.put,hm.size]
   low:=hm.low
   defers:=by simpa[Act.put] using tV.ext hm.ok h3 hm.defers
   nod:=by simpa[Act.put] using hm.nod
   outs:=λp hp=>(hm.outs p hp).ext h3 }
 ·rename_i hb;refine⟨bs,?_⟩
  rw[hd]
  exact {
   h:=rfl,ok:=hm.ok,ext:=hm.ext
   env:=hm.env.set (by rw[hm.size];exact hdn) (by intro g hg';cases hg';exact hne) (λhj=>by
    rw[hc1] at hj;cases hj;simp at hb)
   size:=by simp[Act.put,hm.size]
   low:=hm.low
   defers:=by simpa[Act.put] using hm.defers
   nod:=by simpa[Act.put] using hm.nod
   outs:=hm.outs }
theorem aR5{μ:Mem}:Rv μ (.tup []) undef:=⟨#[],rfl,rfl⟩
theorem aIS{ops:Array Oper}{tmps:Array Value}{j dj:Nat}(h:aAh ops j=some dj)(hb:tmps[dj]? = some undef):yielded ops tmps j=none:=by
 unfold yielded;have:(ops[j]?).bind (·.dst)=some dj:=h;rw[this]
 simp[hb,undef]
theorem aSw{μ:Mem}{y:Value}(h:Rv μ (.tup []) y):y=undef:=by
 obtain⟨ws,e,h⟩:=h;have:ws.toList=[]:=h;have:ws=#[]:=by rw[<- Array.toList_inj,this]
 rw[e,this]
 rfl
theorem aBr{ops:Array Oper}{o:Oper}{st st':ASt}(h:aK3 n.n o st=some st')(hw:∀ctx a w,Sat n ctx st a w->Region.wanted o (yielded ops a.tmps)=false):opS P n ops o st st':=by
 intro ctx a w Qx hs;rw[hw ctx a w hs]
 simp only[au,if_false]
 obtain⟨bs,hm⟩:=hs;unfold aK3 at h;split at h
 ·rename_i d hd;split at h <;> cases h;rename_i hn;rw[hd]
  exact(hm.put (Ext.refl _) hm.ok (yK hn) aR5).sat
 ·rename_i hd;cases h;rw[hd]
  exact⟨bs,hm⟩
theorem aHk{ops:Array Oper}{o:Oper}{j dj:Nat}{want b:Bool}{env:Env}(hg:o.guard=some (j,want))(hdj:aAh ops j=some dj)(hb:get env dj=some (.v (.bool b)))(hsb:aI8 b want=false)
  {μ:Mem} {tmps:Array Value} (hE:eY μ env tmps):Region.wanted o (yielded ops tmps)=false:=by
 obtain⟨vc,hc1,hc2⟩:=hE.get hb;have ec:=bH hc2;subst ec;unfold Region.wanted;rw[hg]
 simp only[aDT hdj hc1]
 cases b <;> cases want <;> first | rfl | (simp[aI8] at hsb)
theorem aFV{ops:Array Oper}{o:Oper}{j dj:Nat}{want:Bool}{env:Env}(hg:o.guard=some (j,want))(hdj:aAh ops j=some dj)(hb:get env dj=some (.tup []))
  {μ:Mem} {tmps:Array Value} (hE:eY μ env tmps):Region.wanted o (yielded ops tmps)=false:=by
 obtain⟨vc,hc1,hc2⟩:=hE.get hb;have ec:=aSw hc2;subst ec;unfold Region.wanted;rw[hg]
 simp only[aIS hdj hc1]
 rfl
theorem aQL(hT:TOK P T){im:Nat->Bool}{gl:List Nat}{ops:Array Oper}{o:Oper}{st st':ASt}(h:step T im gl n.n ops o st=some st'):opS P n ops o st st':=by
 unfold step at h;split at h
 ·rename_i hg;exact aJU (by simp[gOK,hg]) (aFA hT h)
 ·rename_i j want hg;split at h <;> try cases h
  rename_i dj hdj;split at h
  ·split at h <;> try cases h
   ·rename_i b hb;split at h
    ·rename_i hsb;refine aJU ?_ (aFA hT h)
     simp[gOK,hg,hdj,hb,hsb]
    ·rename_i hsb;exact aBr h λctx a w hs=>by obtain⟨bs,hm⟩:=hs;exact aHk hg hdj hb hsb hm.env
   ·rename_i hb;exact aBr h λctx a w hs=>by obtain⟨bs,hm⟩:=hs;exact aFV hg hdj hb hm.env
  ·split at h <;> try cases h
   rename_i d hd;exact aLJ hT hg hdj hd h
theorem aJD{ctx:Mem}{st:ASt}{env':Env}{a:Act}{w:World}(h:∀i e,bY env' i=some e->bY st.env i=some e)(hs:Sat n ctx st a w):Sat n ctx ⟨env',st.H⟩ a w:=by
 obtain⟨bs,hm⟩:=hs;exact⟨bs,{ h:=rfl,ok:=hm.ok,ext:=hm.ext,env:=λi e hl=>hm.env i e (h i e hl),size:=hm.size,low:=hm.low,defers:=hm.defers,nod:=hm.nod,outs:=hm.outs }⟩
end
end Go.UK

open Bool renaming and_eq_true→b9
open List renaming getElem?_cons_zero→du,getElem?_take→cw,length_take→bj
open Nat renaming beq→bp,ble→hL,blt→nd,le_of_ble_eq_true→cn,lt_of_lt_of_le→cu
namespace Go.UK
open Go
set_option linter.all false
variable [bL]
mutual
def wk : AV->AV->AV
 | .own _ k ln es,.sl _ _ _ => .sl k ln es
 | .v (.slice none 0 0),.sl k _ _ => .sl k 0 []
 | .st n ps,.st _ qs => .st n (wkL ps qs)
 | .tup ps,.tup qs => .tup (wkL ps qs)
 | .fn f a c,.fn _ a' c' => .fn f (wkL a a') (wkL c c')
 | .ifc t x,.ifc _ y => .ifc t (wk x y)
 | a,_=>a
def wkL : List AV->List AV->List AV
 | p :: ps,q :: qs=>wk p q :: wkL ps qs
 | ps,_=>ps
end
theorem aQR(a e:AV):(wk a e).n=a.n/\(wk a e).isAgg=a.isAgg:=by
 unfold wk;split <;> simp[AV.n,AV.isAgg]
mutual
theorem aFR{μ:Mem}(a e:AV)(ys:List Value)(h:Rc μ a ys):Rc μ (wk a e) ys:=by
 unfold wk;split
 ·simp only[Rc] at h ⊢;obtain⟨hn,a,cap,h1,h2,h3,h4,_⟩:=h;exact⟨hn,a,cap,h1,h2,h3,h4⟩
 ·simp only[Rc] at h ⊢;exact⟨rfl,none,0,by simpa using h.1,Nat.le_refl _,by simp,.inl trivial⟩
 ·rename_i n ps m qs;simp only[Rc] at h ⊢;exact⟨h.1,wkL_rc ps qs ys h.2⟩
 ·simp only[Rc] at h
 ·rename_i f a c f' a' c';simp only[Rc] at h ⊢;obtain⟨as,cs,h1,h2,h3⟩:=h;exact⟨as,cs,h1,wkL_rc a a' as h2,wkL_rc c c' cs h3⟩
 ·rename_i t x t' y;simp only[Rc] at h ⊢;obtain⟨v,h1,h2⟩:=h;refine⟨v,h1,?_⟩
  have h3:=mS (λzs hz=>aFR x y zs hz) h2;unfold vOf at h3 ⊢;rw[(aQR x y).2]
  exact h3
 ·exact h
termination_by SizeOf.sizeOf a
theorem wkL_rc{μ:Mem}(ps qs:List AV)(ys:List Value)(h:RcL μ ps ys):RcL μ (wkL ps qs) ys:=by
 unfold wkL;split
 ·simp only[RcL] at h ⊢;obtain⟨y1,y2,h1,h2,h3⟩:=h;exact⟨y1,y2,h1,aFR _ _ y1 h2,wkL_rc _ _ y2 h3⟩
 ·exact h
termination_by SizeOf.sizeOf ps
end
theorem aQ6{μ:Mem}{a e:AV}{y:Value}(h:Rv0 μ a y):Rv0 μ (wk a e) y:=by
 have h2:=mS (λzs hz=>aFR a e zs hz) (rG.1 h)
 refine rG.2 ?_;unfold vOf at h2 ⊢;rw[(aQR a e).2]
 exact h2
theorem aEA{μ:Mem}:∀{xs es:List AV} {vs:List Value},RvL μ xs vs->RvL μ (wkL xs es) vs
 | [],es,vs,h=>by simpa[wkL] using h
 | x :: xs,[],vs,h=>by unfold wkL;exact h
 | x :: xs,e :: es,vs,⟨y,r,e1,h1,h2⟩=>by
  unfold wkL;exact⟨y,r,e1,aQ6 h1,aEA h2⟩
theorem aWn(a e:AV)(h:∀vs,a ≠ .tup vs):∀vs,wk a e ≠ .tup vs:=by
 intro vs;unfold wk;split <;> first | (intro e;cases e;done) | exact h vs | (exact absurd rfl (h _))
theorem aN3{μ:Mem}{a e:AV}{y:Value}(h:Rv μ a y):Rv μ (wk a e) y:=by
 by_cases ha:∃vs,a = .tup vs
 ·obtain⟨vs,rfl⟩:=ha;obtain⟨ys,h1,h2⟩:=h;cases e <;> first | exact⟨ys,h1,h2⟩ | exact⟨ys,h1,aEA h2⟩
 ·have h0:Rv0 μ a y:=by cases a <;> first | exact h | exact absurd ⟨_,rfl⟩ ha
  have h1:=aQ6 (e:=e) h0;have h2:=aWn a e (λvs e=>ha ⟨vs,e⟩)
  revert h1 h2;generalize wk a e=z;intro h1 h2;cases z <;> first | exact h1 | exact absurd rfl (h2 _)
def aJa : Option Box->Bool
 | some (.var _)=>true
 | _=>false
def aKk : Option Box->Bool
 | some (.mp _)=>true
 | _=>false
def aJw : Option Box->Bool
 | some (.loop _)=>true
 | _=>false
mutual
def low(H:List Box):AV->Bool
 | .v _=>true
 | .arr .. => true
 | .sl .. => true
 | .im _=>true
 | .st _ ps=>lowL H ps
 | .tup ps=>lowL H ps
 | .fn _ a c=>match lowL H a with | true=>lowL H c | false=>false
 | .ifc _ x=>low H x
 | .own id _ _ _=>nd id H.length
 | .ref id _ _=>aJa H[id]?
 | .bsl id _ _ _ _ _=>aJa H[id]?
 | .mp id=>aKk H[id]?
 | .it id=>aKk H[id]?
 | .yld id=>aJw H[id]?
 | .gro id _ _ _=>nd id H.length
def lowL(H:List Box):List AV->Bool
 | []=>true
 | p :: ps=>match low H p with | true=>lowL H ps | false=>false
end
theorem aIs{H:List Box}{i:Nat}(h:aJa H[i]? = true):∃c,H[i]? = some (.var c):=by
 unfold aJa at h;split at h
 ·rename_i c e;exact⟨c,e⟩
 ·cases h
theorem aKi{H:List Box}{i:Nat}(h:aKk H[i]? = true):∃c,H[i]? = some (.mp c):=by
 unfold aKk at h;split at h
 ·rename_i c e;exact⟨c,e⟩
 ·cases h
theorem aMf{H:List Box}{i:Nat}(h:aJw H[i]? = true):∃c,H[i]? = some (.loop c):=by
 unfold aJw at h;split at h
 ·rename_i c e;exact⟨c,e⟩
 ·cases h
structure aBj(f:Nat->Nat)(μ μ':Mem):Prop where
 w:μ'.w=μ.w
 M:∀b o,μ'.M b o->μ.M b o
 bs:∀i:Nat,i < μ'.H.length->μ'.H[i]? ≠ some .dead->μ'.bs[i]? = μ.bs[f i]?
 tail:∀(i m:Nat),μ'.H[i]? = some (.tail m)->μ.H[f i]? = some (.tail m)
 gro:∀(i k:Nat) es,μ'.H[i]? = some (.gro k es)->μ.H[f i]? = some (.gro k es)
 lt:∀i:Nat,i < μ'.H.length->f i < μ.H.length
theorem aBj.globAt{f:Nat->Nat}{μ μ':Mem}(h:aBj f μ μ'){g:Nat×List Value}(hg:μ.globAt g):μ'.globAt g:=
 ⟨by rw[h.w];exact hg.1,λo hM=>hg.2 o (h.M _ _ hM)⟩
theorem aBj.keeps{f:Nat->Nat}{μ μ':Mem}(h:aBj f μ μ'):∀b o y,μ.w.cell? ⟨b,o,none⟩=some y->¬μ.M b o->μ'.w.cell? ⟨b,o,none⟩=some y/\¬μ'.M b o:=
 λb o y h1 h2=>⟨by rw[h.w];exact h1,λhm=>h2 (h.M _ _ hm)⟩
mutual
def ren(f:Nat->Nat):AV->AV
 | .own id k ln es => .own (f id) k ln es
 | .ref id p o => .ref (f id) p o
 | .bsl id p o k lo len => .bsl (f id) p o k lo len
 | .mp id => .mp (f id)
 | .it id => .it (f id)
 | .yld id => .yld (f id)
 | .gro id k ln j => .gro (f id) k ln j
 | .st n ps => .st n (renL f ps)
 | .tup ps => .tup (renL f ps)
 | .fn F a c => .fn F (renL f a) (renL f c)
 | .ifc t x => .ifc t (ren f x)
 | x=>x
def renL(f:Nat->Nat):List AV->List AV
 | []=>[]
 | p :: ps=>ren f p :: renL f ps
end
def renM(f:Nat->Nat):MpC->MpC
 | .mi m => .mi (f m)
 | .bl t e id s => .bl t e (f id) s
 | c=>c
def jS(f:Nat->Nat):Box->Box
 | .var c => .var (ren f c)
 | .mp c => .mp (renM f c)
 | x=>x
theorem aGR(f:Nat->Nat):∀(x:AV),(ren f x).isAgg=x.isAgg
 | .v _=>rfl
 | .st .. => by simp[ren,AV.isAgg]
 | .arr .. => rfl
 | .sl .. => rfl
 | .own .. => by simp[ren,AV.isAgg]
 | .ref .. => by simp[ren,AV.isAgg]
 | .bsl .. => by simp[ren,AV.isAgg]
 | .im _=>rfl
 | .tup _=>by simp[ren,AV.isAgg]
 | .fn .. => by simp[ren,AV.isAgg]
 | .ifc .. => by simp[ren,AV.isAgg]
 | .mp _=>by simp[ren,AV.isAgg]
 | .it _=>by simp[ren,AV.isAgg]
 | .yld _=>by simp[ren,AV.isAgg]
 | .gro .. => by simp[ren,AV.isAgg]
mutual
theorem Rc.less{f:Nat->Nat}{μ μ':Mem}(h:aBj f μ μ'):∀(x:AV) (ys:List Value),low μ'.H x=true->Rc μ (ren f x) ys->Rc μ' x ys
 | .v _,_,_,hr=>by simpa[ren,Rc] using hr
 | .st n ps,ys,hl,hr=>by
  simp only[ren,Rc] at hr ⊢;exact⟨hr.1,RcL.less h ps ys (by simpa[low] using hl) hr.2⟩
 | .arr n k es,ys,_,hr=>by
  simp only[ren,Rc] at hr ⊢;exact⟨hr.1,hr.2.1,RdL.mono h.keeps es ys hr.2.2⟩
 | .sl k ln es,ys,_,hr=>by
  simp only[ren,Rc] at hr ⊢;obtain⟨hn,a,cap,h1,h2,h3,h4⟩:=hr;refine⟨hn,a,cap,h1,h2,h3,h4.imp id ?_⟩
  rintro⟨b,off,zs,h5,h6,h7⟩
  exact⟨b,off,zs,h5,RdL.mono h.keeps es zs h6,λj y hy=>h.keeps _ _ _ (h7 j y hy).1 (h7 j y hy).2⟩
 | .own i k ln es,ys,hl,hr=>by
  simp only[ren,Rc] at hr ⊢;obtain⟨hn,a,cap,h1,h2,h3,h4,h5,h6⟩:=hr;have hlt:i < μ'.H.length:=by
   have h':hL (i+1) μ'.H.length=true:=hl;have:=cn h';omega
  refine⟨hn,a,cap,h1,h2,h3,?_,hlt,λm hm=>?_⟩
  ·refine h4.imp id ?_;rintro⟨b,off,zs,h5,h6,h7⟩
   exact⟨b,off,zs,h5,RdL.mono h.keeps es zs h6,λj y hy=>h.keeps _ _ _ (h7 j y hy).1 (h7 j y hy).2⟩
  ·obtain⟨k1,k2⟩:=h6 m (h.tail i m hm)
   have hb:=h.bs i hlt (by rw[hm];simp)
   refine⟨k1,λe=>?_⟩
   rcases k2 e with ⟨b,g1,g2,c,T,g3,g4⟩ | g2
   ·exact .inl ⟨b,hb.trans g1,g2,c,T,by rw[h.w];exact g3,g4⟩
   ·exact .inr g2
 | .ref i p o,ys,hl,hr=>by
  obtain⟨c,hc⟩:=aIs (by simpa[low] using hl)
  simp only[ren,Rc] at hr ⊢;obtain⟨b,c0,h1,h2,h3⟩:=hr;exact⟨b,c,(h.bs i (aX hc) (by rw[hc];simp)).trans h1,hc,h3⟩
 | .bsl i p o k lo len,ys,hl,hr=>by
  obtain⟨c,hc⟩:=aIs (by simpa[low] using hl)
  simp only[ren,Rc] at hr ⊢;obtain⟨b,c0,cap,h1,h2,h3,h6⟩:=hr;exact⟨b,c,cap,(h.bs i (aX hc) (by rw[hc];simp)).trans h1,hc,h3,h6⟩
 | .im x,ys,_,hr=>by
  simp only[ren,Rc] at hr ⊢;obtain⟨b,off,zs,h1,h2,h3⟩:=hr;exact⟨b,off,zs,h1,Rd.mono h.keeps x zs h2,λj y hy=>h.keeps _ _ _ (h3 j y hy).1 (h3 j y hy).2⟩
 | .tup _,_,_,hr=>by simp[ren,Rc] at hr
 | .fn F first cap,ys,hl,hr=>by
  simp only[ren,Rc] at hr ⊢;simp only[low] at hl;split at hl
  ·rename_i hl1;obtain⟨as,cs,h1,h2,h3⟩:=hr;exact⟨as,cs,h1,RcL.less h first as hl1 h2,RcL.less h cap cs hl h3⟩
  ·cases hl
 | .ifc t x,ys,hl,hr=>by
  simp only[ren,Rc] at hr ⊢;obtain⟨y,h1,h2⟩:=hr;refine⟨y,h1,?_⟩
  have h3:=mS (λzs hz=>Rc.less h x zs (by simpa[low] using hl) hz) h2;unfold vOf at h3 ⊢;rw[aGR] at h3;exact h3
 | .mp i,ys,hl,hr=>by
  obtain⟨c,hc⟩:=aKi (by simpa[low] using hl)
  simp only[ren,Rc] at hr ⊢;obtain⟨b,c0,h1,h2,h3⟩:=hr;exact⟨b,c,(h.bs i (aX hc) (by rw[hc];simp)).trans h1,hc,h3⟩
 | .it i,ys,hl,hr=>by
  obtain⟨c,hc⟩:=aKi (by simpa[low] using hl)
  simp only[ren,Rc] at hr ⊢;obtain⟨b,c0,h1,h2,h3⟩:=hr;exact⟨b,c,(h.bs i (aX hc) (by rw[hc];simp)).trans h1,hc,h3⟩
 | .yld i,ys,hl,hr=>by
  obtain⟨c,hc⟩:=aMf (by simpa[low] using hl)
  simp only[ren,Rc] at hr ⊢;obtain⟨b,c0,h1,h2,h3⟩:=hr;exact⟨b,c,(h.bs i (aX hc) (by rw[hc];simp)).trans h1,hc,h3⟩
 | .gro i k ln j,ys,hl,hr=>by
  simp only[ren,Rc] at hr ⊢;obtain⟨y,e,h1,a,cap,e0,h0,h2⟩:=hr;have hlt:i < μ'.H.length:=by
   have h':hL (i+1) μ'.H.length=true:=hl;have:=cn h';omega
  refine⟨y,e,hlt,a,cap,e0,h0,λk' es hm=>?_⟩
  obtain⟨k1,k2⟩:=h2 k' es (h.gro i k' es hm)
  have hb:=h.bs i hlt (by rw[hm];simp)
  refine⟨k1,λe=>?_⟩
  obtain⟨g0,g1,g2⟩:=k2 e;refine⟨g0,hb.trans g1,g2.imp ?_ (λh=>h)⟩
  rintro⟨b,rfl,c,T,g3,g4⟩
  exact⟨b,rfl,c,T,by rw[h.w];exact g3,g4⟩
theorem RcL.less{f:Nat->Nat}{μ μ':Mem}(h:aBj f μ μ'):∀(ps:List AV) (ys:List Value),lowL μ'.H ps=true->RcL μ (renL f ps) ys->RcL μ' ps ys
 | [],_,_,hr=>by simpa[renL,RcL] using hr
 | p :: ps,ys,hl,hr=>by
  simp only[lowL] at hl;split at hl
  ·rename_i h0;simp only[renL,RcL] at hr ⊢;obtain⟨y1,y2,h1,h2,h3⟩:=hr;exact⟨y1,y2,h1,Rc.less h p y1 h0 h2,RcL.less h ps y2 hl h3⟩
  ·cases hl
end
mutual
theorem uJ : ∀(x:AV),ren id x=x
 | .v _=>by simp[ren]
 | .st _ ps=>by simp[ren,renL_id ps]
 | .arr .. => by simp[ren]
 | .sl .. => by simp[ren]
 | .own .. => by simp[ren]
 | .ref .. => by simp[ren]
 | .bsl .. => by simp[ren]
 | .im _=>by simp[ren]
 | .tup ps=>by simp[ren,renL_id ps]
 | .fn _ a c=>by simp[ren,renL_id a,renL_id c]
 | .ifc _ x=>by simp[ren,uJ x]
 | .mp _=>by simp[ren]
 | .it _=>by simp[ren]
 | .yld _=>by simp[ren]
 | .gro .. => by simp[ren]
theorem renL_id : ∀(xs:List AV),renL id xs=xs
 | []=>by simp[renL]
 | p :: ps=>by simp[renL,uJ p,renL_id ps]
end
theorem aKw{f:Nat->Nat}{μ μ':Mem}(h:aBj f μ μ'){x:AV}{y:Value}(hl:low μ'.H x=true)(hr:Rv0 μ (ren f x) y):Rv0 μ' x y:=by
 have h2:=mS (λzs hz=>Rc.less h x zs hl hz) (rG.1 hr)
 refine rG.2 ?_;unfold vOf at h2 ⊢;rw[aGR] at h2;exact h2
theorem aAM{f:Nat->Nat}{μ μ':Mem}(h:aBj f μ μ'):∀{xs:List AV} {vs:List Value},lowL μ'.H xs=true->RvL μ (renL f xs) vs->RvL μ' xs vs
 | [],vs,_,hr=>hr
 | x :: xs,vs,hl,hr=>by
  simp only[lowL] at hl;split at hl
  ·rename_i h0;obtain⟨y,r,e,h1,h2⟩:=hr;exact⟨y,r,e,aKw h h0 h1,aAM h hl h2⟩
  ·cases hl
theorem vP{f:Nat->Nat}{μ μ':Mem}(h:aBj f μ μ'){x:AV}{y:Value}(hl:low μ'.H x=true)(hr:Rv μ (ren f x) y):Rv μ' x y:=by
 cases x with
 | tup vs=>
  simp only[ren] at hr;obtain⟨ys,h1,h2⟩:=hr;exact⟨ys,h1,aAM h (by simpa[low] using hl) h2⟩
 | _=>exact aKw h hl hr
def cBox : Box->Box->Box
 | .var c,.var c' => .var (wk c c')
 | _,.dead => .dead
 | x,_=>x
def vA : List Box->List Box->List Box
 | x :: xs,y :: ys=>cBox x y :: vA xs ys
 | _,_=>[]
def cEnt(env:Env)(i:Nat):Option EV->Option EV
 | some (_,y)=>match get env i with
  | some x=>some (none,wk x y)
  | none=>none
 | none=>none
def aID(env:Env):Env->Env
 | []=>[]
 | (i,e) :: r=>(i,cEnt env i e) :: aID env r
def cSt(st t:ASt):ASt:=⟨aID st.env t.env,vA st.H t.H⟩
def aJc : Box->Bool
 | .dead=>true
 | _=>false
def aWe(H:List Box):Box->Bool
 | .var c=>low H c
 | .mp (.mi m)=>aKk H[m]?
 | .mp (.bl _ _ id _)=>nd id H.length
 | _=>true
def lF(H:List Box):List Box->Bool
 | []=>true
 | x :: xs=>match aWe H x with | true=>lF H xs | false=>false
def wT(H:List Box):Env->Bool
 | []=>true
 | (_,some (_,x)) :: r=>match low H x with | true=>wT H r | false=>false
 | (_,none) :: r=>wT H r
def aB8(H:List Box):List (Env×Array Value)->Bool
 | []=>true
 | p :: r=>match wT H p.1 with | true=>aB8 H r | false=>false
def wX : Nat->List Box->Bool
 | 0,_=>true
 | n+1,x :: xs=>match aJc x with | true=>false | false=>wX n xs
 | _+1,[]=>false
def sO : Nat->List Box->List Box->Bool
 | 0,_,_=>true
 | n+1,x :: xs,y :: ys=>match aJc y with
  | true=>(match x with | .dead=>true | .tail _=>true | _=>false)&&sO n xs ys
  | false=>sO n xs ys
 | _+1,_,_=>false
def cOK(n:Fr)(st t:ASt):Bool:=
 sO n.lo st.H t.H&&hL t.H.length st.H.length&&lF t.H t.H&&wT t.H t.env&&aB8 t.H n.outs
theorem tW{H:List Box}:∀{env:Env} {i:Nat} {e:EV},wT H env=true->bY env i=some e->low H e.2=true
 | [],i,e,_,h=>by simp[bY] at h
 | (j,e0) :: r,i,e,hl,h=>by
  unfold bY at h;cases e0 with
  | none=>
   simp only[wT] at hl;cases hb:bp j i with
   | true=>rw[hb] at h;cases h
   | false=>rw[hb] at h;exact tW hl h
  | some p=>
   obtain⟨g,x⟩:=p;simp only[wT] at hl;split at hl
   ·rename_i h0;cases hb:bp j i with
    | true=>rw[hb] at h;cases h;exact h0
    | false=>rw[hb] at h;exact tW hl h
   ·cases hl
theorem lowG{H:List Box}{i k n:Nat}{g:GJ}(h:low H (.gro i k n g)=true):i < H.length:=by
 have h':hL (i+1) H.length=true:=h;have:=cn h';omega
theorem aBj.typd{f:Nat->Nat}{μ μ':Mem}(h:aBj f μ μ'){id n:Nat}{e:TypeId}(hl:id < μ'.H.length)(ht:μ.typd (f id) n e):μ'.typd id n e:=by
 refine⟨hl,λk es hH=>?_⟩
 obtain⟨h3,h4⟩:=ht.2 k es (h.gro id k es hH)
 refine⟨h3,λe1 b hb=>?_⟩
 obtain⟨s,c,g1,g2⟩:=h4 e1 b ((h.bs id hl (by rw[hH];simp)).symm.trans hb)
 exact⟨s,c,by rw[h.w];exact g1,g2⟩
theorem vM{H:List Box}:∀{xs:List Box} {i:Nat} {c:AV},lF H xs=true->xs[i]? = some (.var c)->low H c=true
 | [],i,c,_,h=>by simp at h
 | x :: xs,i,c,hl,h=>by
  simp only[lF] at hl;split at hl
  ·rename_i h0;cases i with
   | zero=>simp only[du,Option.some.injEq] at h;subst h;exact h0
   | succ i=>exact vM hl (by simpa using h)
  ·cases hl
theorem aBp{H:List Box}:∀{xs:List Box} {i m:Nat},lF H xs=true->xs[i]? = some (.mp (.mi m))->low H (.mp m)=true
 | [],i,c,_,h=>by simp at h
 | x :: xs,i,c,hl,h=>by
  simp only[lF] at hl;split at hl
  ·rename_i h0;cases i with
   | zero=>simp only[du,Option.some.injEq] at h;subst h;exact h0
   | succ i=>exact aBp hl (by simpa using h)
  ·cases hl
theorem wB{H:List Box}:∀{xs:List Box} {i m:Nat} {t e:TypeId} {s:ByteArray} {k n:Nat} {g:GJ},lF H xs=true->xs[i]? = some (.mp (.bl t e m s))->low H (.gro m k n g)=true
 | [],i,c,_,_,_,_,_,_,_,h=>by simp at h
 | x :: xs,i,c,_,_,_,_,_,_,hl,h=>by
  simp only[lF] at hl;split at hl
  ·rename_i h0;cases i with
   | zero=>simp only[du,Option.some.injEq] at h;subst h;exact h0
   | succ i=>exact wB hl (by simpa using h)
  ·cases hl
theorem xN{H:List Box}:∀{l:List (Env×Array Value)} {p:Env×Array Value},aB8 H l=true->p∈l->wT H p.1=true
 | [],_,_,h=>by cases h
 | q :: r,p,hl,h=>by
  simp only[aB8] at hl;split at hl
  ·rename_i h0;rcases List.mem_cons.1 h with h' | h'
   ·subst h';exact h0
   ·exact xN hl h'
  ·cases hl
theorem aC9 : ∀{H T:List Box} {i:Nat} {y:Box},T.length<=H.length->(vA H T)[i]? = some y->∃x t,H[i]? = some x/\T[i]? = some t/\y=cBox x t
 | [],T,i,y,_,h=>by simp[vA] at h
 | x :: xs,[],i,y,_,h=>by simp[vA] at h
 | x :: xs,t :: ts,i,y,hl,h=>by
  simp only[vA] at h;cases i with
  | zero=>simp only[du,Option.some.injEq] at h;exact⟨x,t,rfl,rfl,h.symm⟩
  | succ i=>exact aC9 (H:=xs) (T:=ts) (by simpa using hl) (by simpa using h)
theorem aFF : ∀{n:Nat} {H:List Box} {i:Nat},wX n H=true->i < n->∃x,H[i]? = some x/\x ≠ .dead
 | 0,_,i,_,h=>by omega
 | n+1,[],i,h,_=>by simp[wX] at h
 | n+1,x :: xs,i,h,hi=>by
  simp only[wX] at h;split at h
  ·cases h
  ·rename_i hd;cases i with
   | zero=>exact⟨x,rfl,by intro e;subst e;simp[aJc] at hd⟩
   | succ i=>
    obtain⟨y,h1,h2⟩:=aFF (i:=i) h (by omega)
    exact⟨y,by simpa using h1,h2⟩
theorem uE : ∀{n:Nat} {H tH:List Box} {i:Nat},sO n H tH=true->i < n->∃x y,H[i]? = some x/\tH[i]? = some y/\(y = .dead->x = .dead\/∃m,x = .tail m)
 | 0,_,_,i,_,h=>by omega
 | n+1,[],_,i,h,_=>by simp[sO] at h
 | n+1,_ :: _,[],i,h,_=>by simp[sO] at h
 | n+1,x :: xs,y :: ys,i,h,hi=>by
  simp only[sO] at h;cases i with
  | zero=>
   refine⟨x,y,rfl,rfl,λe=>?_⟩
   subst e;simp only[aJc,b9] at h;have h:=h.1;split at h
   ·exact .inl rfl
   ·exact .inr ⟨_,rfl⟩
   ·cases h
  | succ i=>
   have h':sO n xs ys=true:=by
    split at h
    ·exact(b9 _ _▸h).2
    ·exact h
   obtain⟨a,b,h1,h2,h3⟩:=uE (i:=i) h' (by omega)
   exact⟨a,b,by simpa using h1,by simpa using h2,h3⟩
theorem aHq : ∀{n:Nat} {H tH:List Box},wX n tH=true->tH.length<=H.length->sO n H tH=true
 | 0,_,_,_,_=>by unfold sO;rfl
 | n+1,_,[],h,_=>by simp[wX] at h
 | n+1,[],_ :: _,_,hl=>by simp at hl
 | n+1,x :: xs,y :: ys,h,hl=>by
  simp only[wX] at h;split at h
  ·cases h
  ·rename_i hd;simp only[sO,hd]
   exact aHq h (by simpa using hl)
section
variable {P:Program} {T:TypeId→Option TI} {n:Fr}
theorem aNc{H tH:List Box}{lo:Nat}(h1:sO lo H tH=true)(h2:tH.length<=H.length)(h3:lF tH tH=true)(heH:vA H tH=tH){ctx:Mem}{bs:List (Option Nat)}{w:World}
  (ok0:(⟨H,bs,w,ctx.F⟩:Mem).OK) (ext0:Ext ctx ⟨H,bs,w,ctx.F⟩) (low0:ctx.H.length<=lo) :
  aBj id ⟨H,bs,w,ctx.F⟩ ⟨tH,bs.take tH.length,w,ctx.F⟩/\Ext ctx ⟨tH,bs.take tH.length,w,ctx.F⟩/\(⟨tH,bs.take tH.length,w,ctx.F⟩:Mem).OK:=by
 have hbl:bs.length=H.length:=ok0.len
 -- what each box of the target is
 have box:∀(i:Nat) (y:Box),tH[i]? = some y->∃x,H[i]? = some x/\((y = .dead)\/(∃c c',x = .var c/\y = .var (wk c c'))\/(y=x/\∀c,x ≠ .var c)\/(∃c,x = .var c/\y = .var c)):=by
  intro i y hy;rw[<- heH] at hy;obtain⟨x,t,g1,g2,g3⟩:=aC9 h2 hy;refine⟨x,g1,?_⟩
  subst g3;cases x <;> cases t <;> simp[cBox]
  exact .inl ⟨_,rfl⟩
 let μ:Mem:=⟨H,bs,w,ctx.F⟩
 let μ':Mem:=⟨tH,bs.take tH.length,w,ctx.F⟩
 have hown:∀b o,μ'.own b o->μ.own b o:=by
  rintro b o ⟨id,g1,g2⟩
  dsimp only[μ'] at g1 g2;have hid:=aX g1;rw[bj] at hid;rw[cw,if_pos (by omega)] at g1;refine⟨id,g1,?_⟩
  rcases g2 with ⟨y,g2,g3⟩ | ⟨m,g2,g3⟩
  ·obtain⟨x,k1,k2⟩:=box id y g2;refine .inl ⟨x,k1,?_⟩
   rcases k2 with rfl | ⟨c,c',rfl,rfl⟩ | ⟨rfl,_⟩ | ⟨c,rfl,rfl⟩
   ·cases g3
   ·rfl
   ·exact g3
   ·rfl
  ·obtain⟨x,k1,k2⟩:=box id _ g2;rcases k2 with k2 | ⟨c,c',_,k2⟩ | ⟨k2,_⟩ | ⟨c,_,k2⟩
   ·cases k2
   ·cases k2
   ·subst k2;exact .inr ⟨m,k1,g3⟩
   ·cases k2
 have less:aBj id μ μ':={
  w:=rfl
  M:=λb o hM=>by
   rcases hM with hM | hM
   ·exact .inl hM
   ·exact .inr (hown b o hM)
  bs:=λi hi _=>by
   show(bs.take tH.length)[i]? = bs[i]?;rw[cw,if_pos hi]
  tail:=λi m hi=>by
   obtain⟨x,k1,k2⟩:=box i _ hi;rcases k2 with k2 | ⟨c,c',_,k2⟩ | ⟨k2,_⟩ | ⟨c,_,k2⟩
   ·cases k2
   ·cases k2
   ·subst k2;exact k1
   ·cases k2
  gro:=λi k es hi=>by
   obtain⟨x,k1,k2⟩:=box i _ hi;rcases k2 with k2 | ⟨c,c',_,k2⟩ | ⟨k2,_⟩ | ⟨c,_,k2⟩
   ·cases k2
   ·cases k2
   ·subst k2;exact k1
   ·cases k2
  lt:=λi hi=>cu hi h2 }
 have ext:Ext ctx μ':={
  size:=ext0.size
  len:=by
   have:=low0;have hl:lo<=tH.length:=by
    rcases Nat.lt_or_ge tH.length lo with hh | hh
    ·obtain⟨_,x,_,hx,_⟩:=uE h1 hh;have:=aX hx;omega
    ·exact hh
   exact Nat.le_trans this hl
  cells:=ext0.cells
  blocks:=ext0.blocks
  mm:=λb o hb ho=>ext0.mm b o hb (hown b o ho)
  same:=rfl
  vars:=λid c hc=>by
   obtain⟨⟨c',g1⟩,g2⟩:=ext0.vars id c hc;have hid:=aX hc;obtain⟨x0,y,k0,k1,k2⟩:=uE h1 (cu hid low0)
   dsimp only at g1;rw[g1] at k0;cases k0;have k2:y ≠ .dead:=λe=>by rcases k2 e with h | ⟨_,h⟩ <;> cases h
   obtain⟨x,k3,k4⟩:=box id y k1;rw[g1] at k3;cases k3;refine⟨?_,(cw.trans (if_pos (aX k1))).trans g2⟩
   rcases k4 with k4 | ⟨d,d',_,k4⟩ | ⟨_,k5⟩ | ⟨d,_,k4⟩
   ·exact absurd k4 k2
   ·exact⟨_,k4▸k1⟩
   ·exact absurd rfl (k5 _)
   ·exact⟨_,k4▸k1⟩
  maps:=λid c hc=>by
   obtain⟨⟨c',g1⟩,g2⟩:=ext0.maps id c hc;have hid:=aX hc;obtain⟨x0,y,k0,k1,k2⟩:=uE h1 (cu hid low0)
   dsimp only at g1;rw[g1] at k0;cases k0;have k2:y ≠ .dead:=λe=>by rcases k2 e with h | ⟨_,h⟩ <;> cases h
   obtain⟨x,k3,k4⟩:=box id y k1;rw[g1] at k3;cases k3;refine⟨?_,(cw.trans (if_pos (aX k1))).trans g2⟩
   rcases k4 with k4 | ⟨d,d',k4,_⟩ | ⟨k4,k5⟩ | ⟨d,k4,_⟩
   ·exact absurd k4 k2
   ·cases k4
   ·exact⟨_,k4▸k1⟩
   ·cases k4
  loops:=λid c hc=>by
   obtain⟨⟨c',g1⟩,g2⟩:=ext0.loops id c hc;have hid:=aX hc;obtain⟨x0,y,k0,k1,k2⟩:=uE h1 (cu hid low0)
   dsimp only at g1;rw[g1] at k0;cases k0;have k2:y ≠ .dead:=λe=>by rcases k2 e with h | ⟨_,h⟩ <;> cases h
   obtain⟨x,k3,k4⟩:=box id y k1;rw[g1] at k3;cases k3;refine⟨?_,(cw.trans (if_pos (aX k1))).trans g2⟩
   rcases k4 with k4 | ⟨d,d',k4,_⟩ | ⟨k4,k5⟩ | ⟨d,k4,_⟩
   ·exact absurd k4 k2
   ·cases k4
   ·exact⟨_,k4▸k1⟩
   ·cases k4
  toks:=λid m' hid hm'=>by
   have hlt:=aX hm';obtain⟨m,k1,k2,k3⟩:=ext0.toks id m' hid (less.tail id m' hm')
   refine⟨m,k1,k2,λe=>⟨(cw.trans (if_pos hlt)).trans (k3 e).1,(k3 e).2⟩⟩
  gros:=λid q es' hid hm'=>by
   have hlt:=aX hm';obtain⟨m,k1,k2,k3⟩:=ext0.gros id q es' hid (less.gro id q es' hm')
   refine⟨m,k1,k2,λe=>⟨(cw.trans (if_pos hlt)).trans (k3 e).1,(k3 e).2⟩⟩
  os:=ext0.os
  tape:=ext0.tape
  output:=ext0.output }
 have ok:μ'.OK:={
  foreign:=ok0.foreign
  glob:=λg hg=>less.globAt (ok0.glob g hg)
  clear:=λb o ho=>ok0.clear b o (hown b o ho)
  len:=by show(bs.take tH.length).length=tH.length;rw[bj];omega
  box:=λi o y ho hy=>by
   have hlt:=aX hy;dsimp only[μ'] at ho hlt;rw[cw,if_pos hlt] at ho;obtain⟨x,k1,k2⟩:=box i y hy;have hok:=ok0.box i o x ho k1;rcases k2 with rfl | ⟨c,c',rfl,rfl⟩ | ⟨rfl,k3⟩ | ⟨c,rfl,rfl⟩
   ·trivial
   ·obtain⟨b,ys,U,g1,g2,g3⟩:=hok;refine⟨b,ys,U,g1,g2,?_⟩
    exact Rc.less less _ _ (vM h3 hy) (by rw[uJ];exact aFR _ _ _ g3)
   ·cases y with
    | dead=>trivial
    | var c=>exact absurd rfl (k3 c)
    | tail m=>exact hok
    | mp c0=>
     cases c0 with
     | kv kvs=>
      obtain⟨b,es,clock,g1,g2,g3⟩:=hok;exact⟨b,es,clock,g1,g2,g3.mono less.keeps⟩
     | it _ _=>exact hok
     | mi m=>
      obtain⟨b,c,t,g1,g2,g3⟩:=hok;exact⟨b,c,t,g1,g2,Rc.less less (.mp m) _ (aBp h3 hy) (by rw[uJ];exact g3)⟩
     | bl t e0 id s=>
      obtain⟨b,p,v,g1,g2,gp,g3⟩:=hok;exact⟨b,p,v,g1,g2,gp,Rc.less less (.gro id 1 s.size .all) _ (wB h3 hy) (by rw[uJ];exact g3.1),less.typd (lowG (wB (k:=0) (n:=0) (g := .all) h3 hy)) g3.2⟩
    | loop r=>exact hok
    | gro k es=>
     obtain⟨g0,g1 | ⟨b,ys,U,g1,g2,y1,y2,g3,g4⟩⟩:=hok
     ·exact⟨g0,.inl g1⟩
     ·exact⟨g0,.inr ⟨b,ys,U,g1,g2,y1,y2,g3,RdL.mono less.keeps _ _ g4⟩⟩
   ·obtain⟨b,ys,U,g1,g2,g3⟩:=hok;exact⟨b,ys,U,g1,g2,Rc.less less _ _ (vM h3 hy) (by rw[uJ];exact g3)⟩
  apart:=λi j b y z hi hj hy hz hyd hzd=>by
   have hi':=aX hy;have hj':=aX hz;dsimp only[μ'] at hi hj hi' hj';rw[cw,if_pos hi'] at hi;rw[cw,if_pos hj'] at hj;obtain⟨x1,k1,k2⟩:=box i y hy;obtain⟨x2,k3,k4⟩:=box j z hz;refine ok0.apart i j b x1 x2 hi hj k1 k3 ?_ ?_
   ·rcases k2 with rfl | ⟨c,c',rfl,rfl⟩ | ⟨rfl,_⟩ | ⟨c,rfl,rfl⟩ <;> first | exact absurd rfl hyd | exact hyd | (intro e;cases e)
   ·rcases k4 with rfl | ⟨c,c',rfl,rfl⟩ | ⟨rfl,_⟩ | ⟨c,rfl,rfl⟩ <;> first | exact absurd rfl hzd | exact hzd | (intro e;cases e) }
 exact⟨less,ext,ok⟩
theorem sat_c{st t:ASt}(h:cOK n st t=true)(he:cSt st t=t){ctx:Mem}{a:Act}{w:World}(hs:Sat n ctx st a w):Sat n ctx t a w:=by
 obtain⟨bs,hm⟩:=hs;obtain⟨env,H⟩:=st;obtain⟨tenv,tH⟩:=t;simp only[cOK,b9] at h;obtain⟨⟨⟨⟨h1,h2⟩,h3⟩,h4⟩,h5⟩:=h;have h2:=cn h2;dsimp only at h1 h2 h3 h4 h5 hm;simp only[cSt,ASt.mk.injEq] at he;obtain⟨heE,heH⟩:=he;obtain⟨less,ext,ok⟩:=aNc h1 h2 h3 heH hm.ok hm.ext hm.low
 let μ:Mem:=⟨H,bs,w,ctx.F⟩
 let μ':Mem:=⟨tH,bs.take tH.length,w,ctx.F⟩
 have envc:∀{env0:Env} {tmps:Array Value},wT tH env0=true->eY μ env0 tmps->eY μ' env0 tmps:=by
  intro env0 tmps hl hE i e hlk;obtain⟨y,g1,g2⟩:=hE i e hlk;refine⟨y,g1,?_⟩
  have hlow:=tW hl hlk;unfold yF at *;split
  ·rename_i hn;rw[hn] at g2;exact vP less hlow (by rw[uJ];exact g2)
  ·rename_i j want hn;rw[hn] at g2;exact λhj=>vP less hlow (by rw[uJ];exact g2 hj)
 refine⟨bs.take tH.length,{ h:=rfl,ok:=ok,ext:=ext,env:=envc h4 ?_,size:=hm.size,low:=hm.low,defers:=hm.defers,nod:=hm.nod,outs:=λp hp=>envc (xN h5 hp) (hm.outs p hp) }⟩
 have key:∀(t:Env),eY μ (aID env t) a.tmps:=by
  intro t
  induction t with
  | nil=>intro i e hl;simp[aID,bY] at hl
  | cons p r ih=>
   obtain⟨j,e0⟩:=p;intro i e hl;unfold aID bY at hl;cases hb:bp j i with
   | false=>rw[hb] at hl;exact ih i e hl
   | true=>
    rw[hb] at hl;have:=Nat.eq_of_beq_eq_true hb;subst this;dsimp only at hl;unfold cEnt at hl;split at hl <;> try cases hl
    rename_i fl y;split at hl <;> cases hl;rename_i x hx;obtain⟨v,g1,g2⟩:=hm.env.get hx;exact⟨v,g1,aN3 g2⟩
 have:=key tenv;rwa[heE] at this
end
end Go.UK

