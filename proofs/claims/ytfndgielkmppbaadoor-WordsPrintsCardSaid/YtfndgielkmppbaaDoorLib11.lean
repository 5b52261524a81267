/- The own layer: abstract values, their memory, and the steps of the model over them: for any program. -/
import Derived.Test.YtfndgielkmppbaaDoorLib10
open Bool renaming false_eq_true→ap
open List renaming replicate→be
open Go.Result renaming andThen→cn,andThen_ok→aj
open Go.Sem renaming run_bind→aq,run_pure→ay
set_option linter.all false
namespace Go.UK
open Go
set_option linter.all false
variable [aV]
section
variable {P:Program} {T:TypeId→Option TI} {n:Fr}
def aDE : Operand->Bool
 | .const .nilIface=>true
 | _=>false
def nilE(o:Oper)(need:Env)(op:BinOp):Option TypeId:=
 match o.op with
 | .binOp op' t x y _=>match decide (op'=op)&&aDE y,opd need none x with
  | true,some (.v .nilIface)=>some t
  | _,_=>none
 | _=>none
theorem aCK{o:Oper}{need:Env}{op:BinOp}{t:TypeId}(h:nilE o need op=some t):∃x t',o.op = .binOp op t x (.const .nilIface) t'/\opd need none x=some (.v .nilIface):=by
 unfold nilE at h;split at h <;> try cases h
 rename_i op' t' x y t2 ho;split at h <;> cases h;rename_i hc hx;simp only[Bool.and_eq_true,decide_eq_true_eq] at hc;obtain⟨rfl,hc⟩:=hc;unfold aDE at hc;split at hc
 ·exact⟨x,t2,ho,hx⟩
 ·cases hc
def aEo : TypeDesc->Bool
 | .interface _=>true
 | _=>false
theorem aAz{t:TypeId}{d:TypeDesc}(w:World)(hd:P.underlying t=some d)(hk:aEo d=true):(Op.equal t .nilIface .nilIface).run P w = .ok true w:=by
 have:(Op.equalIn (9999+1) t .nilIface .nilIface).run P w = .ok true w:=by
  unfold Op.equalIn;rw[aq,run_underlying hd]
  cases d <;> first | (cases hk;done) | rfl
 exact this
theorem aEe{o:Oper}{need:Env}{H:List Box}{t:TypeId}{d:TypeDesc}(hdst:dOK n.n o.dst=true)(hd:P.underlying t=some d)(hk:aEo d=true)(op:BinOp)(b:Bool)(hb:(decide (op = .eql/\b=true)||decide (op = .neq/\b=false))=true)(h:nilE o need op=some t):Big P n o need H (eB b) H:=by
 obtain⟨x,t',ho,hx⟩:=aCK h;refine fE hdst λa μ ok hH hE=>?_;have v1:=bF (aT hE noG hx)
 have v2:a.eval (.const .nilIface) = .nilIface:=rfl;refine⟨μ,dG.here (y := .bool b) ok ?_ (mV rfl),hH⟩
 have he:=aAz (P:=P) μ.w hd hk;simp only[Bool.or_eq_true,decide_eq_true_eq] at hb;rcases hb with ⟨rfl,rfl⟩ | ⟨rfl,rfl⟩
 ·simp[execOp,ho,v1,v2,eqGuard,binOp,he,cn]
 ·simp[execOp,ho,v1,v2,eqGuard,binOp,he,cn]
theorem aCt{w w':World}{H:List Box}{bs:List (Option Nat)}{F:Nat->Nat->Prop}(ok:(⟨H,bs,w,F⟩:Mem).OK)(hl:bV w w'){k cap:Nat}(hrow:∀H bs,(⟨H,bs,w',F⟩:Mem).row w.heap.size (cap*k)) :
  Ext ⟨H,bs,w,F⟩ ⟨H++[.tail 0],bs++[some w.heap.size],w',F⟩/\(⟨H++[.tail 0],bs++[some w.heap.size],w',F⟩:Mem).OK /\
  Rv ⟨H++[.tail 0],bs++[some w.heap.size],w',F⟩ (.own H.length k 0 []) (.slice (some ⟨w.heap.size,0,none⟩) 0 cap):=by
 have hbl:bs.length=H.length:=ok.len;have ext:=Ext.snoc (F:=F) ok.len hl (.tail 0) (some w.heap.size) (by intro b e;cases e;exact Nat.le_refl _)
 have ok':=OK.snoc ok hl (x := .tail 0) (o:=some w.heap.size) (by intro b e;cases e;exact Nat.le_refl _) (by intro b e;cases e;exact⟨_,hrow _ _,Nat.zero_le _⟩)
 refine⟨ext,ok',?_⟩
 show Rv0 _ _ _;simp only[Rv0,AV.isAgg,Rc,ap,if_false]
 refine⟨rfl,some ⟨w.heap.size,0,none⟩,cap,rfl,Nat.zero_le _,by simp,.inl trivial,by simp,λm hm=>?_⟩
 have hm:(H++[Box.tail 0])[H.length]? = some (.tail m):=hm;simp at hm;subst hm;exact⟨by simp,λ_ => .inl ⟨w.heap.size,by show(bs++[some w.heap.size])[H.length]? = _;rw[<- hbl];simp,rfl,hrow _ _⟩⟩
def mk0E(T:TypeId->Option TI)(o:Oper)(need:Env):Option (Int×TI):=
 match o.op with
 | .makeSlice t (.const (.int .i64 0)) b=>match opd need none b,T t with
  | some (.v (.int .i64 i)),some ⟨_,_,_,.sl e⟩=>match T e with
   | some ei=>some (i,ei)
   | none=>none
  | _,_=>none
 | _=>none
theorem aEL(hT:TOK P T){o:Oper}{need:Env}{H:List Box}{α:Type}(f:α->AV){i:Int}{b k:Nat}{z:AV}{kd:TK}{u:Unit}(hx:mkO b i=some u)(hd:dOK n.n o.dst=true)(h:mk0E T o need=some (i,⟨k,b,z,kd⟩)) :
  Big P n o need H (eO H.length k f ([]:List α)) (H++[.tail (([]:List α).length*k)]):=by
 obtain⟨h0,h1,h2⟩:=mkO_t hx;refine fE hd λa μ ok hH hE=>?_;unfold mk0E at h;split at h <;> try cases h
 rename_i t y ho;split at h <;> try cases h
 rename_i i' sz b1 z1 e hx ht;split at h <;> cases h;rename_i he;have ex:=bF (aT hE noG hx)
 obtain⟨d,hd',hk⟩:=(hT t _ ht).kind;simp only[TK.fits] at hk;subst hk;obtain⟨zv,zs,g1,g2,g3,g4,g5⟩:=lA hT he μ.w;obtain⟨te,k1,k2,k3⟩:=rI hT he μ.w;dsimp only at g4 k2;have hrun:(execOp a.eval o).run P μ.w = .ok (.value (.slice (some ⟨μ.w.heap.size,0,none⟩) 0 i.toNat)) (μ.w.alloc (.cells (be i.toNat zs).flatten.toArray e)):=by
  have hw:IntKind.i64.wrap i=i:=by rw[IntKind.wrap_i64];omega
  have e1:¬i < 0:=by omega
  have e2:¬((te.bytes:Int)*i > 2 ^ 48):=by rw[k2,Int.mul_comm];omega
  have e3:a.eval (.const (.int .i64 0)) = .int .i64 0:=rfl;simp only[execOp,ho,Instr.makeSlice,aq,run_underlying hd',aj,ex,e3,asInt,asIntOf,ay,k1,hw,show IntKind.i64.wrap 0=0 from rfl,run_askRoom,fI hT he]
  simp only[decide_eq_false e1,decide_eq_false e2,Bool.or_false,ap,if_false,Int.lt_irrefl,or_self,gt_iff_lt,false_or,aj,aq,run_askRoom]
  simp only[show(false||decide False)=false by simp,show decide (i < 0)=false by simpa using h0,ap,if_false,aq,run_askRoom,aj,fI hT he,Bool.or_self]
  by_cases hz:i.toNat*k=0
  ·have hfl:(be i.toNat zs).flatten=[]:=List.eq_nil_of_length_eq_zero (by rw[fW,g4];exact hz)
   rw[hfl]
   simp only[hz,if_true,aq,ay,aj]
   rw[show(Array.map (λx:Nat=>(#[]:Array Value)[x % (#[]:Array Value).size]!) (Array.range 0))=[].toArray from by simp]
   simp only[newRow,aq,run_newObj,aj,ay,World.alloc_eq]
   rfl
  ·have hflat:(Array.range (i.toNat*k)).map (λq=>zs.toArray[q % zs.toArray.size]!)=(be i.toNat zs).flatten.toArray:=by
    rw[<- Array.toList_inj,Array.toList_map,Array.toList_range]
    exact oP g4 i.toNat
   simp only[if_neg hz,aq,g1,aj,ay,g3,hflat]
   simp only[newRow,aq,run_newObj,aj,ay,World.alloc_eq]
   rfl
 obtain⟨H0,bs,w,F⟩:=μ;dsimp only at hH;subst hH;obtain⟨ext,ok',hv⟩:=aCt (k:=k) (cap:=i.toNat) ok (bV.alloc w (be i.toNat zs).flatten.toArray e) (λH bs=>⟨_,_,dK,by simp[g4]⟩)
 have e0:([]:List α).length*k=0:=by simp
 rw[e0]
 exact⟨_,⟨_,hrun,hv,ext,ok'⟩,rfl⟩
end
end Go.UK

namespace Go.UK
open Go Go.Proofs Go.Sort Go.RowKit
set_option linter.all false
variable [aV]
def rW(k:IntKind)(zs:List Int):List Value:=zs.map λz=>Value.int k z
theorem aF9{P:Program}{μ:Mem}(ok:μ.OK){g:Nat}{k:IntKind}{zs:List Int}{name:String}(hm:(g,rW k zs)∈aV.l)(hn:P.globalNamed name=some g):Lib.TabIs P μ.w name k zs:=by
 obtain⟨⟨T,fr,h1⟩,_⟩:=ok.glob _ hm;unfold Lib.TabIs World.var?;rw[hn,Option.bind_some,h1]
 rfl
section
variable {P:Program} {ρ:Shelf.Ren}
end
end Go.UK

namespace Go.UK
open Go
set_option linter.all false
variable [aV]
section
variable {P:Program} {T:TypeId→Option TI} {n:Fr}
end
end Go.UK

namespace Go.UK
open Go Go.Proofs Go.Sort Go.RowKit
set_option linter.all false
variable [aV]
section
variable {P:Program} {ρ:Shelf.Ren}
end
end Go.UK

namespace Go.UK
open Go
set_option linter.all false
variable [aV]
section
variable {P:Program} {T:TypeId→Option TI} {n:Fr}
mutual
def glV(id m:Nat):AV->AV
 | .gro i k ln j=>match Nat.beq i id with | true => .gro i k m j | false => .gro i k ln j
 | .st n ps => .st n (glVL id m ps)
 | x=>x
def glVL(id m:Nat):List AV->List AV
 | []=>[]
 | p :: ps=>glV id m p :: glVL id m ps
end
def aDi(ss:List Nat)(id m:Nat):Env->Env
 | []=>[]
 | (i,none) :: r=>(i,none) :: aDi ss id m r
 | (i,some (g,x)) :: r=>(i,some (g,match ss.any (Nat.beq i) with | true=>glV id m x | false=>x)) :: aDi ss id m r
def aEv(bs:List Nat)(id m:Nat):Nat->List Box->List Box
 | _,[]=>[]
 | j,x :: r=>(match ss bs j,x with | true,.var c => .var (glV id m c) | _,x=>x) :: aEv bs id m (j+1) r
where ss (bs:List Nat) (j:Nat):Bool:=bs.any (Nat.beq j)
def glS(ss bs:List Nat)(id m:Nat)(st:ASt):ASt:=⟨aDi ss id m st.env,aEv bs id m 0 st.H⟩
end
section
variable {P:Program} {T:TypeId→Option TI} {n:Fr}
end
end Go.UK

