/- The own layer: abstract values, their memory, and the steps of the model over them: for any program. -/
import Derived.Test.YtfndgielkmppbaaDoorLib10
open Bool renaming false_eq_true→ap
open List renaming replicate→bf
open Go.Result renaming andThen→cv,andThen_ok→ak
open Go.Sem renaming run_bind→ar,run_pure→ba
set_option linter.all false
namespace Go.UK
open Go
set_option linter.all false
variable [bA]
section
variable {P:Program} {T:TypeId→Option TI} {n:Fr}
def vX : Operand->Bool
 | .const .nilIface=>true
 | _=>false
def nilE(o:Oper)(need:Env)(op:BinOp):Option TypeId:=
 match o.op with
 | .binOp op' t x y _=>match decide (op'=op)&&vX y,opd need none x with
  | true,some (.v .nilIface)=>some t
  | _,_=>none
 | _=>none
theorem aB5{o:Oper}{need:Env}{op:BinOp}{t:TypeId}(h:nilE o need op=some t):∃x t',o.op = .binOp op t x (.const .nilIface) t'/\opd need none x=some (.v .nilIface):=by
 unfold nilE at h;split at h <;> try cases h
 rename_i op' t' x y t2 ho;split at h <;> cases h;rename_i hc hx;simp only[Bool.and_eq_true,decide_eq_true_eq] at hc;obtain⟨rfl,hc⟩:=hc;unfold vX at hc;split at hc
 ·exact⟨x,t2,ho,hx⟩
 ·cases hc
def yY : TypeDesc->Bool
 | .interface _=>true
 | _=>false
theorem aAL{t:TypeId}{d:TypeDesc}(w:World)(hd:P.underlying t=some d)(hk:yY d=true):(Op.equal t .nilIface .nilIface).run P w = .ok true w:=by
 have:(Op.equalIn (9999+1) t .nilIface .nilIface).run P w = .ok true w:=by
  unfold Op.equalIn;rw[ar,run_underlying hd]
  cases d <;> first | (cases hk;done) | rfl
 exact this
theorem aEo{o:Oper}{need:Env}{H:List Box}{t:TypeId}{d:TypeDesc}(hdst:dOK n.n o.dst=true)(hd:P.underlying t=some d)(hk:yY d=true)(op:BinOp)(b:Bool)(hb:(decide (op = .eql/\b=true)||decide (op = .neq/\b=false))=true)(h:nilE o need op=some t):Big P n o need H (eB b) H:=by
 obtain⟨x,t',ho,hx⟩:=aB5 h;refine eQ hdst λa μ ok hH hE=>?_;have v1:=bH (aY hE noG hx)
 have v2:a.eval (.const .nilIface) = .nilIface:=rfl;refine⟨μ,cX.here (y := .bool b) ok ?_ (lN rfl),hH⟩
 have he:=aAL (P:=P) μ.w hd hk;simp only[Bool.or_eq_true,decide_eq_true_eq] at hb;rcases hb with ⟨rfl,rfl⟩ | ⟨rfl,rfl⟩
 ·simp[execOp,ho,v1,v2,eqGuard,binOp,he,cv]
 ·simp[execOp,ho,v1,v2,eqGuard,binOp,he,cv]
theorem aCl{w w':World}{H:List Box}{bs:List (Option Nat)}{F:Nat->Nat->Prop}(ok:(⟨H,bs,w,F⟩:Mem).OK)(hl:bV w w'){k cap:Nat}(hrow:∀H bs,(⟨H,bs,w',F⟩:Mem).row w.heap.size (cap*k)) :
  Ext ⟨H,bs,w,F⟩ ⟨H++[.tail 0],bs++[some w.heap.size],w',F⟩/\(⟨H++[.tail 0],bs++[some w.heap.size],w',F⟩:Mem).OK /\
  Rv ⟨H++[.tail 0],bs++[some w.heap.size],w',F⟩ (.own H.length k 0 []) (.slice (some ⟨w.heap.size,0,none⟩) 0 cap):=by
 have hbl:bs.length=H.length:=ok.len;have ext:=Ext.snoc (F:=F) ok.len hl (.tail 0) (some w.heap.size) (by intro b e;cases e;exact Nat.le_refl _)
 have ok':=OK.snoc ok hl (x := .tail 0) (o:=some w.heap.size) (by intro b e;cases e;exact Nat.le_refl _) (by intro b e;cases e;exact⟨_,hrow _ _,Nat.zero_le _⟩)
 refine⟨ext,ok',?_⟩
 show Rv0 _ _ _;simp only[Rv0,AV.isAgg,Rc,ap,if_false]
 refine⟨rfl,some ⟨w.heap.size,0,none⟩,cap,rfl,Nat.zero_le _,by simp,.inl trivial,by simp,λm hm=>?_⟩
 have hm:(H++[Box.tail 0])[H.length]? = some (.tail m):=hm;simp at hm;subst hm;exact⟨by simp,λ_ => .inl ⟨w.heap.size,by show(bs++[some w.heap.size])[H.length]? = _;rw[<- hbl];simp,rfl,hrow _ _⟩⟩
def mk0E(T:TypeId->Option TI)(o:Oper)(need:Env):Option (Int×TI):=
 match o.op with
 | .makeSlice t (.const (.int .i64 0)) b=>match opd need none b,T t with
  | some (.v (.int .i64 i)),some ⟨_,_,_,.sl e⟩=>match T e with
   | some ei=>some (i,ei)
   | none=>none
  | _,_=>none
 | _=>none
theorem aFD(hT:TOK P T){o:Oper}{need:Env}{H:List Box}{α:Type}(f:α->AV){i:Int}{b k:Nat}{z:AV}{kd:TK}{u:Unit}(hx:mkO b i=some u)(hd:dOK n.n o.dst=true)(h:mk0E T o need=some (i,⟨k,b,z,kd⟩)) :
  Big P n o need H (eO H.length k f ([]:List α)) (H++[.tail (([]:List α).length*k)]):=by
 obtain⟨h0,h1,h2⟩:=mkO_t hx;refine eQ hd λa μ ok hH hE=>?_;unfold mk0E at h;split at h <;> try cases h
 rename_i t y ho;split at h <;> try cases h
 rename_i i' sz b1 z1 e hx ht;split at h <;> cases h;rename_i he;have ex:=bH (aY hE noG hx)
 obtain⟨d,hd',hk⟩:=(hT t _ ht).kind;simp only[TK.fits] at hk;subst hk;obtain⟨zv,zs,g1,g2,g3,g4,g5⟩:=kG hT he μ.w;obtain⟨te,k1,k2,k3⟩:=qE hT he μ.w;dsimp only at g4 k2;have hrun:(execOp a.eval o).run P μ.w = .ok (.value (.slice (some ⟨μ.w.heap.size,0,none⟩) 0 i.toNat)) (μ.w.alloc (.cells (bf i.toNat zs).flatten.toArray e)):=by
  have hw:IntKind.i64.wrap i=i:=by rw[IntKind.wrap_i64];omega
  have e1:¬i < 0:=by omega
  have e2:¬((te.bytes:Int)*i > 2 ^ 48):=by rw[k2,Int.mul_comm];omega
  have e3:a.eval (.const (.int .i64 0)) = .int .i64 0:=rfl;simp only[execOp,ho,Instr.makeSlice,ar,run_underlying hd',ak,ex,e3,asInt,asIntOf,ba,k1,hw,show IntKind.i64.wrap 0=0 from rfl,run_askRoom,eV hT he]
  simp only[decide_eq_false e1,decide_eq_false e2,Bool.or_false,ap,if_false,Int.lt_irrefl,or_self,gt_iff_lt,false_or,ak,ar,run_askRoom]
  simp only[show(false||decide False)=false by simp,show decide (i < 0)=false by simpa using h0,ap,if_false,ar,run_askRoom,ak,eV hT he,Bool.or_self]
  by_cases hz:i.toNat*k=0
  ·have hfl:(bf i.toNat zs).flatten=[]:=List.eq_nil_of_length_eq_zero (by rw[fI,g4];exact hz)
   rw[hfl]
   simp only[hz,if_true,ar,ba,ak]
   rw[show(Array.map (λx:Nat=>(#[]:Array Value)[x % (#[]:Array Value).size]!) (Array.range 0))=[].toArray from by simp]
   simp only[newRow,ar,run_newObj,ak,ba,World.alloc_eq]
   rfl
  ·have hflat:(Array.range (i.toNat*k)).map (λq=>zs.toArray[q % zs.toArray.size]!)=(bf i.toNat zs).flatten.toArray:=by
    rw[<- Array.toList_inj,Array.toList_map,Array.toList_range]
    exact nQ g4 i.toNat
   simp only[if_neg hz,ar,g1,ak,ba,g3,hflat]
   simp only[newRow,ar,run_newObj,ak,ba,World.alloc_eq]
   rfl
 obtain⟨H0,bs,w,F⟩:=μ;dsimp only at hH;subst hH;obtain⟨ext,ok',hv⟩:=aCl (k:=k) (cap:=i.toNat) ok (bV.alloc w (bf i.toNat zs).flatten.toArray e) (λH bs=>⟨_,_,cZ,by simp[g4]⟩)
 have e0:([]:List α).length*k=0:=by simp
 rw[e0]
 exact⟨_,⟨_,hrun,hv,ext,ok'⟩,rfl⟩
end
end Go.UK

namespace Go.UK
open Go Go.Proofs Go.Sort Go.RowKit
set_option linter.all false
variable [bA]
def pU(k:IntKind)(zs:List Int):List Value:=zs.map λz=>Value.int k z
theorem aDr{P:Program}{μ:Mem}(ok:μ.OK){g:Nat}{k:IntKind}{zs:List Int}{name:String}(hm:(g,pU k zs)∈bA.l)(hn:P.globalNamed name=some g)(hz:zs≠[]:=by decide):Lib.TabIs P μ.w name k zs:=by
 obtain⟨⟨ys,T,fr,h1,h3⟩,_⟩:=ok.glob _ hm;obtain rfl:ys=(pU k zs).toArray:=by
  cases zs with
  | nil=>exact absurd rfl hz
  | cons z zs=>exact h3
 unfold Lib.TabIs World.var?;rw[hn,Option.bind_some,h1]
 rfl
def aAA(i:Int):Option ByteArray:=cond (decide (-9223372036854775808<=i)&&decide (i<=9223372036854775807)) (some ⟨(Lib.itoa i).toArray⟩) none
theorem aF4{i:Int}{r:ByteArray}(h:aAA i=some r):r=⟨(Lib.itoa i).toArray⟩ /\ -9223372036854775808<=i/\i<=9223372036854775807:=by
 unfold aAA at h;cases hc:(decide (-9223372036854775808<=i)&&decide (i<=9223372036854775807)) with
 | false=>rw[hc] at h;cases h
 | true=>
  rw[hc] at h;simp only[Bool.and_eq_true,decide_eq_true_eq] at hc;exact⟨by simpa using h.symm,hc.1,hc.2⟩
section
variable {P:Program} {ρ:Shelf.Ren}
theorem aFC(L:LaysM.n173 P ρ){f g:Nat}(hf:ρ.f 173=f)(hm:(g,pU .u64 Lib.pow10Tab)∈bA.l)(hn:P.globalNamed "internal/strconv.uint64pow10" = some g){i:Int}{r:ByteArray}(h:aAA i=some r):FnM P f [] [.v (.int .i64 i),.v (.int .i64 10)] (eS r) []:=by
 subst hf;obtain⟨rfl,h0,h1⟩:=aF4 h;rintro w G bs vs ok ⟨y0,r0,rfl,g0,y1,r1,rfl,g1,rfl⟩
 have e0:=bH (iE g0)
 have e1:=bH (iE g1)
 subst e0 e1;refine Calls.mono (Any.strconv_FormatInt_10 L i h0 h1 w (aDr ok hm hn)) ?_;rintro e w' ⟨rfl,k,os,rfl⟩
 have later:bV w (grow (w.drewN k) os):=⟨by rw[size_grow];exact Nat.le_add_right _ _,λb hb=>heap_grow_old _ _ hb,rfl,rfl,rfl⟩
 exact⟨_,bs,rfl,Ext.later later,OK.later later ok,lN rfl⟩
end
end Go.UK

namespace Go.UK
open Go
set_option linter.all false
variable [bA]
section
variable {P:Program} {T:TypeId→Option TI} {n:Fr}
end
end Go.UK

namespace Go.UK
open Go Go.Proofs Go.Sort Go.RowKit
set_option linter.all false
variable [bA]
section
variable {P:Program} {ρ:Shelf.Ren}
end
end Go.UK

namespace Go.UK
open Go
set_option linter.all false
variable [bA]
section
variable {P:Program} {T:TypeId→Option TI} {n:Fr}
mutual
def glV(id m:Nat):AV->AV
 | .gro i k ln j=>match Nat.beq i id with | true => .gro i k m j | false => .gro i k ln j
 | .st n ps => .st n (glVL id m ps)
 | x=>x
def glVL(id m:Nat):List AV->List AV
 | []=>[]
 | p :: ps=>glV id m p :: glVL id m ps
end
def aD2(ss:List Nat)(id m:Nat):Env->Env
 | []=>[]
 | (i,none) :: r=>(i,none) :: aD2 ss id m r
 | (i,some (g,x)) :: r=>(i,some (g,match ss.any (Nat.beq i) with | true=>glV id m x | false=>x)) :: aD2 ss id m r
def aFi(bs:List Nat)(id m:Nat):Nat->List Box->List Box
 | _,[]=>[]
 | j,x :: r=>(match ss bs j,x with | true,.var c => .var (glV id m c) | _,x=>x) :: aFi bs id m (j+1) r
where ss (bs:List Nat) (j:Nat):Bool:=bs.any (Nat.beq j)
def glS(ss bs:List Nat)(id m:Nat)(st:ASt):ASt:=⟨aD2 ss id m st.env,aFi bs id m 0 st.H⟩
end
section
variable {P:Program} {T:TypeId→Option TI} {n:Fr}
end
end Go.UK

