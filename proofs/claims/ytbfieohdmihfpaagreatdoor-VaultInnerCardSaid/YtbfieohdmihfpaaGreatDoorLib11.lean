/- The own layer: abstract values, their memory, and the steps of the model over them: for any program. -/
import Derived.Test.YtbfieohdmihfpaaGreatDoorLib10
set_option linter.all false
namespace Go.UK
open Go
set_option linter.all false
variable [bL]
section
variable {P:Program} {T:TypeId→Option TI} {n:Fr}
def aR6 : Operand->Bool
 | .const .nilIface=>true
 | _=>false
def nilE(o:Oper)(need:Env)(op:BinOp):Option TypeId:=
 match o.op with
 | .binOp op' t x y _=>match decide (op'=op)&&aR6 y,opd need none x with
  | true,some (.v .nilIface)=>some t
  | _,_=>none
 | _=>none
theorem aO2{o:Oper}{need:Env}{op:BinOp}{t:TypeId}(h:nilE o need op=some t):∃x t',o.op = .binOp op t x (.const .nilIface) t'/\opd need none x=some (.v .nilIface):=by
 unfold nilE at h;split at h <;> try cases h
 rename_i op' t' x y t2 ho;split at h <;> cases h;rename_i hc hx;simp only[Bool.and_eq_true,decide_eq_true_eq] at hc;obtain⟨rfl,hc⟩:=hc;unfold aR6 at hc;split at hc
 ·exact⟨x,t2,ho,hx⟩
 ·cases hc
def aUX : TypeDesc->Bool
 | .interface _=>true
 | _=>false
theorem aL1{t:TypeId}{d:TypeDesc}(w:World)(hd:P.underlying t=some d)(hk:aUX d=true):(Op.equal t .nilIface .nilIface).run P w = .ok true w:=by
 have:(Op.equalIn (9999+1) t .nilIface .nilIface).run P w = .ok true w:=by
  unfold Op.equalIn;rw[Sem.run_bind,run_underlying hd]
  cases d <;> first | (cases hk;done) | rfl
 exact this
theorem aSL{o:Oper}{need:Env}{H:List Box}{t:TypeId}{d:TypeDesc}(hdst:dOK n.n o.dst=true)(hd:P.underlying t=some d)(hk:aUX d=true)(op:BinOp)(b:Bool)(hb:(decide (op = .eql/\b=true)||decide (op = .neq/\b=false))=true)(h:nilE o need op=some t):Big P n o need H (eB b) H:=by
 obtain⟨x,t',ho,hx⟩:=aO2 h;refine cY hdst λa μ ok hH hE=>?_;have v1:=bH (aR hE noG hx)
 have v2:a.eval (.const .nilIface) = .nilIface:=rfl;refine⟨μ,eQ.here (y := .bool b) ok ?_ (tQ rfl),hH⟩
 have he:=aL1 (P:=P) μ.w hd hk;simp only[Bool.or_eq_true,decide_eq_true_eq] at hb;rcases hb with ⟨rfl,rfl⟩ | ⟨rfl,rfl⟩
 ·simp[execOp,ho,v1,v2,eqGuard,binOp,he,Result.andThen]
 ·simp[execOp,ho,v1,v2,eqGuard,binOp,he,Result.andThen]
end
end Go.UK

namespace Go.UK
open Go Go.Proofs Go.Sort Go.RowKit
set_option linter.all false
variable [bL]
def aAy(k:IntKind)(zs:List Int):List Value:=zs.map λz=>Value.int k z
theorem aR0{P:Program}{μ:Mem}(ok:μ.OK){g:Nat}{k:IntKind}{zs:List Int}{name:String}(hm:(g,aAy k zs)∈bL.l)(hn:P.globalNamed name=some g)(hz:zs≠[]:=by decide):Lib.TabIs P μ.w name k zs:=by
 obtain⟨⟨ys,T,fr,h1,h3⟩,_⟩:=ok.glob _ hm;obtain rfl:ys=(aAy k zs).toArray:=by
  cases zs with
  | nil=>exact absurd rfl hz
  | cons z zs=>exact h3
 unfold Lib.TabIs World.var?;rw[hn,Option.bind_some,h1]
 rfl
def aRb(i:Int):Option ByteArray:=cond (decide (-9223372036854775808<=i)&&decide (i<=9223372036854775807)) (some ⟨(Lib.itoa i).toArray⟩) none
theorem aWt{i:Int}{r:ByteArray}(h:aRb i=some r):r=⟨(Lib.itoa i).toArray⟩ /\ -9223372036854775808<=i/\i<=9223372036854775807:=by
 unfold aRb at h;cases hc:(decide (-9223372036854775808<=i)&&decide (i<=9223372036854775807)) with
 | false=>rw[hc] at h;cases h
 | true=>
  rw[hc] at h;simp only[Bool.and_eq_true,decide_eq_true_eq] at hc;exact⟨by simpa using h.symm,hc.1,hc.2⟩
section
variable {P:Program} {ρ:Shelf.Ren}
end
end Go.UK

namespace Go.UK
open Go
set_option linter.all false
variable [bL]
section
variable {P:Program} {T:TypeId→Option TI} {n:Fr}
def mm3E(o:Oper)(need:Env):Option (Builtin×IntKind×Int×Int×Int):=
 match o.op with
 | .call { callee := .builtin b,args,.. }=>match args.toList with
  | [x,y,z]=>match opd need none x,opd need none y,opd need none z with
   | some (.v (.int k i)),some (.v (.int _ j)),some (.v (.int _ l))=>some (b,k,i,j,l)
   | _,_,_=>none
  | _=>none
 | _=>none
theorem aIt{o:Oper}{need:Env}{b:Builtin}{k:IntKind}{i j l:Int}(h:mm3E o need=some (b,k,i,j,l)):∃x y z tys k1 k2,o.op = .call { callee := .builtin b,args:=#[x,y,z],argTypes:=tys }/\opd need none x=some (.v (.int k i))/\opd need none y=some (.v (.int k1 j))/\opd need none z=some (.v (.int k2 l)):=by
 unfold mm3E at h;split at h <;> try cases h
 rename_i b' args tys ho;split at h <;> try cases h
 rename_i x y z ha;split at h <;> cases h;rename_i k1 k2 hx hy hz;have:args=#[x,y,z]:=by cases args;simp at ha;rw[ha]
 subst this;exact⟨x,y,z,tys,_,_,ho,hx,hy,hz⟩
theorem aDl{o:Oper}{need:Env}{H:List Box}{k:IntKind}{i j l:Int}(hd:dOK n.n o.dst=true)(h:mm3E o need=some (.max,k,i,j,l)):Big P n o need H (.v (.int k (tA (tA i j) l))) H:=by
 obtain⟨x,y,z,tys,k1,k2,ho,hx,hy,hz⟩:=aIt h;refine cY hd λa μ ok hH hE=>⟨μ,?_,hH⟩
 obtain⟨cs,he⟩:=mZ ho a.eval;have e1:=bH (aR hE noG hx)
 have e2:=bH (aR hE noG hy)
 have e3:=bH (aR hE noG hz)
 refine eQ.here (y := .int k (tA (tA i j) l)) ok ?_ (tQ rfl)
 simp only[he,builtin,Sem.run_bind]
 simp[Builtin.max_,Builtin.max2,e1,e2,e3,tA]
theorem aDd{o:Oper}{need:Env}{H:List Box}{k:IntKind}{i j l:Int}(hd:dOK n.n o.dst=true)(h:mm3E o need=some (.min,k,i,j,l)):Big P n o need H (.v (.int k (lH (lH i j) l))) H:=by
 obtain⟨x,y,z,tys,k1,k2,ho,hx,hy,hz⟩:=aIt h;refine cY hd λa μ ok hH hE=>⟨μ,?_,hH⟩
 obtain⟨cs,he⟩:=mZ ho a.eval;have e1:=bH (aR hE noG hx)
 have e2:=bH (aR hE noG hy)
 have e3:=bH (aR hE noG hz)
 refine eQ.here (y := .int k (lH (lH i j) l)) ok ?_ (tQ rfl)
 simp only[he,builtin,Sem.run_bind]
 simp[Builtin.min_,Builtin.min2,e1,e2,e3]
 rfl
def aGW{α:Type}(N:Nat)(l:List α):Option (Vector α N):=if h:N<=l.length then some ⟨(l.take N).toArray,by simp;omega⟩ else none
theorem aWz{α:Type}{N:Nat}{l:List α}{v:Vector α N}(h:aGW N l=some v):N<=l.length/\v.toList=l.take N:=by
 unfold aGW at h;split at h
 ·rename_i hn;cases h;exact⟨hn,by simp⟩
 ·cases h
def s2aE(T:TypeId->Option TI)(o:Oper)(need:Env):Option (Nat×List AV):=
 match o.op with
 | .sliceToArrayPointer t x=>match opd need none x,T t with
  | some v,some ⟨_,_,_,.arr N _⟩=>match rE v with
   | some (1,es)=>some (N,es)
   | _=>none
  | _,_=>none
 | _=>none
theorem aJE(hT:TOK P T){α:Type}(f:α->AV){N:Nat}(l:List α)(v:Vector α N)(hv:aGW N l=some v)(hN:Nat.blt 0 N=true){o:Oper}{need:Env}{H:List Box}(hd:dOK n.n o.dst=true)(h:s2aE T o need=some (N,l.map f)) :
  Big P n o need H (.im (eA N 1 f v)) H:=by
 obtain⟨hle,hvl⟩:=aWz hv;have hN:0 < N:=by have:Nat.ble (0+1) N=true:=hN;have:=Nat.le_of_ble_eq_true this;omega
 unfold s2aE at h;split at h <;> try cases h
 rename_i t x ho;split at h <;> try cases h
 rename_i av sz b1 z N' e hx ht;split at h <;> try cases h
 rename_i es hes;refine cY hd λa μ ok hH hE=>⟨μ,?_,hH⟩
 obtain⟨ad,cap,g1,g2,g3,g4⟩:=aCi (sB hes (aR hE noG hx))
 obtain⟨dd,hdd,hf⟩:=(hT t _ ht).kind;simp only[TK.fits] at hf;subst hf;have hlen:(l.map f).length=l.length:=List.length_map _;rcases g4 with g4 | ⟨b,off,zs,g5,g6,g7⟩
 ·have:l=[]:=List.map_eq_nil_iff.1 g4;rw[this] at hle;simp at hle;omega
 ·subst g5;refine eQ.here (y := .pointer (some ⟨b,off,none⟩)) ok ?_ ?_
  ·have hlt:¬(l.map f).length < N:=by rw[hlen];omega
   simp only[execOp,ho,Instr.arrayAt,Sem.run_bind,run_underlying hdd,Result.andThen_ok,g1,if_neg hlt,Sem.run_pure]
  ·obtain⟨r1,_,r3⟩:=aQr (l.map f) zs N g3 g6;show Rv0 _ _ _;simp only[Rv0,AV.isAgg,Rc,Bool.false_eq_true,if_false]
   refine⟨b,off,zs.take N,rfl,?_,λj y hj=>g7 j y ?_⟩
   ·simp only[eA,Rd]
    refine⟨by rw[List.length_take,r3,hlen];omega,?_,?_⟩
    ·intro e he;rw[hvl,List.map_take] at he;exact g3 e (List.mem_of_mem_take he)
    ·rw[hvl,List.map_take];exact r1
   ·rw[List.getElem?_take] at hj;split at hj
    ·exact hj
    ·cases hj
end
end Go.UK

namespace Go.UK
open Go Go.Proofs Go.Sort Go.RowKit
set_option linter.all false
variable [bL]
section
variable {P:Program} {ρ:Shelf.Ren}
theorem aQe(L:LaysM.n171 P ρ){f g:Nat}(hf:ρ.f 171=f)(hm:(g,aAy .u64 Lib.pow10Tab)∈bL.l)(hn:P.globalNamed "internal/strconv.uint64pow10" = some g){i:Int}{r:ByteArray}(h:aRb i=some r):FnM P f [] [.v (.int .i64 i)] (eS r) []:=by
 subst hf;obtain⟨rfl,h0,h1⟩:=aWt h;rintro w G bs vs ok ⟨y0,r0,rfl,g0,rfl⟩
 have e0:=bH (uN g0)
 subst e0;refine Calls.mono (Any.strconv_Itoa L i h0 h1 w (aR0 ok hm hn)) ?_;rintro e w' ⟨rfl,k,os,rfl⟩
 have later:cL w (grow (w.drewN k) os):=⟨by rw[size_grow];exact Nat.le_add_right _ _,λb hb=>heap_grow_old _ _ hb,rfl,rfl,rfl⟩
 exact⟨_,bs,rfl,Ext.later later,OK.later later ok,tQ rfl⟩
end
end Go.UK

open Bool renaming and_eq_true→b9
open List renaming append_assoc→an,eq_nil_of_length_eq_zero→dx,getElem?_append_left→bx,getElem?_map→ci,length_append→ai,length_map→cg,length_take→bj,mem_of_mem_take→ce,take_left'→n6
open Nat renaming add_mul→io,beq→bp,blt→nd,eq_of_beq_eq_true→ak,le_of_ble_eq_true→cn,le_refl→ca,min_eq_left→fm,zero_add→fy
namespace Go.UK
open Go
set_option linter.all false
variable [bL]
section
variable {P:Program} {T:TypeId→Option TI} {n:Fr}
theorem aKJ{μ:Mem}(ok:μ.OK){id k:Nat}{j:GJ}{es:List AV}{y:Value}(h:μ.gro id k es.length j y)(hH:μ.H[id]? = some (.gro k es)) :
  (∀e∈es,e.n=k)/\∃a cap,y=aIf a k es.length cap j/\es.length<=cap/\μ.bs[id]? = some a /\
   ((∃b ys T y1 y2,a=some b/\μ.w.heap[b]? = some (.cells ys T (0,0))/\ys.size=cap*k/\ys.toList=y1++y2/\RdL μ.w μ.M es y1)\/(a=none/\cap=es.length/\es=[])):=by
 obtain⟨h1,a,cap,h2,⟨h3,_⟩,h4⟩:=h;obtain⟨_,h5⟩:=h4 k es hH;obtain⟨_,h6,h7⟩:=h5 rfl;obtain⟨g0,g1⟩:=ok.box id a _ h6 hH;refine⟨g0,a,cap,h2,h3,h6,?_⟩
 rcases g1 with ⟨rfl,rfl⟩ | ⟨b,ys,T,rfl,g2,y1,y2,g3,g4⟩
 ·rcases h7 with ⟨b,e,_⟩ | ⟨_,e⟩
  ·cases e
  ·exact .inr ⟨rfl,e,rfl⟩
 ·rcases h7 with ⟨b',e,c,U,q1,q2⟩ | ⟨e,_⟩
  ·cases e;rw[g2] at q1;cases q1;exact .inl ⟨_,ys,T,y1,y2,rfl,g2,q2,g3,g4⟩
  ·cases e
theorem aGU(hT:TOK P T){o:Oper}{t xt e:TypeId}{sz b1:Nat}{z:AV}{ei xi:TI}{p q:Operand}{id k:Nat}{es ys:List AV}{v:AV}{a:Act}{H:List Box}{bs:List (Option Nat)}{w:World}{F:Nat->Nat->Prop}
  (ho:o.op = .call { callee := .builtin .append,args:=#[p,q],argTypes:=#[t,xt] }) (ht:T t=some ⟨sz,b1,z,.sl e⟩) (he:T e=some ei) (hek:ei.size=k) (hxt:T xt=some xi) (hxk:xi.kind.noInt=true)
  (hmok:(⟨H,bs,w,F⟩:Mem).OK) (hv1:Rv ⟨H,bs,w,F⟩ (.gro id k es.length .all) (a.eval p)) (hv2:Rv ⟨H,bs,w,F⟩ v (a.eval q)) (hv:aGV v=some (k,ys)) (hH:H[id]? = some (.gro k es)) (hk0:0 < k) (hb0:ei.bytes≠0)
  (hbound:okA (es.length+ys.length) ei.bytes=true):∃bs' w',eQ P o a ⟨H,bs,w,F⟩ (.gro id k (es++ys).length .all) ⟨H.set id (.gro k (es++ys)),bs',w',F⟩/\((∀b,bs[id]? = some (some b)->∃s,(⟨H,bs,w,F⟩:Mem).rowT b s e)->∀b,bs'[id]? = some (some b)->∃s,(⟨H.set id (.gro k (es++ys)),bs',w',F⟩:Mem).rowT b s e):=by
 obtain⟨hall0,ad,cap,g1,g2,g3,g4⟩:=aKJ hmok (aG5 hv1) hH;obtain⟨zs,k1,k2,k3,k4⟩:=aKP (P:=P) hv rfl hv2;obtain⟨cs,hexec⟩:=mZ ho a.eval;have hbl:bs.length=H.length:=hmok.len;have hidlt:=aX hH;have hall:∀e∈es++ys,e.n=k:=by
  intro e he;rcases List.mem_append.1 he with h' | h'
  ·exact hall0 e h'
  ·exact k3 e h'
 have hcase:∃v' bs' w',(Builtin.append_ #[t,xt] o.type #[a.eval p,a.eval q]).run P w = .ok v' w'/\Ext ⟨H,bs,w,F⟩ ⟨H.set id (.gro k (es++ys)),bs',w',F⟩ /\
   (⟨H.set id (.gro k (es++ys)),bs',w',F⟩:Mem).OK/\Rv ⟨H.set id (.gro k (es++ys)),bs',w',F⟩ (.gro id k (es++ys).length .all) v'/\((∀b,bs[id]? = some (some b)->∃s,(⟨H,bs,w,F⟩:Mem).rowT b s e)->∀b,bs'[id]? = some (some b)->∃s,(⟨H.set id (.gro k (es++ys)),bs',w',F⟩:Mem).rowT b s e):=by
  by_cases hroom:es.length+ys.length<=cap
  ·rcases g4 with ⟨b,cells,U,y1,y2,rfl,q1,q2,q3,q4⟩ | ⟨rfl,q1,rfl⟩
   ·-- at its place
    have hy1:y1.length=es.length*k:=by rw[RdL.length q4,tL hall0]
    have hlk:es.length*k+zs.length<=cap*k:=by
     rw[k2,<- io];exact Nat.mul_le_mul_right _ hroom
    have hsz:es.length*k+zs.length<=cells.size:=by rw[q2];exact hlk
    have hstore:(storeCells ⟨b,es.length*k,none⟩ zs).run P w = .ok () (aZ w b (.cells (jM cells (es.length*k) zs) U (0,0))):=by
     have:=nU (P:=P) zs (es.length*k) 0 w cells q1 (by omega) (RcL.oneCell _ _ (RdL.rc (μ:=⟨H,bs,w,F⟩) _ _ k1))
     simpa using this
    have hle:es.length<=(es++ys).length:=by rw[ai];omega
    have hto:(jM cells (es.length*k) zs).toList=(y1++zs)++cells.toList.drop (es.length*k+zs.length):=by
     rw[oN _ _ _ hsz,q3,<- hy1,n6]
     rfl
    have ext:=Ext.gput (es':=es++ys) (ys':=jM cells (es.length*k) zs) g3 hH q1 hmok hle (nC zs cells _)
    have ok:=OK.gput (es':=es++ys) (ys':=jM cells (es.length*k) zs) g3 hH q1 hmok hle (nC zs cells _) hall hto (RdL.append q4 k1)
    refine⟨.slice (some ⟨b,0,none⟩) (es.length+ys.length) cap,bs,_,?_,ext,ok,aGp ?_,λhty b' hb'=>?_⟩
    rotate_left 2
    ·rw[g3] at hb';cases hb';obtain⟨s,c,e1,_⟩:=hty b g3;dsimp only at e1;rw[q1] at e1;cases e1;exact⟨_,_,bK (cG q1),rfl⟩
    ·rw[g1]
     refine tK hT ht he hxt hxk (zs:=zs) (by rw[hek];exact k4 w rfl) hroom ?_ (by intro h;cases h)
     intro a' e';cases e';rw[pV,hek,fy]
     exact hstore
    ·refine⟨by simpa using hidlt,some b,cap,by rw[ai];rfl,⟨by rw[ai];exact hroom,λe=>by cases e⟩,λk' es' hm=>?_⟩
     dsimp only at hm;rw[bW hH] at hm;cases hm;exact⟨ca _,λ_=>⟨rfl,g3,.inl ⟨b,rfl,_,U,bK (cG q1),by rw[nC];exact q2⟩⟩⟩
   ·-- no room but for nothing
    have hys:ys=[]:=dx (by simp at q1 hroom;omega)
    subst hys;have hzs:zs=[]:=dx (by simpa using k2)
    subst hzs;have hset:H.set id (.gro k ([]++[]))=H:=by
     apply List.ext_getElem?;intro i;by_cases hi:id=i
     ·subst hi;rw[bW hH,hH];rfl
     ·rw[aW hi]
    rw[hset]
    refine⟨a.eval p,bs,w,?_,Ext.refl _,hmok,hv1,λh=>h⟩
    rw[g1]
    have:=tK (P:=P) (w:=w) (w':=w) (base:=none) (sl:=0) (sc:=cap) (ty:=o.type) hT ht he hxt hxk (zs:=[]) (by rw[hek];exact k4 w rfl) hroom (by intro a' _;simp[storeCells]) (λ_=>rfl)
    simpa[aIf] using this
  ·-- to a new block
   have hold:∃old:List Value,RdL w (⟨H,bs,w,F⟩:Mem).M es old/\old.length=es.length*k/\((Builtin.firstCells k es.length (.slice (ad.map λb=>⟨b,0,none⟩) es.length cap)).run P w.drew = .ok old.toArray w.drew):=by
    rcases g4 with ⟨b,cells,U,y1,y2,rfl,q1,q2,q3,q4⟩ | ⟨rfl,q1,rfl⟩
    ·have hy1:y1.length=es.length*k:=by rw[RdL.length q4,tL hall0]
     refine⟨y1,q4,hy1,?_⟩
     simp only[Builtin.firstCells,Option.map_some]
     rw[<- hy1]
     refine tI λj y hy=>?_;have:w.drew.heap=w.heap:=rfl;simp only[World.cell?,this,q1,fy]
     have h2:cells.toList[j]? = some y:=by rw[q3,bx (aX hy)];exact hy
     simpa using h2
    ·exact⟨[],by simp[RdL],by simp,by simp[Builtin.firstCells]⟩
   obtain⟨old,o1,o2,o3⟩:=hold;obtain⟨cap',more,c1,c2,c3⟩:=aAz (P:=P) (w:=w) (base:=ad.map λb=>⟨b,0,none⟩) (sl:=es.length) (sc:=cap) (m:=ys.length) (x:=a.eval q) (zs:=zs) (old:=old) (ty:=o.type) hT ht he hxt hxk (by rw[hek];exact k4 w rfl) (by rw[hek];exact k4 w.drew rfl) (by rw[hek];exact o3) hroom hb0 hbound;have hlt:es.length < (es++ys).length:=by rw[ai];omega
   have hlater:cL w (w.drew.alloc (.cells (old++zs++more).toArray e)):=(cL.drew w).trans (cL.alloc _ _ _)
   have hrowlen:(old++zs++more).length=cap'*k:=by
    simp only[ai,o2,c2,hek]
    rw[k2,<- io,<- io]
    congr 1;omega
   have hnewb:(w.drew.alloc (.cells (old++zs++more).toArray e)).heap[w.heap.size]? = some (.cells (old++zs++more).toArray e (0,0)):=eV (w:=w.drew)
   have ext:=Ext.gmove (F:=F) (es':=es++ys) g3 hH hlater (ca _) hlt;have ok:=OK.gmove (es':=es++ys) g3 hH hmok hlater (ca _) hlt hall hnewb (y1:=old++zs) (y2:=more) (by simp) (RdL.append o1 k1)
   refine⟨.slice (some ⟨w.heap.size,0,none⟩) (es.length+ys.length) cap',_,_,by rw[g1];exact c3,ext,ok,aGp ?_,λ_ b' hb'=>by rw[bW g3] at hb';cases hb';exact⟨_,_,hnewb,rfl⟩⟩
   refine⟨by simpa using hidlt,some w.heap.size,cap',by rw[ai];rfl,⟨by rw[ai];exact c1,λe=>by cases e⟩,λk' es' hm=>?_⟩
   dsimp only at hm;rw[bW hH] at hm;cases hm;exact⟨ca _,λ_=>⟨rfl,bW g3,.inl ⟨w.heap.size,rfl,_,e,hnewb,by simpa using hrowlen⟩⟩⟩
 obtain⟨v',bs',w',c1,c2,c3,c4,c5⟩:=hcase;have hargs:(#[p,q]:Array Operand).map a.eval=#[a.eval p,a.eval q]:=by simp
 refine⟨bs',w',⟨v',?_,c4,c2,c3⟩,c5⟩
 rw[hexec,hargs]
 simp only[builtin,Sem.run_bind,c1,Result.andThen_ok,Sem.run_pure]
theorem aOp(hT:TOK P T){o:Oper}{t xt e:TypeId}{sz b1:Nat}{z:AV}{ei xi:TI}{p q:Operand}{id k:Nat}{es ys:List AV}{v:AV}{a:Act}{H:List Box}{bs:List (Option Nat)}{w:World}{F:Nat->Nat->Prop}
  (ho:o.op = .call { callee := .builtin .append,args:=#[p,q],argTypes:=#[t,xt] }) (ht:T t=some ⟨sz,b1,z,.sl e⟩) (he:T e=some ei) (hek:ei.size=k) (hxt:T xt=some xi) (hxk:xi.kind.noInt=true)
  (hmok:(⟨H,bs,w,F⟩:Mem).OK) (hv1:Rv ⟨H,bs,w,F⟩ (.gro id k es.length .all) (a.eval p)) (hv2:Rv ⟨H,bs,w,F⟩ v (a.eval q)) (hv:aGV v=some (k,ys)) (hH:H[id]? = some (.gro k es)) (hk0:0 < k) (hb0:ei.bytes≠0)
  (hbound:okA (es.length+ys.length) ei.bytes=true):∃bs' w',eQ P o a ⟨H,bs,w,F⟩ (.gro id k (es++ys).length .all) ⟨H.set id (.gro k (es++ys)),bs',w',F⟩:=by
 obtain⟨bs',w',h,_⟩:=aGU hT ho ht he hek hxt hxk hmok hv1 hv2 hv hH hk0 hb0 hbound;exact⟨bs',w',h⟩
def gapE(T:TypeId->Option TI)(o:Oper)(need:Env)(H:List Box):Option (App×Nat):=
 match o.op with
 | .call { callee := .builtin .append,args,argTypes }=>match args.toList,argTypes.toList with
  | [p,q],[t,xt]=>match opd need none p,opd need none q,T t,T xt with
   | some (.gro id k l .all),some v,some ⟨_,_,_,.sl e⟩,some xi=>match T e,aGV v,H[id]? with
    | some ei,some (k',ys),some (.gro k2 es)=>match xi.kind.noInt,bp ei.size k&&(bp k' k&&(bp k2 k&&(nd 0 k && !(bp ei.bytes 0)))) with
     | true,true=>some (⟨id,k,es,ys,ei.bytes⟩,l)
     | _,_=>none
    | _,_,_=>none
   | _,_,_,_=>none
  | _,_=>none
 | _=>none
theorem aPb(hT:TOK P T){o:Oper}{need:Env}{H:List Box}{α:Type}(f:α->AV){id k b:Nat}{l r x:List α}(hx:fL b l r=some x)(hd:dOK n.n o.dst=true)
  (h:gapE T o need H=some (⟨id,k,l.map f,r.map f,b⟩,l.length)):Big P n o need H (.gro id k x.length .all) (H.set id (.gro k (x.map f))):=by
 obtain⟨hxb,rfl⟩:=aRR hx;clear hx;unfold gapE at h;split at h <;> try cases h
 rename_i args tys ho;split at h <;> try cases h
 rename_i p q t xt hargs htys;split at h <;> try cases h
 rename_i id' k' l' v sz b1 z e xi hp hq ht hxt;split at h <;> try cases h
 rename_i ei k'' ys k2 es he hv hHm;split at h <;> cases h;rename_i hni hc;simp only[b9,Bool.not_eq_true'] at hc;obtain⟨c1,c2,c4,c3,c6⟩:=hc;have c1:=ak c1;have c2:=ak c2;have c4:=ak c4;have hk0:0 < k:=by have h':Nat.ble (0+1) k=true:=c3;have:=cn h';omega
 have hb0:ei.bytes≠0:=by intro e0;rw[e0] at c6;cases c6
 subst c2 c4;refine cY hd λa μ ok hH hE=>?_;obtain⟨H0,bs,w,F⟩:=μ;dsimp only at hH;subst hH;have hv1:=aR hE noG hp;have hv2:=aR hE noG hq;rw[arr2 hargs,arr2 htys] at ho;obtain⟨bs',w',hr⟩:=aOp (P:=P) (a:=a) hT ho ht he c1 hxt hni ok (by rw[cg];exact hv1) hv2 hv hHm hk0 hb0 (by rw[cg,cg];exact hxb)
 rw[<- List.map_append,cg] at hr;exact⟨_,hr,rfl⟩
theorem aM9(hT:TOK P T){id k len:Nat}{i:Int}{u:Unit}(hx:aO i len=some u){o:Oper}{need:Env}{H:List Box}(hd:dOK n.n o.dst=true)(h:adrS T o need=some (.gro id k len .all,i,k)) :
  Big P n o need H (.gro id k len (.ptr i.toNat 0)) H:=by
 obtain⟨h0,h1⟩:=aMe hx;unfold adrS at h;split at h <;> try cases h
 rename_i t p ix ho;split at h <;> try cases h
 rename_i q kk i' sz b1 z e' hp hi ht;split at h <;> cases h;rename_i ei he;refine cY hd λa μ ok hH' hE=>⟨μ,?_,hH'⟩
 obtain⟨w1,ad,cap,g1,⟨g2,g3⟩,g4⟩:=aG5 (aR hE noG hp)
 have h2:=bH (aR hE noG hi)
 cases ad with
 | none=>have:=g3 rfl;omega
 | some b=>
  refine eQ.here (y := .pointer (some ⟨b,0+i.toNat*ei.size,none⟩)) ok ?_ (aGp ⟨w1,some b,cap,by simp[aIf],⟨g2,g3⟩,g4⟩)
  simp only[execOp,ho,g1,h2,aIf,Option.map_some,Sem.run_bind,yU hT ht he h0 h1,Result.andThen_ok,Sem.run_pure]
def gldE(T:TypeId->Option TI)(o:Oper)(need:Env)(H:List Box)(ge:AV)(p2:List Nat):Option (List AV×Nat×Nat×AV):=
 match o.op with
 | .load t p=>match opd need none p,T t with
  | some (.gro id k ln (.ptr j off)),some ti=>match H[id]?,loc ge 0 p2 with
   | some (.gro k2 es),some (x,off')=>match bp off off'&&(bp x.n ti.size&&((x.isAgg==ti.kind.agg)&&bp k2 k)) with
    | true=>some (es,ln,j,x)
    | false=>none
   | _,_=>none
  | _,_=>none
 | _=>none
def gldX(T:TypeId->Option TI)(o:Oper)(need:Env)(H:List Box)(ge:AV)(p2:List Nat):AV:=match gldE T o need H ge p2 with | some (_,_,_,x)=>x | none=>default
theorem aST(hT:TOK P T){α:Type}(g:α->AV)(p2:List Nat){l:List α}{j ln:Nat}{e:α}(hx:l[j]? = some e)(hln:ln=l.length){o:Oper}{need:Env}{H:List Box}(hd:dOK n.n o.dst=true)
  (h:gldE T o need H (g e) p2=some (l.map g,ln,j,gldX T o need H (g e) p2)):Big P n o need H (gldX T o need H (g e) p2) H:=by
 subst hln;generalize gldX T o need H (g e) p2=X at *;have hge:(l.map g)[j]? = some (g e):=by rw[ci,hx];rfl
 unfold gldE at h;split at h <;> try cases h
 rename_i t p ho;split at h <;> try cases h
 rename_i id k ln j' off ti hp ht;split at h <;> try cases h
 rename_i k2 es x off' hc hl;split at h <;> cases h;rename_i hb;simp only[b9,beq_iff_eq] at hb;obtain rfl:=ak hb.1;have hk2:=ak hb.2.2.2;obtain rfl:=hk2;refine cY hd λa μ ok hH hE=>⟨μ,?_,hH⟩
 subst hH;obtain⟨ha,ad,cap,g1,g2,g3,g4⟩:=aKJ ok (by rw[cg];exact aG5 (aR hE noG hp)) hc;rcases g4 with ⟨b,cells,U,y1,y2,rfl,q1,q2,q3,q4⟩ | ⟨rfl,q1,e0⟩
 ·obtain⟨z1,z2,z3,r1,r2,r3,r4⟩:=RdL.pick q4 hge;have hz1:z1.length=j*k2:=by
   have hl:=RdL.length r2;rw[tL (λe he=>ha e (ce he)),bj,fm (by have:=aX hge;omega)] at hl;exact hl
  obtain⟨pre,mid,post,s1,s2,s3,_⟩:=rR p2 (g e) 0 off X z2 hl (Rd.rc _ _ r3)
  have hz:∀(q:Nat) v,mid[q]? = some v->μ.w.cell? ⟨b,j*k2+off+q,none⟩=some v:=by
   intro q v hv;simp only[World.cell?,q1]
   have:cells.toList[j*k2+off+q]? = some v:=by
    rw[q3,r1,s1]
    have e:z1++(pre++mid++post)++z3++y2=(z1++pre)++(mid++(post++z3++y2)):=by simp[an]
    rw[e,List.getElem?_append_right (by simp <;> omega),bx (by have:=aX hv;simp <;> omega)]
    rw[show j*k2+off+q - (z1++pre).length=q by simp <;> omega]
    exact hv
   simpa using this
  obtain⟨y,h4,h5⟩:=zO hT ht s3 hb.2.2.1 (ak hb.2.1) hz;refine eQ.here ok ?_ h5;simp[execOp,ho,Instr.loadAt,g1,aIf,Instr.sureAddr,h4]
 ·rw[e0] at hge;simp at hge
def gstE(T:TypeId->Option TI)(o:Oper)(need:Env)(H:List Box)(ge:AV)(p2:List Nat):Option (List AV×Nat×Nat×AV):=
 match o.op with
 | .store t p v=>match opd need none p,opd need none v,T t with
  | some (.gro id k ln (.ptr j off)),some x,some ti=>match H[id]?,loc ge 0 p2 with
   | some (.gro k2 es),some (x0,off')=>match bp off off'&&(bp x.n ti.size&&(fK x&&(bp x0.n x.n&&bp k2 k))),aAP ge p2 (wk x x0) with
    | true,some ge1=>match data ge1 with
     | true=>some (es,ln,j,ge1)
     | false=>none
    | _,_=>none
   | _,_=>none
  | _,_,_=>none
 | _=>none
def aPX(o:Oper)(need:Env):Nat:=match o.op with
 | .store _ p _=>match opd need none p with | some (.gro id _ _ _)=>id | _=>0
 | _=>0
theorem aSz(hT:TOK P T){α:Type}(g:α->AV)(p2:List Nat){l:List α}{j k ln:Nat}{e:α}(hx:l[j]? = some e)(hln:ln=l.length)(e':α){o:Oper}{need:Env}{H:List Box}(hd:aBR o.dst=true)
  (h:gstE T o need H (g e) p2=some (l.map g,ln,j,g e')) (hk:H[aPX o need]? = some (.gro k (l.map g))):Big P n o need H (.v (.bool false)) (H.set (aPX o need) (.gro k ((l.set j e').map g))):=by
 subst hln;have hge:(l.map g)[j]? = some (g e):=by rw[ci,hx];rfl
 have hdst:o.dst=none:=by cases hq:o.dst with | none=>rfl | some _=>rw[hq] at hd;cases hd
 unfold gstE at h;split at h <;> try cases h
 rename_i t p v ho;split at h <;> try cases h
 rename_i id k1 ln j0 off x ti hp hv ht;split at h <;> try cases h
 rename_i k2 es x0 off' hc hl3;split at h <;> try cases h
 rename_i ge1 hb hset;split at h <;> try cases h
 rename_i hdat;have hid:aPX o need=id:=by unfold aPX;rw[ho];simp only;rw[hp]
 rw[hid] at hk ⊢;simp only[b9] at hb;obtain⟨hb0,hb1,hb2,hb3,hb4⟩:=hb;obtain rfl:=ak hb0;have hb1:=ak hb1;have hb3:=ak hb3;have hb4:=ak hb4;subst hb4;rw[hc] at hk;cases hk;intro env hsub;refine vV λctx a w hsat=>?_;obtain⟨bs,hm⟩:=hsat;have hE:=zL hsub hm.env;have hok:=hm.ok;dsimp only at hE hok;obtain⟨ha,ad,cap,g1,g2,g3,g4⟩:=aKJ hok (by rw[cg];exact aG5 (aR hE noG hp)) hc;rcases g4 with ⟨b,cells,U,y1,y2,rfl,q1,q2,q3,q4⟩ | ⟨rfl,q1,e0⟩
 ·have hvc:=(aR hE noG hv).cells (mX hb2)
  have hwk:=aFR x x0 _ hvc;have hn0:(wk x x0).n=x0.n:=by rw[(aQR x x0).1];exact hb3.symm
  have hj:=aX hge;obtain⟨z1,z2,z3,r1,r2,r3,r4⟩:=RdL.pick q4 hge;obtain⟨pre,mid,post,s1,s2,s3,s4⟩:=rR p2 (g e) 0 off x0 z2 hl3 (Rd.rc _ _ r3)
  obtain⟨t1,t2⟩:=s4 _ _ _ hset hn0 hwk;have hnn:(g e').n=k:=by rw[t2];exact ha _ (List.mem_of_getElem? hge)
  have l1:=Rc.length _ _ s3;have l2:(a.eval v).cells.toList.length=mid.length:=by rw[Rc.length _ _ hvc,l1,hb3]
  have hz1:z1.length=j*k:=by
   have hl:=RdL.length r2;rw[tL (λe he=>ha e (ce he)),bj,fm (by omega)] at hl;exact hl
  have hsz:(j*k+off)+0+(a.eval v).cells.toList.length<=cells.size:=by
   have h1:cells.toList.length=cells.size:=by simp
   rw[q3,r1,s1] at h1;simp only[ai] at h1;omega
  have hrun:=nU (P:=P) (T:=U) (b:=b) (a.eval v).cells.toList (j*k+off) 0 w cells q1 hsz (Rc.oneCell _ _ hvc)
  have hsv:=aAs (P:=P) hT ht (v:=a.eval v) (ad:=⟨b,j*k+off,none⟩) (by have h9:(a.eval v).cells.toList.length=(a.eval v).cells.size:=Array.length_toList;have h8:=Rc.length _ _ hvc;omega) hrun;refine⟨aZ w b (.cells (jM cells (j*k+off+0) (a.eval v).cells.toList) U (0,0)),?_,bs,?_⟩
  ·simp[execOp,ho,Instr.storeAt,g1,aIf,Instr.sureAddr,hsv]
  ·rw[hdst]
   show aDh n ctx ⟨env,H.set id (.gro k ((l.set j e').map g))⟩ (a.put none undef) _;have hle:(l.map g).length<=((l.set j e').map g).length:=by simp
   have hmap:(l.set j e').map g=(l.map g).set j (g e'):=by rw[List.map_set]
   have hall:∀q∈(l.set j e').map g,q.n=k:=by
    intro q hq;rw[hmap] at hq;rcases List.mem_or_eq_of_mem_set hq with h' | h'
    ·exact ha q h'
    ·rw[h',hnn]
   have hto:(jM cells (j*k+off+0) (a.eval v).cells.toList).toList=(z1++((pre++(a.eval v).cells.toList++post)++z3))++y2:=by
    rw[oN _ _ _ hsz,q3,r1,s1]
    have e1:List.take (j*k+off+0) (z1++(pre++mid++post)++z3++y2)=z1++pre:=by
     rw[show z1++(pre++mid++post)++z3++y2=(z1++pre)++(mid++(post++(z3++y2))) by simp[an]]
     exact n6 (by rw[ai];omega)
    have e2:List.drop (j*k+off+0+(a.eval v).cells.toList.length) (z1++(pre++mid++post)++z3++y2)=post++(z3++y2):=by
     rw[show z1++(pre++mid++post)++z3++y2=(z1++pre++mid)++(post++(z3++y2)) by simp[an]]
     exact List.drop_left' (by rw[ai,ai];omega)
    rw[e1,e2]
    simp[an]
   have hrd:RdL w (⟨H,bs,w,ctx.F⟩:Mem).M ((l.set j e').map g) (z1++((pre++(a.eval v).cells.toList++post)++z3)):=by
    rw[hmap,aRH hge]
    refine RdL.append r2 ?_;simp only[RdL]
    exact⟨_,z3,rfl,Rc.rd _ _ hdat t1,r4⟩
   exact hm.putn (μ':=⟨H.set id (.gro k ((l.set j e').map g)),bs,aZ w b (.cells (jM cells (j*k+off+0) (a.eval v).cells.toList) U (0,0)),ctx.F⟩) (Ext.gput g3 hc q1 hok hle (nC _ _ _)) (OK.gput g3 hc q1 hok hle (nC _ _ _) hall hto hrd)
 ·rw[e0] at hge;simp at hge
def aQv(s k:Nat)(st:ASt):ASt:=⟨(s,some (none,.gro st.H.length k 0 .all)) :: st.env,st.H++[.gro k []]⟩
theorem aKp{st:ASt}{s k:Nat}(hg:aEq st s=true){ctx:Mem}{a:Act}{w:World}(h:Sat n ctx st a w):Sat n ctx (aQv s k st) a w:=by
 obtain⟨bs,hm⟩:=h;unfold aEq at hg;split at hg
 ·rename_i hg';obtain⟨y,h1,h2⟩:=hm.env.get hg';have e:=bH h2;subst e;have hl:bs.length=st.H.length:=hm.ok.len;have ext:=Ext.snoc (F:=ctx.F) hm.ok.len (cL.refl w) (.gro k []) none (by intro b e;cases e)
  have ok:=OK.snoc hm.ok (cL.refl w) (x := .gro k []) (o:=none) (by intro b e;cases e) ⟨by simp,.inl ⟨rfl,rfl⟩⟩
  refine⟨bs++[none],rfl,ok,hm.ext.trans ext,?_,hm.size,hm.low,hm.defers,hm.nod,λp hp=>(hm.outs p hp).ext ext⟩
  intro i e hl';simp only[aQv,bY] at hl';split at hl'
  ·rename_i hi;have hi:=ak hi;subst hi;cases hl';refine⟨_,h1,?_⟩
   refine aGp ⟨by simp[aQv],none,0,rfl,⟨ca _,λ_=>rfl⟩,λk' es hm=>?_⟩
   simp[aQv] at hm;obtain⟨rfl,rfl⟩:=hm;refine⟨by simp,λ_=>⟨rfl,?_,.inr ⟨rfl,rfl⟩⟩⟩
   rw[<- hl]
   simp
  ·exact(hm.env.ext ext) i e hl'
 ·cases hg
mutual
def glV(id m:Nat):AV->AV
 | .gro i k ln j=>match bp i id with | true => .gro i k m j | false => .gro i k ln j
 | .st n ps => .st n (glVL id m ps)
 | x=>x
def glVL(id m:Nat):List AV->List AV
 | []=>[]
 | p :: ps=>glV id m p :: glVL id m ps
end
def aRW(ss:List Nat)(id m:Nat):Env->Env
 | []=>[]
 | (i,none) :: r=>(i,none) :: aRW ss id m r
 | (i,some (g,x)) :: r=>(i,some (g,match ss.any (bp i) with | true=>glV id m x | false=>x)) :: aRW ss id m r
def aUZ(bs:List Nat)(id m:Nat):Nat->List Box->List Box
 | _,[]=>[]
 | j,x :: r=>(match ss bs j,x with | true,.var c => .var (glV id m c) | _,x=>x) :: aUZ bs id m (j+1) r
where ss (bs:List Nat) (j:Nat):Bool:=bs.any (bp j)
def glS(ss bs:List Nat)(id m:Nat)(st:ASt):ASt:=⟨aRW ss id m st.env,aUZ bs id m 0 st.H⟩
end
def aOj{α:Type}(l:List α)(j:Nat)(e:α):Option (List α):=cond (nd j l.length) (some (l.set j e)) none
theorem aRd{α:Type}{l r:List α}{j:Nat}{e:α}(h:aOj l j e=some r):(∃e0,l[j]? = some e0)/\r=l.set j e/\r.length=l.length:=by
 unfold aOj at h;cases hc:nd j l.length with
 | true=>
  rw[hc] at h;cases h;have h':Nat.ble (j+1) l.length=true:=hc;have:=cn h';exact⟨⟨_,List.getElem?_eq_getElem (by omega)⟩,rfl,by simp⟩
 | false=>rw[hc] at h;cases h
section
variable {P:Program} {T:TypeId→Option TI} {n:Fr}
theorem aRh(hT:TOK P T){α:Type}(g:α->AV){l r:List α}{j k ln:Nat}(e':α)(hx:aOj l j e'=some r)(hln:ln=l.length){o:Oper}{need:Env}{H H':List Box}(hd:aBR o.dst=true)
  (h:∀e,gstE T o need H (g e) []=some (l.map g,ln,j,g e')) (hk:H[aPX o need]? = some (.gro k (l.map g))) (hH:H.set (aPX o need) (.gro k (r.map g))=H'):Big P n o need H (.v (.bool false)) H':=by
 obtain⟨⟨e0,he⟩,rfl,_⟩:=aRd hx;subst hH;exact aSz hT g [] he hln e' hd (h e0) hk
theorem aPJ(hT:TOK P T){o:Oper}{need:Env}{H H':List Box}{α:Type}(f:α->AV){id k b:Nat}{l r x:List α}(hx:fL b l r=some x)(hd:dOK n.n o.dst=true)
  (h:gapE T o need H=some (⟨id,k,l.map f,r.map f,b⟩,l.length)) (hH:H.set id (.gro k (x.map f))=H'):Big P n o need H (.gro id k x.length .all) H':=by
 subst hH;exact aPb hT f hx hd h
end
end Go.UK

