/- The own layer: abstract values, their memory, and the steps of the model over them: for any program. -/
import Derived.Test.YtidamaopieegkaaGreatDoorLib8
import Derived.Shelf.Spec.SlicesGrow
import Derived.RangeFuncRecord
import Derived.RangeFuncIn
import Derived.RangeFuncLeaves
namespace Go.UK
open Go
set_option linter.all false
variable [bJ]
section
variable {P:Program} {n:Fr}
def wkS(d:Nat)(y:AV)(st:ASt):ASt:=
 match get st.env d with
 | some x=>match eE x with
  | true=>⟨(d,some (none,wk x y)) :: st.env,st.H⟩
  | false=>st
 | none=>st
theorem aGV{st:ASt}{d:Nat}{y:AV}{ctx:Mem}{a:Act}{w:World}(h:Sat n ctx st a w):Sat n ctx (wkS d y st) a w:=by
 unfold wkS;split
 ·rename_i x hx;split
  ·rename_i ht;obtain⟨bs,hm⟩:=h;obtain⟨v,h1,h2⟩:=hm.env.get hx;refine⟨bs,{ h:=rfl,ok:=hm.ok,ext:=hm.ext,env := ?_,size:=hm.size,low:=hm.low,defers:=hm.defers,nod:=hm.nod,outs:=hm.outs }⟩
   intro i e hl;simp only[bK] at hl;split at hl
   ·rename_i hi;have hi:=Nat.eq_of_beq_eq_true hi;subst hi;cases hl;refine⟨v,h1,?_⟩
    have h3:=sI h2 ht;have h4:Rv0 ⟨st.H,bs,w,ctx.F⟩ (wk x y) v:=by
     have h5:=hZ (λzs hz=>xG x y zs hz) (jX.1 h3)
     refine jX.2 ?_;unfold vOf at h5 ⊢;rw[(wk_n x y).2]
     exact h5
    show Rv ⟨st.H,bs,w,ctx.F⟩ (wk x y) v;generalize hz:wk x y=z at h4;cases z with
    | tup vs=>
     exfalso;unfold wk at hz;split at hz <;> cases hz <;> simp[eE] at ht
    | _=>exact h4
   ·exact hm.env i e hl
  ·exact h
 ·exact h
end
end Go.UK

namespace Go.UK
open Go Go.Proofs
set_option linter.all false
variable [bJ]
section
variable {P:Program} {T:TypeId→Option TI} {n:Fr}
end
end Go.UK

namespace Go.UK
open Go
set_option linter.all false
variable [bJ]
structure Sk(w w':World):Prop where
 size:w'.heap.size=w.heap.size
 row:∀(b:Nat) c T fr,w.heap[b]? = some (.cells c T fr)->w'.heap[b]? = some (.cells c T fr)
theorem Sk.keeps{w w':World}(h:Sk w w'){M:Nat->Nat->Prop}:∀b o y,w.cell? ⟨b,o,none⟩=some y->¬M b o->w'.cell? ⟨b,o,none⟩=some y/\¬M b o:=by
 intro b o y h1 h2;refine⟨?_,h2⟩
 unfold World.cell? at h1 ⊢;cases hb:w.heap[b]? with
 | none=>simp[hb] at h1
 | some ob=>
  cases ob with
  | cells c T fr=>
   rw[show w'.heap[({ block:=b,off:=o }:Addr).block]? = some (.cells c T fr) from h.row b c T fr hb]
   rw[show w.heap[({ block:=b,off:=o }:Addr).block]? = some (.cells c T fr) from hb] at h1;exact h1
  | _=>simp[hb] at h1
section
variable {H:List Box} {bs:List (Option Nat)} {w w':World} {F:Nat→Nat→Prop}
end
section
variable {P:Program} {T:TypeId→Option TI} {n:Fr}
end
end Go.UK

namespace Go.UK
open Go
set_option linter.all false
variable [bJ]
structure aEM where
 n:Nat
 ps:List Tmp
 assign:Code
 body:Code
def aEM.rcd(s:aEM)(fn:FuncId)(tmps:Array Value)(D:Nat)(k:Option Code):Loop:=
 { state:=match k with | none => .ready | some _ => .done,pending:=k,fn:=fn,tmps:=tmps,params:=s.ps.toArray,assign:=s.assign,body:=s.body,defers:=D }
def ItM(P:Program)(f:FuncId)(s:aEM)(env:Env)(H:List Box)(args:List AV)(ret:AV)(H':List Box)(k:Option Code):Prop:=
 ∀(w:World) (F:Nat->Nat->Prop) (bs:List (Option Nat)) (b:Nat) (vs:List Value) (fn:FuncId) (tmps:Array Value) (D:Nat),
  (⟨H++[.loop (s.rcd fn tmps D none)],bs++[some b],w,F⟩:Mem).OK->tmps.size=s.n->eC ⟨H++[.loop (s.rcd fn tmps D none)],bs++[some b],w,F⟩ env tmps->RvL ⟨H++[.loop (s.rcd fn tmps D none)],bs++[some b],w,F⟩ args vs ->
  Calls P f vs.toArray w λe w'=>∃y bs',e = .returned y/\Ext ⟨H++[.loop (s.rcd fn tmps D none)],bs++[some b],w,F⟩ ⟨H'++[.loop (s.rcd fn tmps D k)],bs',w',F⟩/\(⟨H'++[.loop (s.rcd fn tmps D k)],bs',w',F⟩:Mem).OK/\Rv ⟨H'++[.loop (s.rcd fn tmps D k)],bs',w',F⟩ ret y
section
variable {P:Program} {T:TypeId→Option TI} {n:Fr}
theorem vR{w:World}{b:Nat}{r r':Loop}(h:w.heap[b]? = some (.loop r))(a:Addr):(bN w b (.loop r')).frozen? a=w.frozen? a:=by
 unfold World.frozen? bN;by_cases hb:b=a.block
 ·subst hb;have:=dN h;rw[h]
  simp[this]
 ·simp[Array.getElem?_setIfInBounds_ne hb]
end
end Go.UK

namespace Go.UK
open Go
set_option linter.all false
variable [bJ]
section
variable {P:Program} {T:TypeId→Option TI} {n:Fr}
theorem aDQ{μ:Mem}{env:Env}{tmps:Array Value}(h:eC μ env tmps):∀(t:Env),eC μ (zE env t) tmps
 | []=>by intro i e hl;simp[zE,bK] at hl
 | (j,e0) :: r=>by
  intro i e hl;unfold zE bK at hl;cases hb:Nat.beq j i with
  | false=>rw[hb] at hl;exact aDQ h r i e hl
  | true=>
   rw[hb] at hl;have:=Nat.eq_of_beq_eq_true hb;subst this;dsimp only at hl;unfold cEnt at hl;split at hl <;> try cases hl
   rename_i fl y;split at hl <;> cases hl;rename_i x hx;obtain⟨v,g1,g2⟩:=h.get hx;exact⟨v,g1,aEu g2⟩
theorem yE{f:Nat->Nat}:∀{env:Env} {i:Nat} {e:EV},bK env i=some e->bK (swE f env) i=some (e.1,ren f e.2)
 | [],i,e,h=>by simp[bK] at h
 | (j,none) :: r,i,e,h=>by
  simp only[bK,swE] at h ⊢;cases hb:Nat.beq j i with
  | true=>rw[hb] at h;cases h
  | false=>rw[hb] at h;exact yE h
 | (j,some (g,x)) :: r,i,e,h=>by
  simp only[bK,swE] at h ⊢;cases hb:Nat.beq j i with
  | true=>rw[hb] at h;cases h;rfl
  | false=>rw[hb] at h;exact yE h
theorem aE0{f:Nat->Nat}{μ μ':Mem}(h:sN f μ μ'){env:Env}{tmps:Array Value}(hl:mU μ'.H env=true)(he:eC μ (swE f env) tmps):eC μ' env tmps:=by
 intro i e hlk;obtain⟨y,g1,g2⟩:=he i _ (yE hlk)
 refine⟨y,g1,?_⟩
 have hlow:=kG hl hlk;unfold mX at *;dsimp only at g2;split
 ·rename_i hn;rw[hn] at g2;exact mQ h hlow g2
 ·rename_i j want hn;rw[hn] at g2;exact λhj=>mQ h hlow (g2 hj)
end
end Go.UK

