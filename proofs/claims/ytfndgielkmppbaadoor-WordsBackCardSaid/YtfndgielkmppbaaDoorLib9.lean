/- The own layer: abstract values, their memory, and the steps of the model over them: for any program. -/
import Derived.Test.YtfndgielkmppbaaDoorLib8
import Derived.Shelf.Spec.SlicesGrow
import Derived.RangeFuncRecord
import Derived.RangeFuncIn
import Derived.RangeFuncLeaves
namespace Go.UK
open Go
set_option linter.all false
variable [bA]
section
variable {P:Program} {n:Fr}
end
end Go.UK

namespace Go.UK
open Go Go.Proofs
set_option linter.all false
variable [bA]
section
variable {P:Program} {T:TypeId→Option TI} {n:Fr}
end
end Go.UK

namespace Go.UK
open Go
set_option linter.all false
variable [bA]
structure Sk(w w':World):Prop where
 size:w'.heap.size=w.heap.size
 row:∀(b:Nat) c T fr,w.heap[b]? = some (.cells c T fr)->w'.heap[b]? = some (.cells c T fr)
theorem Sk.keeps{w w':World}(h:Sk w w'){M:Nat->Nat->Prop}:∀b o y,w.cell? ⟨b,o,none⟩=some y->¬M b o->w'.cell? ⟨b,o,none⟩=some y/\¬M b o:=by
 intro b o y h1 h2;refine⟨?_,h2⟩
 unfold World.cell? at h1 ⊢;cases hb:w.heap[b]? with
 | none=>simp[hb] at h1
 | some ob=>
  cases ob with
  | cells c T fr=>
   rw[show w'.heap[({ block:=b,off:=o }:Addr).block]? = some (.cells c T fr) from h.row b c T fr hb]
   rw[show w.heap[({ block:=b,off:=o }:Addr).block]? = some (.cells c T fr) from hb] at h1;exact h1
  | _=>simp[hb] at h1
section
variable {H:List Box} {bs:List (Option Nat)} {w w':World} {F:Nat→Nat→Prop}
end
section
variable {P:Program} {T:TypeId→Option TI} {n:Fr}
end
end Go.UK

namespace Go.UK
open Go
set_option linter.all false
variable [bA]
structure aCQ where
 n:Nat
 ps:List Tmp
 assign:Code
 body:Code
def aCQ.rcd(s:aCQ)(fn:FuncId)(tmps:Array Value)(D:Nat)(k:Option Code):Loop:=
 { state:=match k with | none => .ready | some _ => .done,pending:=k,fn:=fn,tmps:=tmps,params:=s.ps.toArray,assign:=s.assign,body:=s.body,defers:=D }
def ItM(P:Program)(f:FuncId)(s:aCQ)(env:Env)(H:List Box)(args:List AV)(ret:AV)(H':List Box)(k:Option Code):Prop:=
 ∀(w:World) (F:Nat->Nat->Prop) (bs:List (Option Nat)) (b:Nat) (vs:List Value) (fn:FuncId) (tmps:Array Value) (D:Nat),
  (⟨H++[.loop (s.rcd fn tmps D none)],bs++[some b],w,F⟩:Mem).OK->tmps.size=s.n->dM ⟨H++[.loop (s.rcd fn tmps D none)],bs++[some b],w,F⟩ env tmps->RvL ⟨H++[.loop (s.rcd fn tmps D none)],bs++[some b],w,F⟩ args vs ->
  Calls P f vs.toArray w λe w'=>∃y bs',e = .returned y/\Ext ⟨H++[.loop (s.rcd fn tmps D none)],bs++[some b],w,F⟩ ⟨H'++[.loop (s.rcd fn tmps D k)],bs',w',F⟩/\(⟨H'++[.loop (s.rcd fn tmps D k)],bs',w',F⟩:Mem).OK/\Rv ⟨H'++[.loop (s.rcd fn tmps D k)],bs',w',F⟩ ret y
section
variable {P:Program} {T:TypeId→Option TI} {n:Fr}
theorem rH{w:World}{b:Nat}{r r':Loop}(h:w.heap[b]? = some (.loop r))(a:Addr):(bE w b (.loop r')).frozen? a=w.frozen? a:=by
 unfold World.frozen? bE;by_cases hb:b=a.block
 ·subst hb;have:=cQ h;rw[h]
  simp[this]
 ·simp[Array.getElem?_setIfInBounds_ne hb]
end
end Go.UK

namespace Go.UK
open Go
set_option linter.all false
variable [bA]
section
variable {P:Program} {T:TypeId→Option TI} {n:Fr}
theorem aBQ{μ:Mem}{env:Env}{tmps:Array Value}(h:dM μ env tmps):∀(t:Env),dM μ (uP env t) tmps
 | []=>by intro i e hl;simp[uP,bI] at hl
 | (j,e0) :: r=>by
  intro i e hl;unfold uP bI at hl;cases hb:Nat.beq j i with
  | false=>rw[hb] at hl;exact aBQ h r i e hl
  | true=>
   rw[hb] at hl;have:=Nat.eq_of_beq_eq_true hb;subst this;dsimp only at hl;unfold cEnt at hl;split at hl <;> try cases hl
   rename_i fl y;split at hl <;> cases hl;rename_i x hx;obtain⟨v,g1,g2⟩:=h.get hx;exact⟨v,g1,aC4 g2⟩
theorem tE{f:Nat->Nat}:∀{env:Env} {i:Nat} {e:EV},bI env i=some e->bI (swE f env) i=some (e.1,ren f e.2)
 | [],i,e,h=>by simp[bI] at h
 | (j,none) :: r,i,e,h=>by
  simp only[bI,swE] at h ⊢;cases hb:Nat.beq j i with
  | true=>rw[hb] at h;cases h
  | false=>rw[hb] at h;exact tE h
 | (j,some (g,x)) :: r,i,e,h=>by
  simp only[bI,swE] at h ⊢;cases hb:Nat.beq j i with
  | true=>rw[hb] at h;cases h;rfl
  | false=>rw[hb] at h;exact tE h
theorem aCn{f:Nat->Nat}{μ μ':Mem}(h:pL f μ μ'){env:Env}{tmps:Array Value}(hl:kM μ'.H env=true)(he:dM μ (swE f env) tmps):dM μ' env tmps:=by
 intro i e hlk;obtain⟨y,g1,g2⟩:=he i _ (tE hlk)
 refine⟨y,g1,?_⟩
 have hlow:=jT hl hlk;unfold lR at *;dsimp only at g2;split
 ·rename_i hn;rw[hn] at g2;exact mL h hlow g2
 ·rename_i j want hn;rw[hn] at g2;exact λhj=>mL h hlow (g2 hj)
end
end Go.UK

