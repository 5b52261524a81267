/- The own layer: abstract values, their memory, and the steps of the model over them: for any program. -/
import Derived.Test.YtidamaopieegkaaGreatDoorLib10
set_option linter.all false
namespace Go.UK
open Go
set_option linter.all false
variable [bJ]
section
variable {P:Program} {T:TypeId→Option TI} {n:Fr}
end
end Go.UK

namespace Go.UK
open Go Go.Proofs Go.Sort Go.RowKit
set_option linter.all false
variable [bJ]
section
variable {P:Program} {ρ:Shelf.Ren}
end
end Go.UK

namespace Go.UK
open Go
set_option linter.all false
variable [bJ]
section
variable {P:Program} {T:TypeId→Option TI} {n:Fr}
def aDk{α:Type}(N:Nat)(l:List α):Option (Vector α N):=if h:N<=l.length then some ⟨(l.take N).toArray,by simp;omega⟩ else none
theorem aHx{α:Type}{N:Nat}{l:List α}{v:Vector α N}(h:aDk N l=some v):N<=l.length/\v.toList=l.take N:=by
 unfold aDk at h;split at h
 ·rename_i hn;cases h;exact⟨hn,by simp⟩
 ·cases h
def s2aE(T:TypeId->Option TI)(o:Oper)(need:Env):Option (Nat×List AV):=
 match o.op with
 | .sliceToArrayPointer t x=>match opd need none x,T t with
  | some v,some ⟨_,_,_,.arr N _⟩=>match iY v with
   | some (1,es)=>some (N,es)
   | _=>none
  | _,_=>none
 | _=>none
theorem aGK(hT:TOK P T){α:Type}(f:α->AV){N:Nat}(l:List α)(v:Vector α N)(hv:aDk N l=some v)(hN:Nat.blt 0 N=true){o:Oper}{need:Env}{H:List Box}(hd:dOK n.n o.dst=true)(h:s2aE T o need=some (N,l.map f)) :
  Big P n o need H (.im (eA N 1 f v)) H:=by
 obtain⟨hle,hvl⟩:=aHx hv;have hN:0 < N:=by have:Nat.ble (0+1) N=true:=hN;have:=Nat.le_of_ble_eq_true this;omega
 unfold s2aE at h;split at h <;> try cases h
 rename_i t x ho;split at h <;> try cases h
 rename_i av sz b1 z N' e hx ht;split at h <;> try cases h
 rename_i es hes;refine dP hd λa μ ok hH hE=>⟨μ,?_,hH⟩
 obtain⟨ad,cap,g1,g2,g3,g4⟩:=tA (jF hes (aR hE noG hx))
 obtain⟨dd,hdd,hf⟩:=(hT t _ ht).kind;simp only[TK.fits] at hf;subst hf;have hlen:(l.map f).length=l.length:=List.length_map _;rcases g4 with g4 | ⟨b,off,zs,g5,g6,g7⟩
 ·have:l=[]:=List.map_eq_nil_iff.1 g4;rw[this] at hle;simp at hle;omega
 ·subst g5;refine dF.here (y := .pointer (some ⟨b,off,none⟩)) ok ?_ ?_
  ·have hlt:¬(l.map f).length < N:=by rw[hlen];omega
   simp only[execOp,ho,Instr.arrayAt,Sem.run_bind,run_underlying hdd,Result.andThen_ok,g1,if_neg hlt,Sem.run_pure]
  ·obtain⟨r1,_,r3⟩:=aEZ (l.map f) zs N g3 g6;show Rv0 _ _ _;simp only[Rv0,AV.isAgg,Rc,Bool.false_eq_true,if_false]
   refine⟨b,off,zs.take N,rfl,?_,λj y hj=>g7 j y ?_⟩
   ·simp only[eA,Rd]
    refine⟨by rw[List.length_take,r3,hlen];omega,?_,?_⟩
    ·intro e he;rw[hvl,List.map_take] at he;exact g3 e (List.mem_of_mem_take he)
    ·rw[hvl,List.map_take];exact r1
   ·rw[List.getElem?_take] at hj;split at hj
    ·exact hj
    ·cases hj
end
end Go.UK

namespace Go.UK
open Go Go.Proofs Go.Sort Go.RowKit
set_option linter.all false
variable [bJ]
section
variable {P:Program} {ρ:Shelf.Ren}
end
end Go.UK

namespace Go.UK
open Go
set_option linter.all false
variable [bJ]
section
variable {P:Program} {T:TypeId→Option TI} {n:Fr}
mutual
def glV(id m:Nat):AV->AV
 | .gro i k ln j=>match Nat.beq i id with | true => .gro i k m j | false => .gro i k ln j
 | .st n ps => .st n (glVL id m ps)
 | x=>x
def glVL(id m:Nat):List AV->List AV
 | []=>[]
 | p :: ps=>glV id m p :: glVL id m ps
end
def aFS(ss:List Nat)(id m:Nat):Env->Env
 | []=>[]
 | (i,none) :: r=>(i,none) :: aFS ss id m r
 | (i,some (g,x)) :: r=>(i,some (g,match ss.any (Nat.beq i) with | true=>glV id m x | false=>x)) :: aFS ss id m r
def aHC(bs:List Nat)(id m:Nat):Nat->List Box->List Box
 | _,[]=>[]
 | j,x :: r=>(match ss bs j,x with | true,.var c => .var (glV id m c) | _,x=>x) :: aHC bs id m (j+1) r
where ss (bs:List Nat) (j:Nat):Bool:=bs.any (Nat.beq j)
def glS(ss bs:List Nat)(id m:Nat)(st:ASt):ASt:=⟨aFS ss id m st.env,aHC bs id m 0 st.H⟩
end
section
variable {P:Program} {T:TypeId→Option TI} {n:Fr}
end
end Go.UK

