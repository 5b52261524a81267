/- The own layer: abstract values, their memory, and the steps of the model over them: for any program. -/
import Derived.Test.YtbfieohdmihfpaaGreatDoorLib13
import Derived.Shelf.RegionOpenPlain
import Derived.Lib.Strings
import Derived.Lib.Slices
import Derived.Lib.Walk
import Derived.Lib.Builder
import Derived.Lib.AppendStr
import Derived.Lib.UnsafeStr
import Derived.Lib.ItoaLen
import Derived.WalkKit
import Derived.Laws.Externs
import Derived.Laws.BitsLemmas
namespace Go.UK
open Go
set_option linter.all false
variable [bL]
section
variable {P:Program} {n:Fr}
end
section
variable {P:Program} {T:TypeId→Option TI} {im:Nat→Bool} {n:Fr} {Q:Exit→ASt→Prop} {p:Pt}
end
end Go.UK

namespace Go.UK
open Go Go.RowKit
set_option linter.all false
variable [bL]
section
variable {P:Program} {T:TypeId→Option TI} {n:Fr}
end
end Go.UK

open List renaming length_append→ai,length_cons→dc
namespace Go.UK
open Go Go.Proofs Go.Sort Go.RowKit
set_option linter.all false
variable [bL]
def aFP(l:List Int):List UInt8:=l.flatMap λx=>32 :: Lib.itoa x
def aAX(first:ByteArray)(l:List Int):List UInt8:=first.data.toList++aFP l
theorem aL8(l:List Int)(x:Int):aFP (l++[x])=aFP l++32 :: Lib.itoa x:=by unfold aFP;rw[List.flatMap_append];simp
theorem aOv(x:Int):(⟨#[32]⟩:ByteArray)++⟨(Lib.itoa x).toArray⟩=⟨(32 :: Lib.itoa x).toArray⟩:=by
 rw[ByteArray.mk_append_mk];simp
theorem aKt(x:Int)(h0:-9223372036854775808<=x)(h1:x<=9223372036854775807):(Lib.itoa x).length<=100:=by
 unfold Lib.itoa;split
 ·rw[dc,Lib.decDigits_length]
  have:=Lib.nDigits_le20 x.natAbs (by omega)
  omega
 ·rw[Lib.decDigits_length]
  have:=Lib.nDigits_le20 x.toNat (by omega)
  omega
theorem aIw : ∀(l:List Int),(∀x∈l,-9223372036854775808<=x/\x<=9223372036854775807)->(aFP l).length<=200*l.length
 | [],_=>by simp[aFP]
 | x :: l,h=>by
  have h1:=h x List.mem_cons_self;have h2:=aKt x h1.1 h1.2;have h3:=aIw l λy hy=>h y (List.mem_cons_of_mem _ hy)
  unfold aFP at h3 ⊢;rw[List.flatMap_cons,ai,dc,dc]
  omega
theorem aPH(first:ByteArray)(l:List Int)(h:∀x∈l,-9223372036854775808<=x/\x<=9223372036854775807)(k:Nat):(aAX first (l.take k)).length<=first.size+200*k:=by
 have:=aIw (l.take k) λx hx=>h x (List.mem_of_mem_take hx)
 unfold aAX;rw[ai]
 have e:first.data.toList.length=first.size:=rfl
 have:=List.length_take_le k l;omega
theorem aGG{w:World}{b:Nat}{o:Obj}(h:w.heap[b]? = some o):b < w.heap.size:=by
 refine Nat.lt_of_not_le λq=>?_;rw[Array.getElem?_eq_none q] at h;cases h
theorem aM0{B:Nat}(w:World)(k:Nat)(os:Array Obj)(h:B<=w.heap.size):RowKit.Below B w (grow (w.drewN k) os):=⟨rfl,rfl,rfl,by simp,λi hi=>heap_grow_old _ _ (by show i < w.heap.size;omega)⟩
theorem aQq{w:World}{B e size n:Nat}{v:Value}{xs:List Value}(k:Nat)(os:Array Obj)(h:w.ownsRow B e size v n xs):(grow (w.drewN k) os).ownsRow B e size v n xs:=by
 refine⟨h.1,?_⟩
 rcases h.2 with h | ⟨g,cap,cur,h1,h2,h3,h4⟩
 ·exact .inl h
 ·exact .inr ⟨g,cap,cur,h1,h2,(heap_grow_old _ _ (aGG h3)).trans h3,h4⟩
def aPp(x:Int):Bool:=decide (-9223372036854775808<=x)&&decide (x<=9223372036854775807)
def aLe(first:ByteArray)(l:List Int):Option ByteArray:=cond (decide (first.size≠0)&&(decide (first.size<=1000000)&&(decide (l.length<=100000)&&l.all aPp))) (some ⟨(aAX first l).toArray⟩) none
theorem aSg{first:ByteArray}{l:List Int}{r:ByteArray}(h:aLe first l=some r):r=⟨(aAX first l).toArray⟩/\first.size≠0/\first.size<=1000000/\l.length<=100000/\∀x∈l,-9223372036854775808<=x/\x<=9223372036854775807:=by
 unfold aLe at h;cases hc:(decide (first.size≠0)&&(decide (first.size<=1000000)&&(decide (l.length<=100000)&&l.all aPp))) with
 | false=>rw[hc] at h;cases h
 | true=>
  rw[hc] at h;simp only[Bool.and_eq_true,decide_eq_true_eq,List.all_eq_true,aPp] at hc;exact⟨(Option.some.inj h).symm,hc.1,hc.2.1,hc.2.2.1,hc.2.2.2⟩
theorem aLU{w:World}{M:Nat->Nat->Prop}:∀(l:List Int) {zs:List Value},RdL w M (l.map j64) zs->zs=l.map (Value.int .i64)
 | [],_,h=>h
 | x :: l,zs,h=>by
  obtain⟨y1,y2,rfl,h1,h2⟩:=h;rw[aLU l h2,h1.1]
  rfl
end Go.UK

namespace Go.UK
open Go
set_option linter.all false
variable [bL]
section
variable {P:Program} {T:TypeId→Option TI} {im:Nat→Bool} {n:Fr} {Q:Exit→ASt→Prop} {p:Pt}
def RetC(n:Fr)(T:TypeId->Option TI)(lo:Nat)(rs:List ResultVar)(ret:AV)(H':List Box)(e:Exit)(st:ASt):Prop:=
 ∃st',(∀{ctx:Mem} {a:Act} {w:World},Sat n ctx st a w->Sat n ctx st' a w)/\aDg T lo rs ret H' e st'
instance retTo_C {lo:Nat} {rs:List ResultVar} {ret:AV} {H':List Box}:aDX (RetC n T lo rs ret H') (RetC n T lo rs ret H'):=⟨λ_ h=>h⟩
end
end Go.UK

namespace Go.UK
open Go
set_option linter.all false
variable [bL]
section
variable {P:Program} {T:TypeId→Option TI} {n:Fr}
end
end Go.UK

