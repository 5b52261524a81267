/- The own layer: abstract values, their memory, and the steps of the model over them: for any program. -/
import Derived.Test.YtmmabhkichiikaaGreatLib13
import Derived.Shelf.RegionOpenPlain
import Derived.Lib.Strings
import Derived.Lib.Slices
import Derived.Lib.Walk
import Derived.Lib.Builder
import Derived.Lib.AppendStr
import Derived.Lib.UnsafeStr
import Derived.Lib.ItoaLen
import Derived.WalkKit
import Derived.Laws.Externs
import Derived.Laws.BitsLemmas
open Nat renaming le_of_ble_eq_true→bg
open Option renaming map_eq_some_iff→bp
namespace Go.UK
open Go
set_option linter.all false
variable [bS]
def aQS(n:Fr)(i j:Nat)(st:ASt):Bool:=(match st.H[i]? with | some (.tail _)=>true | _=>false)&&(Nat.ble n.lo j&&(Nat.blt i st.H.length&&(Nat.blt j st.H.length&&(match st.H[j]? with | some .dead=>(match n.outs with | []=>true | _=>false) | _=>false))))
def aQC(st:ASt):ASt:=⟨st.env,st.H++[.dead]⟩
def mvS(i:Nat)(st:ASt):ASt:=swS i st.H.length (aQC st)
section
variable {P:Program} {n:Fr}
theorem aRg{st:ASt}{ctx:Mem}{a:Act}{w:World}(h:Sat n ctx st a w):Sat n ctx (aQC st) a w:=by
 obtain⟨bs,hm⟩:=h;have ext:=Ext.snoc (F:=ctx.F) hm.ok.len (dG.refl w) .dead none (by intro b e;cases e)
 have ok:=OK.snoc hm.ok (dG.refl w) (x := .dead) (o:=none) (by intro b e;cases e) trivial;exact⟨bs++[none],rfl,ok,hm.ext.trans ext,hm.env.ext ext,hm.size,hm.low,hm.defers,hm.nod,λp hp=>(hm.outs p hp).ext ext⟩
theorem aUV{st:ASt}{i j:Nat}(hk:aQS n i j st=true){ctx:Mem}{a:Act}{w:World}(h:Sat n ctx st a w):Sat n ctx (swS i j st) a w:=by
 obtain⟨bs,hm⟩:=h;obtain⟨env,H⟩:=st;unfold aQS at hk;simp only[Bool.and_eq_true] at hk;obtain⟨c1,c2,c3,c4,c5⟩:=hk;obtain⟨mt,c1⟩:∃m,H[i]? = some (.tail m):=by
  split at c1
  ·rename_i m hm';exact⟨m,hm'⟩
  ·cases c1
 obtain⟨cd,c5⟩:H[j]? = some .dead/\_:=by
  split at c5
  ·rename_i hd;exact⟨hd,c5⟩
  ·cases c5
 have c2:=bg c2;have c3:i < H.length:=bg c3;have c4:j < H.length:=bg c4;have hl:bs.length=H.length:=hm.ok.len;have hctx:=hm.low;have gH:∀k:Nat,((swl i j H).map (iK (sw i j)))[k]? = (H[sw i j k]?).map (iK (sw i j)):=λk=>by rw[List.getElem?_map,aIf c3 c4]
 have gB:∀k:Nat,(swl i j bs)[k]? = bs[sw i j k]? := λk=>aIf (by omega) (by omega) k;have fixd:∀k:Nat,k < ctx.H.length->k≠i->sw i j k=k:=λk hk hi=>by unfold sw;rw[qS hi,qS (by omega)]
 have gi:((swl i j H).map (iK (sw i j)))[i]? = some .dead:=by rw[gH,show sw i j i=j by unfold sw;simp,cd];rfl
 have ownsub:∀b o,(⟨(swl i j H).map (iK (sw i j)),swl i j bs,w,ctx.F⟩:Mem).own b o->(⟨H,bs,w,ctx.F⟩:Mem).own b o:=by
  rintro b o ⟨k,h1,h2⟩
  dsimp only at h1 h2;rw[gB] at h1;rw[gH] at h2;refine⟨sw i j k,h1,?_⟩
  rcases h2 with ⟨x,h2,h3⟩ | ⟨m,h2,h3⟩
  ·obtain⟨y,g1,g2⟩:=bp.1 h2;subst g2;rw[zA] at h3;exact .inl ⟨y,g1,h3⟩
  ·obtain⟨y,g1,g2⟩:=bp.1 h2;cases y <;> simp only[iK] at g2 <;> cases g2;exact .inr ⟨m,g1,h3⟩
 have msub:∀b o,(⟨(swl i j H).map (iK (sw i j)),swl i j bs,w,ctx.F⟩:Mem).M b o->(⟨H,bs,w,ctx.F⟩:Mem).M b o:=by
  rintro b o (h | h)
  ·exact .inl h
  ·exact .inr (ownsub b o h)
 have back:aJU (sw i j) ⟨H,bs,w,ctx.F⟩ ⟨(swl i j H).map (iK (sw i j)),swl i j bs,w,ctx.F⟩:={
  w:=rfl,M:=msub
  box:=λk x hx=>by dsimp only at hx ⊢;rw[gH,aHL,hx];rfl
  bs:=λk o ho=>by dsimp only at ho ⊢;rw[gB,aHL,ho] }
 have keeps:=back.keeps;have ok:(⟨(swl i j H).map (iK (sw i j)),swl i j bs,w,ctx.F⟩:Mem).OK:={
  foreign:=hm.ok.foreign
  glob:=λg hg=>⟨(hm.ok.glob g hg).1,λo hM=>(hm.ok.glob g hg).2 o (msub _ _ hM)⟩
  clear:=λb o ho=>hm.ok.clear b o (ownsub b o ho)
  len:=by simp only[List.length_map,aId];exact hl
  box:=λk o x ho hx=>by
   dsimp only at ho hx;rw[gB] at ho;rw[gH] at hx;obtain⟨y,g1,g2⟩:=bp.1 hx;subst g2;have hb:=hm.ok.box _ o y ho g1;cases y with
   | dead=>trivial
   | var c=>
    obtain⟨b,ys,TT,e1,e2,e3⟩:=hb;exact⟨b,ys,TT,e1,e2,Rc.back back _ _ e3⟩
   | tail m=>exact hb
   | mp c0=>
    cases c0 with
    | kv kvs=>
     obtain⟨b,es',clock,e1,e2,e3⟩:=hb;exact⟨b,es',clock,e1,e2,e3.mono keeps⟩
    | it _ _=>exact hb
    | mi m=>
     obtain⟨b,c,t,e1,e2,e3⟩:=hb;exact⟨b,c,t,e1,e2,Rc.back back (.mp m) _ e3⟩
   | loop r=>exact hb
   | gro q es=>
    obtain⟨g0,g1 | ⟨b,ys,U,g1,g2,y1,y2,g3,g4⟩⟩:=hb
    ·exact⟨g0,.inl g1⟩
    ·exact⟨g0,.inr ⟨b,ys,U,g1,g2,y1,y2,g3,RdL.mono keeps _ _ g4⟩⟩
  apart:=λp q b x y h1 h2 h3 h4 h5 h6=>by
   dsimp only at h1 h2 h3 h4;rw[gB] at h1 h2;rw[gH] at h3 h4;obtain⟨x0,g1,g2⟩:=bp.1 h3;obtain⟨y0,g3,g4⟩:=bp.1 h4;have:=hm.ok.apart _ _ b x0 y0 h1 h2 g1 g3 (λe=>h5 (by rw[<- g2,e];rfl)) (λe=>h6 (by rw[<- g4,e];rfl))
   have:=congrArg (sw i j) this;rwa[aHL,aHL] at this }
 have ext:Ext ctx ⟨(swl i j H).map (iK (sw i j)),swl i j bs,w,ctx.F⟩:={
  size:=hm.ext.size
  len:=by simp only[List.length_map,aId];exact hm.ext.len
  cells:=hm.ext.cells
  blocks:=hm.ext.blocks
  mm:=λb o hb ho=>hm.ext.mm b o hb (ownsub b o ho)
  same:=rfl
  vars:=λk c hc=>by
   obtain⟨⟨c',g1⟩,g2⟩:=hm.ext.vars k c hc;have hki:k≠i:=by intro e;subst e;dsimp only at g1;rw[c1] at g1;cases g1
   have hk:=fixd k (aZ hc) hki;refine⟨⟨ren (sw i j) c',?_⟩,?_⟩
   ·dsimp only at g1 ⊢;rw[gH,hk,g1];rfl
   ·dsimp only at g2 ⊢;rw[gB,hk];exact g2
  maps:=λk c hc=>by
   obtain⟨⟨c',g1⟩,g2⟩:=hm.ext.maps k c hc;have hki:k≠i:=by intro e;subst e;dsimp only at g1;rw[c1] at g1;cases g1
   have hk:=fixd k (aZ hc) hki;refine⟨⟨renM (sw i j) c',?_⟩,?_⟩
   ·dsimp only at g1 ⊢;rw[gH,hk,g1];rfl
   ·dsimp only at g2 ⊢;rw[gB,hk];exact g2
  loops:=λk c hc=>by
   obtain⟨⟨c',g1⟩,g2⟩:=hm.ext.loops k c hc;have hki:k≠i:=by intro e;subst e;dsimp only at g1;rw[c1] at g1;cases g1
   have hk:=fixd k (aZ hc) hki;refine⟨⟨c',?_⟩,?_⟩
   ·dsimp only at g1 ⊢;rw[gH,hk,g1];rfl
   ·dsimp only at g2 ⊢;rw[gB,hk];exact g2
  toks:=λk m' hi hx=>by
   have hki:k≠i:=by intro e;subst e;dsimp only at hx;rw[gi] at hx;cases hx
   have hk:=fixd k hi hki;dsimp only at hx;rw[gH,hk] at hx;obtain⟨y,g1,g2⟩:=bp.1 hx;cases y <;> simp only[iK] at g2 <;> cases g2;obtain⟨m,q1,q2,q3⟩:=hm.ext.toks k m' hi g1;refine⟨m,q1,q2,λe=>?_⟩
   obtain⟨r1,r2⟩:=q3 e;refine⟨?_,r2⟩
   dsimp only at r1 ⊢;rw[gB,hk];exact r1
  gros:=λk q es' hi hx=>by
   have hki:k≠i:=by intro e;subst e;dsimp only at hx;rw[gi] at hx;cases hx
   have hk:=fixd k hi hki;dsimp only at hx;rw[gH,hk] at hx;obtain⟨y,g1,g2⟩:=bp.1 hx;cases y <;> simp only[iK] at g2 <;> cases g2;obtain⟨m,q1,q2,q3⟩:=hm.ext.gros k q es' hi g1;refine⟨m,q1,q2,λe=>?_⟩
   obtain⟨r1,r2⟩:=q3 e;refine⟨?_,r2⟩
   dsimp only at r1 ⊢;rw[gB,hk];exact r1
  os:=hm.ext.os
  tape:=hm.ext.tape
  output:=hm.ext.output }
 refine⟨swl i j bs,{ h:=rfl,ok:=ok,ext:=ext,env := ?_,size:=hm.size,low:=hm.low,defers:=hm.defers,nod:=hm.nod,outs:=λp hp=>?_ }⟩
 ·intro k e he;obtain⟨x,g1,g2⟩:=aIT he;obtain⟨y,g3,g4⟩:=hm.env k _ g1;refine⟨y,g3,?_⟩
  unfold aAg at *;rw[g2]
  split
  ·rename_i hn;rw[hn] at g4;exact aF1 back g4
  ·rename_i q want hn;rw[hn] at g4;exact λhj=>aF1 back (g4 hj)
 ·split at c5
  ·rename_i ho;rw[ho] at hp;cases hp
  ·cases c5
theorem aWO{st:ASt}{i:Nat}(hk:aQS n i st.H.length (aQC st)=true){ctx:Mem}{a:Act}{w:World}(h:Sat n ctx st a w):Sat n ctx (mvS i st) a w:=aUV hk (aRg h)
end
section
variable {P:Program} {T:TypeId→Option TI} {im:Nat→Bool} {n:Fr} {Q:Exit→ASt→Prop} {p:Pt}
theorem At.mv{π:Prop}(k i:Nat)(h:π->At P T im n Q (yU (Go.UK.adv T im [] n.n k p) (mvS i (cJ (Go.UK.adv T im [] n.n k p)))))(hk:aQS n i (cJ (Go.UK.adv T im [] n.n k p)).H.length (aQC (cJ (Go.UK.adv T im [] n.n k p)))=true:=by kernel_rfl)(e0:π):At P T im n Q p:=At.t k (λhx=>aWO hk hx) h e0
end
end Go.UK

namespace Go.UK
open Go Go.RowKit
set_option linter.all false
variable [bS]
section
variable {P:Program} {T:TypeId→Option TI} {n:Fr}
end
end Go.UK

namespace Go.UK
open Go Go.Proofs Go.Sort Go.RowKit
set_option linter.all false
variable [bS]
end Go.UK

namespace Go.UK
open Go
set_option linter.all false
variable [bS]
section
variable {P:Program} {T:TypeId→Option TI} {im:Nat→Bool} {n:Fr} {Q:Exit→ASt→Prop} {p:Pt}
def RetC(n:Fr)(T:TypeId->Option TI)(lo:Nat)(rs:List ResultVar)(ret:AV)(H':List Box)(e:Exit)(st:ASt):Prop:=
 ∃st',(∀{ctx:Mem} {a:Act} {w:World},Sat n ctx st a w->Sat n ctx st' a w)/\aFK T lo rs ret H' e st'
instance retTo_C {lo:Nat} {rs:List ResultVar} {ret:AV} {H':List Box}:aGN (RetC n T lo rs ret H') (RetC n T lo rs ret H'):=⟨λ_ h=>h⟩
end
end Go.UK

namespace Go.UK
open Go
set_option linter.all false
variable [bS]
section
variable {P:Program} {T:TypeId→Option TI} {n:Fr}
end
end Go.UK

