/- The own layer: abstract values, their memory, and the steps of the model over them: for any program. -/
import Derived.Test.YtbfieohdmihfpaaGreatDoorLib8
import Derived.Shelf.Spec.SlicesGrow
import Derived.RangeFuncRecord
import Derived.RangeFuncIn
import Derived.RangeFuncLeaves
namespace Go.UK
open Go
set_option linter.all false
variable [bL]
section
variable {P:Program} {n:Fr}
def wkS(d:Nat)(y:AV)(st:ASt):ASt:=
 match get st.env d with
 | some x=>match fK x with
  | true=>⟨(d,some (none,wk x y)) :: st.env,st.H⟩
  | false=>st
 | none=>st
theorem aSh{st:ASt}{d:Nat}{y:AV}{ctx:Mem}{a:Act}{w:World}(h:Sat n ctx st a w):Sat n ctx (wkS d y st) a w:=by
 unfold wkS;split
 ·rename_i x hx;split
  ·rename_i ht;obtain⟨bs,hm⟩:=h;obtain⟨v,h1,h2⟩:=hm.env.get hx;refine⟨bs,{ h:=rfl,ok:=hm.ok,ext:=hm.ext,env := ?_,size:=hm.size,low:=hm.low,defers:=hm.defers,nod:=hm.nod,outs:=hm.outs }⟩
   intro i e hl;simp only[bY] at hl;split at hl
   ·rename_i hi;have hi:=Nat.eq_of_beq_eq_true hi;subst hi;cases hl;refine⟨v,h1,?_⟩
    have h3:=yO h2 ht;have h4:Rv0 ⟨st.H,bs,w,ctx.F⟩ (wk x y) v:=by
     have h5:=mS (λzs hz=>aFR x y zs hz) (rG.1 h3)
     refine rG.2 ?_;unfold vOf at h5 ⊢;rw[(aQR x y).2]
     exact h5
    show Rv ⟨st.H,bs,w,ctx.F⟩ (wk x y) v;generalize hz:wk x y=z at h4;cases z with
    | tup vs=>
     exfalso;unfold wk at hz;split at hz <;> cases hz <;> simp[fK] at ht
    | _=>exact h4
   ·exact hm.env i e hl
  ·exact h
 ·exact h
end
end Go.UK

namespace Go.UK
open Go Go.Proofs
set_option linter.all false
variable [bL]
def aGZ(α:Type)(b:Nat)(n:Int):Option (List α):=cond (decide (0<=n)&&(decide (n<=4611686018427387904)&&decide (n*b<=140737488355328))) (some []) none
theorem aTd{α:Type}{b:Nat}{n:Int}{r:List α}(h:aGZ α b n=some r):r=[]/\0<=n/\n<=4611686018427387904/\n*b<=140737488355328:=by
 unfold aGZ at h;cases hc:(decide (0<=n)&&(decide (n<=4611686018427387904)&&decide (n*b<=140737488355328))) with
 | true=>
  rw[hc] at h;simp only[cond_true,Option.some.injEq] at h;simp only[Bool.and_eq_true,decide_eq_true_eq] at hc;exact⟨h.symm,hc.1,hc.2.1,hc.2.2⟩
 | false=>rw[hc] at h;cases h
theorem aQK{α:Type}{b:Nat}{n:Int}(h0:0<=n)(h1:n<=4611686018427387904)(h2:n*b<=140737488355328):aGZ α b n=some []:=by
 unfold aGZ;rw[show(decide (0<=n)&&(decide (n<=4611686018427387904)&&decide (n*b<=140737488355328)))=true by simp[h0,h1,h2]]
 rfl
theorem aHt{α:Type}{F:α->AV}{k:Nat}{a:Option Addr}{cap:Nat}{bs:List (Option Nat)}{w:World}{G:Nat->Nat->Prop}(h:(∃b,bs[0]? = some (some b)/\a=some ⟨b,0,none⟩/\(⟨[.tail 0],bs,w,G⟩:Mem).row b (cap*k))\/(cap=0)) :
  Rv ⟨[.tail 0],bs,w,G⟩ (eO 0 k F ([]:List α)) (.slice a 0 cap):=by
 show Rv0 _ (.own 0 k 0 []) _;simp only[Rv0,AV.isAgg,Rc,Bool.false_eq_true,if_false]
 refine⟨rfl,a,cap,rfl,Nat.zero_le _,by simp,.inl trivial,by simp,λm hm=>?_⟩
 simp at hm;subst hm;exact⟨by simp,λ_=>by simpa using h⟩
theorem aS6{P:Program}{ρ:Shelf.Ren}(L:Lays8.n4 P ρ){f:FuncId}(hf:ρ.f 4=f){α:Type}(F:α->AV){k b:Nat}{i0:TypeInfo}{z:Value}(hi0:P.info? (ρ.t 25)=some i0)(hz:i0.zero=some z)(hzl:z.cells.size=i0.size)(hk:i0.size=k)(hb:i0.bytes=b)(hk0:0 < k)
  {n:Int} {r:List α} (h:aGZ α b n=some r):FnM P f [] [.v (.slice none 0 0),.v (.int .i64 n)] (eO 0 k F r) [.tail (r.length*k)]:=by
 obtain⟨rfl,h0,h1,h2⟩:=aTd h;subst hf hk hb;rintro w G bs vs ok ⟨y0,r0,rfl,g0,y1,r1,rfl,g1,rfl⟩
 have hbs:bs=[]:=List.eq_nil_of_length_eq_zero ok.len;subst hbs;have e0:=bH (uN g0)
 have e1:=bH (uN g1)
 subst e0 e1;have hz0:([]:List α).length*i0.size=0:=by simp
 rw[hz0]
 obtain⟨m,rfl⟩:=Int.eq_ofNat_of_zero_le h0;have hbb:m*i0.bytes<=140737488355328:=by
  have:((m*i0.bytes:Nat):Int)<=140737488355328:=by simpa using h2
  omega
 rcases Nat.eq_zero_or_pos m with hm | hm
 ·subst hm;refine(Any8.slices_Grow_room L none 0 0 0 w (by omega) (by omega) (by omega) (by omega)).mono ?_;rintro e w' ⟨rfl,rfl⟩
  refine⟨_,[none],rfl,Ext.snoc ok.len (cL.refl _) (.tail 0) none (by intro b e;cases e),OK.snoc ok (cL.refl _) (x := .tail 0) (o:=none) (by intro b e;cases e) (by intro b e;cases e),?_⟩
  exact aHt (.inr rfl)
 ·refine(Any8.slices_Grow_grow L i0 z hi0 hz hk0 none 0 0 m [] w (by omega) (by omega) (by simpa using hbb) (by omega) (by simp) (λ_=>rfl) (by intro a e;cases e)).mono ?_;rintro e w' ⟨rfl,rfl⟩
  generalize hG:grownCap w (0+m) 0 (ρ.t 25)=C;have hC:m<=C:=by rw[<- hG];exact Nat.le_trans (by omega) (grownCap_ge w _ _ _)
  have later:=(cL.drew w).trans (cL.alloc w.drew (([]:List Value).toArray++Builtin.zeroCells z.cells (0+m - 0)++Builtin.zeroCells z.cells (C - (0+m))) (ρ.t 25))
  have hrow:∀H bs,(⟨H,bs,w.drew.alloc (.cells (([]:List Value).toArray++Builtin.zeroCells z.cells (0+m - 0)++Builtin.zeroCells z.cells (C - (0+m))) (ρ.t 25)),G⟩:Mem).row w.heap.size (C*i0.size):=λH bs=>by
   refine⟨_,_,eV (w:=w.drew),?_⟩
   simp only[Array.size_append,List.size_toArray,size_zeroCells,hzl,List.length_nil]
   rw[Nat.zero_add,<- Nat.add_mul]
   congr 1;omega
  refine⟨_,[some w.heap.size],rfl,Ext.snoc ok.len later (.tail 0) (some w.heap.size) (by intro b e;cases e;exact Nat.le_refl _),OK.snoc ok later (x := .tail 0) (o:=some w.heap.size) (by intro b e;cases e;exact Nat.le_refl _) ?_,?_⟩
  ·intro b e;cases e;exact⟨_,hrow _ _,Nat.zero_le _⟩
  ·exact aHt (.inl ⟨_,rfl,rfl,hrow _ _⟩)
section
variable {P:Program} {T:TypeId→Option TI} {n:Fr}
end
end Go.UK

open Nat renaming beq→bp,eq_of_beq_eq_true→ak,le_of_ble_eq_true→cn
namespace Go.UK
open Go
set_option linter.all false
variable [bL]
structure Sk(w w':World):Prop where
 size:w'.heap.size=w.heap.size
 row:∀(b:Nat) c T fr,w.heap[b]? = some (.cells c T fr)->w'.heap[b]? = some (.cells c T fr)
theorem Sk.keeps{w w':World}(h:Sk w w'){M:Nat->Nat->Prop}:∀b o y,w.cell? ⟨b,o,none⟩=some y->¬M b o->w'.cell? ⟨b,o,none⟩=some y/\¬M b o:=by
 intro b o y h1 h2;refine⟨?_,h2⟩
 unfold World.cell? at h1 ⊢;cases hb:w.heap[b]? with
 | none=>simp[hb] at h1
 | some ob=>
  cases ob with
  | cells c T fr=>
   rw[show w'.heap[({ block:=b,off:=o }:Addr).block]? = some (.cells c T fr) from h.row b c T fr hb]
   rw[show w.heap[({ block:=b,off:=o }:Addr).block]? = some (.cells c T fr) from hb] at h1;exact h1
  | _=>simp[hb] at h1
section
variable {H:List Box} {bs:List (Option Nat)} {w w':World} {F:Nat→Nat→Prop}
theorem Sk.typd{w w':World}{H:List Box}{bs:List (Option Nat)}{F:Nat->Nat->Prop}(h:Sk w w'){id n:Nat}{e:TypeId}(ht:(⟨H,bs,w,F⟩:Mem).typd id n e):(⟨H,bs,w',F⟩:Mem).typd id n e:=
 ⟨ht.1,λk es hH=>⟨(ht.2 k es hH).1,λe1 b hb=>by obtain⟨s,c,g1,g2⟩:=(ht.2 k es hH).2 e1 b hb;exact⟨s,c,h.row _ _ _ _ g1,g2⟩⟩⟩
mutual
theorem Rc.sk(h:Sk w w'):∀(x:AV) (ys:List Value),Rc ⟨H,bs,w,F⟩ x ys->Rc ⟨H,bs,w',F⟩ x ys
 | .v _,_,hr=>by simpa[Rc] using hr
 | .st n ps,ys,hr=>by
  simp only[Rc] at hr ⊢;exact⟨hr.1,RcL.sk h ps ys hr.2⟩
 | .arr n k es,ys,hr=>by
  simp only[Rc] at hr ⊢;exact⟨hr.1,hr.2.1,RdL.mono h.keeps es ys hr.2.2⟩
 | .sl k ln es,ys,hr=>by
  simp only[Rc] at hr ⊢;obtain⟨hn,a,cap,h1,h2,h3,h4⟩:=hr;refine⟨hn,a,cap,h1,h2,h3,h4.imp (λh=>h) ?_⟩
  rintro⟨b,off,zs,h5,h6,h7⟩
  exact⟨b,off,zs,h5,RdL.mono h.keeps es zs h6,λj y hy=>h.keeps _ _ _ (h7 j y hy).1 (h7 j y hy).2⟩
 | .own i k ln es,ys,hr=>by
  simp only[Rc] at hr ⊢;obtain⟨hn,a,cap,h1,h2,h3,h4,h5,h6⟩:=hr;refine⟨hn,a,cap,h1,h2,h3,h4.imp (λh=>h) ?_,h5,λm hm=>?_⟩
  ·rintro⟨b,off,zs,h5,h6,h7⟩
   exact⟨b,off,zs,h5,RdL.mono h.keeps es zs h6,λj y hy=>h.keeps _ _ _ (h7 j y hy).1 (h7 j y hy).2⟩
  ·obtain⟨k1,k2⟩:=h6 m hm;refine⟨k1,λe=>?_⟩
   rcases k2 e with ⟨b,g1,g2,c,T,g3,g4⟩ | g1
   ·exact .inl ⟨b,g1,g2,c,T,h.row _ _ _ _ g3,g4⟩
   ·exact .inr g1
 | .ref i p o,ys,hr=>by simpa[Rc] using hr
 | .bsl i p o k lo len,ys,hr=>by simpa[Rc] using hr
 | .im x,ys,hr=>by
  simp only[Rc] at hr ⊢;obtain⟨b,off,zs,h1,h2,h3⟩:=hr;exact⟨b,off,zs,h1,Rd.mono h.keeps x zs h2,λj y hy=>h.keeps _ _ _ (h3 j y hy).1 (h3 j y hy).2⟩
 | .tup _,_,hr=>by simp[Rc] at hr
 | .fn f first cap,ys,hr=>by
  simp only[Rc] at hr ⊢;obtain⟨xs1,cs,h1,h2,h3⟩:=hr;exact⟨xs1,cs,h1,RcL.sk h first xs1 h2,RcL.sk h cap cs h3⟩
 | .ifc t x,ys,hr=>by
  simp only[Rc] at hr ⊢;obtain⟨y,h1,h2⟩:=hr;exact⟨y,h1,mS (λzs hz=>Rc.sk h x zs hz) h2⟩
 | .mp i,ys,hr=>by simpa[Rc] using hr
 | .it i,ys,hr=>by simpa[Rc] using hr
 | .yld i,ys,hr=>by simpa[Rc] using hr
 | .gro i k ln j,ys,hr=>by
  simp only[Rc] at hr ⊢;obtain⟨y,e,h1,a,cap,e0,h0,h2⟩:=hr;refine⟨y,e,h1,a,cap,e0,h0,λk' es hm=>?_⟩
  obtain⟨k1,k2⟩:=h2 k' es hm;refine⟨k1,λe=>?_⟩
  obtain⟨g0,g1,g2⟩:=k2 e;refine⟨g0,g1,g2.imp ?_ (λh=>h)⟩
  rintro⟨b,rfl,c,T,g3,g4⟩
  exact⟨b,rfl,c,T,h.row _ _ _ _ g3,g4⟩
theorem RcL.sk(h:Sk w w'):∀(ps:List AV) (ys:List Value),RcL ⟨H,bs,w,F⟩ ps ys->RcL ⟨H,bs,w',F⟩ ps ys
 | [],_,hr=>by simpa[RcL] using hr
 | p :: ps,ys,hr=>by
  simp only[RcL] at hr ⊢;obtain⟨y1,y2,h1,h2,h3⟩:=hr;exact⟨y1,y2,h1,Rc.sk h p y1 h2,RcL.sk h ps y2 h3⟩
end
theorem Rv0.sk(h:Sk w w'){x:AV}{y:Value}(hr:Rv0 ⟨H,bs,w,F⟩ x y):Rv0 ⟨H,bs,w',F⟩ x y:=by
 unfold Rv0 at *;split at hr
 ·rename_i hx;rw[if_pos hx];obtain⟨ys,h1,h2⟩:=hr;exact⟨ys,h1,Rc.sk h _ _ h2⟩
 ·rename_i hx;rw[if_neg hx];exact Rc.sk h _ _ hr
theorem RvL.sk(h:Sk w w'):∀(xs:List AV) (ys:List Value),RvL ⟨H,bs,w,F⟩ xs ys->RvL ⟨H,bs,w',F⟩ xs ys
 | [],_,hr=>hr
 | _ :: xs,_,⟨y,r,h1,h2,h3⟩=>⟨y,r,h1,h2.sk h,RvL.sk h xs r h3⟩
theorem Rv.sk(h:Sk w w'){x:AV}{y:Value}(hr:Rv ⟨H,bs,w,F⟩ x y):Rv ⟨H,bs,w',F⟩ x y:=by
 cases x with
 | tup vs=>obtain⟨ys,h1,h2⟩:=hr;exact⟨ys,h1,RvL.sk h _ _ h2⟩
 | _=>exact Rv0.sk h hr
theorem eY.sk(h:Sk w w'){env:Env}{tmps:Array Value}(he:eY ⟨H,bs,w,F⟩ env tmps):eY ⟨H,bs,w',F⟩ env tmps:=by
 intro i e hl;obtain⟨y,h1,h2⟩:=he i e hl;refine⟨y,h1,?_⟩
 unfold yF at *;split
 ·rename_i hn;rw[hn] at h2;exact h2.sk h
 ·rename_i j want hn;rw[hn] at h2;exact λhj=>(h2 hj).sk h
theorem aGt{D:Nat}{d d':Option (List Deferred)}(h:w.heap[D]? = some (.deferred d)):Sk w (w.putObj D (.deferred d')) where
 size:=World.putObj_size
 row b c T fr hb:=by
  have:b≠D:=λe=>by subst e;rw[h] at hb;cases hb
  rw[World.putObj_heap_other this];exact hb
theorem OK.sk{D:Nat}{d d':Option (List Deferred)}(h:w.heap[D]? = some (.deferred d))(ok:(⟨H,bs,w,F⟩:Mem).OK):(⟨H,bs,w.putObj D (.deferred d'),F⟩:Mem).OK where
 foreign b o hf:=by have:=ok.foreign b o hf;simpa using this
 clear:=ok.clear
 glob g hg:=by
  obtain⟨⟨ys,T,fr,h1,h3⟩,h2⟩:=ok.glob g hg;exact⟨⟨ys,T,fr,(aGt h).row _ _ _ _ h1,h3⟩,h2⟩
 len:=ok.len
 box i o x ho hx:=by
  have sk:=aGt (d':=d') h;have hok:=ok.box i o x ho hx;cases x with
  | dead=>trivial
  | var c=>
   obtain⟨b,ys,T,e,g1,g2⟩:=hok;exact⟨b,ys,T,e,sk.row _ _ _ _ g1,Rc.sk sk _ _ g2⟩
  | tail m=>
   intro b e;obtain⟨s,⟨c,T,g1,g2⟩,g3⟩:=hok b e;exact⟨s,⟨c,T,sk.row _ _ _ _ g1,g2⟩,g3⟩
  | mp c0=>
   cases c0 with
   | kv kvs=>
    obtain⟨b,es,k,e,g1,g2⟩:=hok;have hb:b≠D:=λe=>by subst e;dsimp only at g1;rw[h] at g1;cases g1
    exact⟨b,es,k,e,(World.putObj_heap_other hb).trans g1,g2.mono sk.keeps⟩
   | it s p=>
    obtain⟨b,e,g1⟩:=hok;have hb:b≠D:=λe=>by subst e;dsimp only at g1;rw[h] at g1;cases g1
    exact⟨b,e,(World.putObj_heap_other hb).trans g1⟩
   | mi m=>
    obtain⟨b,c,t,e,g1,g2⟩:=hok;have hb:b≠D:=λe=>by subst e;dsimp only at g1;rw[h] at g1;cases g1
    exact⟨b,c,t,e,(World.putObj_heap_other hb).trans g1,Rc.sk sk (.mp m) _ g2⟩
   | bl t e0 id' s=>
    obtain⟨b,p,v,e,g1,gp,g2⟩:=hok;have hb:b≠D:=λe=>by subst e;dsimp only at g1;rw[h] at g1;cases g1
    exact⟨b,p,v,e,(World.putObj_heap_other hb).trans g1,gp,Rc.sk sk (.gro id' 1 s.size .all) _ g2.1,Sk.typd sk g2.2⟩
  | loop r=>
   obtain⟨b,e,g1⟩:=hok;have hb:b≠D:=λe=>by subst e;dsimp only at g1;rw[h] at g1;cases g1
   exact⟨b,e,(World.putObj_heap_other hb).trans g1⟩
  | gro k es=>
   obtain⟨g0,g1 | ⟨b,ys,U,g1,g2,y1,y2,g3,g4⟩⟩:=hok
   ·exact⟨g0,.inl g1⟩
   ·exact⟨g0,.inr ⟨b,ys,U,g1,sk.row _ _ _ _ g2,y1,y2,g3,RdL.mono sk.keeps _ _ g4⟩⟩
 apart:=ok.apart
theorem Ext.sk{ctx:Mem}{D:Nat}{d d':Option (List Deferred)}(h:w.heap[D]? = some (.deferred d))(hD:ctx.w.heap.size<=D)(ext:Ext ctx ⟨H,bs,w,F⟩):Ext ctx ⟨H,bs,w.putObj D (.deferred d'),F⟩ where
 size:=by have:=ext.size;simpa using this
 len:=ext.len
 cells b o hb hn:=by
  rw[<- ext.cells b o hb hn]
  exact mR (World.putObj_heap_other (by omega))
 blocks b hb hn:=(World.putObj_heap_other (by omega)).trans (ext.blocks b hb hn)
 mm:=ext.mm
 same:=ext.same
 vars:=ext.vars
 maps:=ext.maps
 loops:=ext.loops
 toks i m hi hm:=by
  obtain⟨m0,k1,k2,k3⟩:=ext.toks i m hi hm;refine⟨m0,k1,k2,λe=>⟨(k3 e).1,λb s hb hr=>?_⟩⟩
  obtain⟨c,T,g1,g2⟩:=(k3 e).2 b s hb hr;exact⟨c,T,(aGt (d':=d') h).row _ _ _ _ g1,g2⟩
 gros i q es' hi hm:=by
  obtain⟨m0,k1,k2,k3⟩:=ext.gros i q es' hi hm;refine⟨m0,k1,k2,λe=>⟨(k3 e).1,λb s T hb hr=>?_⟩⟩
  obtain⟨c,g1,g2⟩:=(k3 e).2 b s T hb hr;exact⟨c,(aGt (d':=d') h).row _ _ _ _ g1,g2⟩
 os:=ext.os
 tape:=ext.tape
 output:=ext.output
end
section
variable {P:Program} {T:TypeId→Option TI} {n:Fr}
theorem aOV{fn:Func}{tmps:Array Value}{R:Ending->World->Prop}{ctx:Mem}{H:List Box}{bs:List (Option Nat)}{env:Env}(hR:∀w,(⟨H,bs,w,ctx.F⟩:Mem).OK->Ext ctx ⟨H,bs,w,ctx.F⟩->eY ⟨H,bs,w,ctx.F⟩ env tmps->∃v,(results fn tmps).run P w = .ok v w/\R (.returned v) w) :
  ∀(ds:List Deferred) (w:World),tV ctx.w.heap.size w ds->(⟨H,bs,w,ctx.F⟩:Mem).OK->Ext ctx ⟨H,bs,w,ctx.F⟩->eY ⟨H,bs,w,ctx.F⟩ env tmps->LeavesInM Fence.wide 0 P fn tmps R ds .returning w
 | [],w,_,ok,ext,he=>hR w ok ext he
 | d :: ds,w,⟨⟨D,h1,h2,h3,h4⟩,hm⟩,ok,ext,he=>by
  subst h1;refine⟨by simp,.inl ⟨D,_,rfl,run_takeDeferred h3,?_⟩⟩
  refine aOV hR ds _ ?_ (OK.sk h3 ok) (Ext.sk h3 h2 ext) (eY.sk (aGt h3) he)
  clear hR he
  induction ds with
  | nil=>trivial
  | cons d' ds ih=>
   obtain⟨⟨D',g1,g2,g3,g4⟩,g5⟩:=hm;refine⟨⟨D',g1,g2,?_,g4⟩,ih (λx hx=>h4 x (List.mem_cons_of_mem _ hx)) g5⟩
   have:D'≠D:=λe=>h4 d' (List.mem_cons_self ..) (by rw[g1,e])
   exact(World.putObj_heap_other this).trans g3
theorem aFr(hT:TOK P T){f:FuncId}{fn:Func}{c:Code}{rs:List ResultVar}{args:List AV}{ret:AV}{H H':List Box}{lo m:Nat}{outs:List (Env×Array Value)}{rg:Bool}(hf:P.funcs[f]? = some fn)(hb:fn.body=some c)
  (hk:(bp fn.ntmps m&&(Nat.ble args.length m&&bp lo H.length))=true)
  (hres:fn.results=rs.toArray) (h:aw P ⟨m,lo,none,outs,rg⟩ c (aDg T lo rs ret H') ⟨aAD 0 args,H⟩) {w:World} {F:Nat->Nat->Prop} {bs:List (Option Nat)} {vs:List Value} (ok:(⟨H,bs,w,F⟩:Mem).OK) (hr:RvL ⟨H,bs,w,F⟩ args vs)
  (ho:∀p∈outs,eY ⟨H,bs,w,F⟩ p.1 p.2):Calls P f vs.toArray w λe w'=>∃y bs',e = .returned y/\Ext ⟨H,bs,w,F⟩ ⟨H',bs',w',F⟩/\(⟨H',bs',w',F⟩:Mem).OK/\Rv ⟨H',bs',w',F⟩ ret y:=by
 simp only[Bool.and_eq_true] at hk;obtain⟨k1,k2,k3⟩:=hk;have hn:=ak k1;have hargs:=cn k2;have hlo:=ak k3;refine(callsIn_wide (n:=0)).1 (callsIn_of_wp_marks hf hb trivial ?_)
 have lens:∀(μ:Mem) (xs:List AV) (vs:List Value),RvL μ xs vs->vs.length=xs.length:=by
  intro μ xs
  induction xs with
  | nil=>intro vs h;have:vs=[]:=h;subst this;rfl
  | cons x xs ih=>rintro vs ⟨v,r,e,_,h2⟩;subst e;simp[ih r h2]
 have hlen:=lens _ _ _ hr;have hsat:Sat ⟨m,lo,none,outs,rg⟩ ⟨H,bs,w,F⟩ ⟨aAD 0 args,H⟩ { tmps:=vs.toArray++Array.replicate (fn.ntmps - vs.toArray.size) undef,defers:=[] } w:=by
  refine⟨bs,{ h:=rfl,ok:=ok,ext:=Ext.refl _,env:=aG3 args vs 0 hr ?_,size := ?_,low:=Nat.le_of_eq hlo.symm,defers:=trivial,nod:=λ_=>rfl,outs:=ho }⟩
  ·intro i v hv;have:=aX hv;rw[Nat.zero_add,Array.getElem?_append_left (by simpa using this)]
   simpa using hv
  ·simp;omega
 have hwide:(⟨m,lo,none,outs,rg⟩:Fr).F=Fence.wide:=Fr.wide rfl;have hh:=h ⟨H,bs,w,F⟩ _ _ hsat;rw[hwide] at hh;refine wpIn_mono hh ?_;rintro e a' w' ⟨st',⟨he,h1,h2⟩,bs',hm⟩
 dsimp only at hm;unfold aMk at h2;cases hxs:aDQ T st'.env st'.H rs with
 | none=>rw[hxs] at h2;cases h2
 | some xs=>
 rw[hxs] at h2;simp only[Option.some.injEq,Prod.mk.injEq] at h2;simp only[aMX,Bool.and_eq_true] at h1;obtain⟨b1,b2,b3,b4⟩:=h1;have fin:LeavesInM Fence.wide 0 P fn a'.tmps (λe w'=>∃y bs',e = .returned y/\Ext ⟨H,bs,w,F⟩ ⟨H',bs',w',F⟩/\(⟨H',bs',w',F⟩:Mem).OK/\Rv ⟨H',bs',w',F⟩ ret y) a'.defers .returning w':=by
  refine aOV (ctx:=⟨H,bs,w,F⟩) (H:=st'.H) (bs:=bs') (env:=st'.env) ?_ _ _ hm.defers hm.ok hm.ext hm.env;intro w3 ok3 ext3 env3;obtain⟨ys,hys,hrl,hyl⟩:=aBh (P:=P) (μ:=⟨st'.H,bs',w3,F⟩) hT ok3 env3 rs xs hxs;have hxl:=lens _ _ _ hrl;obtain⟨v,hres',hrv⟩:∃v,(results fn a'.tmps).run P w3 = .ok v w3/\Rv ⟨st'.H,bs',w3,F⟩ (aQC xs) v:=by
   have h0:(results fn a'.tmps).run P w3=Sem.run P (pure (if h:ys.toArray.size=1 then ys.toArray[0] else Value.tuple ys.toArray)) w3:=by
    simp only[results,hres,Sem.run_bind,Array.mapM_eq_mapM_toList,Sem.run_map]
    exact(congrArg (λr:Result (List Value)=>(r.andThen λa w'=>Result.ok a.toArray w').andThen λa w'=>Sem.run P (pure (if h:a.size=1 then a[0] else Value.tuple a)) w') hys)
   match xs,ys,hrl,hxl,h0 with
   | [],ys,hrl,hxl,h0=>
    have:ys=[]:=hrl;subst this;exact⟨_,h0,#[],rfl,rfl⟩
   | [x],ys,hrl,hxl,h0=>
    obtain⟨y,r,e,g1,g2⟩:=hrl;have:r=[]:=g2;subst this e;exact⟨y,h0,uN g1⟩
   | x :: x' :: xr,ys,hrl,hxl,h0=>
    have:¬ys.toArray.size=1:=by simp at hxl ⊢;omega
    rw[dif_neg this] at h0;exact⟨_,h0,_,rfl,by simpa using hrl⟩
  obtain⟨less,ext,ok'⟩:=aNc (ctx:=⟨H,bs,w,F⟩) (lo:=lo) b1 (cn b2) b3 h2.2 ok3 ext3 hm.low;have hfin:Rv ⟨H',bs'.take H'.length,w3,F⟩ ret v:=by
   have:=aN3 (e:=ret) hrv;rw[h2.1] at this;exact vP less b4 (by rw[uJ];exact this)
  exact⟨v,hres',_,_,rfl,ext,ok',hfin⟩
 rcases he with rfl | rfl
 ·exact fin
 ·exact fin
theorem aMl(hT:TOK P T){f:FuncId}{fn:Func}{c:Code}{rs:List ResultVar}{args:List AV}{ret:AV}{H H':List Box}{lo m:Nat}(hf:P.funcs[f]? = some fn)(hb:fn.body=some c)
  (hk:(bp fn.ntmps m&&(Nat.ble args.length m&&bp lo H.length))=true)
  (hres:fn.results=rs.toArray) (h:aw P (Fr.f m lo true) c (aDg T lo rs ret H') ⟨aAD 0 args,H⟩):FnM P f H args ret H':=
 λ_ _ _ _ ok hr=>aFr hT hf hb hk hres h ok hr (λp hp=>by cases hp)
end
end Go.UK

open Bool renaming and_eq_true→b9
open Nat renaming beq→bp,ble→hL,eq_of_beq_eq_true→ak,le_of_ble_eq_true→cn,lt_or_ge→eo
namespace Go.UK
open Go
set_option linter.all false
variable [bL]
structure aDz where
 n:Nat
 ps:List Tmp
 assign:Code
 body:Code
def aDz.rcd(s:aDz)(fn:FuncId)(tmps:Array Value)(D:Nat)(k:Option Code):Loop:=
 { state:=match k with | none => .ready | some _ => .done,pending:=k,fn:=fn,tmps:=tmps,params:=s.ps.toArray,assign:=s.assign,body:=s.body,defers:=D }
def aHC : Option Code->Exit->Bool
 | none,.normal=>true
 | some .ret,.ret=>true
 | some (.exit i),.exit j=>bp i j
 | _,_=>false
def YldM(P:Program)(s:aDz)(env:Env)(H:List Box)(args:List AV)(H':List Box)(k:Option Code):Prop:=
 ∀(w:World) (F:Nat->Nat->Prop) (bs:List (Option Nat)) (b:Nat) (vs:List Value) (fn:FuncId) (tmps:Array Value) (D:Nat),
  (⟨H++[.loop (s.rcd fn tmps D none)],bs++[some b],w,F⟩:Mem).OK->tmps.size=s.n->eY ⟨H++[.loop (s.rcd fn tmps D none)],bs++[some b],w,F⟩ env tmps->RvL ⟨H++[.loop (s.rcd fn tmps D none)],bs++[some b],w,F⟩ args vs->vs.length=s.ps.length ->
  RoundIn Fence.wide 0 P b fn ((s.ps.toArray.zip vs.toArray).foldl (λt (p,a)=>t.setIfInBounds p a) tmps) s.assign s.body w λe w'=>
   ∃bs',e = .returned (.bool k.isNone)/\Ext ⟨H++[.loop (s.rcd fn tmps D none)],bs++[some b],w,F⟩ ⟨H'++[.loop (s.rcd fn tmps D k)],bs'++[some b],w',F⟩/\(⟨H'++[.loop (s.rcd fn tmps D k)],bs'++[some b],w',F⟩:Mem).OK
def ItM(P:Program)(f:FuncId)(s:aDz)(env:Env)(H:List Box)(args:List AV)(ret:AV)(H':List Box)(k:Option Code):Prop:=
 ∀(w:World) (F:Nat->Nat->Prop) (bs:List (Option Nat)) (b:Nat) (vs:List Value) (fn:FuncId) (tmps:Array Value) (D:Nat),
  (⟨H++[.loop (s.rcd fn tmps D none)],bs++[some b],w,F⟩:Mem).OK->tmps.size=s.n->eY ⟨H++[.loop (s.rcd fn tmps D none)],bs++[some b],w,F⟩ env tmps->RvL ⟨H++[.loop (s.rcd fn tmps D none)],bs++[some b],w,F⟩ args vs ->
  Calls P f vs.toArray w λe w'=>∃y bs',e = .returned y/\Ext ⟨H++[.loop (s.rcd fn tmps D none)],bs++[some b],w,F⟩ ⟨H'++[.loop (s.rcd fn tmps D k)],bs',w',F⟩/\(⟨H'++[.loop (s.rcd fn tmps D k)],bs',w',F⟩:Mem).OK/\Rv ⟨H'++[.loop (s.rcd fn tmps D k)],bs',w',F⟩ ret y
section
variable {P:Program} {T:TypeId→Option TI} {n:Fr}
def aJ9 : Env->List Nat->List AV->Env
 | env,p :: ps,x :: xs=>aJ9 (env.set p (none,x)) ps xs
 | env,_,_=>env
def aIn : Array Value->List Nat->List Value->Array Value
 | t,p :: ps,v :: vs=>aIn (t.setIfInBounds p v) ps vs
 | t,_,_=>t
theorem aMa : ∀(ps:List Nat) (vs:List Value) (t:Array Value),((ps.toArray.zip vs.toArray).foldl (λt (p,a)=>t.setIfInBounds p a) t)=aIn t ps vs:=by
 intro ps vs t;rw[<- Array.foldl_toList]
 have e:(ps.toArray.zip vs.toArray).toList=ps.zip vs:=by simp
 rw[e]
 induction ps generalizing vs t with
 | nil=>cases vs <;> rfl
 | cons p ps ih=>
  cases vs with
  | nil=>rfl
  | cons v vs=>exact ih vs _ (by simp)
theorem aG6 : ∀(ps:List Nat) (vs:List Value) (t:Array Value),(aIn t ps vs).size=t.size
 | [],vs,t=>by cases vs <;> rfl
 | p :: ps,[],t=>rfl
 | p :: ps,v :: vs,t=>by rw[aIn,aG6 ps vs];simp
theorem aI9{μ:Mem}:∀(ps:List Nat) (xs:List AV) (vs:List Value) (env:Env) (t:Array Value),(∀p∈ps,p < t.size)->RvL μ xs vs->eY μ env t->eY μ (aJ9 env ps xs) (aIn t ps vs)
 | [],xs,vs,env,t,_,_,h=>by cases xs <;> cases vs <;> exact h
 | p :: ps,[],vs,env,t,_,hv,h=>by have:vs=[]:=hv;subst this;exact h
 | p :: ps,x :: xs,_,env,t,hp,⟨v,r,e,h1,h2⟩,h=>by
  subst e;exact aI9 ps xs r _ _ (λq hq=>by have:=hp q (List.mem_cons_of_mem _ hq);simpa using this) h2 (h.set (hp p (List.mem_cons_self ..)) (by simp) (uN h1))
theorem tX{w:World}{b:Nat}{r r':Loop}(h:w.heap[b]? = some (.loop r))(a:Addr):(aZ w b (.loop r')).frozen? a=w.frozen? a:=by
 unfold World.frozen? aZ;by_cases hb:b=a.block
 ·subst hb;have:=cG h;rw[h]
  simp[this]
 ·simp[Array.getElem?_setIfInBounds_ne hb]
def aQ5(H':List Box)(k:Option Code)(r:Loop)(e:Exit)(st:ASt):Prop:=
 aHC k e=true/\(wX (H'.length+1) (H'++[.loop r])&&(hL (H'.length+1) st.H.length&&lF (H'++[.loop r]) (H'++[.loop r])))=true/\vA st.H (H'++[.loop r])=H'++[.loop r]
theorem rnd_n{H':List Box}{k:Option Code}{r:Loop}{e:Exit}{st:ASt}(h:(aHC k e,(wX (H'.length+1) (H'++[.loop r])&&(hL (H'.length+1) st.H.length&&lF (H'++[.loop r]) (H'++[.loop r]))),vA st.H (H'++[.loop r]))=(true,true,H'++[.loop r])):aQ5 H' k r e st:=by
 simp only[Prod.mk.injEq] at h;exact h
def MidM(P:Program)(n:Fr)(m:Nat)(body:Code)(H':List Box)(k:Option Code)(r:Loop)(e:Exit)(st:ASt):Prop:=
 e = .normal/\st.H[m]? = some (.loop r)/\∀r2,aw P n body (aQ5 H' k r2) ⟨st.env,st.H.set m (.loop r2)⟩
theorem mid_n{m:Nat}{body:Code}{H':List Box}{k:Option Code}{r:Loop}{st:ASt}(h:st.H[m]? = some (.loop r))(hb:∀r2,aw P n body (aQ5 H' k r2) ⟨st.env,st.H.set m (.loop r2)⟩):MidM P n m body H' k r .normal st:=⟨rfl,h,hb⟩
def aJx(n:Nat):List Nat->Bool
 | []=>true
 | x :: xs=>Nat.blt x n&&aJx n xs
theorem aFc{n:Nat}:∀{l:List Nat},aJx n l=true->∀x∈l,x < n
 | [],_,x,h=>by cases h
 | y :: l,h,x,hx=>by
  simp only[aJx,b9] at h;rcases List.mem_cons.1 hx with h' | h'
  ·subst h';have h1:hL (x+1) n=true:=h.1;have:=cn h1;omega
  ·exact aFc h.2 x h'
theorem aLx{s:aDz}{env:Env}{H H':List Box}{args:List AV}{k:Option Code}{lo:Nat}(hk:(bp lo (H.length+1)&&(bp H'.length H.length&&aJx s.n s.ps))=true)
  (h:∀(b:Nat) (r:Loop),aw P ⟨s.n,lo,some b,[],false⟩ s.assign (MidM P ⟨s.n,lo,some b,[],false⟩ H.length s.body H' k r) ⟨aJ9 env s.ps args,H++[.loop r]⟩):YldM P s env H args H' k:=by
 intro w F bs b vs fn tmps D ok hsz hE hv hlen;simp only[b9] at hk;obtain⟨k1,k2,k3⟩:=hk;have k1:=ak k1;have k2:=ak k2;subst k1;rw[aMa]
 have hbl:bs.length=H.length:=by have:=ok.len;simpa using this
 have hsat:Sat ⟨s.n,H.length+1,some b,[],false⟩ ⟨H++[.loop (s.rcd fn tmps D none)],bs++[some b],w,F⟩ ⟨aJ9 env s.ps args,H++[.loop (s.rcd fn tmps D none)]⟩ { tmps:=aIn tmps s.ps vs,defers:=[] } w:=
  ⟨bs++[some b],{ h:=rfl,ok:=ok,ext:=Ext.refl _,env:=aI9 s.ps args vs env tmps (λp hp=>by rw[hsz];exact aFc k3 p hp) hv hE,size:=by rw[aG6];exact hsz,low:=by simp,defers:=trivial,nod:=λ_=>rfl,outs:=λp hp=>by cases hp }⟩
 refine roundIn_of_wpIn trivial ?_;refine wpIn_mono (h b (s.rcd fn tmps D none) _ _ w hsat) ?_;rintro e a1 w1 ⟨st1,⟨rfl,hr,hb⟩,bs1,hm1⟩
 have hl0:(H++[Box.loop (s.rcd fn tmps D none)])[H.length]? = some (.loop (s.rcd fn tmps D none)):=by simp
 have hb0:(bs++[some b])[H.length]? = some (some b):=by rw[<- hbl];simp
 obtain⟨_,hbs⟩:=hm1.ext.loops H.length _ hl0;have hbs:bs1[H.length]? = some (some b):=hbs.trans hb0;obtain⟨b',e',hheap⟩:=hm1.ok.box H.length _ _ hbs hr;cases e';have hheap:w1.heap[b]? = some (.loop (s.rcd fn tmps D none)):=hheap;refine⟨_,run_beginRound hheap rfl,?_⟩
 have ext2:=Ext.put (x' := .loop { s.rcd fn tmps D none with state := .busy }) (o' := .loop { s.rcd fn tmps D none with state := .busy }) hbs hr rfl rfl hm1.ok (tX hheap)
 have ok2:=OK.put (x' := .loop { s.rcd fn tmps D none with state := .busy }) (o' := .loop { s.rcd fn tmps D none with state := .busy }) hbs hr rfl rfl hm1.ok (tX hheap) ⟨b,rfl,bK (cG hheap)⟩
 have hsat2:Sat ⟨s.n,H.length+1,some b,[],false⟩ ⟨H++[.loop (s.rcd fn tmps D none)],bs++[some b],w,F⟩ ⟨st1.env,st1.H.set H.length (.loop { s.rcd fn tmps D none with state := .busy })⟩ a1 (aZ w1 b (.loop { s.rcd fn tmps D none with state := .busy })):=
  ⟨bs1,{ h:=rfl,ok:=ok2,ext:=hm1.ext.trans ext2,env:=hm1.env.ext ext2,size:=hm1.size,low:=hm1.low,defers:=tV.ext hm1.ok ext2 hm1.defers,nod:=hm1.nod,outs:=λp hp=>by cases hp }⟩
 refine wpIn_mono (hb _ _ a1 _ hsat2) ?_;rintro e a3 w3 ⟨st3,⟨he,hc1,hc2⟩,bs3,hm3⟩
 simp only[b9] at hc1;obtain⟨c1,c2,c3⟩:=hc1;have hlen2:(H'++[Box.loop { s.rcd fn tmps D none with state := .busy }]).length=H'.length+1:=by simp
 obtain⟨less,ext3,ok3⟩:=aNc (lo:=H.length+1) (by rw[<- k2];exact aHq c1 (by rw[hlen2];exact cn c2)) (by rw[hlen2];exact cn c2) c3 hc2 hm3.ok hm3.ext hm3.low;rw[hlen2] at ext3 ok3
 -- the record, busy, in its box
 generalize hbs4:bs3.take (H'.length+1)=bs4 at ext3 ok3;have hl4:(H'++[Box.loop { s.rcd fn tmps D none with state := .busy }])[H'.length]? = some (.loop { s.rcd fn tmps D none with state := .busy }):=by simp
 have hbs5:bs4[H'.length]? = some (some b):=by
  obtain⟨_,g⟩:=ext3.loops H.length _ hl0;rw[k2]
  exact g.trans hb0
 obtain⟨b',e',hheap3⟩:=ok3.box H'.length _ _ hbs5 hl4;cases e';have hheap3:w3.heap[b]? = some (.loop { s.rcd fn tmps D none with state := .busy }):=hheap3;have fin:∀jump:Option Code,jump=k->∃v w4,(Instr.endRound b jump).run P w3 = .ok v w4/\∃bs',(Ending.returned v = .returned (.bool k.isNone))/\Ext ⟨H++[.loop (s.rcd fn tmps D none)],bs++[some b],w,F⟩ ⟨H'++[.loop (s.rcd fn tmps D k)],bs'++[some b],w4,F⟩/\(⟨H'++[.loop (s.rcd fn tmps D k)],bs'++[some b],w4,F⟩:Mem).OK:=by
  rintro jump rfl;refine⟨_,_,run_endRound jump hheap3,bs4.take H'.length,rfl,?_⟩
  have hset:(H'++[Box.loop { s.rcd fn tmps D none with state := .busy }]).set H'.length (.loop (s.rcd fn tmps D jump))=H'++[.loop (s.rcd fn tmps D jump)]:=by simp
  have hbs6:bs4.take H'.length++[some b]=bs4:=by
   have hl:bs4.length=H'.length+1:=by have:=ok3.len;simpa using this
   apply List.ext_getElem?;intro i;rcases eo i H'.length with hi | hi
   ·rw[List.getElem?_append_left (by simp;omega),List.getElem?_take,if_pos hi]
   ·rcases eo i (H'.length+1) with hi2 | hi2
    ·obtain rfl:i=H'.length:=by omega
     have h0:H'.length - (bs4.take H'.length).length=0:=by simp;omega
     rw[List.getElem?_append_right (by simp;omega),hbs5,h0]
     rfl
    ·rw[List.getElem?_eq_none (by simp;omega),List.getElem?_eq_none (by omega)]
  have hobj:({ { s.rcd fn tmps D none with state := .busy } with state:=if jump.isNone then .ready else .done,pending:=jump }:Loop)=s.rcd fn tmps D jump:=by
   cases jump <;> rfl
  have ext4:=Ext.put (x' := .loop (s.rcd fn tmps D jump)) (o' := .loop (s.rcd fn tmps D jump)) hbs5 hl4 rfl rfl ok3 (tX hheap3)
  have ok4:=OK.put (x' := .loop (s.rcd fn tmps D jump)) (o' := .loop (s.rcd fn tmps D jump)) hbs5 hl4 rfl rfl ok3 (tX hheap3) ⟨b,rfl,bK (cG hheap3)⟩
  rw[hset] at ext4 ok4;rw[hbs6,hobj]
  exact⟨ext3.trans ext4,ok4⟩
 cases k with
 | none=>
  cases e <;> simp only[aHC] at he <;> try cases he
  exact fin none rfl
 | some c=>
  cases c <;> cases e <;> simp only[aHC] at he <;> try cases he
  ·rename_i i j;have:=ak he;subst this;exact fin _ rfl
  ·exact fin _ rfl
end
end Go.UK

open List renaming getElem?_eq_getElem→af,getElem?_map→ci,getElem?_range→dw,range→bq
open Nat renaming beq→bp,eq_of_beq_eq_true→ak
namespace Go.UK
open Go
set_option linter.all false
variable [bL]
section
variable {P:Program} {T:TypeId→Option TI} {n:Fr}
theorem aOf(hT:TOK P T){f:FuncId}{fd:Func}{c:Code}{rs:List ResultVar}{args:List AV}{ret:AV}{H H':List Box}{s:aDz}{env:Env}{k:Option Code}{lo m:Nat}(hf:P.funcs[f]? = some fd)(hb:fd.body=some c)
  (hk:(bp fd.ntmps m&&(Nat.ble args.length m&&bp lo (H.length+1)))=true)
  (hres:fd.results=rs.toArray) (h:∀(fn:FuncId) (tmps:Array Value) (D:Nat),tmps.size=s.n->aw P ⟨m,lo,none,[(env,tmps)],false⟩ c (aDg T lo rs ret (H'++[.loop (s.rcd fn tmps D k)])) ⟨aAD 0 args,H++[.loop (s.rcd fn tmps D none)]⟩):ItM P f s env H args ret H' k:=by
 intro w F bs b vs fn tmps D ok hsz hE hv;refine aFr hT hf hb (by simpa using hk) hres (h fn tmps D hsz) ok hv ?_;intro p hp;simp only[List.mem_singleton] at hp;subst hp;exact hE
theorem aNV{μ:Mem}{env:Env}{tmps:Array Value}(h:eY μ env tmps):∀(t:Env),eY μ (aID env t) tmps
 | []=>by intro i e hl;simp[aID,bY] at hl
 | (j,e0) :: r=>by
  intro i e hl;unfold aID bY at hl;cases hb:bp j i with
  | false=>rw[hb] at hl;exact aNV h r i e hl
  | true=>
   rw[hb] at hl;have:=ak hb;subst this;dsimp only at hl;unfold cEnt at hl;split at hl <;> try cases hl
   rename_i fl y;split at hl <;> cases hl;rename_i x hx;obtain⟨v,g1,g2⟩:=h.get hx;exact⟨v,g1,aN3 g2⟩
theorem aH0{f:Nat->Nat}:∀{env:Env} {i:Nat} {e:EV},bY env i=some e->bY (swE f env) i=some (e.1,ren f e.2)
 | [],i,e,h=>by simp[bY] at h
 | (j,none) :: r,i,e,h=>by
  simp only[bY,swE] at h ⊢;cases hb:bp j i with
  | true=>rw[hb] at h;cases h
  | false=>rw[hb] at h;exact aH0 h
 | (j,some (g,x)) :: r,i,e,h=>by
  simp only[bY,swE] at h ⊢;cases hb:bp j i with
  | true=>rw[hb] at h;cases h;rfl
  | false=>rw[hb] at h;exact aH0 h
theorem aK9{f:Nat->Nat}{μ μ':Mem}(h:aBj f μ μ'){env:Env}{tmps:Array Value}(hl:wT μ'.H env=true)(he:eY μ (swE f env) tmps):eY μ' env tmps:=by
 intro i e hlk;obtain⟨y,g1,g2⟩:=he i _ (aH0 hlk)
 refine⟨y,g1,?_⟩
 have hlow:=tW hl hlk;unfold yF at *;dsimp only at g2;split
 ·rename_i hn;rw[hn] at g2;exact vP h hlow g2
 ·rename_i j want hn;rw[hn] at g2;exact λhj=>vP h hlow (g2 hj)
def yldE(o:Oper)(need:Env):Option (Nat×List AV):=
 match o.op with
 | .call { callee := .value c,args,.. }=>match opd need none c,aJL (opd need none) args.toList with
  | some (.yld i),some avs=>some (i,avs)
  | _,_=>none
 | _=>none
theorem aJf{μ:Mem}:∀(xs:List AV) (vs:List Value),RvL μ xs vs->vs.length=xs.length
 | [],vs,h=>by have:vs=[]:=h;subst this;rfl
 | x :: xs,_,⟨v,r,e,_,h2⟩=>by subst e;simp[aJf xs r h2]
theorem aOZ{o:Oper}{need:Env}{μ:Mem}{a:Act}{i:Nat}{avs:List AV}{l:Nat}{r:Loop}(hE:eY μ need a.tmps)(h:yldE o need=some (i,avs))(hb:μ.bs[i]? = some (some l))(hl:μ.w.heap[l]? = some (.loop r))(hlen:avs.length=r.params.size) :
  (∃c,o.op = .call c)/\∃vs:List Value,RvL μ avs vs/\(execOp a.eval o).run P μ.w = .ok (.round l r.fn ((r.params.zip vs.toArray).foldl (λt (p,a)=>t.setIfInBounds p a) r.tmps) r.assign r.body) μ.w:=by
 unfold yldE at h;split at h <;> try cases h
 rename_i c args tys ho;split at h <;> try cases h
 rename_i hc hargs;have hcv:=aR hE noG hc;have hcv':∃b r0,μ.bs[i]? = some (some b)/\μ.H[i]? = some (.loop r0)/\a.eval c = .func (.yield b) #[] #[]:=by
  simpa[Rv,Rv0,AV.isAgg,Rc] using hcv
 obtain⟨b,r0,h1,h2,h3⟩:=hcv';rw[hb] at h1;cases h1;have hav:=yD (λy v hv=>aR hE noG hv) _ _ hargs;refine⟨⟨_,ho⟩,_,hav,?_⟩
 have hlen2:=aJf _ _ hav;have e:(args.map a.eval)=(args.toList.map a.eval).toArray:=by rw[<- Array.toList_inj];simp
 have hs:(args.map a.eval).size=r.params.size:=by rw[e];simp at hlen2 ⊢;omega
 simp only[execOp,ho,resolve,h3,Deferred.ofValue,Sem.run_bind,Sem.run_pure,Result.andThen_ok,invoke,Array.empty_append]
 rw[run_yield hl hs,e]
def yldB(n:Fr)(o:Oper)(env:Env)(H Hc:List Box)(args:List AV)(s:aDz)(r:Loop):Bool:=
 dOK n.n o.dst&&(aE6 (bq (Hc.length+1))&&(Nat.blt Hc.length H.length&&(lF (Hc++[.loop r]) (Hc++[.loop r])&&(wT (Hc++[.loop r]) env&&(lowL (Hc++[.loop r]) args&&(bp args.length s.ps.length&&wX Hc.length Hc))))))
theorem aHK{H:List Box}{k i:Nat}{x:Box}(hk:k<=H.length)(h:(pW H (bq k))[i]? = some x):H[i]? = some x:=by
 unfold pW at h;rw[ci] at h;by_cases hi:i < k
 ·rw[dw hi] at h;simp only[Option.map_some,Option.some.injEq] at h;rw[af (by omega)] at h ⊢;simpa using h
 ·rw[List.getElem?_eq_none (by simpa using hi)] at h;cases h
theorem aSE{s:aDz}{env:Env}{Hc Hc':List Box}{args:List AV}{k:Option Code}(Y:YldM P s env Hc args Hc' k){fn:FuncId}{tmps:Array Value}{D:Nat}(hsz:tmps.size=s.n)(hn:n.ro=none)(ho:(env,tmps)∈n.outs){o:Oper}{need:Env}{H:List Box}
  (hB:yldB n o env H Hc args s (s.rcd fn tmps D none)=true)
  (hE:(match yldE o need with | some (i,avs)=>some (i,wkL avs (renL (rn (bq (Hc.length+1)) H.length) args)) | none=>none,pW H (bq (Hc.length+1)),swE (rn (bq (Hc.length+1)) H.length) env)
   = (some (Hc.length,renL (rn (bq (Hc.length+1)) H.length) args),(Hc++[Box.loop (s.rcd fn tmps D none)]).map (jS (rn (bq (Hc.length+1)) H.length)),env)) :
  Big P n o need H (.v (.bool k.isNone)) (cB H (bq (Hc.length+1)) (Hc'++[.loop (s.rcd fn tmps D k)])):=by
 simp only[yldB,Bool.and_eq_true] at hB;obtain⟨b1,b2,b3,b4,b5,b6,b7,b8⟩:=hB;have b3:Hc.length+1<=H.length:=Nat.le_of_ble_eq_true b3;have b7:=ak b7;simp only[Prod.mk.injEq] at hE;obtain⟨e1,e2,e3⟩:=hE;split at e1 <;> try cases e1
 rename_i i avs hy;simp only[Option.some.injEq,Prod.mk.injEq] at e1;obtain⟨rfl,e1⟩:=e1;generalize hr:s.rcd fn tmps D none=r at *;intro env' hs ctx a w Qx hsat;obtain⟨bs,hm⟩:=hsat;dsimp only at hm;have hbl:bs.length=H.length:=hm.ok.len;have hHi:H[Hc.length]? = some (.loop r):=by
  refine aHK b3 ?_;rw[e2,ci,List.getElem?_append_right (Nat.le_refl _)]
  simp[jS]
 obtain⟨ob,hob⟩:∃ob,bs[Hc.length]? = some ob:=⟨_,af (by omega)⟩
 obtain⟨b,eb,hheap⟩:=hm.ok.box Hc.length _ _ hob hHi;subst eb;have havs:avs.length=r.params.size:=by
  have h1:(wkL avs (renL (rn (bq (Hc.length+1)) H.length) args)).length=(renL (rn (bq (Hc.length+1)) H.length) args).length:=by rw[e1]
  have h2:∀(ps qs:List AV),(wkL ps qs).length=ps.length:=by
   intro ps
   induction ps with
   | nil=>intro qs;simp[wkL]
   | cons p ps ih=>intro qs;cases qs <;> simp[wkL,ih]
  have h3:∀(f:Nat->Nat) (ps:List AV),(renL f ps).length=ps.length:=by
   intro f ps
   induction ps with
   | nil=>simp[renL]
   | cons p ps ih=>simp[renL,ih]
  rw[h2,h3] at h1;rw[h1,b7,<- hr]
  simp[aDz.rcd]
 obtain⟨⟨c,hc⟩,vs,hv,hrun⟩:=aOZ (P:=P) (zL hs hm.env) hy hob hheap havs;unfold Oper.wpIn;refine⟨λ_ _=>trivial,?_⟩
 have hsem:o.semAt n.F.round a.eval=execOp a.eval o:=by
  show o.semAt n.ro a.eval=_;rw[hn]
  exact Oper.semAt_none _ _
 rw[hsem]
 have hrun':(execOp a.eval o).run P w=_:=hrun;rw[hrun',Oper.uponIn_round]
 refine⟨λh=>(by cases h),?_⟩
 have hwide:n.F=Fence.wide:=Fr.wide hn;rw[hwide]
 have L:aIE H bs (bq (Hc.length+1)) (Hc++[.loop r]):=⟨zG b2,by simp,λi y hyi=>by
  have hi:=aX hyi;refine⟨i,dw (by simpa using hi),?_⟩
  refine aHK b3 ?_;rw[e2,ci,hyi]
  rfl⟩
 have okc:=aGE (w:=w) (F:=ctx.F) L hm.ok b4;have less:=yC (w:=w) (F:=ctx.F) L hm.ok.len;have hargs:RvL ⟨H,bs,w,ctx.F⟩ (renL (rn (bq (Hc.length+1)) H.length) args) vs:=by
  rw[<- e1]
  exact aEA hv
 have hbsc:(lO H bs w ctx.F (bq (Hc.length+1)) (Hc++[.loop r])).bs=(bq Hc.length).map (λs=>(bs[s]?).getD none)++[some b]:=by
  show(bq (Hc.length+1)).map (λs=>(bs[s]?).getD none)=_;rw[List.range_succ,List.map_append]
  simp[hob]
 have hmem:lO H bs w ctx.F (bq (Hc.length+1)) (Hc++[.loop r])=⟨Hc++[.loop r],(bq Hc.length).map (λs=>(bs[s]?).getD none)++[some b],w,λb o=>ctx.F b o\/rest H bs (bq (Hc.length+1)) b o⟩:=by
  rw[<- hbsc];rfl
 have hvl:vs.length=s.ps.length:=by
  have h4:=aJf _ _ hv;rw[h4,havs,<- hr]
  simp[aDz.rcd]
 have hEnv:eY (lO H bs w ctx.F (bq (Hc.length+1)) (Hc++[.loop r])) env tmps:=aK9 less b5 (by rw[e3];exact hm.outs _ ho)
 have hArg:RvL (lO H bs w ctx.F (bq (Hc.length+1)) (Hc++[.loop r])) args vs:=aAM less b6 hargs;rw[hmem] at okc hEnv hArg;have hY:=Y w (λb o=>ctx.F b o\/rest H bs (bq (Hc.length+1)) b o) ((bq Hc.length).map (λs=>(bs[s]?).getD none)) b vs fn tmps D (by rw[hr];exact okc) hsz (by rw[hr];exact hEnv) (by rw[hr];exact hArg) hvl;rw[<- hr]
 refine RoundIn.mono hY ?_;rintro e w' ⟨bs',rfl,ext,ok'⟩
 dsimp only;rw[hr,<- hmem] at ext;rw[<- hmem] at okc;obtain⟨h1,h2,h3⟩:=aDV hm.ok L okc ext ok';exact aGs (μ':=⟨cB H (bq (Hc.length+1)) (Hc'++[.loop (s.rcd fn tmps D k)]),uR bs (bq (Hc.length+1)) (bs'++[some b]),w',ctx.F⟩) hm h1 h2 b1 (tQ (x := .bool k.isNone) rfl)
end
end Go.UK

