/- The own layer: abstract values, their memory, and the steps of the model over them: for any program. -/
import Derived.Test.YtidamaopieegkaaGreatDoorLib13
import Derived.Shelf.RegionOpenPlain
import Derived.Lib.Strings
import Derived.Lib.Slices
import Derived.Lib.Walk
import Derived.Lib.Builder
import Derived.Lib.AppendStr
import Derived.Lib.UnsafeStr
import Derived.Lib.ItoaLen
import Derived.WalkKit
import Derived.Laws.Externs
import Derived.Laws.BitsLemmas
open Nat renaming le_of_ble_eq_true→bh
open Option renaming map_eq_some_iff→bg
namespace Go.UK
open Go
set_option linter.all false
variable [bJ]
def aC1(n:Fr)(i j:Nat)(st:ASt):Bool:=(match st.H[i]? with | some (.tail _)=>true | _=>false)&&(Nat.ble n.lo j&&(Nat.blt i st.H.length&&(Nat.blt j st.H.length&&(match st.H[j]? with | some .dead=>(match n.outs with | []=>true | _=>false) | _=>false))))
def aC3(st:ASt):ASt:=⟨st.env,st.H++[.dead]⟩
def mvS(i:Nat)(st:ASt):ASt:=swS i st.H.length (aC3 st)
section
variable {P:Program} {n:Fr}
theorem aFF{st:ASt}{ctx:Mem}{a:Act}{w:World}(h:Sat n ctx st a w):Sat n ctx (aC3 st) a w:=by
 obtain⟨bs,hm⟩:=h;have ext:=Ext.snoc (F:=ctx.F) hm.ok.len (cK.refl w) .dead none (by intro b e;cases e)
 have ok:=OK.snoc hm.ok (cK.refl w) (x := .dead) (o:=none) (by intro b e;cases e) trivial;exact⟨bs++[none],rfl,ok,hm.ext.trans ext,hm.env.ext ext,hm.size,hm.low,hm.defers,hm.nod,λp hp=>(hm.outs p hp).ext ext⟩
theorem aGx{st:ASt}{i j:Nat}(hk:aC1 n i j st=true){ctx:Mem}{a:Act}{w:World}(h:Sat n ctx st a w):Sat n ctx (swS i j st) a w:=by
 obtain⟨bs,hm⟩:=h;obtain⟨env,H⟩:=st;unfold aC1 at hk;simp only[Bool.and_eq_true] at hk;obtain⟨c1,c2,c3,c4,c5⟩:=hk;obtain⟨mt,c1⟩:∃m,H[i]? = some (.tail m):=by
  split at c1
  ·rename_i m hm';exact⟨m,hm'⟩
  ·cases c1
 obtain⟨cd,c5⟩:H[j]? = some .dead/\_:=by
  split at c5
  ·rename_i hd;exact⟨hd,c5⟩
  ·cases c5
 have c2:=bh c2;have c3:i < H.length:=bh c3;have c4:j < H.length:=bh c4;have hl:bs.length=H.length:=hm.ok.len;have hctx:=hm.low;have gH:∀k:Nat,((swl i j H).map (dE (sw i j)))[k]? = (H[sw i j k]?).map (dE (sw i j)):=λk=>by rw[List.getElem?_map,wJ c3 c4]
 have gB:∀k:Nat,(swl i j bs)[k]? = bs[sw i j k]? := λk=>wJ (by omega) (by omega) k;have fixd:∀k:Nat,k < ctx.H.length->k≠i->sw i j k=k:=λk hk hi=>by unfold sw;rw[fX hi,fX (by omega)]
 have gi:((swl i j H).map (dE (sw i j)))[i]? = some .dead:=by rw[gH,show sw i j i=j by unfold sw;simp,cd];rfl
 have ownsub:∀b o,(⟨(swl i j H).map (dE (sw i j)),swl i j bs,w,ctx.F⟩:Mem).own b o->(⟨H,bs,w,ctx.F⟩:Mem).own b o:=by
  rintro b o ⟨k,h1,h2⟩
  dsimp only at h1 h2;rw[gB] at h1;rw[gH] at h2;refine⟨sw i j k,h1,?_⟩
  rcases h2 with ⟨x,h2,h3⟩ | ⟨m,h2,h3⟩
  ·obtain⟨y,g1,g2⟩:=bg.1 h2;subst g2;rw[lA] at h3;exact .inl ⟨y,g1,h3⟩
  ·obtain⟨y,g1,g2⟩:=bg.1 h2;cases y <;> simp only[dE] at g2 <;> cases g2;exact .inr ⟨m,g1,h3⟩
 have msub:∀b o,(⟨(swl i j H).map (dE (sw i j)),swl i j bs,w,ctx.F⟩:Mem).M b o->(⟨H,bs,w,ctx.F⟩:Mem).M b o:=by
  rintro b o (h | h)
  ·exact .inl h
  ·exact .inr (ownsub b o h)
 have back:xY (sw i j) ⟨H,bs,w,ctx.F⟩ ⟨(swl i j H).map (dE (sw i j)),swl i j bs,w,ctx.F⟩:={
  w:=rfl,M:=msub
  box:=λk x hx=>by dsimp only at hx ⊢;rw[gH,vX,hx];rfl
  bs:=λk o ho=>by dsimp only at ho ⊢;rw[gB,vX,ho] }
 have keeps:=back.keeps;have ok:(⟨(swl i j H).map (dE (sw i j)),swl i j bs,w,ctx.F⟩:Mem).OK:={
  foreign:=hm.ok.foreign
  glob:=λg hg=>⟨(hm.ok.glob g hg).1,λo hM=>(hm.ok.glob g hg).2 o (msub _ _ hM)⟩
  clear:=λb o ho=>hm.ok.clear b o (ownsub b o ho)
  len:=by simp only[List.length_map,wU];exact hl
  box:=λk o x ho hx=>by
   dsimp only at ho hx;rw[gB] at ho;rw[gH] at hx;obtain⟨y,g1,g2⟩:=bg.1 hx;subst g2;have hb:=hm.ok.box _ o y ho g1;cases y with
   | dead=>trivial
   | var c=>
    obtain⟨b,ys,TT,e1,e2,e3⟩:=hb;exact⟨b,ys,TT,e1,e2,Rc.back back _ _ e3⟩
   | tail m=>exact hb
   | mp c0=>
    cases c0 with
    | kv kvs=>
     obtain⟨b,es',clock,e1,e2,e3⟩:=hb;exact⟨b,es',clock,e1,e2,e3.mono keeps⟩
    | it _ _=>exact hb
    | mi m=>
     obtain⟨b,c,t,e1,e2,e3⟩:=hb;exact⟨b,c,t,e1,e2,Rc.back back (.mp m) _ e3⟩
   | loop r=>exact hb
   | gro q es=>
    obtain⟨g0,g1 | ⟨b,ys,U,g1,g2,y1,y2,g3,g4⟩⟩:=hb
    ·exact⟨g0,.inl g1⟩
    ·exact⟨g0,.inr ⟨b,ys,U,g1,g2,y1,y2,g3,RdL.mono keeps _ _ g4⟩⟩
  apart:=λp q b x y h1 h2 h3 h4 h5 h6=>by
   dsimp only at h1 h2 h3 h4;rw[gB] at h1 h2;rw[gH] at h3 h4;obtain⟨x0,g1,g2⟩:=bg.1 h3;obtain⟨y0,g3,g4⟩:=bg.1 h4;have:=hm.ok.apart _ _ b x0 y0 h1 h2 g1 g3 (λe=>h5 (by rw[<- g2,e];rfl)) (λe=>h6 (by rw[<- g4,e];rfl))
   have:=congrArg (sw i j) this;rwa[vX,vX] at this }
 have ext:Ext ctx ⟨(swl i j H).map (dE (sw i j)),swl i j bs,w,ctx.F⟩:={
  size:=hm.ext.size
  len:=by simp only[List.length_map,wU];exact hm.ext.len
  cells:=hm.ext.cells
  blocks:=hm.ext.blocks
  mm:=λb o hb ho=>hm.ext.mm b o hb (ownsub b o ho)
  same:=rfl
  vars:=λk c hc=>by
   obtain⟨⟨c',g1⟩,g2⟩:=hm.ext.vars k c hc;have hki:k≠i:=by intro e;subst e;dsimp only at g1;rw[c1] at g1;cases g1
   have hk:=fixd k (aQ hc) hki;refine⟨⟨ren (sw i j) c',?_⟩,?_⟩
   ·dsimp only at g1 ⊢;rw[gH,hk,g1];rfl
   ·dsimp only at g2 ⊢;rw[gB,hk];exact g2
  maps:=λk c hc=>by
   obtain⟨⟨c',g1⟩,g2⟩:=hm.ext.maps k c hc;have hki:k≠i:=by intro e;subst e;dsimp only at g1;rw[c1] at g1;cases g1
   have hk:=fixd k (aQ hc) hki;refine⟨⟨renM (sw i j) c',?_⟩,?_⟩
   ·dsimp only at g1 ⊢;rw[gH,hk,g1];rfl
   ·dsimp only at g2 ⊢;rw[gB,hk];exact g2
  loops:=λk c hc=>by
   obtain⟨⟨c',g1⟩,g2⟩:=hm.ext.loops k c hc;have hki:k≠i:=by intro e;subst e;dsimp only at g1;rw[c1] at g1;cases g1
   have hk:=fixd k (aQ hc) hki;refine⟨⟨c',?_⟩,?_⟩
   ·dsimp only at g1 ⊢;rw[gH,hk,g1];rfl
   ·dsimp only at g2 ⊢;rw[gB,hk];exact g2
  toks:=λk m' hi hx=>by
   have hki:k≠i:=by intro e;subst e;dsimp only at hx;rw[gi] at hx;cases hx
   have hk:=fixd k hi hki;dsimp only at hx;rw[gH,hk] at hx;obtain⟨y,g1,g2⟩:=bg.1 hx;cases y <;> simp only[dE] at g2 <;> cases g2;obtain⟨m,q1,q2,q3⟩:=hm.ext.toks k m' hi g1;refine⟨m,q1,q2,λe=>?_⟩
   obtain⟨r1,r2⟩:=q3 e;refine⟨?_,r2⟩
   dsimp only at r1 ⊢;rw[gB,hk];exact r1
  gros:=λk q es' hi hx=>by
   have hki:k≠i:=by intro e;subst e;dsimp only at hx;rw[gi] at hx;cases hx
   have hk:=fixd k hi hki;dsimp only at hx;rw[gH,hk] at hx;obtain⟨y,g1,g2⟩:=bg.1 hx;cases y <;> simp only[dE] at g2 <;> cases g2;obtain⟨m,q1,q2,q3⟩:=hm.ext.gros k q es' hi g1;refine⟨m,q1,q2,λe=>?_⟩
   obtain⟨r1,r2⟩:=q3 e;refine⟨?_,r2⟩
   dsimp only at r1 ⊢;rw[gB,hk];exact r1
  os:=hm.ext.os
  tape:=hm.ext.tape
  output:=hm.ext.output }
 refine⟨swl i j bs,{ h:=rfl,ok:=ok,ext:=ext,env := ?_,size:=hm.size,low:=hm.low,defers:=hm.defers,nod:=hm.nod,outs:=λp hp=>?_ }⟩
 ·intro k e he;obtain⟨x,g1,g2⟩:=wR he;obtain⟨y,g3,g4⟩:=hm.env k _ g1;refine⟨y,g3,?_⟩
  unfold mX at *;rw[g2]
  split
  ·rename_i hn;rw[hn] at g4;exact tU back g4
  ·rename_i q want hn;rw[hn] at g4;exact λhj=>tU back (g4 hj)
 ·split at c5
  ·rename_i ho;rw[ho] at hp;cases hp
  ·cases c5
theorem aHo{st:ASt}{i:Nat}(hk:aC1 n i st.H.length (aC3 st)=true){ctx:Mem}{a:Act}{w:World}(h:Sat n ctx st a w):Sat n ctx (mvS i st) a w:=aGx hk (aFF h)
end
section
variable {P:Program} {T:TypeId→Option TI} {im:Nat→Bool} {n:Fr} {Q:Exit→ASt→Prop} {p:Pt}
theorem At.mv{π:Prop}(k i:Nat)(h:π->At P T im n Q (mR (Go.UK.adv T im [] n.n k p) (mvS i (bO (Go.UK.adv T im [] n.n k p)))))(hk:aC1 n i (bO (Go.UK.adv T im [] n.n k p)).H.length (aC3 (bO (Go.UK.adv T im [] n.n k p)))=true:=by kernel_rfl)(e0:π):At P T im n Q p:=At.t k (λhx=>aHo hk hx) h e0
end
end Go.UK

namespace Go.UK
open Go Go.RowKit
set_option linter.all false
variable [bJ]
section
variable {P:Program} {T:TypeId→Option TI} {n:Fr}
theorem aFw(hT:TOK P T){α:Type}(f:α->AV){m N k:Nat}(v:Vector α m){o:Oper}{need:Env}{H:List Box}(hd:dOK n.n o.dst=true:=by kernel_rfl)
  (h:slA T o need=some (.im (.arr N k (v.toList.map f)),0,(m:Int),m,k):=by kernel_rfl):Big P n o need H (eO H.length k f v.toList) (H++[.tail (m*k)]):=by
 unfold slA at h;split at h <;> try cases h
 rename_i t x los his ho;split at h <;> try cases h
 rename_i q sz b1 z len e hv ht;split at h <;> try cases h
 rename_i ei he;split at h <;> cases h;rename_i hlo hhi;refine dP hd λa μ ok hH hE=>?_;obtain⟨b,off,zs,g1,g2,g3⟩:=zT (aR hE noG hv)
 simp only[Rd] at g2;have hb:=pQ (P:=P) (b:=false) (len:=m) (cap:=m) hE hlo hhi (Int.le_refl 0) (by omega) (by omega) (Nat.le_refl _) μ.w;have hrun:=aAa hT ht he ho g1 hb;obtain⟨H0,bs,w,F⟩:=μ;dsimp only at hH;subst hH;have ext:=Ext.snoc (F:=F) ok.len (cK.refl w) (.tail (m*ei.size)) none (by intro b e;cases e)
 have ok':=OK.snoc ok (cK.refl w) (x := .tail (m*ei.size)) (o:=none) (by intro b e;cases e) (by intro b e;cases e)
 refine⟨⟨H0++[.tail (m*ei.size)],bs++[none],w,F⟩,⟨_,hrun,?_,ext,ok'⟩,rfl⟩
 have g3':=ext.at g3;have l0:(0:Int).toNat=0:=rfl;have l1:((m:Nat):Int).toNat=m:=rfl;simp only[l0,l1,Nat.sub_zero,Nat.zero_mul,Nat.add_zero]
 show Rv0 _ (.own _ _ _ _) _;simp only[Rv0,AV.isAgg,Rc,Bool.false_eq_true,if_false]
 have ll:(v.toList.map f).length=m:=by simp
 refine⟨by simp,_,m,by rw[ll],by rw[ll];exact Nat.le_refl _,g2.2.1,?_,by simp,λq hq=>?_⟩
 ·by_cases hc:m=0
  ·left;exact List.eq_nil_of_length_eq_zero (by rw[ll,hc])
  ·right;rw[if_neg hc]
   exact⟨b,off,zs,rfl,RdL.mono ext.keeps _ _ g2.2.2,g3'⟩
 ·rw[List.getElem?_append_right (Nat.le_refl _)] at hq;simp at hq;subst hq;exact⟨by rw[ll];exact Nat.le_refl _,λ_ => .inr (by rw[ll])⟩
theorem aG4(hT:TOK P T){α:Type}(f:α->AV){m N k:Nat}(v:Vector α m){o:Oper}{need:Env}{H:List Box}(hd:dOK n.n o.dst=true:=by kernel_rfl)
  (h:slA T o need=some (.im (.arr N k (v.toList.map f)),0,(m:Int),m,k):=by kernel_rfl):Big P n o need H (eO H.length k f v.toList) (H++[.tail (v.toList.length*k)]):=by
 rw[Vector.length_toList];exact aFw hT f v hd h
end
end Go.UK

namespace Go.UK
open Go Go.Proofs Go.Sort Go.RowKit
set_option linter.all false
variable [bJ]
end Go.UK

namespace Go.UK
open Go
set_option linter.all false
variable [bJ]
section
variable {P:Program} {T:TypeId→Option TI} {im:Nat→Bool} {n:Fr} {Q:Exit→ASt→Prop} {p:Pt}
def aD7 : List (Nat×Nat)->ASt->ASt
 | [],st=>st
 | (i,j) :: r,st=>aD7 r (swS i j st)
def aBW(n:Fr):List (Nat×Nat)->ASt->Bool
 | [],_=>true
 | (i,j) :: r,st=>aEg n i j st&&aBW n r (swS i j st)
theorem aA5 : ∀(pl:List (Nat×Nat)) {st:ASt},aBW n pl st=true->∀{ctx:Mem} {a:Act} {w:World},Sat n ctx st a w->Sat n ctx (aD7 pl st) a w
 | [],_,_,_,_,_,h=>h
 | (i,j) :: r,st,hk,_,_,_,h=>by
  simp only[aBW,Bool.and_eq_true] at hk;exact aA5 r hk.2 (aCK hk.1 h)
def aDm(n:Fr)(T:TypeId->Option TI)(lo:Nat)(rs:List ResultVar)(ret:AV)(H':List Box)(e:Exit)(st:ASt):Prop:=
 ∃st',(∀{ctx:Mem} {a:Act} {w:World},Sat n ctx st a w->Sat n ctx st' a w)/\xC T lo rs ret H' e st'
theorem aGA{c:Code}{lo:Nat}{rs:List ResultVar}{ret:AV}{H':List Box}{st:ASt}(h:aw P n c (aDm n T lo rs ret H') st):aw P n c (xC T lo rs ret H') st:=by
 intro ctx a w hs;refine wpIn_mono (h ctx a w hs) ?_;rintro e a' w' ⟨s,⟨s',h1,h2⟩,h3⟩
 exact⟨s',h2,h1 h3⟩
instance retTo_C {lo:Nat} {rs:List ResultVar} {ret:AV} {H':List Box}:sC (aDm n T lo rs ret H') (aDm n T lo rs ret H'):=⟨λ_ h=>h⟩
theorem At.rC(k:Nat)(pl:List (Nat×Nat)){lo:Nat}{rs:List ResultVar}{ret:AV}{H':List Box}[h:sC Q (aDm n T lo rs ret H')](hc:(outR (Go.UK.adv T im [] n.n k p),aBW n pl (bO (Go.UK.adv T im [] n.n k p)),aBQ lo (aD7 pl (bO (Go.UK.adv T im [] n.n k p))).H H' ret,aBV T rs (aD7 pl (bO (Go.UK.adv T im [] n.n k p))) ret H')=(true,true,true,some (ret,H')):=by kernel_rfl):At P T im n Q p:=by
 refine At.adv (gl:=[]) k ?_;generalize Go.UK.adv T im [] n.n k p=q at *;simp only[Prod.mk.injEq] at hc;obtain⟨ks,e⟩:=zJ hc.1;rw[e]
 exact λ_ _=>aFq (kQ_r (h.to _ ⟨_,λhs=>aA5 pl hc.2.1 hs,aHU (by rw[<- hc.2.2.2];exact Prod.ext hc.2.2.1 rfl)⟩))
theorem At.zC(k:Nat)(pl:List (Nat×Nat)){lo:Nat}{rs:List ResultVar}{ret:AV}{H':List Box}(hc:(aAo (Go.UK.adv T im [] n.n k p),aBW n pl (bO (Go.UK.adv T im [] n.n k p)),aBQ lo (aD7 pl (bO (Go.UK.adv T im [] n.n k p))).H H' ret,aBV T rs (aD7 pl (bO (Go.UK.adv T im [] n.n k p))) ret H')=(true,true,true,some (ret,H')):=by kernel_rfl):At P T im n (aDm n T lo rs ret H') p:=by
 refine At.adv (gl:=[]) k ?_;generalize Go.UK.adv T im [] n.n k p=q at *;simp only[Prod.mk.injEq] at hc;rw[oS hc.1]
 exact λ_ _=>⟨_,λhs=>aA5 pl hc.2.1 hs,aHD (by rw[<- hc.2.2.2];exact Prod.ext hc.2.2.1 rfl)⟩
theorem At.fC(im:Nat->Bool)(hT:TOK P T)(hmo:P.follows .mixedOrders=true){f:FuncId}{fn:Func}{c:Code}{args:List AV}{ret:AV}{H H':List Box}(hf:P.funcs[f]? = some fn)(hb:fn.body=some c)
  {π:Prop} (e:π) (h:π->At P T im (Fr.f fn.ntmps H.length) (aDm (Fr.f fn.ntmps H.length) T H.length fn.results.toList ret H') (.code c [] ⟨tL 0 args,H⟩)) (hk:Nat.ble args.length fn.ntmps=true:=by kernel_rfl):FnM P f H args ret H':=
 At.f im hT hmo hf hb e (λe=>λh1 h2=>aGA (h e h1 h2)) hk
theorem At.dr{π:Prop}(k:Nat)(ks:List Nat)(m:Nat)(h:π->At P T im n Q (mR (Go.UK.adv T im [] n.n k p) (upS (bO (Go.UK.adv T im [] n.n k p)) ks [] m [] [])))
  (hc:(cOK n (bO (Go.UK.adv T im [] n.n k p)) (upS (bO (Go.UK.adv T im [] n.n k p)) ks [] m [] []),cSt (bO (Go.UK.adv T im [] n.n k p)) (upS (bO (Go.UK.adv T im [] n.n k p)) ks [] m [] []))=(true,upS (bO (Go.UK.adv T im [] n.n k p)) ks [] m [] []):=by kernel_rfl) (e0:π):At P T im n Q p:=
 At.to k _ h hc e0
end
end Go.UK

namespace Go.UK
open Go
set_option linter.all false
variable [bJ]
section
variable {P:Program} {T:TypeId→Option TI} {n:Fr}
def rgzE(o:Oper)(need:Env):Option (TypeId×Nat):=
 match o.op with
 | .range t x=>match opd need none x with
  | some (.mp id)=>some (t,id)
  | _=>none
 | _=>none
theorem aGR{t id:Nat}{kt et:TypeId}{o:Oper}{need:Env}{H:List Box}(ht:P.underlying t=some (.map kt et))(hd:dOK n.n o.dst=true)(h:rgzE o need=some (t,id))(hH:H[id]? = some (.mp (.kv []))):Big P n o need H (.it H.length) (H++[.mp (.mi id)]):=by
 refine dP hd λa μ ok hH' hE=>?_;obtain⟨H0,bs,w,F⟩:=μ;dsimp only at hH';subst hH';unfold rgzE at h;split at h <;> try cases h
 rename_i t' x ho;split at h <;> cases h;rename_i hx;obtain⟨b,kvs,h1,h2,h3⟩:=aC2 (aR hE noG hx)
 dsimp only at h1;have hl:bs.length=H0.length:=ok.len;obtain⟨b',es,c,e,hheap,_⟩:=ok.box id _ _ h1 hH;cases e;have hbox:(⟨H0++[.mp (.mi id)],bs++[some w.heap.size],w.alloc (.mapIter (some b) c #[] c),F⟩:Mem).boxOK (some w.heap.size) (.mp (.mi id)):=by
  refine⟨w.heap.size,b,c,rfl,dM,?_⟩
  simp only[Rc]
  exact⟨b,.kv [],by rw[List.getElem?_append_left (aQ h1)];exact h1,by rw[List.getElem?_append_left (aQ hH)];exact hH,rfl⟩
 refine⟨⟨H0++[.mp (.mi id)],bs++[some w.heap.size],w.alloc (.mapIter (some b) c #[] c),F⟩,⟨.pointer (some ⟨w.heap.size,0,none⟩),?_,?_,Ext.snoc ok.len (vA w _) _ _ (λb e=>by cases e;exact Nat.le_refl _),OK.snoc ok (vA w _) (λb e=>by cases e;exact Nat.le_refl _) hbox⟩,rfl⟩
 ·simp[execOp,ho,h3,Instr.range,run_underlying ht,Result.andThen,run_newObj,World.alloc_eq,MapKept.run_getObj_map hheap]
 ·show Rv0 _ _ _;simp only[Rv0,AV.isAgg,Rc,Bool.false_eq_true,if_false]
  refine⟨w.heap.size,.mi id,?_,?_,rfl⟩
  ·show(bs++[some w.heap.size])[H0.length]? = _;rw[<- hl];simp
  ·show(H0++[Box.mp (.mi id)])[H0.length]? = _;simp
def nxzE(o:Oper)(need:Env):Option Nat:=
 match o.op with
 | .next x false=>match opd need none x with
  | some (.it id)=>some id
  | _=>none
 | _=>none
theorem aGD{id m:Nat}{o:Oper}{need:Env}{H:List Box}(hd:dOK n.n o.dst=true)(h:nxzE o need=some id)(hH:H[id]? = some (.mp (.mi m)))(hm:H[m]? = some (.mp (.kv []))) :
  Big P n o need H (.tup [.v (.bool false)]) H:=by
 refine dP hd λa μ ok hH' hE=>?_;obtain⟨H0,bs,w,F⟩:=μ;dsimp only at hH';subst hH';unfold nxzE at h;split at h <;> try cases h
 rename_i x t' ho;split at h <;> cases h;rename_i hx;obtain⟨b,c,h1,h2,h3⟩:=rv_it (aR hE noG hx)
 obtain⟨b',mb,t,e,hheap,hmi⟩:=ok.box id _ _ h1 hH;cases e;simp only[Rc] at hmi;obtain⟨mb',kvs,g1,g2,g3⟩:=hmi;simp only[List.cons.injEq,Value.map.injEq,Option.some.injEq,and_true] at g3;subst g3;obtain⟨mb'',es,ck,e,hmap,hok⟩:=ok.box m _ _ g1 hm;cases e;have hes:es=#[]:=by
  have:=hok.1;simp only[List.length_nil] at this;exact Array.eq_empty_of_size_eq_zero (by simpa using this)
 subst hes;have hget:(getObj b).run P w = .ok (.mapIter (some mb) t #[] t) w:=by simp[getObj,Sem.run,hheap]
 have hch:(choose (.mapNext 1)).run P w = .ok 0 w:=by simp[choose,Sem.run,Question.forced]
 refine⟨_,⟨.tuple #[.bool false],?_,?_,Ext.refl _,ok⟩,rfl⟩
 ·simp[execOp,ho,h3,Instr.next,hget,MapKept.run_getObj_map hmap,hch,Result.andThen,show(Question.mapNext 1).forced=true from rfl]
 ·exact⟨_,rfl,_,_,rfl,rv_v0 rfl,rfl⟩
def isO(i c:Int):Option Unit:=cond (decide (i=c)) (some ()) none
theorem isO_t{i c:Int}{u:Unit}(h:isO i c=some u):i=c:=by
 unfold isO at h;cases hc:decide (i=c) with
 | false=>rw[hc] at h;cases h
 | true=>exact of_decide_eq_true hc
theorem aGp(hT:TOK P T)(m:Nat){k:Nat}(id:Nat)(path:List Nat)(of:Nat){i:Int}{u:Unit}(hx:isO i 0=some u){o:Oper}{need:Env}{H:List Box}(hd:dOK n.n o.dst=true)(h:aEU T o need=some (.ref id path of,i,m,k))(hm:Nat.blt 0 m=true:=by kernel_rfl) :
  Big P n o need H (.ref id (path++[0]) of) H:=by
 have:=isO_t hx;subst this;have hm:0 < m:=Nat.lt_of_lt_of_le Nat.zero_lt_one (by simpa[Nat.blt] using hm)
 have h0:iO 0 m=some ():=by
  unfold iO;rw[show inR 0 m=true by simp only[inR,Bool.and_eq_true,decide_eq_true_eq];omega]
  rfl
 have h2:=cQ (n:=n) (H:=H) hT id path of h0 hd h;rw[show(0:Int).toNat=0 from rfl,Nat.zero_mul,Nat.add_zero] at h2;exact h2
end
end Go.UK

