/- The own layer: abstract values, their memory, and the steps of the model over them: for any program. -/
import Derived.Test.YtfndgielkmppbaaDoorLib13
import Derived.Shelf.RegionOpenPlain
import Derived.Lib.Strings
import Derived.Lib.Slices
import Derived.Lib.Walk
import Derived.Lib.Builder
import Derived.Lib.AppendStr
import Derived.Lib.UnsafeStr
import Derived.Lib.ItoaLen
import Derived.WalkKit
import Derived.Laws.Externs
import Derived.Laws.BitsLemmas
open Nat renaming le_of_ble_eq_true→bm
open Option renaming map_eq_some_iff→ay
namespace Go.UK
open Go
set_option linter.all false
variable [bA]
def aBY(n:Fr)(i j:Nat)(st:ASt):Bool:=(match st.H[i]? with | some (.tail _)=>true | _=>false)&&(Nat.ble n.lo j&&(Nat.blt i st.H.length&&(Nat.blt j st.H.length&&(match st.H[j]? with | some .dead=>(match n.outs with | []=>true | _=>false) | _=>false))))
def aBL(st:ASt):ASt:=⟨st.env,st.H++[.dead]⟩
def mvS(i:Nat)(st:ASt):ASt:=swS i st.H.length (aBL st)
section
variable {P:Program} {n:Fr}
theorem aCr{st:ASt}{ctx:Mem}{a:Act}{w:World}(h:Sat n ctx st a w):Sat n ctx (aBL st) a w:=by
 obtain⟨bs,hm⟩:=h;have ext:=Ext.snoc (F:=ctx.F) hm.ok.len (bV.refl w) .dead none (by intro b e;cases e)
 have ok:=OK.snoc hm.ok (bV.refl w) (x := .dead) (o:=none) (by intro b e;cases e) trivial;exact⟨bs++[none],rfl,ok,hm.ext.trans ext,hm.env.ext ext,hm.size,hm.low,hm.defers,hm.nod,λp hp=>(hm.outs p hp).ext ext⟩
theorem aEr{st:ASt}{i j:Nat}(hk:aBY n i j st=true){ctx:Mem}{a:Act}{w:World}(h:Sat n ctx st a w):Sat n ctx (swS i j st) a w:=by
 obtain⟨bs,hm⟩:=h;obtain⟨env,H⟩:=st;unfold aBY at hk;simp only[Bool.and_eq_true] at hk;obtain⟨c1,c2,c3,c4,c5⟩:=hk;obtain⟨mt,c1⟩:∃m,H[i]? = some (.tail m):=by
  split at c1
  ·rename_i m hm';exact⟨m,hm'⟩
  ·cases c1
 obtain⟨cd,c5⟩:H[j]? = some .dead/\_:=by
  split at c5
  ·rename_i hd;exact⟨hd,c5⟩
  ·cases c5
 have c2:=bm c2;have c3:i < H.length:=bm c3;have c4:j < H.length:=bm c4;have hl:bs.length=H.length:=hm.ok.len;have hctx:=hm.low;have gH:∀k:Nat,((swl i j H).map (cY (sw i j)))[k]? = (H[sw i j k]?).map (cY (sw i j)):=λk=>by rw[List.getElem?_map,rS c3 c4]
 have gB:∀k:Nat,(swl i j bs)[k]? = bs[sw i j k]? := λk=>rS (by omega) (by omega) k;have fixd:∀k:Nat,k < ctx.H.length->k≠i->sw i j k=k:=λk hk hi=>by unfold sw;rw[hK hi,hK (by omega)]
 have gi:((swl i j H).map (cY (sw i j)))[i]? = some .dead:=by rw[gH,show sw i j i=j by unfold sw;simp,cd];rfl
 have ownsub:∀b o,(⟨(swl i j H).map (cY (sw i j)),swl i j bs,w,ctx.F⟩:Mem).own b o->(⟨H,bs,w,ctx.F⟩:Mem).own b o:=by
  rintro b o ⟨k,h1,h2⟩
  dsimp only at h1 h2;rw[gB] at h1;rw[gH] at h2;refine⟨sw i j k,h1,?_⟩
  rcases h2 with ⟨x,h2,h3⟩ | ⟨m,h2,h3⟩
  ·obtain⟨y,g1,g2⟩:=ay.1 h2;subst g2;rw[jE] at h3;exact .inl ⟨y,g1,h3⟩
  ·obtain⟨y,g1,g2⟩:=ay.1 h2;cases y <;> simp only[cY] at g2 <;> cases g2;exact .inr ⟨m,g1,h3⟩
 have msub:∀b o,(⟨(swl i j H).map (cY (sw i j)),swl i j bs,w,ctx.F⟩:Mem).M b o->(⟨H,bs,w,ctx.F⟩:Mem).M b o:=by
  rintro b o (h | h)
  ·exact .inl h
  ·exact .inr (ownsub b o h)
 have back:uI (sw i j) ⟨H,bs,w,ctx.F⟩ ⟨(swl i j H).map (cY (sw i j)),swl i j bs,w,ctx.F⟩:={
  w:=rfl,M:=msub
  box:=λk x hx=>by dsimp only at hx ⊢;rw[gH,rB,hx];rfl
  bs:=λk o ho=>by dsimp only at ho ⊢;rw[gB,rB,ho] }
 have keeps:=back.keeps;have ok:(⟨(swl i j H).map (cY (sw i j)),swl i j bs,w,ctx.F⟩:Mem).OK:={
  foreign:=hm.ok.foreign
  glob:=λg hg=>⟨(hm.ok.glob g hg).1,λo hM=>(hm.ok.glob g hg).2 o (msub _ _ hM)⟩
  clear:=λb o ho=>hm.ok.clear b o (ownsub b o ho)
  len:=by simp only[List.length_map,rY];exact hl
  box:=λk o x ho hx=>by
   dsimp only at ho hx;rw[gB] at ho;rw[gH] at hx;obtain⟨y,g1,g2⟩:=ay.1 hx;subst g2;have hb:=hm.ok.box _ o y ho g1;cases y with
   | dead=>trivial
   | var c=>
    obtain⟨b,ys,TT,e1,e2,e3⟩:=hb;exact⟨b,ys,TT,e1,e2,Rc.back back _ _ e3⟩
   | tail m=>exact hb
   | mp c0=>
    cases c0 with
    | kv kvs=>
     obtain⟨b,es',clock,e1,e2,e3⟩:=hb;exact⟨b,es',clock,e1,e2,e3.mono keeps⟩
    | it _ _=>exact hb
   | loop r=>exact hb
   | gro q es=>
    obtain⟨g0,g1 | ⟨b,ys,U,g1,g2,y1,y2,g3,g4⟩⟩:=hb
    ·exact⟨g0,.inl g1⟩
    ·exact⟨g0,.inr ⟨b,ys,U,g1,g2,y1,y2,g3,RdL.mono keeps _ _ g4⟩⟩
  apart:=λp q b x y h1 h2 h3 h4 h5 h6=>by
   dsimp only at h1 h2 h3 h4;rw[gB] at h1 h2;rw[gH] at h3 h4;obtain⟨x0,g1,g2⟩:=ay.1 h3;obtain⟨y0,g3,g4⟩:=ay.1 h4;have:=hm.ok.apart _ _ b x0 y0 h1 h2 g1 g3 (λe=>h5 (by rw[<- g2,e];rfl)) (λe=>h6 (by rw[<- g4,e];rfl))
   have:=congrArg (sw i j) this;rwa[rB,rB] at this }
 have ext:Ext ctx ⟨(swl i j H).map (cY (sw i j)),swl i j bs,w,ctx.F⟩:={
  size:=hm.ext.size
  len:=by simp only[List.length_map,rY];exact hm.ext.len
  cells:=hm.ext.cells
  blocks:=hm.ext.blocks
  mm:=λb o hb ho=>hm.ext.mm b o hb (ownsub b o ho)
  same:=rfl
  vars:=λk c hc=>by
   obtain⟨⟨c',g1⟩,g2⟩:=hm.ext.vars k c hc;have hki:k≠i:=by intro e;subst e;dsimp only at g1;rw[c1] at g1;cases g1
   have hk:=fixd k (aO hc) hki;refine⟨⟨ren (sw i j) c',?_⟩,?_⟩
   ·dsimp only at g1 ⊢;rw[gH,hk,g1];rfl
   ·dsimp only at g2 ⊢;rw[gB,hk];exact g2
  maps:=λk c hc=>by
   obtain⟨⟨c',g1⟩,g2⟩:=hm.ext.maps k c hc;have hki:k≠i:=by intro e;subst e;dsimp only at g1;rw[c1] at g1;cases g1
   have hk:=fixd k (aO hc) hki;refine⟨⟨c',?_⟩,?_⟩
   ·dsimp only at g1 ⊢;rw[gH,hk,g1];rfl
   ·dsimp only at g2 ⊢;rw[gB,hk];exact g2
  loops:=λk c hc=>by
   obtain⟨⟨c',g1⟩,g2⟩:=hm.ext.loops k c hc;have hki:k≠i:=by intro e;subst e;dsimp only at g1;rw[c1] at g1;cases g1
   have hk:=fixd k (aO hc) hki;refine⟨⟨c',?_⟩,?_⟩
   ·dsimp only at g1 ⊢;rw[gH,hk,g1];rfl
   ·dsimp only at g2 ⊢;rw[gB,hk];exact g2
  toks:=λk m' hi hx=>by
   have hki:k≠i:=by intro e;subst e;dsimp only at hx;rw[gi] at hx;cases hx
   have hk:=fixd k hi hki;dsimp only at hx;rw[gH,hk] at hx;obtain⟨y,g1,g2⟩:=ay.1 hx;cases y <;> simp only[cY] at g2 <;> cases g2;obtain⟨m,q1,q2,q3⟩:=hm.ext.toks k m' hi g1;refine⟨m,q1,q2,λe=>?_⟩
   obtain⟨r1,r2⟩:=q3 e;refine⟨?_,r2⟩
   dsimp only at r1 ⊢;rw[gB,hk];exact r1
  gros:=λk q es' hi hx=>by
   have hki:k≠i:=by intro e;subst e;dsimp only at hx;rw[gi] at hx;cases hx
   have hk:=fixd k hi hki;dsimp only at hx;rw[gH,hk] at hx;obtain⟨y,g1,g2⟩:=ay.1 hx;cases y <;> simp only[cY] at g2 <;> cases g2;obtain⟨m,q1,q2,q3⟩:=hm.ext.gros k q es' hi g1;refine⟨m,q1,q2,λe=>?_⟩
   obtain⟨r1,r2⟩:=q3 e;refine⟨?_,r2⟩
   dsimp only at r1 ⊢;rw[gB,hk];exact r1
  os:=hm.ext.os
  tape:=hm.ext.tape
  output:=hm.ext.output }
 refine⟨swl i j bs,{ h:=rfl,ok:=ok,ext:=ext,env := ?_,size:=hm.size,low:=hm.low,defers:=hm.defers,nod:=hm.nod,outs:=λp hp=>?_ }⟩
 ·intro k e he;obtain⟨x,g1,g2⟩:=rU he;obtain⟨y,g3,g4⟩:=hm.env k _ g1;refine⟨y,g3,?_⟩
  unfold lR at *;rw[g2]
  split
  ·rename_i hn;rw[hn] at g4;exact pR back g4
  ·rename_i q want hn;rw[hn] at g4;exact λhj=>pR back (g4 hj)
 ·split at c5
  ·rename_i ho;rw[ho] at hp;cases hp
  ·cases c5
theorem aGU{st:ASt}{i:Nat}(hk:aBY n i st.H.length (aBL st)=true){ctx:Mem}{a:Act}{w:World}(h:Sat n ctx st a w):Sat n ctx (mvS i st) a w:=aEr hk (aCr h)
end
section
variable {P:Program} {T:TypeId→Option TI} {im:Nat→Bool} {n:Fr} {Q:Exit→ASt→Prop} {p:Pt}
theorem At.mv{π:Prop}(k i:Nat)(h:π->At P T im n Q (lL (Go.UK.adv T im [] n.n k p) (mvS i (bS (Go.UK.adv T im [] n.n k p)))))(hk:aBY n i (bS (Go.UK.adv T im [] n.n k p)).H.length (aBL (bS (Go.UK.adv T im [] n.n k p)))=true:=by kernel_rfl)(e0:π):At P T im n Q p:=At.t k (λhx=>aGU hk hx) h e0
end
end Go.UK

namespace Go.UK
open Go Go.RowKit
set_option linter.all false
variable [bA]
section
variable {P:Program} {T:TypeId→Option TI} {n:Fr}
theorem aCh(hT:TOK P T){α:Type}(f:α->AV){m N k:Nat}(v:Vector α m){o:Oper}{need:Env}{H:List Box}(hd:dOK n.n o.dst=true:=by kernel_rfl)
  (h:slA T o need=some (.im (.arr N k (v.toList.map f)),0,(m:Int),m,k):=by kernel_rfl):Big P n o need H (eO H.length k f v.toList) (H++[.tail (m*k)]):=by
 unfold slA at h;split at h <;> try cases h
 rename_i t x los his ho;split at h <;> try cases h
 rename_i q sz b1 z len e hv ht;split at h <;> try cases h
 rename_i ei he;split at h <;> cases h;rename_i hlo hhi;refine eQ hd λa μ ok hH hE=>?_;obtain⟨b,off,zs,g1,g2,g3⟩:=zP (aY hE noG hv)
 simp only[Rd] at g2;have hb:=oL (P:=P) (b:=false) (len:=m) (cap:=m) hE hlo hhi (Int.le_refl 0) (by omega) (by omega) (Nat.le_refl _) μ.w;have hrun:=aEQ hT ht he ho g1 hb;obtain⟨H0,bs,w,F⟩:=μ;dsimp only at hH;subst hH;have ext:=Ext.snoc (F:=F) ok.len (bV.refl w) (.tail (m*ei.size)) none (by intro b e;cases e)
 have ok':=OK.snoc ok (bV.refl w) (x := .tail (m*ei.size)) (o:=none) (by intro b e;cases e) (by intro b e;cases e)
 refine⟨⟨H0++[.tail (m*ei.size)],bs++[none],w,F⟩,⟨_,hrun,?_,ext,ok'⟩,rfl⟩
 have g3':=ext.at g3;have l0:(0:Int).toNat=0:=rfl;have l1:((m:Nat):Int).toNat=m:=rfl;simp only[l0,l1,Nat.sub_zero,Nat.zero_mul,Nat.add_zero]
 show Rv0 _ (.own _ _ _ _) _;simp only[Rv0,AV.isAgg,Rc,Bool.false_eq_true,if_false]
 have ll:(v.toList.map f).length=m:=by simp
 refine⟨by simp,_,m,by rw[ll],by rw[ll];exact Nat.le_refl _,g2.2.1,?_,by simp,λq hq=>?_⟩
 ·by_cases hc:m=0
  ·left;exact List.eq_nil_of_length_eq_zero (by rw[ll,hc])
  ·right;rw[if_neg hc]
   exact⟨b,off,zs,rfl,RdL.mono ext.keeps _ _ g2.2.2,g3'⟩
 ·rw[List.getElem?_append_right (Nat.le_refl _)] at hq;simp at hq;subst hq;exact⟨by rw[ll];exact Nat.le_refl _,λ_ => .inr (by rw[ll])⟩
theorem aBk(hT:TOK P T){α:Type}(f:α->AV){m N k:Nat}(v:Vector α m){o:Oper}{need:Env}{H:List Box}(hd:dOK n.n o.dst=true:=by kernel_rfl)
  (h:slA T o need=some (.im (.arr N k (v.toList.map f)),0,(m:Int),m,k):=by kernel_rfl):Big P n o need H (eO H.length k f v.toList) (H++[.tail (v.toList.length*k)]):=by
 rw[Vector.length_toList];exact aCh hT f v hd h
end
end Go.UK

open List renaming length_append→am,length_cons→aj
namespace Go.UK
open Go Go.Proofs Go.Sort Go.RowKit
set_option linter.all false
variable [bA]
def dZ(l:List Int):List UInt8:=l.flatMap λx=>32 :: Lib.itoa x
def lS(first:ByteArray)(l:List Int):List UInt8:=first.data.toList++dZ l
theorem aAc(l:List Int)(x:Int):dZ (l++[x])=dZ l++32 :: Lib.itoa x:=by unfold dZ;rw[List.flatMap_append];simp
theorem aBs(x:Int):(⟨#[32]⟩:ByteArray)++⟨(Lib.itoa x).toArray⟩=⟨(32 :: Lib.itoa x).toArray⟩:=by
 rw[ByteArray.mk_append_mk];simp
theorem pC(x:Int)(h0:-9223372036854775808<=x)(h1:x<=9223372036854775807):(Lib.itoa x).length<=100:=by
 unfold Lib.itoa;split
 ·rw[aj,Lib.decDigits_length]
  have:=Lib.nDigits_le20 x.natAbs (by omega)
  omega
 ·rw[Lib.decDigits_length]
  have:=Lib.nDigits_le20 x.toNat (by omega)
  omega
theorem pW : ∀(l:List Int),(∀x∈l,-9223372036854775808<=x/\x<=9223372036854775807)->(dZ l).length<=200*l.length
 | [],_=>by simp[dZ]
 | x :: l,h=>by
  have h1:=h x List.mem_cons_self;have h2:=pC x h1.1 h1.2;have h3:=pW l λy hy=>h y (List.mem_cons_of_mem _ hy)
  unfold dZ at h3 ⊢;rw[List.flatMap_cons,am,aj,aj]
  omega
theorem aCY(first:ByteArray)(l:List Int)(h:∀x∈l,-9223372036854775808<=x/\x<=9223372036854775807)(k:Nat):(lS first (l.take k)).length<=first.size+200*k:=by
 have:=pW (l.take k) λx hx=>h x (List.mem_of_mem_take hx)
 unfold lS;rw[am]
 have e:first.data.toList.length=first.size:=rfl
 have:=List.length_take_le k l;omega
theorem rT{w:World}{b:Nat}{o:Obj}(h:w.heap[b]? = some o):b < w.heap.size:=by
 refine Nat.lt_of_not_le λq=>?_;rw[Array.getElem?_eq_none q] at h;cases h
theorem aAB{B:Nat}(w:World)(k:Nat)(os:Array Obj)(h:B<=w.heap.size):RowKit.Below B w (grow (w.drewN k) os):=⟨rfl,rfl,rfl,by simp,λi hi=>heap_grow_old _ _ (by show i < w.heap.size;omega)⟩
theorem aDQ{w:World}{B e size n:Nat}{v:Value}{xs:List Value}(k:Nat)(os:Array Obj)(h:w.ownsRow B e size v n xs):(grow (w.drewN k) os).ownsRow B e size v n xs:=by
 refine⟨h.1,?_⟩
 rcases h.2 with h | ⟨g,cap,cur,h1,h2,h3,h4⟩
 ·exact .inl h
 ·exact .inr ⟨g,cap,cur,h1,h2,(heap_grow_old _ _ (rT h3)).trans h3,h4⟩
def xW(x:Int):Bool:=decide (-9223372036854775808<=x)&&decide (x<=9223372036854775807)
def jA(first:ByteArray)(l:List Int):Option ByteArray:=cond (decide (first.size≠0)&&(decide (first.size<=1000000)&&(decide (l.length<=100000)&&l.all xW))) (some ⟨(lS first l).toArray⟩) none
theorem aEm{first:ByteArray}{l:List Int}{r:ByteArray}(h:jA first l=some r):r=⟨(lS first l).toArray⟩/\first.size≠0/\first.size<=1000000/\l.length<=100000/\∀x∈l,-9223372036854775808<=x/\x<=9223372036854775807:=by
 unfold jA at h;cases hc:(decide (first.size≠0)&&(decide (first.size<=1000000)&&(decide (l.length<=100000)&&l.all xW))) with
 | false=>rw[hc] at h;cases h
 | true=>
  rw[hc] at h;simp only[Bool.and_eq_true,decide_eq_true_eq,List.all_eq_true,xW] at hc;exact⟨(Option.some.inj h).symm,hc.1,hc.2.1,hc.2.2.1,hc.2.2.2⟩
theorem yC{w:World}{M:Nat->Nat->Prop}:∀(l:List Int) {zs:List Value},RdL w M (l.map j64) zs->zs=l.map (Value.int .i64)
 | [],_,h=>h
 | x :: l,zs,h=>by
  obtain⟨y1,y2,rfl,h1,h2⟩:=h;rw[yC l h2,h1.1]
  rfl
end Go.UK

namespace Go.UK
open Go
set_option linter.all false
variable [bA]
section
variable {P:Program} {T:TypeId→Option TI} {im:Nat→Bool} {n:Fr} {Q:Exit→ASt→Prop} {p:Pt}
def aBn : List (Nat×Nat)->ASt->ASt
 | [],st=>st
 | (i,j) :: r,st=>aBn r (swS i j st)
def xV(n:Fr):List (Nat×Nat)->ASt->Bool
 | [],_=>true
 | (i,j) :: r,st=>aC6 n i j st&&xV n r (swS i j st)
theorem vY : ∀(pl:List (Nat×Nat)) {st:ASt},xV n pl st=true->∀{ctx:Mem} {a:Act} {w:World},Sat n ctx st a w->Sat n ctx (aBn pl st) a w
 | [],_,_,_,_,_,h=>h
 | (i,j) :: r,st,hk,_,_,_,h=>by
  simp only[xV,Bool.and_eq_true] at hk;exact vY r hk.2 (aAs hk.1 h)
def aCS(n:Fr)(T:TypeId->Option TI)(lo:Nat)(rs:List ResultVar)(ret:AV)(H':List Box)(e:Exit)(st:ASt):Prop:=
 ∃st',(∀{ctx:Mem} {a:Act} {w:World},Sat n ctx st a w->Sat n ctx st' a w)/\tB T lo rs ret H' e st'
theorem aE8{c:Code}{lo:Nat}{rs:List ResultVar}{ret:AV}{H':List Box}{st:ASt}(h:aw P n c (aCS n T lo rs ret H') st):aw P n c (tB T lo rs ret H') st:=by
 intro ctx a w hs;refine wpIn_mono (h ctx a w hs) ?_;rintro e a' w' ⟨s,⟨s',h1,h2⟩,h3⟩
 exact⟨s',h2,h1 h3⟩
instance retTo_C {lo:Nat} {rs:List ResultVar} {ret:AV} {H':List Box}:oF (aCS n T lo rs ret H') (aCS n T lo rs ret H'):=⟨λ_ h=>h⟩
theorem At.rC(k:Nat)(pl:List (Nat×Nat)){lo:Nat}{rs:List ResultVar}{ret:AV}{H':List Box}[h:oF Q (aCS n T lo rs ret H')](hc:(outR (Go.UK.adv T im [] n.n k p),xV n pl (bS (Go.UK.adv T im [] n.n k p)),yL lo (aBn pl (bS (Go.UK.adv T im [] n.n k p))).H H' ret,zJ T rs (aBn pl (bS (Go.UK.adv T im [] n.n k p))) ret H')=(true,true,true,some (ret,H')):=by kernel_rfl):At P T im n Q p:=by
 refine At.adv (gl:=[]) k ?_;generalize Go.UK.adv T im [] n.n k p=q at *;simp only[Prod.mk.injEq] at hc;obtain⟨ks,e⟩:=vD hc.1;rw[e]
 exact λ_ _=>aDl (kQ_r (h.to _ ⟨_,λhs=>vY pl hc.2.1 hs,aFa (by rw[<- hc.2.2.2];exact Prod.ext hc.2.2.1 rfl)⟩))
theorem At.zC(k:Nat)(pl:List (Nat×Nat)){lo:Nat}{rs:List ResultVar}{ret:AV}{H':List Box}(hc:(aAa (Go.UK.adv T im [] n.n k p),xV n pl (bS (Go.UK.adv T im [] n.n k p)),yL lo (aBn pl (bS (Go.UK.adv T im [] n.n k p))).H H' ret,zJ T rs (aBn pl (bS (Go.UK.adv T im [] n.n k p))) ret H')=(true,true,true,some (ret,H')):=by kernel_rfl):At P T im n (aCS n T lo rs ret H') p:=by
 refine At.adv (gl:=[]) k ?_;generalize Go.UK.adv T im [] n.n k p=q at *;simp only[Prod.mk.injEq] at hc;rw[lF hc.1]
 exact λ_ _=>⟨_,λhs=>vY pl hc.2.1 hs,aFM (by rw[<- hc.2.2.2];exact Prod.ext hc.2.2.1 rfl)⟩
theorem At.fC(im:Nat->Bool)(hT:TOK P T)(hmo:P.follows .mixedOrders=true){f:FuncId}{fn:Func}{c:Code}{args:List AV}{ret:AV}{H H':List Box}(hf:P.funcs[f]? = some fn)(hb:fn.body=some c)
  {π:Prop} (e:π) (h:π->At P T im (Fr.f fn.ntmps H.length) (aCS (Fr.f fn.ntmps H.length) T H.length fn.results.toList ret H') (.code c [] ⟨pJ 0 args,H⟩)) (hk:Nat.ble args.length fn.ntmps=true:=by kernel_rfl):FnM P f H args ret H':=
 At.f im hT hmo hf hb e (λe=>λh1 h2=>aE8 (h e h1 h2)) hk
theorem At.dr{π:Prop}(k:Nat)(ks:List Nat)(m:Nat)(h:π->At P T im n Q (lL (Go.UK.adv T im [] n.n k p) (upS (bS (Go.UK.adv T im [] n.n k p)) ks [] m [] [])))
  (hc:(cOK n (bS (Go.UK.adv T im [] n.n k p)) (upS (bS (Go.UK.adv T im [] n.n k p)) ks [] m [] []),cSt (bS (Go.UK.adv T im [] n.n k p)) (upS (bS (Go.UK.adv T im [] n.n k p)) ks [] m [] []))=(true,upS (bS (Go.UK.adv T im [] n.n k p)) ks [] m [] []):=by kernel_rfl) (e0:π):At P T im n Q p:=
 At.to k _ h hc e0
end
end Go.UK

