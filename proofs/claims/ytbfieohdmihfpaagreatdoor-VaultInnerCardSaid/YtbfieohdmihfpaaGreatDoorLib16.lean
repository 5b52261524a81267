/- The own layer: abstract values, their memory, and the steps of the model over them: for any program. -/
import Derived.Test.YtbfieohdmihfpaaGreatDoorLib15
import Derived.Shelf.Strconv.Atoi
open Array renaming ext_getElem?→j4,getElem?_modify→ib,getElem?_setIfInBounds→gj
open Bool renaming false_eq_true→au
open List renaming getElem?_concat_length→ew
open Nat renaming le_of_not_lt→n7,le_refl→ca
namespace Go.UK
open Go Go.Proofs Go.Sort Go.RowKit
set_option linter.all false
variable [bL]
def yR(s:ByteArray):List AV:=s.data.toList.map λc => .v (.int .u8 c.toNat)
theorem tG(s:ByteArray):(yR s).length=s.size:=by unfold yR;rw[List.length_map];rfl
theorem aLm(s x:ByteArray):yR (s++x)=yR s++yR x:=by unfold yR;rw[ByteArray.data_append,Array.toList_append,List.map_append]
theorem aPq{w:World}{M:Nat->Nat->Prop}(s:ByteArray){zs:List Value}(h:RdL w M (yR s) zs):zs=Lib.byteCells s.data.toList:=by
 unfold yR at h;generalize s.data.toList=l at h ⊢
 induction l generalizing zs with
 | nil=>simpa[RdL,Lib.byteCells] using h
 | cons c l ih=>
  simp only[List.map_cons,RdL,Rd] at h;obtain⟨y1,y2,rfl,⟨rfl,_⟩,h2⟩:=h;rw[ih h2]
  rfl
theorem aFZ{w:World}{b o:Nat}{p v q:Value}{t:TypeId}(h:w.heap[b]? = some (.cells #[p,v] t (0,0))):w.setCell ⟨b,o,none⟩ q=aZ w b (.cells (#[p,v].setIfInBounds o q) t (0,0)):=by
 unfold World.setCell aZ;congr 1;apply j4;intro i;rw[ib,gj]
 by_cases e:b=i
 ·subst e;rw[if_pos rfl,if_pos rfl,if_pos (cG h),h]
  rfl
 ·rw[if_neg e,if_neg e]
theorem aKc{w:World}{b:Nat}{o:Obj}(h:w.heap[b]? = some o):aZ w b o=w:=by
 unfold aZ;congr 1;apply j4;intro i;rw[gj]
 by_cases e:b=i
 ·subst e;rw[if_pos rfl,if_pos (cG h),h]
 ·rw[if_neg e]
section
variable {P:Program} {T:TypeId→Option TI} {n:Fr} {H:List Box} {bs:List (Option Nat)} {w:World} {F:Nat→Nat→Prop} {id j b:Nat} {t e:TypeId} {s:ByteArray}
theorem aRu(ok:(⟨H,bs,w,F⟩:Mem).OK)(h:H[id]? = some (.mp (.bl t e j s)))(hb:bs[id]? = some (some b)) :
  ∃p v,w.heap[b]? = some (.cells #[p,v] t (0,0))/\(p = .pointer none\/p = .pointer (some ⟨b,0,none⟩))/\Rc ⟨H,bs,w,F⟩ (.gro j 1 s.size .all) [v]/\(⟨H,bs,w,F⟩:Mem).typd j s.size e:=by
 obtain⟨b',p,v,e,h1,h2,h3⟩:=ok.box id _ _ hb h;cases e;exact⟨p,v,h1,h2,h3⟩
theorem aRS(ok:(⟨H,bs,w,F⟩:Mem).OK)(h:H[id]? = some (.mp (.bl t e j s)))(hb:bs[id]? = some (some b)){p v p' v':Value}(hw:w.heap[b]? = some (.cells #[p,v] t (0,0))){s':ByteArray}(hp:p' = .pointer none\/p' = .pointer (some ⟨b,0,none⟩))(hv:Rc ⟨H,bs,w,F⟩ (.gro j 1 s'.size .all) [v'])(ht:(⟨H,bs,w,F⟩:Mem).typd j s'.size e) :
  Ext ⟨H,bs,w,F⟩ ⟨H.set id (.mp (.bl t e j s')),bs,aZ w b (.cells #[p',v'] t (0,0)),F⟩/\(⟨H.set id (.mp (.bl t e j s')),bs,aZ w b (.cells #[p',v'] t (0,0)),F⟩:Mem).OK:=by
 have ext:=Ext.put (F:=F) (x' := .mp (.bl t e j s')) (o' := .cells #[p',v'] t (0,0)) hb h rfl rfl ok (λa=>tN hw a)
 exact⟨ext,OK.put (F:=F) (x' := .mp (.bl t e j s')) (o' := .cells #[p',v'] t (0,0)) hb h rfl rfl ok (λa=>tN hw a) ⟨b,p',v',rfl,bK (cG hw),hp,Rc.ext ext _ _ hv,ext.typd ht⟩⟩
theorem aEZ(hT:TOK P T){rest:List Oper}{oa:Array Oper}{o:Oper}{a:Act}{Q:Exit->Act->World->Prop}(hgd:o.guard=none)(p q:Operand)(t xt e:TypeId){sz b1:Nat}{z:AV}{ei xi:TI}
  (ho:o.op = .call { callee := .builtin .append,args:=#[p,q],argTypes:=#[t,xt] }) (ht:T t=some ⟨sz,b1,z,.sl e⟩) (he:T e=some ei) (hek:ei.size=1) (heb:ei.bytes=1) (hxt:T xt=some xi) (hxk:xi.kind.noInt=true)
  (ok:(⟨H,bs,w,F⟩:Mem).OK) {x:ByteArray} (hj:H[j]? = some (.gro 1 (yR s))) (hv:Rc ⟨H,bs,w,F⟩ (.gro j 1 s.size .all) [a.eval p]) (hty:(⟨H,bs,w,F⟩:Mem).typd j s.size e) (hx:a.eval q = .string x) (hl:s.size+x.size<=1000000)
  (h:∀v' bs' w',(⟨H.set j (.gro 1 (yR (s++x))),bs',w',F⟩:Mem).OK->Ext ⟨H,bs,w,F⟩ ⟨H.set j (.gro 1 (yR (s++x))),bs',w',F⟩->Rc ⟨H.set j (.gro 1 (yR (s++x))),bs',w',F⟩ (.gro j 1 (s++x).size .all) [v']->(⟨H.set j (.gro 1 (yR (s++x))),bs',w',F⟩:Mem).typd j (s++x).size e->wpList P oa Q rest (a.put o.dst v') w') :
  wpList P oa Q (o :: rest) a w:=by
 obtain⟨bs',w',⟨y,hr,hrv,hext,hok⟩,hT'⟩:=aGU (P:=P) (T:=T) (es:=yR s) (ys:=yR x) (v := .v (.string x)) (o:=o) (a:=a) hT ho ht he hek hxt hxk ok (show Rv0 _ _ _ from by rw[tG];simpa only[Rv0,AV.isAgg,au,if_false] using hv)
  (by rw[hx];exact tQ rfl) rfl hj (by decide) (by rw[heb];decide) (by rw[tG,tG,heb];unfold okA;simp;omega)
 rw[<- aLm,tG] at hrv;rw[<- aLm] at hext hok hT';have hty':(⟨H.set j (.gro 1 (yR (s++x))),bs',w',F⟩:Mem).typd j (s++x).size e:=by
  refine⟨by simpa using hty.1,λk es hH=>?_⟩
  dsimp only at hH;rw[bW hj] at hH;cases hH;exact⟨by rw[tG];exact ca _,λ_=>hT' λb hb=>((hty.2 1 _ hj).2 (tG s).symm b hb)⟩
 refine wpList_plain hgd λK hK=>?_;unfold Oper.wp;rw[hr]
 exact hK _ _ (h y bs' w' hok hext (by simpa only[Rv,Rv0,AV.isAgg,au,if_false] using hrv) hty')
theorem aVy(ok:(⟨H,bs,w,F⟩:Mem).OK){v:Value}(hj:H[j]? = some (.gro 1 (yR s)))(hv:Rc ⟨H,bs,w,F⟩ (.gro j 1 s.size .all) [v])(hty:(⟨H,bs,w,F⟩:Mem).typd j s.size e)(h0:s.size≠0) :
  ∃g cap cur,v = .slice (some ⟨g,0,none⟩) s.size cap/\bs[j]? = some (some g)/\w.heap[g]? = some (.cells cur e (0,0))/\s.size<=cap/\cur.size=cap/\cur.toList.take s.size=Lib.byteCells s.data.toList:=by
 have hg:(⟨H,bs,w,F⟩:Mem).gro j 1 (yR s).length .all v:=by
  rw[tG]
  simp only[Rc] at hv;obtain⟨y,h1,h2⟩:=hv;cases h1;exact h2
 obtain⟨_,a,cap,g1,g2,g3,g4⟩:=aKJ ok hg hj;rw[tG] at g1 g2;rcases g4 with ⟨g,ys,U,y1,y2,rfl,q1,q2,q3,q4⟩ | ⟨_,_,q⟩
 ·obtain⟨_,c,e1,_⟩:=(hty.2 1 _ hj).2 (tG s).symm g g3;dsimp only at e1 q1;rw[q1] at e1;cases e1;have hy:=aPq s q4;refine⟨g,cap,ys,g1,g3,q1,g2,by omega,?_⟩
  rw[q3,hy,List.take_left']
  rw[Lib.byteCells_length];rfl
 ·exact absurd (by rw[<- tG,q];rfl) h0
theorem aPY(ok:(⟨H,bs,w,F⟩:Mem).OK){k:Nat}{es:List AV}(hj:H[j]? = some (.gro k es)){g:Nat}(hg:bs[j]? = some (some g)){w':World}(hsz:w'.heap.size=w.heap.size)(hc:∀b o,w'.cell? ⟨b,o,none⟩=w.cell? ⟨b,o,none⟩)(hb:∀b,b≠g->w'.heap[b]? = w.heap[b]?)(h1:w'.os=w.os)(h2:w'.tape=w.tape)(h3:w'.output=w.output) :
  Ext ⟨H,bs,w,F⟩ ⟨H.set j .dead,bs,w',F⟩/\(⟨H.set j .dead,bs,w',F⟩:Mem).OK:=by
 have hown:∀b o,(⟨H.set j .dead,bs,w',F⟩:Mem).own b o->b≠g/\(⟨H,bs,w,F⟩:Mem).own b o:=by
  rintro b o ⟨i,i1,i2⟩
  dsimp only at i1 i2;have hne:j≠i:=by
   rintro rfl;rw[bW hj] at i2;rcases i2 with ⟨x,e,hw⟩ | ⟨m,e,_⟩ <;> cases e
   cases hw
  rw[aW hne] at i2;refine⟨?_,i,i1,i2⟩
  rintro rfl;rcases i2 with ⟨x,e,hw⟩ | ⟨m,e,_⟩
  ·exact hne (ok.apart j i b _ _ hg i1 hj e (by simp) (Box.whole_live hw))
  ·exact hne (ok.apart j i b _ _ hg i1 hj e (by simp) (by simp))
 have other:∀(i:Nat) x,j≠i->H[i]? = some x->(H.set j .dead)[i]? = some x:=λi x hne h=>(aW hne).trans h;have ext:Ext ⟨H,bs,w,F⟩ ⟨H.set j .dead,bs,w',F⟩:={
  size:=by show w.heap.size<=w'.heap.size;omega
  len:=by simp
  cells:=λb o _ _=>hc b o
  blocks:=λb _ hn=>hb b (by rintro rfl;exact hn 0 ⟨j,hg,.inl ⟨_,hj,rfl⟩⟩)
  mm:=λb o _ h=>(hown b o h).2
  same:=rfl
  vars:=λi c hx=>by
   have hne:j≠i:=by rintro rfl;dsimp only at hx;rw[hj] at hx;cases hx
   exact⟨⟨c,other i _ hne hx⟩,rfl⟩
  maps:=λi c hx=>by
   have hne:j≠i:=by rintro rfl;dsimp only at hx;rw[hj] at hx;cases hx
   exact⟨⟨c,other i _ hne hx⟩,rfl⟩
  loops:=λi c hx=>by
   have hne:j≠i:=by rintro rfl;dsimp only at hx;rw[hj] at hx;cases hx
   exact⟨⟨c,other i _ hne hx⟩,rfl⟩
  toks:=λi m hi hx=>by
   dsimp only at hx;rcases dV hx with ⟨_,e'⟩ | ⟨hne,e'⟩
   ·cases e'
   ·refine⟨m,e',ca _,λ_=>⟨rfl,λb s hbb hr=>oI (hb b ?_) hr⟩⟩
    rintro rfl;exact hne (ok.apart j i b _ _ hg hbb hj e' (by simp) (by simp))
  gros:=λi q es' hi hx=>by
   dsimp only at hx;rcases dV hx with ⟨_,e'⟩ | ⟨hne,e'⟩
   ·cases e'
   ·refine⟨es',e',ca _,λ_=>⟨rfl,λb s T hbb hr=>mV (hb b ?_) hr⟩⟩
    rintro rfl;exact hne (ok.apart j i b _ _ hg hbb hj e' (by simp) (by simp))
  os:=h1
  tape:=h2
  output:=h3 }
 refine⟨ext,λb o hf=>by have:=ok.foreign b o hf;show b < w'.heap.size;dsimp only at this;omega,λb o ho hf=>ok.clear b o (hown b o ho).2 hf,by have:=ok.len;simpa using this,?_,?_,λg hg=>ext.globAt (ok.glob g hg)⟩
 ·intro i o y ho hy;dsimp only at ho hy;rcases dV hy with ⟨_,e'⟩ | ⟨hne,e'⟩
  ·subst e';trivial
  ·refine mE ext (λb hbo hd=>hb b ?_) (ok.box i o y ho e')
   subst hbo;rintro rfl;exact hne (ok.apart j i b _ _ hg ho hj e' (by simp) hd)
 ·intro i i' b x y hi hi' hx hy hxd hyd;dsimp only at hi hi' hx hy;rcases dV hx with ⟨_,e1⟩ | ⟨_,e1⟩
  ·exact absurd e1 hxd
  ·rcases dV hy with ⟨_,e2⟩ | ⟨_,e2⟩
   ·exact absurd e2 hyd
   ·exact ok.apart i i' b x y hi hi' e1 e2 hxd hyd
def bldE(T:TypeId->Option TI)(o:Oper):Option TypeId:=
 match o.op with
 | .alloc t=>match T t with
  | some ⟨2,_,.st 2 [.v (.pointer none),.v (.slice none 0 0)],_⟩=>some t
  | _=>none
 | _=>none
theorem aTU(hT:TOK P T)(e:TypeId){o:Oper}{need:Env}(hd:dOK n.n o.dst=true)(h:bldE T o=some t):Big P n o need H (.it (H.length+1)) (H++[.gro 1 []]++[.mp (.bl t e H.length ⟨#[]⟩)]):=by
 unfold bldE at h;split at h <;> try cases h
 rename_i t0 ho;split at h <;> cases h;rename_i ht;refine cY hd λa μ ok hH hE=>?_;obtain⟨H0,bs,w,F⟩:=μ;dsimp only at hH;subst hH;obtain⟨y,ys,h1,h2,h3,h4,h5⟩:=uL hT ht w;have hl:bs.length=H0.length:=ok.len;have e1:=Ext.snoc (F:=F) ok.len (cL.refl w) (.gro 1 []) none (by intro b e;cases e)
 have ok1:=OK.snoc ok (cL.refl w) (x := .gro 1 []) (o:=none) (by intro b e;cases e) ⟨by simp,.inl ⟨rfl,rfl⟩⟩
 have hc:=aBs (μ:=⟨H0++[.gro 1 []],bs++[none],w,F⟩) _ _ h2;have hy:ys=[.pointer none,.slice none 0 0]:=by
  dsimp only at hc;simp only[Rc,RcL] at hc;obtain⟨_,y1,y2,rfl,⟨rfl,_⟩,y3,y4,rfl,⟨rfl,_⟩,rfl⟩:=hc;rfl
 subst hy;have lat:=cL.alloc w y.cells t;have e2:=Ext.snoc (F:=F) ok1.len lat (.mp (.bl t e H0.length ⟨#[]⟩)) (some w.heap.size) (by intro b e;cases e;exact ca _)
 have hbn:(bs++[none])[H0.length]? = some none:=by rw[<- hl,ew]
 have own0:Rc ⟨H0++[.gro 1 []],bs++[none],w,F⟩ (.gro H0.length 1 0 .all) [.slice none 0 0]:=by
  simp only[Rc]
  refine⟨_,rfl,by simp,none,0,rfl,⟨ca _,λ_=>rfl⟩,λk' es hm=>?_⟩
  simp only[ew,Option.some.injEq,Box.gro.injEq] at hm;obtain⟨rfl,rfl⟩:=hm;exact⟨ca _,λ_=>⟨rfl,hbn,.inr ⟨rfl,rfl⟩⟩⟩
 have ty0:(⟨H0++[.gro 1 []],bs++[none],w,F⟩:Mem).typd H0.length 0 e:=⟨by simp,λk es _=>⟨Nat.zero_le _,λ_ b hb=>by rw[hbn] at hb;cases hb⟩⟩
 have ok2:=OK.snoc ok1 lat (x := .mp (.bl t e H0.length ⟨#[]⟩)) (o:=some w.heap.size) (by intro b e;cases e;exact ca _) ⟨w.heap.size,.pointer none,.slice none 0 0,rfl,by rw[h3];exact eV,.inl rfl,Rc.ext e2 _ _ own0,e2.typd ty0⟩
 refine⟨⟨_,_,_,F⟩,⟨.pointer (some ⟨w.heap.size,0,none⟩),?_,?_,e1.trans e2,ok2⟩,rfl⟩
 ·simp[execOp,ho,Instr.alloc,h1,tR]
 ·show Rv0 _ _ _;simp only[Rv0,AV.isAgg,Rc,au,if_false]
  refine⟨w.heap.size,.bl t e H0.length ⟨#[]⟩,?_,?_,rfl⟩
  ·show((bs++[none])++[some w.heap.size])[H0.length+1]? = _;rw[<- hl,show bs.length+1=(bs++[none]).length by simp,ew]
  ·show((H0++[Box.gro 1 []])++[Box.mp (.bl t e H0.length ⟨#[]⟩)])[H0.length+1]? = _;rw[show H0.length+1=(H0++[Box.gro 1 []]).length by simp,ew]
end
def bwO(s x:ByteArray):Option ByteArray:=cond (decide (1000000 < s.size+x.size)) none (some (s++x))
theorem bwO_t{s x r:ByteArray}(h:bwO s x=some r):r=s++x/\s.size+x.size<=1000000:=by
 obtain⟨h1,rfl⟩:=aN4 h;exact⟨rfl,n7 (of_decide_eq_false h1)⟩
def bsO(s:ByteArray):Option ByteArray:=cond (decide (s.size=0)||decide (1000000 < s.size)) none (some s)
theorem bsO_t{s r:ByteArray}(h:bsO s=some r):r=s/\s.size≠0/\s.size<=1000000:=by
 obtain⟨h1,rfl⟩:=aN4 h;rw[Bool.or_eq_false_iff] at h1;exact⟨rfl,of_decide_eq_false h1.1,n7 (of_decide_eq_false h1.2)⟩
theorem aJF(w:World)(g n:Nat):(w.drew.freeze ⟨g,0,none⟩ n).heap.size=w.heap.size/\(∀b o,(w.drew.freeze ⟨g,0,none⟩ n).cell? ⟨b,o,none⟩=w.cell? ⟨b,o,none⟩)/\(∀b,b≠g->(w.drew.freeze ⟨g,0,none⟩ n).heap[b]? = w.heap[b]?) /\
  (w.drew.freeze ⟨g,0,none⟩ n).os=w.os/\(w.drew.freeze ⟨g,0,none⟩ n).tape=w.tape/\(w.drew.freeze ⟨g,0,none⟩ n).output=w.output:=by
 unfold World.freeze;split
 ·exact⟨rfl,λ_ _=>rfl,λ_ _=>rfl,rfl,rfl,rfl⟩
 ·refine⟨by show(Array.modify _ _ _).size=_;exact Array.size_modify,λb o=>?_,λb hb=>?_,rfl,rfl,rfl⟩
  ·simp only[World.cell?,World.drew,ib]
   by_cases e:g=b
   ·subst e;rw[if_pos rfl]
    cases w.heap[g]? with
    | none=>rfl
    | some x=>cases x <;> rfl
   ·rw[if_neg e]
  ·simp only[World.drew,ib]
   rw[if_neg (λe=>hb e.symm)]
def aNq(s:ByteArray):Option Int:=cond (decide (s.size<=18)) (Lib.atoi s.data.toList) none
theorem aSa{P:Program}{ρ:Shelf.Ren}(L:Lays.n172 P ρ){f:Nat}(hf:ρ.f 172=f){s:ByteArray}{v:Int}(h:aNq s=some v):FnM P f [] [eS s] (.tup [.v (.int .i64 v),.v .nilIface]) []:=by
 subst hf;unfold aNq at h;cases hc:decide (s.size<=18) with
 | false=>rw[hc] at h;cases h
 | true=>
  rw[hc,cond_true] at h;rintro w G bs vs ok ⟨y0,r0,rfl,g0,rfl⟩
  have e0:=bH (uN g0)
  subst e0;refine Calls.mono (Any.strconv_Atoi L s v (of_decide_eq_true hc) h w) ?_;rintro e w' ⟨rfl,t,rfl⟩
  have later:cL w (Go.Lib.bytesWorld w (ρ.t 5) t):=⟨by rw[Go.Lib.bytesWorld_size];omega,λb hb=>Go.Lib.bytesWorld_at_old w _ t b hb,aUP w _ t,aOQ w _ t,aQj w _ t⟩
  exact⟨_,bs,rfl,Ext.later later,OK.later later ok,⟨_,rfl,_,_,rfl,aFg rfl,_,_,rfl,aFg rfl,rfl⟩⟩
end Go.UK

