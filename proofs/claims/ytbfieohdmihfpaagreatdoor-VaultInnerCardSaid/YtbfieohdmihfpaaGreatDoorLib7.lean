/- The own layer: abstract values, their memory, and the steps of the model over them: for any program. -/
import Derived.Test.YtbfieohdmihfpaaGreatDoorLib6
import Derived.JoinedOf
import GoSem.ClaimGoes
namespace Go.UK
open Go
set_option linter.all false
variable [bL]
mutual
def nQ(z:AV):AV->List Nat->AV
 | .v (.slice none 0 0),[]=>z
 | .st n ps,j :: p => .st n (putNilL z ps j p)
 | x,_=>x
def putNilL(z:AV):List AV->Nat->List Nat->List AV
 | [],_,_=>[]
 | x :: xs,0,p=>nQ z x p :: xs
 | x :: xs,j+1,p=>x :: putNilL z xs j p
end
mutual
theorem aIu{μ:Mem}{z:AV}(hz:Rc μ z [.slice none 0 0]):∀(x:AV) (p:List Nat) (ys:List Value),Rc μ x ys->Rc μ (nQ z x p) ys
 | .v x,p,ys,hr=>by
  unfold nQ;split
  ·rename_i e;cases e;simp only[Rc] at hr;rw[hr.1]
   exact hz
  ·rename_i e;cases e
  ·exact hr
 | .st n ps,[],ys,hr=>by unfold nQ;exact hr
 | .st n ps,j :: p,ys,hr=>by
  unfold nQ;simp only[Rc] at hr ⊢;exact⟨hr.1,putNilL_rc hz ps j p ys hr.2⟩
 | .arr ..,p,_,hr=>by unfold nQ;exact hr
 | .sl ..,p,_,hr=>by unfold nQ;exact hr
 | .own ..,p,_,hr=>by unfold nQ;exact hr
 | .ref ..,p,_,hr=>by unfold nQ;exact hr
 | .bsl ..,p,_,hr=>by unfold nQ;exact hr
 | .im _,p,_,hr=>by unfold nQ;exact hr
 | .tup _,p,_,hr=>by unfold nQ;exact hr
 | .fn ..,p,_,hr=>by unfold nQ;exact hr
 | .ifc ..,p,_,hr=>by unfold nQ;exact hr
 | .mp _,p,_,hr=>by unfold nQ;exact hr
 | .it _,p,_,hr=>by unfold nQ;exact hr
 | .yld _,p,_,hr=>by unfold nQ;exact hr
 | .gro ..,p,_,hr=>by unfold nQ;exact hr
theorem putNilL_rc{μ:Mem}{z:AV}(hz:Rc μ z [.slice none 0 0]):∀(ps:List AV) (j:Nat) (p:List Nat) (ys:List Value),RcL μ ps ys->RcL μ (putNilL z ps j p) ys
 | [],_,_,_,hr=>by unfold putNilL;exact hr
 | x :: xs,0,p,ys,hr=>by
  unfold putNilL;simp only[RcL] at hr ⊢;obtain⟨y1,y2,e,g1,g2⟩:=hr;exact⟨y1,y2,e,aIu hz x p y1 g1,g2⟩
 | x :: xs,j+1,p,ys,hr=>by
  unfold putNilL;simp only[RcL] at hr ⊢;obtain⟨y1,y2,e,g1,g2⟩:=hr;exact⟨y1,y2,e,g1,putNilL_rc hz xs j p y2 g2⟩
end
section
variable {P:Program} {n:Fr}
theorem aPT{H H':List Box}{bs:List (Option Nat)}{w:World}{F:Nat->Nat->Prop}(hl:H.length=H'.length)(hk:∀(i:Nat) x y,H[i]? = some x->H'[i]? = some y->(y=x\/∃c c',x = .var c/\y = .var c'/\∀ys,Rc ⟨H',bs,w,F⟩ c ys->Rc ⟨H',bs,w,F⟩ c' ys))
  (ok:(⟨H,bs,w,F⟩:Mem).OK):(⟨H',bs,w,F⟩:Mem).OK:=by
 have ext:Ext ⟨H,bs,w,F⟩ ⟨H',bs,w,F⟩:=aB9 hl λi x y hx hy=>(hk i x y hx hy).imp id (λ⟨c,e,h1,h2,_⟩=>⟨c,_,h1,h2⟩)
 have old:∀(i:Nat) y,H'[i]? = some y->∃x,H[i]? = some x/\(y=x\/∃c c',x = .var c/\y = .var c'/\∀ys,Rc ⟨H',bs,w,F⟩ c ys->Rc ⟨H',bs,w,F⟩ c' ys):=by
  intro i y hy;obtain⟨x,hx⟩:∃x,H[i]? = some x:=⟨_,List.getElem?_eq_getElem (by have:=aX hy;omega)⟩
  exact⟨x,hx,hk i x y hx hy⟩
 refine⟨ok.foreign,λb o h=>ok.clear b o ?_,by have:=ok.len;dsimp only at this ⊢;omega,?_,?_,λg hg=>ext.globAt (ok.glob g hg)⟩
 ·by_cases hb:b < w.heap.size
  ·exact ext.mm b o hb h
  ·obtain⟨i,h1,h2⟩:=h;exfalso;dsimp only at h2;have:∃y,H'[i]? = some y/\y ≠ .dead:=by
    rcases h2 with ⟨y,h2,h3⟩ | ⟨m,h2,_⟩
    ·exact⟨y,h2,Box.whole_live h3⟩
    ·exact⟨_,h2,by simp⟩
   obtain⟨y,hy,hd⟩:=this;obtain⟨x,hx,h⟩:=old i y hy;refine hb (bU ok (b:=b) h1 hx ?_)
   rcases h with e | ⟨c,e,h1,h2,_⟩
   ·subst e;exact hd
   ·subst h1;simp
 ·intro i o y ho hy;obtain⟨x,hx,h⟩:=old i y hy;have hok:=ok.box i o x ho hx;rcases h with e | ⟨c,e,h1,h2,h3⟩
  ·subst e;exact mE ext (λ_ _ _=>rfl) hok
  ·subst h1 h2;obtain⟨b,ys,U,g1,g2,g3⟩:=hok;exact⟨b,ys,U,g1,g2,h3 _ (Rc.ext ext _ _ g3)⟩
 ·intro i j b y z hi hj hy hz hyd hzd;obtain⟨x,hx,h⟩:=old i y hy;obtain⟨x2,hx2,h2⟩:=old j z hz;refine ok.apart i j b x x2 hi hj hx hx2 ?_ ?_
  ·rcases h with e | ⟨c,e,h1,_⟩
   ·subst e;exact hyd
   ·subst h1;simp
  ·rcases h2 with e | ⟨c,e,h1,_⟩
   ·subst e;exact hzd
   ·subst h1;simp
def nilB(b:Nat)(p:List Nat)(X:Box)(z:AV)(st:ASt):ASt:=
 match st.H[b]? with
 | some (.var c)=>⟨st.env,(st.H++[X]).set b (.var (nQ z c p))⟩
 | _=>st
theorem aP6{st:ASt}{b:Nat}{p:List Nat}{X:Box}{z:AV}{ctx:Mem}{a:Act}{w:World}(hX:∀bs,(⟨st.H++[X],bs++[none],w,ctx.F⟩:Mem).boxOK none X)
  (hz:∀(H:List Box) bs,H.length=st.H.length+1->bs.length=st.H.length->H[st.H.length]? = some X->Rc ⟨H,bs++[none],w,ctx.F⟩ z [.slice none 0 0]) (h:Sat n ctx st a w):Sat n ctx (nilB b p X z st) a w:=by
 unfold nilB;split
 ·rename_i c hc;obtain⟨bs,hm⟩:=h;have hl:bs.length=st.H.length:=hm.ok.len;have ext:=Ext.snoc (F:=ctx.F) hm.ok.len (cL.refl w) X none (by intro b e;cases e)
  have ok:=OK.snoc hm.ok (cL.refl w) (x:=X) (o:=none) (by intro b e;cases e) (hX bs)
  have hb:=aX hc;have hk:∀(i:Nat) x y,(st.H++[X])[i]? = some x->((st.H++[X]).set b (.var (nQ z c p)))[i]? = some y->(y=x\/∃d d',x = .var d/\y = .var d' /\
    ∀ys,Rc ⟨(st.H++[X]).set b (.var (nQ z c p)),bs++[none],w,ctx.F⟩ d ys->Rc ⟨(st.H++[X]).set b (.var (nQ z c p)),bs++[none],w,ctx.F⟩ d' ys):=by
   intro i x y hx hy;by_cases hi:i=b
   ·subst hi;rw[fA hb,hc] at hx;rw[List.getElem?_set_self (by simp;omega)] at hy;cases hx;cases hy;refine .inr ⟨c,_,rfl,rfl,λys hr=>aIu (hz _ bs (by simp) hl ?_) c p ys hr⟩
    rw[List.getElem?_set_ne (by omega)];simp
   ·rw[List.getElem?_set_ne (λe=>hi e.symm)] at hy;rw[hx] at hy;cases hy;exact .inl rfl
  have hlen:(st.H++[X]).length=((st.H++[X]).set b (.var (nQ z c p))).length:=by rw[List.length_set]
  have ext2:=aB9 (bs:=bs++[none]) (w:=w) (F:=ctx.F) hlen (λi x y hx hy=>(hk i x y hx hy).imp id (λ⟨c,e,h1,h2,_⟩=>⟨c,_,h1,h2⟩))
  have ok2:=aPT (bs:=bs++[none]) (w:=w) (F:=ctx.F) hlen hk ok;have ext3:=ext.trans ext2;exact⟨bs++[none],rfl,ok2,hm.ext.trans ext3,hm.env.ext ext3,hm.size,hm.low,tV.ext hm.ok ext3 hm.defers,hm.nod,λp hp=>(hm.outs p hp).ext ext3⟩
 ·exact h
def ownB(b k:Nat)(p:List Nat)(st:ASt):ASt:=nilB b p (.tail 0) (.own st.H.length k 0 []) st
theorem aKR{st:ASt}{b k:Nat}{p:List Nat}{ctx:Mem}{a:Act}{w:World}(h:Sat n ctx st a w):Sat n ctx (ownB b k p st) a w:=by
 refine aP6 (λbs=>by intro b e;cases e) (λH bs h1 h2 h3=>?_) h;simp only[Rc]
 refine⟨rfl,none,0,rfl,Nat.le_refl _,by simp,.inl trivial,by show _ < H.length;omega,λm hm=>?_⟩
 rw[show(⟨H,bs++[none],w,ctx.F⟩:Mem).H=H from rfl,h3] at hm;cases hm;exact⟨by simp,λ_ => .inr rfl⟩
end
end Go.UK

namespace Go.UK
open Go
set_option linter.all false
variable [bL]
def aGz(P:Program)(f:FuncId)(fn:Func)(s:ChangeSpec)(c:OpenClaim):Bool:=c.wf (OpenSpec.ofChange s)&&laidOutB P&&mapsRowed P&&fn.params.all (P.readableRec ·)&&namedTie P c.named s.vars&&(c.stops==[])&&(P.stops==[])&&(c.knobs==[])&&(P.stopKnobs==[])
def aHb(P:Program)(f:FuncId)(fn:Func)(s:ChangeSpec)(c:OpenClaim):Bool:=(c.inPlace==P.inPlace f)&&(c.unfollowed==P.unfollowed f)
def aGi(P:Program)(f:FuncId)(fn:Func)(s:ChangeSpec)(c:OpenClaim):Bool:=(c.recurses==P.recurses f)&&(c.named==P.varsNamed f)
def aGq(P:Program)(f:FuncId)(fn:Func)(s:ChangeSpec)(c:OpenClaim):Bool:=(c.maps==(fn.params.toList++s.plain.varTypes P).any (P.mapsRec ·))&&(c.ifaces==(fn.params.toList++s.plain.varTypes P).any (P.ifacesRec ·))&&(c.mapsOut==P.mapsAmong fn.resultTypes.toList)&&(c.loops==(fn.params.toList++s.plain.varTypes P).any (P.loopsFrom ·))&&(c.wideKeys==(fn.params.toList++s.plain.varTypes P++fn.resultTypes.toList).any (P.wideKeysFrom ·))
def aGv(P:Program)(f:FuncId)(fn:Func)(s:ChangeSpec)(c:OpenClaim):Bool:=s.vars.all (P.varReadable ·)&&fn.resultTypes.all (λt=>P.readableRec t&&decide (t < P.types.size))&&(c.ifacesOut==fn.resultTypes.toList.any (P.ifacesRec ·))&&(c.loopsOut==fn.resultTypes.toList.any (P.loopsFrom ·))
def aGS(P:Program)(f:FuncId)(fn:Func)(s:ChangeSpec)(c:OpenClaim):Bool:=(c.plainKeys==P.plainKeys)
def aGf(P:Program)(f:FuncId)(fn:Func)(s:ChangeSpec)(c:OpenClaim):Bool:=c.shortTexts.isNone&&P.stopsHeard&&P.mayEnter&&(c.lifted==P.liftsFinal)&&(P.make==some c.make)&&(c.kinds==(if c.domain.isEmpty then [] else fn.params.toList.map λt=>match P.underlying t with | some (.int k)=>some k | _=>none))&&(c.pinned==c.pinnedBy)
def aGb(P:Program)(f:FuncId)(fn:Func)(s:ChangeSpec)(c:OpenClaim):Bool:=(c.veiled==(fn.params.toList++s.plain.varTypes P++fn.resultTypes.toList).any (P.veiledRec ·))&&c.veiledFits P fn.params.toList (fn.params.toList++s.plain.varTypes P++fn.resultTypes.toList)
theorem aOk{P:Program}{f:FuncId}{fn:Func}{s:ChangeSpec}{c:OpenClaim}(ha:aGz P f fn s c=true)(hb:aHb P f fn s c=true)(hc:aGi P f fn s c=true)(hd:aGq P f fn s c=true)(he:aGv P f fn s c=true)(hf:aGS P f fn s c=true)(hg:aGf P f fn s c=true)(hh:aGb P f fn s c=true):joinedFacts P f fn s c=true:=by
 unfold aGz aHb aGi aGq aGv aGS aGf aGb at *;unfold joinedFacts;simp only[Bool.and_eq_true] at *;obtain⟨⟨⟨⟨⟨⟨⟨⟨a1,a2⟩,a3⟩,a4⟩,a5⟩,a6⟩,a7⟩,a8⟩,a9⟩:=ha;obtain⟨b1,b2⟩:=hb;obtain⟨c1,c2⟩:=hc;obtain⟨⟨⟨⟨d1,d2⟩,d3⟩,d4⟩,d5⟩:=hd;obtain⟨⟨⟨e1,e2⟩,e3⟩,e4⟩:=he;obtain⟨⟨⟨⟨⟨⟨g1,g2⟩,g3⟩,g4⟩,g5⟩,g6⟩,g7⟩:=hg;obtain⟨h1,h2⟩:=hh;have f1:=hf;exact⟨⟨⟨⟨⟨⟨⟨⟨⟨⟨⟨⟨⟨⟨⟨⟨⟨⟨⟨⟨⟨⟨⟨⟨⟨⟨⟨⟨⟨⟨⟨a1,a2⟩,a3⟩,a4⟩,a5⟩,a6⟩,a7⟩,a8⟩,a9⟩,b1⟩,b2⟩,c1⟩,c2⟩,d1⟩,d2⟩,d3⟩,d4⟩,d5⟩,e1⟩,e2⟩,e3⟩,e4⟩,f1⟩,g1⟩,g2⟩,g3⟩,g4⟩,g5⟩,g6⟩,g7⟩,h1⟩,h2⟩
theorem aPW{c:OpenClaim}{P:Program}(h:P.funcs.any Func.goes=false)(hs:c.start = .entering):false=c.goesBy P:=by
 have h0:∀g:Nat,(P.funcs[g]?).any Func.goes=false:=by
  intro g;cases hg:P.funcs[g]? with
  | none=>rfl
  | some x=>
   rw[Option.any_some]
   cases hx:x.goes with
   | false=>rfl
   | true=>
    rw[Array.any_eq_true.2 ⟨g,(Array.getElem?_eq_some_iff.1 hg).1,by rw[(Array.getElem?_eq_some_iff.1 hg).2];exact hx⟩] at h;cases h
 have h1:∀f,P.goes f=false:=by
  intro f;unfold Program.goes;rw[h,Bool.and_false,Bool.or_false]
  simp only[h0]
  induction P.closure f with
  | nil=>rfl
  | cons a l ih=>simpa using ih
 unfold OpenClaim.goesBy Program.goesAt Program.goesFrom;rw[hs]
 cases P.funcNamed c.func with
 | none=>rfl
 | some f=>simp[h1]
end Go.UK

namespace Go.UK
open Go
set_option linter.all false
variable [bL]
section
variable {P:Program} {n:Fr} {Q:Exit→ASt→Prop} {st:ASt} {c:Code}
def unr(P:Program)(n:Fr)(c:Code)(Q:Exit->ASt->Prop):Nat->ASt->Prop
 | 0,_=>False
 | k+1,s=>aw P n c (tn (unr P n c Q k) Q) s
theorem unr_s{k:Nat}(h:aw P n c (tn (unr P n c Q k) Q) st):unr P n c Q (k+1) st:=h
theorem aO3(k:Nat)(h:unr P n c Q k st):aw P n (.loop c) Q st:=by
 refine aNF (unr P n c Q) (λk s hs=>?_) k st h;cases k with
 | zero=>exact hs.elim
 | succ k=>
  refine aTk (Q:=tn (unr P n c Q k) Q) hs (λe s' hq=>?_)
  cases e <;> first | exact hq | exact⟨k,Nat.lt_succ_self k,hq⟩
end
end Go.UK
namespace Go.UK
open Go
set_option linter.all false
variable [bL]
section
variable {P:Program} {n:Fr} {Q:Exit→ASt→Prop} {st:ASt} {x y:Code}
theorem aKq{b:Bool}(h:aw P n (cond b x y) Q st):aw P n (.cond (.const (.bool b)) x y) Q st:=by
 intro ctx a w hs;refine wpIn_cond (t:=b) (by simp[Act.eval]) ?_;cases b with
 | true=>exact h ctx a w hs
 | false=>exact h ctx a w hs
end
end Go.UK

open Bool renaming and_eq_true→b9
open Nat renaming beq→bp,eq_of_beq_eq_true→ak,zero_add→fy
namespace Go.UK
open Go
set_option linter.all false
variable [bL]
mutual
def gz(id:Nat)(v:AV):AV->AV
 | .ref i p o=>match bp i id with | true => .im v | false => .ref i p o
 | .st n ps => .st n (gzL id v ps)
 | .tup ps => .tup (gzL id v ps)
 | .fn F a c => .fn F (gzL id v a) (gzL id v c)
 | .ifc t x => .ifc t (gz id v x)
 | x=>x
def gzL(id:Nat)(v:AV):List AV->List AV
 | []=>[]
 | p :: ps=>gz id v p :: gzL id v ps
end
mutual
def aDN(id:Nat):AV->Bool
 | .bsl i _ _ _ _ _=>match bp i id with | true=>false | false=>true
 | .ref i p o=>match bp i id with | true=>(match p with | []=>true | _=>false)&&bp o 0 | false=>true
 | .st _ ps=>gzOKL id ps
 | .tup ps=>gzOKL id ps
 | .fn _ a c=>match gzOKL id a with | true=>gzOKL id c | false=>false
 | .ifc _ x=>aDN id x
 | _=>true
def gzOKL(id:Nat):List AV->Bool
 | []=>true
 | p :: ps=>match aDN id p with | true=>gzOKL id ps | false=>false
end
mutual
theorem aPk(id:Nat)(v:AV):∀x:AV,(gz id v x).isAgg=x.isAgg
 | .bsl .. => rfl
 | .st _ _=>rfl
 | .arr .. => rfl
 | .v _=>rfl
 | .sl .. => rfl
 | .own .. => rfl
 | .ref i p o=>by simp only[gz];split <;> rfl
 | .im _=>rfl
 | .tup _=>rfl
 | .fn .. => rfl
 | .ifc .. => rfl
 | .mp _=>rfl
 | .it _=>rfl
 | .yld _=>rfl
 | .gro .. => rfl
end
structure Gz(id:Nat)(v:AV)(μ μ':Mem):Prop where
 w:μ'.w=μ.w
 bs:μ'.bs=μ.bs
 len:μ'.H.length=μ.H.length
 keeps:∀b o y,μ.w.cell? ⟨b,o,none⟩=some y->¬μ.M b o->μ'.w.cell? ⟨b,o,none⟩=some y/\¬μ'.M b o
 tail:∀(i m:Nat),μ'.H[i]? = some (.tail m)->μ.H[i]? = some (.tail m)
 var:∀(i:Nat) c,i≠id->μ.H[i]? = some (.var c)->∃c',μ'.H[i]? = some (.var c')
 mp:∀(i:Nat) c,μ.H[i]? = some (.mp c)->μ'.H[i]? = some (.mp c)
 loop:∀(i:Nat) c,μ.H[i]? = some (.loop c)->μ'.H[i]? = some (.loop c)
 gro:∀(i k:Nat) es,μ'.H[i]? = some (.gro k es)->μ.H[i]? = some (.gro k es)
 data:∀b,μ.bs[id]? = some (some b)->∃zs,Rd μ'.w μ'.M v zs/\μ'.at b 0 zs
theorem Gz.typd{id:Nat}{v:AV}{μ μ':Mem}(F:Gz id v μ μ'){i n:Nat}{e:TypeId}(ht:μ.typd i n e):μ'.typd i n e:=by
 refine⟨by rw[F.len];exact ht.1,λk1 es1 hH=>?_⟩
 obtain⟨h3,h4⟩:=ht.2 k1 es1 (F.gro i k1 es1 hH)
 refine⟨h3,λe1 b hb=>?_⟩
 obtain⟨s,c,g1,g2⟩:=h4 e1 b (by rw[<- F.bs];exact hb)
 exact⟨s,c,by rw[F.w];exact g1,g2⟩
mutual
theorem aIz{id:Nat}{v:AV}{μ μ':Mem}(h:Gz id v μ μ'):∀(x:AV) (ys:List Value),aDN id x=true->Rc μ x ys->Rc μ' (gz id v x) ys
 | .v _,_,_,hr=>by simpa[gz,Rc] using hr
 | .st n ps,ys,ho,hr=>by
  simp only[gz,Rc] at hr ⊢;exact⟨hr.1,gzL_rc h ps ys (by simpa[aDN] using ho) hr.2⟩
 | .arr n k es,ys,_,hr=>by
  simp only[gz,Rc] at hr ⊢;exact⟨hr.1,hr.2.1,RdL.mono h.keeps es ys hr.2.2⟩
 | .sl k ln es,ys,_,hr=>by
  simp only[gz,Rc] at hr ⊢;obtain⟨hn,a,cap,h1,h2,h3,h4⟩:=hr;refine⟨hn,a,cap,h1,h2,h3,h4.imp (λh=>h) ?_⟩
  rintro⟨b,off,zs,h5,h6,h7⟩
  exact⟨b,off,zs,h5,RdL.mono h.keeps es zs h6,λj y hy=>h.keeps _ _ _ (h7 j y hy).1 (h7 j y hy).2⟩
 | .own i k ln es,ys,_,hr=>by
  simp only[gz,Rc] at hr ⊢;obtain⟨hn,a,cap,h1,h2,h3,h4,h5,h6⟩:=hr;refine⟨hn,a,cap,h1,h2,h3,?_,by rw[h.len];exact h5,λm hm=>?_⟩
  ·refine h4.imp (λh=>h) ?_;rintro⟨b,off,zs,h5,h6,h7⟩
   exact⟨b,off,zs,h5,RdL.mono h.keeps es zs h6,λj y hy=>h.keeps _ _ _ (h7 j y hy).1 (h7 j y hy).2⟩
  ·obtain⟨k1,k2⟩:=h6 m (h.tail i m hm)
   refine⟨k1,λe=>?_⟩
   rw[h.bs]
   rcases k2 e with ⟨b,g1,g2,c,T,g3,g4⟩ | g1
   ·exact .inl ⟨b,g1,g2,c,T,by rw[h.w];exact g3,g4⟩
   ·exact .inr g1
 | .ref i p o,ys,ho,hr=>by
  simp only[gz]
  split
  ·rename_i hb;have hi:=ak hb;subst hi;simp only[aDN,hb,b9] at ho;obtain⟨o1,o2⟩:=ho;have o2:=ak o2;subst o2;simp only[Rc] at hr ⊢;obtain⟨b,c,h1,h2,h3⟩:=hr;obtain⟨zs,g2,g3⟩:=h.data b h1;exact⟨b,0,zs,h3,g2,g3⟩
  ·rename_i hb;have hne:i≠id:=by intro e;subst e;simp at hb
   simp only[Rc] at hr ⊢;obtain⟨b,c,h1,h2,h3⟩:=hr;obtain⟨c',h4⟩:=h.var i c hne h2;exact⟨b,c',by rw[h.bs];exact h1,h4,h3⟩
 | .bsl i p o k' lo len,ys,ho,hr=>by
  have hne:i≠id:=by
   simp only[aDN] at ho;split at ho
   ·cases ho
   ·rename_i hb;intro e;subst e;simp at hb
  simp only[gz,Rc] at hr ⊢;obtain⟨b,c,cap,h1,h2,h3,h4⟩:=hr;obtain⟨c',h5⟩:=h.var i c hne h2;exact⟨b,c',cap,by rw[h.bs];exact h1,h5,h3,h4⟩
 | .im x,ys,_,hr=>by
  simp only[gz,Rc] at hr ⊢;obtain⟨b,off,zs,h1,h2,h3⟩:=hr;exact⟨b,off,zs,h1,Rd.mono h.keeps x zs h2,λj y hy=>h.keeps _ _ _ (h3 j y hy).1 (h3 j y hy).2⟩
 | .tup _,_,_,hr=>by simp[Rc] at hr
 | .fn F first cap,ys,ho,hr=>by
  simp only[gz,Rc] at hr ⊢;simp only[aDN] at ho;split at ho
  ·rename_i ho1;obtain⟨as,cs,h1,h2,h3⟩:=hr;exact⟨as,cs,h1,gzL_rc h first as ho1 h2,gzL_rc h cap cs ho h3⟩
  ·cases ho
 | .ifc t x,ys,ho,hr=>by
  simp only[gz,Rc] at hr ⊢;obtain⟨y,h1,h2⟩:=hr;refine⟨y,h1,?_⟩
  have h3:=mS (λzs hz=>aIz h x zs (by simpa[aDN] using ho) hz) h2;unfold vOf at h3 ⊢;rw[aPk]
  exact h3
 | .mp i,ys,_,hr=>by
  simp only[gz,Rc] at hr ⊢;obtain⟨b,c,h1,h2,h3⟩:=hr;exact⟨b,c,by rw[h.bs];exact h1,h.mp i c h2,h3⟩
 | .it i,ys,_,hr=>by
  simp only[gz,Rc] at hr ⊢;obtain⟨b,c,h1,h2,h3⟩:=hr;exact⟨b,c,by rw[h.bs];exact h1,h.mp i c h2,h3⟩
 | .yld i,ys,_,hr=>by
  simp only[gz,Rc] at hr ⊢;obtain⟨b,c,h1,h2,h3⟩:=hr;exact⟨b,c,by rw[h.bs];exact h1,h.loop i c h2,h3⟩
 | .gro i k ln j,ys,_,hr=>by
  simp only[gz,Rc] at hr ⊢;obtain⟨y,e,h1,a,cap,e0,h0,h2⟩:=hr;refine⟨y,e,by rw[h.len];exact h1,a,cap,e0,h0,λk' es hm=>?_⟩
  obtain⟨k1,k2⟩:=h2 k' es (h.gro i k' es hm)
  refine⟨k1,λe=>?_⟩
  rw[h.bs]
  obtain⟨g0,g1,g2⟩:=k2 e;refine⟨g0,g1,g2.imp ?_ (λh=>h)⟩
  rintro⟨b,rfl,c,T,g3,g4⟩
  exact⟨b,rfl,c,T,by rw[h.w];exact g3,g4⟩
theorem gzL_rc{id:Nat}{v:AV}{μ μ':Mem}(h:Gz id v μ μ'):∀(ps:List AV) (ys:List Value),gzOKL id ps=true->RcL μ ps ys->RcL μ' (gzL id v ps) ys
 | [],_,_,hr=>by simpa[gzL,RcL] using hr
 | p :: ps,ys,ho,hr=>by
  simp only[gzOKL] at ho;split at ho
  ·rename_i ho1;simp only[gzL,RcL] at hr ⊢;obtain⟨y1,y2,h1,h2,h3⟩:=hr;exact⟨y1,y2,h1,aIz h p y1 ho1 h2,gzL_rc h ps y2 ho h3⟩
  ·cases ho
end
theorem aM7{id:Nat}{v:AV}{μ μ':Mem}(h:Gz id v μ μ'){x:AV}{y:Value}(ho:aDN id x=true)(hr:Rv0 μ x y):Rv0 μ' (gz id v x) y:=by
 have h2:=mS (λzs hz=>aIz h x zs ho hz) (rG.1 hr)
 refine rG.2 ?_;unfold vOf at h2 ⊢;rw[aPk]
 exact h2
theorem aQY{id:Nat}{v:AV}{μ μ':Mem}(h:Gz id v μ μ'):∀{xs:List AV} {vs:List Value},gzOKL id xs=true->RvL μ xs vs->RvL μ' (gzL id v xs) vs
 | [],vs,_,hr=>hr
 | x :: xs,vs,ho,⟨v,r,e,h1,h2⟩=>by
  simp only[gzOKL] at ho;split at ho
  ·rename_i ho1;exact⟨v,r,e,aM7 h ho1 h1,aQY h ho h2⟩
  ·cases ho
theorem aUg{id:Nat}{v:AV}{μ μ':Mem}(h:Gz id v μ μ'){x:AV}{y:Value}(ho:aDN id x=true)(hr:Rv μ x y):Rv μ' (gz id v x) y:=by
 cases x with
 | tup vs=>
  obtain⟨ws,e,h1⟩:=hr;exact⟨ws,e,aQY h (by simpa[aDN] using ho) h1⟩
 | ref i p o=>
  have:=aM7 h ho hr;have e:∀z:AV,z=gz id v (.ref i p o)->Rv μ' z y:=by
   intro z hz;rw[<- hz] at this;simp only[gz] at hz;split at hz <;> subst hz <;> exact this
  exact e _ rfl
 | _=>exact aM7 h ho hr
def gzB(id:Nat)(v:AV):Box->Box
 | .var c => .var (gz id v c)
 | x=>x
def lD(id:Nat)(v:AV):Nat->List Box->List Box
 | _,[]=>[]
 | i,x :: r=>(match bp i id with | true => .dead | false=>gzB id v x) :: lD id v (i+1) r
def aGd(id:Nat)(v:AV):Env->Env
 | []=>[]
 | (i,none) :: r=>(i,none) :: aGd id v r
 | (i,some (g,x)) :: r=>(i,some (g,gz id v x)) :: aGd id v r
def gzS(id:Nat)(v:AV)(st:ASt):ASt:=⟨aGd id v st.env,lD id v 0 st.H⟩
def aEK(id:Nat):Nat->List Box->Bool
 | _,[]=>true
 | i,x :: r=>(match bp i id with | true=>true | false=>match x with | .var c=>aDN id c | _=>true)&&aEK id (i+1) r
def aD7(id:Nat):Env->Bool
 | []=>true
 | (_,none) :: r=>aD7 id r
 | (_,some (_,x)) :: r=>aDN id x&&aD7 id r
def aQl(n:Fr)(id:Nat)(st:ASt)(H':List Box):Bool:=Nat.ble n.lo id&&(aD7 id st.env&&(aEK id 0 st.H&&aB8 H' n.outs))
def gzAt(id:Nat)(st:ASt):Option AV:=match st.H[id]? with | some (.var c)=>(match data c with | true=>some c | false=>none) | _=>none
theorem aFH{id:Nat}{v:AV}:∀{H:List Box} {j i:Nat},(lD id v j H)[i]? = (H[i]?).map λx=>match bp (j+i) id with | true => .dead | false=>gzB id v x
 | [],j,i=>by simp[lD]
 | x :: r,j,0=>by simp[lD]
 | x :: r,j,i+1=>by
  simp only[lD,List.getElem?_cons_succ]
  rw[aFH (H:=r),show j+1+i=j+(i+1) by omega]
theorem aFU{id:Nat}{v:AV}:∀{H:List Box} {j:Nat},(lD id v j H).length=H.length
 | [],_=>rfl
 | x :: r,j=>by simp[lD,aFU (H:=r)]
theorem aFN{id:Nat}:∀{H:List Box} {j i:Nat} {c:AV},aEK id j H=true->H[i]? = some (.var c)->j+i≠id->aDN id c=true
 | [],_,_,_,_,h,_=>by simp at h
 | x :: r,j,0,c,ho,h,hne=>by
  simp only[List.getElem?_cons_zero,Option.some.injEq] at h;subst h;simp only[aEK,b9] at ho;have hb:bp j id=false:=pR (by omega)
  rw[hb] at ho;exact ho.1
 | x :: r,j,i+1,c,ho,h,hne=>by
  simp only[aEK,b9] at ho;exact aFN (H:=r) (j:=j+1) ho.2 (by simpa using h) (by omega)
theorem aEc{id:Nat}{v:AV}:∀{env:Env} {i:Nat} {e:EV},bY (aGd id v env) i=some e->∃x,bY env i=some (e.1,x)/\e.2=gz id v x
 | [],_,_,h=>by simp[aGd,bY] at h
 | (j,none) :: r,i,e,h=>by
  simp only[aGd,bY] at h ⊢;cases hb:bp j i with
  | true=>rw[hb] at h;cases h
  | false=>rw[hb] at h;exact aEc h
 | (j,some (g,x)) :: r,i,e,h=>by
  simp only[aGd,bY] at h ⊢;cases hb:bp j i with
  | true=>rw[hb] at h;cases h;exact⟨x,rfl,rfl⟩
  | false=>rw[hb] at h;exact aEc h
theorem aBH{id:Nat}:∀{env:Env} {i:Nat} {g:Option (Nat×Bool)} {x:AV},aD7 id env=true->bY env i=some (g,x)->aDN id x=true
 | [],_,_,_,_,h=>by simp[bY] at h
 | (j,none) :: r,i,g,x,ho,h=>by
  simp only[bY] at h;cases hb:bp j i with
  | true=>rw[hb] at h;cases h
  | false=>rw[hb] at h;exact aBH (env:=r) ho h
 | (j,some (g0,x0)) :: r,i,g,x,ho,h=>by
  simp only[aD7,b9] at ho;simp only[bY] at h;cases hb:bp j i with
  | true=>rw[hb] at h;cases h;exact ho.1
  | false=>rw[hb] at h;exact aBH ho.2 h
section
variable {P:Program} {T:TypeId→Option TI} {n:Fr}
theorem aWE{st:ASt}{id:Nat}{v:AV}(hat:gzAt id st=some v)(hk:aQl n id st (lD id v 0 st.H)=true)
  {ctx:Mem} {a:Act} {w:World} (h:Sat n ctx st a w):Sat n ctx (gzS id v st) a w:=by
 obtain⟨bs,hm⟩:=h;obtain⟨env,H⟩:=st;unfold gzAt at hat;split at hat <;> try cases hat
 rename_i c0 hH;split at hat <;> cases hat;rename_i hdt;simp only[aQl,b9] at hk;obtain⟨c1,c2,c3,c4⟩:=hk;have c1:=Nat.le_of_ble_eq_true c1;dsimp only at hH c2 c3 c4 hm ⊢;have hlo:ctx.H.length<=id:=Nat.le_trans hm.low c1;have get':∀i:Nat,(lD id v 0 H)[i]? = (H[i]?).map λx=>match bp i id with | true => .dead | false=>gzB id v x:=by
  intro i;rw[aFH]
  simp
 have getid:(lD id v 0 H)[id]? = some .dead:=by rw[get',hH];simp
 have getne:∀i:Nat,i≠id->(lD id v 0 H)[i]? = (H[i]?).map (gzB id v):=by
  intro i hi;rw[get',pR hi]
 have kindof:∀(i:Nat) x',(lD id v 0 H)[i]? = some x'->x' ≠ .dead->i≠id/\∃x,H[i]? = some x/\x'=gzB id v x:=by
  intro i x' hx hd;by_cases hi:i=id
  ·subst hi;rw[getid] at hx;cases hx;exact absurd rfl hd
  ·rw[getne i hi] at hx;obtain⟨x,g1,g2⟩:=Option.map_eq_some_iff.1 hx;exact⟨hi,x,g1,g2.symm⟩
 have ownsub:∀b o,(⟨lD id v 0 H,bs,w,ctx.F⟩:Mem).own b o->(⟨H,bs,w,ctx.F⟩:Mem).own b o:=by
  rintro b o ⟨i,h1,h2⟩
  refine⟨i,h1,?_⟩
  rcases h2 with ⟨x',h2,h3⟩ | ⟨m,h2,h3⟩
  ·obtain⟨_,x,g1,g2⟩:=kindof i x' h2 (Box.whole_live h3)
   exact .inl ⟨x,g1,by rw[g2] at h3;cases x <;> first | rfl | exact h3⟩
  ·obtain⟨_,x,g1,g2⟩:=kindof i _ h2 (by simp)
   cases x <;> simp only[gzB] at g2 <;> cases g2;exact .inr ⟨m,g1,h3⟩
 have keeps:∀b o y,(⟨H,bs,w,ctx.F⟩:Mem).w.cell? ⟨b,o,none⟩=some y->¬(⟨H,bs,w,ctx.F⟩:Mem).M b o->(⟨lD id v 0 H,bs,w,ctx.F⟩:Mem).w.cell? ⟨b,o,none⟩=some y/\¬(⟨lD id v 0 H,bs,w,ctx.F⟩:Mem).M b o:=by
  intro b o y h1 h2;refine⟨h1,λh3=>h2 ?_⟩
  rcases h3 with h3 | h3
  ·exact .inl h3
  ·exact .inr (ownsub b o h3)
 have F:Gz id v ⟨H,bs,w,ctx.F⟩ ⟨lD id v 0 H,bs,w,ctx.F⟩:={
  w:=rfl,bs:=rfl,len:=aFU,keeps:=keeps
  tail:=λi m hx=>by
   obtain⟨_,x,g1,g2⟩:=kindof i _ hx (by simp)
   cases x <;> simp only[gzB] at g2 <;> cases g2;exact g1
  var:=λi c hi hc=>⟨gz id v c,by dsimp only at hc ⊢;rw[getne i hi,hc];rfl⟩
  mp:=λi c hc=>by
   dsimp only at hc ⊢;have hi:i≠id:=λe=>by subst e;rw[hH] at hc;cases hc
   rw[getne i hi,hc];rfl
  loop:=λi c hc=>by
   dsimp only at hc ⊢;have hi:i≠id:=λe=>by subst e;rw[hH] at hc;cases hc
   rw[getne i hi,hc];rfl
  gro:=λi k es hx=>by
   obtain⟨_,x,g1,g2⟩:=kindof i _ hx (by simp)
   cases x <;> simp only[gzB] at g2 <;> cases g2;exact g1
  data:=λb hb=>by
   obtain⟨b',ys,TT,e1,e2,e3⟩:=hm.ok.box id _ _ hb hH;cases e1;refine⟨ys.toList,Rd.mono keeps _ _ (Rc.rd _ _ hdt e3),λj y hy=>?_⟩
   refine⟨?_,?_⟩
   ·rw[fy]
    simp only[World.cell?,e2]
    simpa using hy
   ·rw[fy]
    rintro(hf | ⟨i,h1,h2⟩)
    ·exact hm.ok.clear b j ⟨id,hb,.inl ⟨_,hH,rfl⟩⟩ hf
    ·have hdead:∀x',(lD id v 0 H)[i]? = some x'->x' ≠ .dead->False:=by
      intro x' hx hd;obtain⟨hi,x,g1,g2⟩:=kindof i x' hx hd;exact hi (hm.ok.apart i id b _ _ h1 hb g1 hH (by intro e;subst e;rw[g2] at hd;exact hd rfl) (by simp))
     rcases h2 with ⟨x',h2,h3⟩ | ⟨m,h2,h3⟩
     ·exact hdead x' h2 (Box.whole_live h3)
     ·exact hdead _ h2 (by simp) }
 have less:aBj (λi=>i) ⟨H,bs,w,ctx.F⟩ ⟨lD id v 0 H,bs,w,ctx.F⟩:={
  w:=rfl
  M:=λb o hM=>by
   rcases hM with h3 | h3
   ·exact .inl h3
   ·exact .inr (ownsub b o h3)
  bs:=λi _ _=>rfl
  tail:=λi m hx=>F.tail i m hx
  gro:=λi k es hx=>F.gro i k es hx
  lt:=λi hi=>by rw[<- F.len];exact hi }
 have ok:(⟨lD id v 0 H,bs,w,ctx.F⟩:Mem).OK:={
  foreign:=hm.ok.foreign
  glob:=λg hg=>less.globAt (hm.ok.glob g hg)
  clear:=λb o ho=>hm.ok.clear b o (ownsub b o ho)
  len:=by have:=hm.ok.len;have:=F.len;simp only at *;omega
  box:=λi o x' ho hx=>by
   by_cases hd:x' = .dead
   ·subst hd;trivial
   ·obtain⟨hi,x,g1,g2⟩:=kindof i x' hx hd;subst g2;have hb:=hm.ok.box i o x ho g1;cases x with
    | dead=>trivial
    | var c=>
     obtain⟨b,ys,TT,e1,e2,e3⟩:=hb;exact⟨b,ys,TT,e1,e2,aIz F c _ (aFN (j:=0) c3 g1 (by omega)) e3⟩
    | tail m=>exact hb
    | mp c0=>
     cases c0 with
     | kv kvs=>
      obtain⟨b,es',clock,e1,e2,e3⟩:=hb;exact⟨b,es',clock,e1,e2,e3.mono keeps⟩
     | it _ _=>exact hb
     | mi m=>
      obtain⟨b,c,t,e1,e2,e3⟩:=hb;exact⟨b,c,t,e1,e2,aIz F (.mp m) _ rfl e3⟩
     | bl t e0 id' s=>
      obtain⟨b,p,v,e1,e2,ep,e3⟩:=hb;exact⟨b,p,v,e1,e2,ep,aIz F (.gro id' 1 s.size .all) _ rfl e3.1,F.typd e3.2⟩
    | loop r=>exact hb
    | gro q es=>
     obtain⟨g0,g1 | ⟨b,ys,U,g1,g2,y1,y2,g3,g4⟩⟩:=hb
     ·exact⟨g0,.inl g1⟩
     ·exact⟨g0,.inr ⟨b,ys,U,g1,g2,y1,y2,g3,RdL.mono keeps _ _ g4⟩⟩
  apart:=λi j b x y h1 h2 h3 h4 h5 h6=>by
   obtain⟨_,x0,g1,g2⟩:=kindof i x h3 h5;obtain⟨_,y0,g3,g4⟩:=kindof j y h4 h6;exact hm.ok.apart i j b x0 y0 h1 h2 g1 g3 (by intro e;subst e;exact h5 g2) (by intro e;subst e;exact h6 g4) }
 have ext:Ext ctx ⟨lD id v 0 H,bs,w,ctx.F⟩:={
  size:=hm.ext.size
  len:=by rw[F.len];exact hm.ext.len
  cells:=hm.ext.cells
  blocks:=hm.ext.blocks
  mm:=λb o hb ho=>hm.ext.mm b o hb (ownsub b o ho)
  same:=rfl
  vars:=λi c hc=>by
   obtain⟨⟨c',g1⟩,g2⟩:=hm.ext.vars i c hc;have hi:i≠id:=by have:=aX hc;omega
   exact⟨F.var i c' hi g1,g2⟩
  maps:=λi c hc=>by
   obtain⟨⟨c',g1⟩,g2⟩:=hm.ext.maps i c hc;exact⟨⟨c',F.mp i c' g1⟩,g2⟩
  loops:=λi c hc=>by
   obtain⟨⟨c',g1⟩,g2⟩:=hm.ext.loops i c hc;exact⟨⟨c',F.loop i c' g1⟩,g2⟩
  toks:=λi m' hi hx=>hm.ext.toks i m' hi (F.tail i m' hx)
  gros:=λi q es' hi hx=>hm.ext.gros i q es' hi (F.gro i q es' hx)
  os:=hm.ext.os
  tape:=hm.ext.tape
  output:=hm.ext.output }
 refine⟨bs,{ h:=rfl,ok:=ok,ext:=ext,env := ?_,size:=hm.size,low:=hm.low,defers:=hm.defers,nod:=hm.nod,outs:=λp hp=>?_ }⟩
 ·intro i e he;obtain⟨x,g1,g2⟩:=aEc he;obtain⟨y,g3,g4⟩:=hm.env i _ g1;refine⟨y,g3,?_⟩
  have g5:=aBH c2 g1;unfold yF at *;rw[g2]
  split
  ·rename_i hn;rw[hn] at g4;exact aUg F g5 g4
  ·rename_i j want hn;rw[hn] at g4;exact λhj=>aUg F g5 (g4 hj)
 ·intro i e hlk;obtain⟨y,g1,g2⟩:=hm.outs p hp i e hlk;have hlow:=tW (xN c4 hp) hlk;refine⟨y,g1,?_⟩
  unfold yF at *;split
  ·rename_i hn;rw[hn] at g2;exact vP less hlow (by rw[show(λi:Nat=>i)=_root_.id from rfl,uJ];exact g2)
  ·rename_i j want hn;rw[hn] at g2;exact λhj=>vP less hlow (by rw[show(λi:Nat=>i)=_root_.id from rfl,uJ];exact g2 hj)
end
end Go.UK

namespace Go.UK
open Go
set_option linter.all false
variable [bL]
section
variable {P:Program} {T:TypeId→Option TI} {n:Fr}
end
end Go.UK

