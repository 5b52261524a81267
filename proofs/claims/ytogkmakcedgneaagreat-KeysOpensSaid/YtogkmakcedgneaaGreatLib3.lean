/- The own layer: abstract values, their memory, and the steps of the model over them: for any program. -/
import Derived.Test.YtogkmakcedgneaaGreatLib2
open List renaming getElem?_append_left→cj,getElem?_append_right→ck,getElem?_drop→eo,getElem?_eq_getElem→af,getElem?_map→cw,getElem?_of_mem→gj,getElem?_take→dx,getElem_mem→co,length_append→ah,nodup_cons→oh
open Nat renaming add_sub_cancel_left→ir,beq→cd,eq_of_beq_eq_true→aj,le_refl→ct,lt_or_ge→fo
namespace Go.UK
open Go
set_option linter.all false
variable [bU]
def FnM(P:Program)(f:FuncId)(H:List Box)(args:List AV)(ret:AV)(H':List Box):Prop:=
 ∀(w:World) (F:Nat->Nat->Prop) (bs:List (Option Nat)) (vs:List Value),(⟨H,bs,w,F⟩:Mem).OK->RvL ⟨H,bs,w,F⟩ args vs ->
  Calls P f vs.toArray w λe w'=>∃y bs',e = .returned y/\Ext ⟨H,bs,w,F⟩ ⟨H',bs',w',F⟩/\(⟨H',bs',w',F⟩:Mem).OK/\Rv ⟨H',bs',w',F⟩ ret y
def aQ3(P:Program)(q:Nat×String×Nat):Bool:=
 match P.info? q.1 with
 | some ti=>match ti.methods.find? (·.name==q.2.1) with
  | some m=>m.path.isEmpty&&(match m.func,P.underlying q.1 with
   | some (g,true),some (.pointer _)=>cd g q.2.2
   | some (_,false),some (.pointer _)=>false
   | some (g,false),some _=>cd g q.2.2
   | _,_=>false)
  | none=>false
 | none=>false
def aNE(P:Program)(q:Nat×String×Nat):Prop:=∀(v:Value) (w:World) (fuel:Nat),(method (fuel+1) q.1 v q.2.1).run P w = .ok (q.2.2,v) w
theorem aM2{P:Program}{q:Nat×String×Nat}(h:aQ3 P q=true):aNE P q:=by
 intro v w fuel;unfold aQ3 at h;split at h <;> try cases h
 rename_i ti hti;split at h <;> try cases h
 rename_i m hm;simp only[Bool.and_eq_true] at h;obtain⟨h1,h2⟩:=h;have hp:m.path.toList=[]:=by rw[Array.isEmpty_iff.1 h1]
 have hrun:(typeInfo q.1).run P w = .ok ti w:=by simp[typeInfo,hti]
 split at h2 <;> try cases h2
 ·rename_i g e hf hu;have hg:=aj h2;subst hg;simp[method,hrun,hm,hp,follow,hf,receiverAt,underlying,hu,Place.get]
 ·rename_i g d hne hf hu;have hg:=aj h2;subst hg;have key:∀wr,(receiverAt q.1 (.val v) false wr).run P w = .ok v w:=by
   intro wr;cases d <;> first | (exact absurd rfl (hne _)) | simp[receiverAt,underlying,hu,Place.get]
  simp[method,hrun,hm,hp,follow,hf,key]
def vY(P:Program)(f:FuncId):Prop:=(∃fn,P.funcs[f]? = some fn/\(fn.name == "runtime.NumGoroutine")=false/\fn.body.isNone=false)/\∀q∈bU.ms,aNE P q
def pC{α:Type}(H:List α):List Nat->List α->List α
 | s :: σ,x :: xs=>pC (H.set s x) σ xs
 | _,_=>H
theorem iV{α:Type}:∀(σ:List Nat) (H xs:List α),(pC H σ xs).length=H.length
 | [],H,xs=>by cases xs <;> rfl
 | s :: σ,H,[]=>rfl
 | s :: σ,H,x :: xs=>by unfold pC;rw[iV σ];simp
theorem wQ{α:Type}:∀(σ:List Nat) (H xs:List α) (i:Nat),i∉σ->(pC H σ xs)[i]? = H[i]?
 | [],H,xs,i,_=>by cases xs <;> rfl
 | s :: σ,H,[],i,_=>rfl
 | s :: σ,H,x :: xs,i,h=>by
  unfold pC;rw[wQ σ _ _ i (λh'=>h (by simp[h']))]
  exact List.getElem?_set_ne (λe=>h (by simp[e]))
theorem yC{α:Type}:∀(σ:List Nat) (H xs:List α) (j s:Nat) (x:α),σ.Nodup->σ[j]? = some s->xs[j]? = some x->s < H.length->(pC H σ xs)[s]? = some x
 | [],H,xs,j,s,x,_,h,_,_=>by simp at h
 | t :: σ,H,[],j,s,x,_,_,h,_=>by simp at h
 | t :: σ,H,y :: xs,j,s,x,hn,hj,hx,hs=>by
  unfold pC;rw[oh] at hn;cases j with
  | zero=>
   simp only[List.getElem?_cons_zero,Option.some.injEq] at hj hx;subst hj hx;rw[wQ σ _ _ t hn.1]
   exact List.getElem?_set_self hs
  | succ j=>
   exact yC σ _ xs j s x hn.2 (by simpa using hj) (by simpa using hx) (by simpa using hs)
def rn(σ:List Nat)(m i:Nat):Nat:=match σ[i]? with | some j=>j | none=>m+(i - σ.length)
def aGM : List Nat->Bool
 | []=>true
 | x :: xs => !(xs.any (cd x))&&aGM xs
theorem aA1 : ∀{l:List Nat},aGM l=true->l.Nodup
 | [],_=>List.nodup_nil
 | x :: xs,h=>by
  simp only[aGM,Bool.and_eq_true,Bool.not_eq_true'] at h;refine oh.2 ⟨λhx=>?_,aA1 h.2⟩
  have:=List.any_eq_false.1 h.1 x hx;simp at this
def cL(H:List Box)(σ:List Nat)(H':List Box):List Box:=
 pC H σ ((H'.take σ.length).map (lZ (rn σ H.length)))++(H'.drop σ.length).map (lZ (rn σ H.length))
theorem aAZ(f:Nat->Nat)(x:Box):(lZ f x).whole=x.whole:=by cases x <;> rfl
theorem vE{f:Nat->Nat}{x:Box}:lZ f x = .dead↔x = .dead:=by cases x <;> simp[lZ]
theorem aAk{σ:List Nat}{m i s:Nat}(h:σ[i]? = some s):rn σ m i=s:=by unfold rn;rw[h]
theorem aNN{σ:List Nat}{m i:Nat}(h:σ.length<=i):rn σ m i=m+(i - σ.length):=by unfold rn;rw[List.getElem?_eq_none h]
section frame
variable {H:List Box} {bs:List (Option Nat)} {w:World} {F:Nat→Nat→Prop} {σ:List Nat} {Hc:List Box}
def rest(H:List Box)(bs:List (Option Nat))(σ:List Nat)(b o:Nat):Prop:=
 ∃id:Nat,id∉σ/\bs[id]? = some (some b)/\((∃x,H[id]? = some x/\x.whole=true)\/(∃m,H[id]? = some (.tail m)/\m<=o))
def nS(H:List Box)(bs:List (Option Nat))(w:World)(F:Nat->Nat->Prop)(σ:List Nat)(Hc:List Box):Mem:=
 ⟨Hc,σ.map λs=>(bs[s]?).getD none,w,λb o=>F b o\/rest H bs σ b o⟩
structure aJX(H:List Box)(bs:List (Option Nat))(σ:List Nat)(Hc:List Box):Prop where
 nodup:σ.Nodup
 len:Hc.length=σ.length
 box:∀(i:Nat) y,Hc[i]? = some y->∃s,σ[i]? = some s/\H[s]? = some (lZ (rn σ H.length) y)
theorem aJX.at(L:aJX H bs σ Hc)(hl:bs.length=H.length){i s:Nat}(h:σ[i]? = some s):s < H.length/\(nS H bs w F σ Hc).bs[i]? = bs[s]? := by
 have hi:=bA h;obtain⟨y,hy⟩:∃y,Hc[i]? = some y:=by
  rw[<- L.len] at hi;exact⟨_,af hi⟩
 obtain⟨s',h1,h2⟩:=L.box i y hy;rw[h] at h1;cases h1;have hs:=bA h2;refine⟨hs,?_⟩
 show(σ.map λs=>(bs[s]?).getD none)[i]? = _;rw[cw,h]
 have:s < bs.length:=by omega
 simp[af this]
theorem aE4(L:aJX H bs σ Hc)(hl:bs.length=H.length){b o:Nat}:(⟨H,bs,w,F⟩:Mem).own b o↔(nS H bs w F σ Hc).own b o\/rest H bs σ b o:=by
 constructor
 ·rintro⟨id,h1,h2⟩
  by_cases hid:id∈σ
  ·left;obtain⟨i,hi⟩:=gj hid;obtain⟨hs,hb⟩:=L.at (w:=w) (F:=F) hl hi;obtain⟨y,hy⟩:∃y,Hc[i]? = some y:=by
    have:=bA hi;rw[<- L.len] at this;exact⟨_,af this⟩
   obtain⟨s',g1,g2⟩:=L.box i y hy;rw[hi] at g1;cases g1;refine⟨i,hb.trans h1,?_⟩
   dsimp only at h2;rcases h2 with ⟨x,h2,h3⟩ | ⟨m,h2,h3⟩
   ·rw[g2] at h2;cases h2;exact .inl ⟨y,hy,by rw[aAZ] at h3;exact h3⟩
   ·rw[g2] at h2;refine .inr ⟨m,?_,h3⟩
    cases y <;> simp[lZ] at h2;subst h2;exact hy
  ·exact .inr ⟨id,hid,h1,h2⟩
 ·rintro(⟨i,h1,h2⟩ | ⟨id,_,h1,h2⟩)
  ·have hi:i < σ.length:=by
    have:=bA h1;simpa[nS] using this
   have hs:=af hi;obtain⟨hlt,hb⟩:=L.at (w:=w) (F:=F) hl hs;rw[hb] at h1;refine⟨_,h1,?_⟩
   obtain⟨y,hy⟩:∃y,Hc[i]? = some y:=⟨_,af (by rw[L.len];exact hi)⟩
   obtain⟨s',g1,g2⟩:=L.box i y hy;rw[hs] at g1;cases g1;rcases h2 with ⟨x,h2,h3⟩ | ⟨m,h2,h3⟩
   ·refine .inl ⟨_,g2,?_⟩
    have:Hc[i]? = some x:=h2;rw[hy] at this;cases this;rw[aAZ];exact h3
   ·have:Hc[i]? = some (.tail m):=h2;rw[hy] at this;cases this;exact .inr ⟨m,g2,h3⟩
  ·exact⟨id,h1,h2⟩
theorem aAN(L:aJX H bs σ Hc)(hl:bs.length=H.length):aD5 (rn σ H.length) ⟨H,bs,w,F⟩ (nS H bs w F σ Hc) where
 w:=rfl
 M b o h:=by
  rcases h with (h | h) | h
  ·exact .inl h
  ·exact .inr ((aE4 (w:=w) (F:=F) L hl).2 (.inr h))
  ·exact .inr ((aE4 (w:=w) (F:=F) L hl).2 (.inl h))
 bs i hi _:=by
  have hi':i < σ.length:=by rw[<- L.len];exact hi
  have hs:=af hi';rw[(L.at (w:=w) (F:=F) hl hs).2,aAk hs]
 tail i m h:=by
  obtain⟨s,h1,h2⟩:=L.box i _ h;rw[aAk h1]
  exact h2
 gro i k es h:=by
  obtain⟨s,h1,h2⟩:=L.box i _ h;rw[aAk h1]
  exact h2
 lt i hi:=by
  have hi':i < σ.length:=by rw[<- L.len];exact hi
  have hs:=af hi';rw[aAk hs]
  exact(L.at (w:=w) (F:=F) hl hs).1
theorem aHU(L:aJX H bs σ Hc)(ok:(⟨H,bs,w,F⟩:Mem).OK)(hlow:oS Hc Hc=true):(nS H bs w F σ Hc).OK where
 foreign b o h:=by
  rcases h with h | ⟨id,_,h1,h2⟩
  ·exact ok.foreign b o h
  ·rcases h2 with ⟨x,h2,h3⟩ | ⟨m,h2,_⟩
   ·exact cJ ok (b:=b) h1 h2 (Box.whole_live h3)
   ·exact cJ ok (b:=b) h1 h2 (by simp)
 clear b o h h':=by
  have hown:=(aE4 (w:=w) (F:=F) L ok.len).2 (.inl h)
  rcases h' with h' | ⟨id,hid,h1,h2⟩
  ·exact ok.clear b o hown h'
  ·obtain⟨i,g1,g2⟩:=h;have hi:i < σ.length:=by
    have:=bA g1;simpa[nS] using this
   have hs:=af hi;obtain⟨hlt,hb⟩:=L.at (w:=w) (F:=F) ok.len hs;rw[hb] at g1;obtain⟨y,hy⟩:∃y,Hc[i]? = some y:=⟨_,af (by rw[L.len];exact hi)⟩
   obtain⟨s',k1,k2⟩:=L.box i y hy;rw[hs] at k1;cases k1;have live:lZ (rn σ H.length) y ≠ .dead:=by
    intro e;have e:=vE.1 e;subst e;rcases g2 with ⟨x,g2,g3⟩ | ⟨m,g2,_⟩
    ·have:Hc[i]? = some x:=g2;rw[hy] at this;cases this;cases g3
    ·have:Hc[i]? = some (.tail m):=g2;rw[hy] at this;cases this
   have:σ[i]=id:=by
    rcases h2 with ⟨x,h2,h3⟩ | ⟨m,h2,_⟩
    ·exact ok.apart _ _ b _ _ g1 h1 k2 h2 live (Box.whole_live h3)
    ·exact ok.apart _ _ b _ _ g1 h1 k2 h2 live (by simp)
   exact hid (this▸co hi)
 len:=by simp[nS,L.len]
 glob g hg:=(aAN (w:=w) (F:=F) L ok.len).globAt (ok.glob g hg)
 box i o y ho hy:=by
  obtain⟨s,h1,h2⟩:=L.box i y hy;obtain⟨hlt,hb⟩:=L.at (w:=w) (F:=F) ok.len h1;have less:=aAN (w:=w) (F:=F) L ok.len;rw[hb] at ho;have hok:=ok.box s o _ ho h2;cases y with
  | dead=>trivial
  | var c=>
   obtain⟨b,ys,T,g1,g2,g3⟩:=hok;exact⟨b,ys,T,g1,g2,Rc.less less _ _ (yH hlow hy) g3⟩
  | tail m=>exact hok
  | mp c0=>
   cases c0 with
   | kv kvs=>
    obtain⟨b,es,k,g1,g2,g3⟩:=hok;exact⟨b,es,k,g1,g2,g3.mono less.keeps⟩
   | it _ _=>exact hok
   | mi m=>
    obtain⟨b,c,t,g1,g2,g3⟩:=hok;exact⟨b,c,t,g1,g2,Rc.less less (.mp m) _ (aCQ hlow hy) g3⟩
  | loop r=>exact hok
  | gro k es=>
   obtain⟨g0,g1 | ⟨b,ys,U,g1,g2,y1,y2,g3,g4⟩⟩:=hok
   ·exact⟨g0,.inl g1⟩
   ·exact⟨g0,.inr ⟨b,ys,U,g1,g2,y1,y2,g3,RdL.mono less.keeps _ _ g4⟩⟩
 apart i j b x y hi hj hx hy hxd hyd:=by
  obtain⟨s,h1,h2⟩:=L.box i x hx;obtain⟨t,h3,h4⟩:=L.box j y hy;rw[(L.at (w:=w) (F:=F) ok.len h1).2] at hi;rw[(L.at (w:=w) (F:=F) ok.len h3).2] at hj;have e:=ok.apart s t b _ _ hi hj h2 h4 (λe=>hxd (vE.1 e)) (λe=>hyd (vE.1 e))
  subst e;have hij:=(List.getElem?_inj (bA h1) L.nodup).1 (h1.trans h3.symm)
  exact hij
def xI(bs:List (Option Nat))(σ:List Nat)(bc:List (Option Nat)):List (Option Nat):=pC bs σ (bc.take σ.length)++bc.drop σ.length
theorem pD{id:Nat}{Hc':List Box}(hid:id∉σ)(hlt:id < H.length):(cL H σ Hc')[id]? = H[id]? := by
 unfold cL;rw[cj (by rw[iV];exact hlt),wQ _ _ _ _ hid]
theorem oL{id:Nat}{bc:List (Option Nat)}(hid:id∉σ)(hlt:id < bs.length):(xI bs σ bc)[id]? = bs[id]? := by
 unfold xI;rw[cj (by rw[iV];exact hlt),wQ _ _ _ _ hid]
theorem qT{Hc':List Box}(hn:σ.Nodup)(hs:∀s∈σ,s < H.length)(hlen:σ.length<=Hc'.length){i:Nat}{y:Box}(hy:Hc'[i]? = some y):(cL H σ Hc')[rn σ H.length i]? = some (lZ (rn σ H.length) y):=by
 unfold cL;rcases fo i σ.length with hi | hi
 ·have h1:=af hi;rw[aAk h1]
  have hlt:=hs _ (co hi)
  rw[cj (by rw[iV];exact hlt)]
  refine yC σ H _ i _ _ hn h1 ?_ hlt;rw[cw,dx,if_pos hi,hy]
  rfl
 ·rw[aNN hi,ck (by rw[iV];omega),iV,ir,cw,eo,show σ.length+(i - σ.length)=i by omega,hy]
  rfl
theorem aBX{bc:List (Option Nat)}(hn:σ.Nodup)(hs:∀s∈σ,s < bs.length){i:Nat}{y:Option Nat}(hy:bc[i]? = some y):(xI bs σ bc)[rn σ bs.length i]? = some y:=by
 unfold xI;rcases fo i σ.length with hi | hi
 ·have h1:=af hi;rw[aAk h1]
  have hlt:=hs _ (co hi)
  rw[cj (by rw[iV];exact hlt)]
  refine yC σ bs _ i _ _ hn h1 ?_ hlt;rw[dx,if_pos hi,hy]
 ·rw[aNN hi,ck (by rw[iV];omega),iV,ir,eo,show σ.length+(i - σ.length)=i by omega,hy]
theorem aAG{Hc':List Box}(hn:σ.Nodup)(hs:∀s∈σ,s < H.length)(hlen:σ.length<=Hc'.length){id:Nat}{x:Box}(h:(cL H σ Hc')[id]? = some x) :
  (id∉σ/\H[id]? = some x)\/∃i y,Hc'[i]? = some y/\id=rn σ H.length i/\x=lZ (rn σ H.length) y:=by
 by_cases hid:id∈σ
 ·right;obtain⟨i,hi⟩:=gj hid;have hlt:=bA hi;obtain⟨y,hy⟩:∃y,Hc'[i]? = some y:=⟨_,af (by omega)⟩
  have:=qT (H:=H) hn hs hlen hy;rw[aAk hi] at this;rw[this] at h;cases h;exact⟨i,y,hy,(aAk hi).symm,rfl⟩
 ·rcases fo id H.length with hlt | hge
  ·rw[pD hid hlt] at h;exact .inl ⟨hid,h⟩
  ·right;have h':=h;unfold cL at h';rw[ck (by rw[iV];exact hge),iV,cw,eo] at h';obtain⟨y,hy,e⟩:=Option.map_eq_some_iff.1 h';refine⟨_,y,hy,?_,e.symm⟩
   rw[aNN (by omega)]
   omega
end frame
structure aJq(f:Nat->Nat)(μ μ':Mem):Prop where
 w:μ'.w=μ.w
 M:∀b o,μ'.M b o->μ.M b o
 box:∀(i:Nat) x,μ.H[i]? = some x->μ'.H[f i]? = some (lZ f x)
 bs:∀(i:Nat) o,μ.bs[i]? = some o->μ'.bs[f i]? = some o
theorem aJq.keeps{f:Nat->Nat}{μ μ':Mem}(h:aJq f μ μ'):∀b o y,μ.w.cell? ⟨b,o,none⟩=some y->¬μ.M b o->μ'.w.cell? ⟨b,o,none⟩=some y/\¬μ'.M b o:=
 λb o y h1 h2=>⟨by rw[h.w];exact h1,λhm=>h2 (h.M _ _ hm)⟩
mutual
theorem Rc.back{f:Nat->Nat}{μ μ':Mem}(h:aJq f μ μ'):∀(x:AV) (ys:List Value),Rc μ x ys->Rc μ' (ren f x) ys
 | .v _,_,hr=>by simpa[ren,Rc] using hr
 | .st n ps,ys,hr=>by
  simp only[ren,Rc] at hr ⊢;exact⟨hr.1,RcL.back h ps ys hr.2⟩
 | .arr n k es,ys,hr=>by
  simp only[ren,Rc] at hr ⊢;exact⟨hr.1,hr.2.1,RdL.mono h.keeps es ys hr.2.2⟩
 | .sl k ln es,ys,hr=>by
  simp only[ren,Rc] at hr ⊢;obtain⟨hn,a,cap,h1,h2,h3,h4⟩:=hr;refine⟨hn,a,cap,h1,h2,h3,h4.imp id ?_⟩
  rintro⟨b,off,zs,h5,h6,h7⟩
  exact⟨b,off,zs,h5,RdL.mono h.keeps es zs h6,λj y hy=>h.keeps _ _ _ (h7 j y hy).1 (h7 j y hy).2⟩
 | .own i k ln es,ys,hr=>by
  simp only[ren,Rc] at hr ⊢;obtain⟨hn,a,cap,h1,h2,h3,h4,h5,h6⟩:=hr;have hH:=h.box i _ (af h5)
  refine⟨hn,a,cap,h1,h2,h3,?_,bA hH,λm hm=>?_⟩
  ·refine h4.imp id ?_;rintro⟨b,off,zs,h5,h6,h7⟩
   exact⟨b,off,zs,h5,RdL.mono h.keeps es zs h6,λj y hy=>h.keeps _ _ _ (h7 j y hy).1 (h7 j y hy).2⟩
  ·have hm0:μ.H[i]? = some (.tail m):=by
    rw[hH] at hm;rw[af h5]
    generalize μ.H[i]=z at *;cases z <;> simp[lZ] at hm;subst hm;rfl
   obtain⟨k1,k2⟩:=h6 m hm0;refine⟨k1,λe=>?_⟩
   rcases k2 e with ⟨b,g1,g2,c,T,g3,g4⟩ | g2
   ·exact .inl ⟨b,h.bs i _ g1,g2,c,T,by rw[h.w];exact g3,g4⟩
   ·exact .inr g2
 | .ref i p o,ys,hr=>by
  simp only[ren,Rc] at hr ⊢;obtain⟨b,c,h1,h2,h3⟩:=hr;exact⟨b,_,h.bs i _ h1,h.box i _ h2,h3⟩
 | .bsl i p o k lo len,ys,hr=>by
  simp only[ren,Rc] at hr ⊢;obtain⟨b,c,cap,h1,h2,h3,h6⟩:=hr;exact⟨b,_,cap,h.bs i _ h1,h.box i _ h2,h3,h6⟩
 | .im x,ys,hr=>by
  simp only[ren,Rc] at hr ⊢;obtain⟨b,off,zs,h1,h2,h3⟩:=hr;exact⟨b,off,zs,h1,Rd.mono h.keeps x zs h2,λj y hy=>h.keeps _ _ _ (h3 j y hy).1 (h3 j y hy).2⟩
 | .tup _,_,hr=>by simp[Rc] at hr
 | .fn F first cap,ys,hr=>by
  simp only[ren,Rc] at hr ⊢;obtain⟨as,cs,h1,h2,h3⟩:=hr;exact⟨as,cs,h1,RcL.back h first as h2,RcL.back h cap cs h3⟩
 | .ifc t x,ys,hr=>by
  simp only[ren,Rc] at hr ⊢;obtain⟨y,h1,h2⟩:=hr;refine⟨y,h1,?_⟩
  have h3:=pB (λzs hz=>Rc.back h x zs hz) h2;unfold vOf at h3 ⊢;rw[aHT]
  exact h3
 | .mp i,ys,hr=>by
  simp only[ren,Rc] at hr ⊢;obtain⟨b,c,h1,h2,h3⟩:=hr;exact⟨b,_,h.bs i _ h1,h.box i _ h2,h3⟩
 | .it i,ys,hr=>by
  simp only[ren,Rc] at hr ⊢;obtain⟨b,c,h1,h2,h3⟩:=hr;exact⟨b,_,h.bs i _ h1,h.box i _ h2,h3⟩
 | .yld i,ys,hr=>by
  simp only[ren,Rc] at hr ⊢;obtain⟨b,c,h1,h2,h3⟩:=hr;exact⟨b,_,h.bs i _ h1,h.box i _ h2,h3⟩
 | .gro i k ln j,ys,hr=>by
  simp only[ren,Rc] at hr ⊢;obtain⟨y,e,h1,a,cap,e0,h0,h2⟩:=hr;have hH:=h.box i _ (af h1)
  refine⟨y,e,bA hH,a,cap,e0,h0,λk' es hm=>?_⟩
  have hm0:μ.H[i]? = some (.gro k' es):=by
   rw[hH] at hm;rw[af h1]
   generalize μ.H[i]=z at *;cases z <;> simp[lZ] at hm;obtain⟨rfl,rfl⟩:=hm;rfl
  obtain⟨k1,k2⟩:=h2 k' es hm0;refine⟨k1,λe=>?_⟩
  obtain⟨g0,g1,g2⟩:=k2 e;refine⟨g0,h.bs i _ g1,g2.imp ?_ (λh=>h)⟩
  rintro⟨b,rfl,c,T,g3,g4⟩
  exact⟨b,rfl,c,T,by rw[h.w];exact g3,g4⟩
theorem RcL.back{f:Nat->Nat}{μ μ':Mem}(h:aJq f μ μ'):∀(ps:List AV) (ys:List Value),RcL μ ps ys->RcL μ' (renL f ps) ys
 | [],_,hr=>by simpa[renL,RcL] using hr
 | p :: ps,ys,hr=>by
  simp only[renL,RcL] at hr ⊢;obtain⟨y1,y2,h1,h2,h3⟩:=hr;exact⟨y1,y2,h1,Rc.back h p y1 h2,RcL.back h ps y2 h3⟩
end
theorem aMD{f:Nat->Nat}{μ μ':Mem}(h:aJq f μ μ'){x:AV}{y:Value}(hr:Rv0 μ x y):Rv0 μ' (ren f x) y:=by
 have h2:=pB (λzs hz=>Rc.back h x zs hz) (uB.1 hr)
 refine uB.2 ?_;unfold vOf at h2 ⊢;rw[aHT]
 exact h2
theorem aMJ{f:Nat->Nat}{μ μ':Mem}(h:aJq f μ μ'):∀{xs:List AV} {vs:List Value},RvL μ xs vs->RvL μ' (renL f xs) vs
 | [],_,hr=>hr
 | x :: xs,_,⟨y,r,e,h1,h2⟩=>⟨y,r,e,aMD h h1,aMJ h h2⟩
theorem aKu{f:Nat->Nat}{μ μ':Mem}(h:aJq f μ μ'){x:AV}{y:Value}(hr:Rv μ x y):Rv μ' (ren f x) y:=by
 cases x with
 | tup vs=>
  simp only[ren]
  obtain⟨ys,h1,h2⟩:=hr;exact⟨ys,h1,aMJ h h2⟩
 | _=>exact aMD h hr
theorem aEP{H:List Box}{bs:List (Option Nat)}{w w':World}{F:Nat->Nat->Prop}{σ:List Nat}{Hc Hc':List Box}{bc:List (Option Nat)}(ok:(⟨H,bs,w,F⟩:Mem).OK)(L:aJX H bs σ Hc)(okc:(nS H bs w F σ Hc).OK)
  (ext:Ext (nS H bs w F σ Hc) ⟨Hc',bc,w',λb o=>F b o\/rest H bs σ b o⟩) (ok':(⟨Hc',bc,w',λb o=>F b o\/rest H bs σ b o⟩:Mem).OK) :
  Ext ⟨H,bs,w,F⟩ ⟨cL H σ Hc',xI bs σ bc,w',F⟩/\(⟨cL H σ Hc',xI bs σ bc,w',F⟩:Mem).OK/\aJq (rn σ H.length) ⟨Hc',bc,w',λb o=>F b o\/rest H bs σ b o⟩ ⟨cL H σ Hc',xI bs σ bc,w',F⟩:=by
 have hbl:bs.length=H.length:=ok.len;have hs:∀s∈σ,s < H.length:=λs hs'=>by
  obtain⟨i,hi⟩:=gj hs';exact(L.at (w:=w) (F:=F) hbl hi).1
 have hlen:σ.length<=Hc'.length:=by have:=ext.len;rw[<- L.len];exact this
 have hbc:bc.length=Hc'.length:=ok'.len;have old:∀b o,(⟨H,bs,w,F⟩:Mem).own b o↔(nS H bs w F σ Hc).own b o\/rest H bs σ b o:=λb o=>aE4 L hbl;have restlt:∀b o,rest H bs σ b o->b < w.heap.size:=λb o h=>okc.foreign b o (.inr h)
 -- what is not lent stays as it was
 have stay:∀(id b:Nat) (x:Box),id∉σ->bs[id]? = some (some b)->H[id]? = some x->x ≠ .dead->w'.heap[b]? = w.heap[b]? := by
  intro id b x hid hb hx hd;have hlt:b < w.heap.size:=cJ ok (b:=b) hb hx hd;refine ext.blocks b hlt λo ho=>?_;obtain⟨o',ho'⟩:∃o',rest H bs σ b o':=by
   cases x with
   | dead=>exact absurd rfl hd
   | tail m=>exact⟨m,id,hid,hb,.inr ⟨m,hx,ct _⟩⟩
   | _=>exact⟨0,id,hid,hb,.inl ⟨_,hx,rfl⟩⟩
  obtain⟨i,g1,g2⟩:=ho;have hi:i < σ.length:=by have:=bA g1;simpa[nS] using this
  have h1:=af hi;have g1:bs[σ[i]]? = some (some b):=(L.at (w:=w) (F:=F) hbl h1).2.symm.trans g1;obtain⟨z,hz⟩:∃z,Hc[i]? = some z:=⟨_,af (by rw[L.len];exact hi)⟩
  obtain⟨s',k1,k2⟩:=L.box i z hz;rw[h1] at k1;cases k1;have live:lZ (rn σ H.length) z ≠ .dead:=by
   intro e;have e:=vE.1 e;subst e;rcases g2 with ⟨x,g2,g3⟩ | ⟨m,g2,_⟩
   ·have:Hc[i]? = some x:=g2;rw[hz] at this;cases this;cases g3
   ·have:Hc[i]? = some (.tail m):=g2;rw[hz] at this;cases this
  have e:=ok.apart _ _ b _ _ g1 hb k2 hx live hd;exact hid (e▸co hi)
 have own':∀b o,(⟨cL H σ Hc',xI bs σ bc,w',F⟩:Mem).own b o↔(⟨Hc',bc,w',λb o=>F b o\/rest H bs σ b o⟩:Mem).own b o\/rest H bs σ b o:=by
  intro b o;constructor
  ·rintro⟨id,h1,h2⟩
   dsimp only at h1 h2;have:∃x,(cL H σ Hc')[id]? = some x:=by rcases h2 with ⟨x,h2,_⟩ | ⟨m,h2,_⟩ <;> exact⟨_,h2⟩
   obtain⟨x,hx⟩:=this;rcases aAG L.nodup hs hlen hx with ⟨hid,h3⟩ | ⟨i,z,h3,rfl,rfl⟩
   ·right;have hlt:=bA h3;rw[oL hid (by omega)] at h1;rw[pD hid hlt] at h2;exact⟨id,hid,h1,h2⟩
   ·left;obtain⟨ob,hob⟩:∃ob,bc[i]? = some ob:=⟨_,af (by have:=bA h3;omega)⟩
    have h4:=aBX (bs:=bs) L.nodup (λs hs'=>by have:=hs s hs';omega) hob;rw[hbl] at h4;rw[h4] at h1;rw[qT L.nodup hs hlen h3] at h2;refine⟨i,hob.trans h1,?_⟩
    rcases h2 with ⟨x,h2,h5⟩ | ⟨m,h2,h5⟩
    ·cases h2;exact .inl ⟨z,h3,by rw[aAZ] at h5;exact h5⟩
    ·refine .inr ⟨m,?_,h5⟩
     cases z <;> simp[lZ] at h2;subst h2;exact h3
  ·rintro(⟨i,h1,h2⟩ | ⟨id,hid,h1,h2⟩)
   ·dsimp only at h1 h2;obtain⟨z,h3⟩:∃z,Hc'[i]? = some z:=by rcases h2 with ⟨x,h2,_⟩ | ⟨m,h2,_⟩ <;> exact⟨_,h2⟩
    have h4:=aBX (bs:=bs) L.nodup (λs hs'=>by have:=hs s hs';omega) h1;rw[hbl] at h4;refine⟨_,h4,?_⟩
    dsimp only;rw[qT L.nodup hs hlen h3]
    rw[h3] at h2;rcases h2 with ⟨x,h2,h5⟩ | ⟨m,h2,h5⟩
    ·cases h2;exact .inl ⟨_,rfl,by rw[aAZ];exact h5⟩
    ·cases h2;exact .inr ⟨m,rfl,h5⟩
   ·have hlt:id < H.length:=by rcases h2 with ⟨x,h2,_⟩ | ⟨m,h2,_⟩ <;> exact bA h2
    refine⟨id,?_,?_⟩
    ·show(xI bs σ bc)[id]? = _;rw[oL hid (by omega)]
     exact h1
    ·dsimp only;rw[pD hid hlt]
     exact h2
 have back:aJq (rn σ H.length) ⟨Hc',bc,w',λb o=>F b o\/rest H bs σ b o⟩ ⟨cL H σ Hc',xI bs σ bc,w',F⟩:={
  w:=rfl
  M:=λb o h=>by
   rcases h with h | h
   ·exact .inl (.inl h)
   ·rcases(own' b o).1 h with h | h
    ·exact .inr h
    ·exact .inl (.inr h)
  box:=λi x hx=>qT L.nodup hs hlen hx
  bs:=λi o ho=>by
   have:=aBX (bs:=bs) L.nodup (λs hs'=>by have:=hs s hs';omega) ho;rw[hbl] at this;exact this }
 have notc:∀b o,¬(⟨H,bs,w,F⟩:Mem).own b o->¬(nS H bs w F σ Hc).own b o:=λb o h h'=>h ((old b o).2 (.inl h'))
 -- a box of the callee's, by its number
 have lentAt:∀(id:Nat) (c:Box),H[id]? = some c->id∈σ->∃(i:Nat) (z:Box),σ[i]? = some id/\Hc[i]? = some z/\c=lZ (rn σ H.length) z/\(nS H bs w F σ Hc).bs[i]? = bs[id]? := by
  intro id c hc hid;obtain⟨i,hi⟩:=gj hid;obtain⟨z,hz⟩:∃z,Hc[i]? = some z:=⟨_,af (by have:=bA hi;rw[L.len];exact this)⟩
  obtain⟨s',k1,k2⟩:=L.box i z hz;rw[hi] at k1;cases k1;rw[hc] at k2;cases k2;exact⟨i,z,hi,hz,rfl,(L.at (w:=w) (F:=F) hbl hi).2⟩
 have bsAt:∀(i id:Nat),σ[i]? = some id->bc[i]? = (nS H bs w F σ Hc).bs[i]? -> (xI bs σ bc)[id]? = bs[id]? := by
  intro i id hi he;have h1:=(L.at (w:=w) (F:=F) hbl hi)
  obtain⟨ob,hob⟩:∃ob,bc[i]? = some ob:=⟨_,af (by have:=bA hi;omega)⟩
  have h2:=aBX (bs:=bs) L.nodup (λs hs'=>by have:=hs s hs';omega) hob;rw[hbl,aAk hi] at h2;rw[h2,<- hob,he,h1.2]
 have extAll:Ext ⟨H,bs,w,F⟩ ⟨cL H σ Hc',xI bs σ bc,w',F⟩:={
  size:=ext.size
  len:=by show H.length<=(cL H σ Hc').length;unfold cL;rw[ah,iV];omega
  cells:=λb o hb hn=>ext.cells b o hb (notc b o hn)
  blocks:=λb hb hn=>ext.blocks b hb (λo=>notc b o (hn o))
  mm:=λb o hb h=>by
   rcases(own' b o).1 h with h | h
   ·exact(old b o).2 (.inl (ext.mm b o hb h))
   ·exact(old b o).2 (.inr h)
  same:=rfl
  vars:=λid c hc=>by
   by_cases hid:id∈σ
   ·obtain⟨i,z,h1,h2,h3,h4⟩:=lentAt id _ hc hid;cases z <;> simp[lZ] at h3;obtain⟨⟨c',g1⟩,g2⟩:=ext.vars i _ h2;have:=qT (H:=H) L.nodup hs hlen g1;rw[aAk h1] at this;exact⟨⟨_,this⟩,bsAt i id h1 g2⟩
   ·have hlt:=bA hc;dsimp only at hlt;exact⟨⟨c,(pD hid hlt).trans hc⟩,oL hid (by omega)⟩
  maps:=λid c hc=>by
   by_cases hid:id∈σ
   ·obtain⟨i,z,h1,h2,h3,h4⟩:=lentAt id _ hc hid;cases z <;> simp[lZ] at h3;obtain⟨⟨c',g1⟩,g2⟩:=ext.maps i _ h2;have:=qT (H:=H) L.nodup hs hlen g1;rw[aAk h1] at this;exact⟨⟨_,this⟩,bsAt i id h1 g2⟩
   ·have hlt:=bA hc;dsimp only at hlt;exact⟨⟨c,(pD hid hlt).trans hc⟩,oL hid (by omega)⟩
  loops:=λid c hc=>by
   by_cases hid:id∈σ
   ·obtain⟨i,z,h1,h2,h3,h4⟩:=lentAt id _ hc hid;cases z <;> simp[lZ] at h3;obtain⟨⟨c',g1⟩,g2⟩:=ext.loops i _ h2;have:=qT (H:=H) L.nodup hs hlen g1;rw[aAk h1] at this;exact⟨⟨_,this⟩,bsAt i id h1 g2⟩
   ·have hlt:=bA hc;dsimp only at hlt;exact⟨⟨c,(pD hid hlt).trans hc⟩,oL hid (by omega)⟩
  toks:=λid m' hid hm'=>by
   dsimp only at hid hm';by_cases hin:id∈σ
   ·obtain⟨i,z,h1,h2,h3,h4⟩:=lentAt id _ (af hid) hin;obtain⟨z',hz'⟩:∃z',Hc'[i]? = some z':=⟨_,af (by have:=bA h1;omega)⟩
    have g0:=qT (H:=H) L.nodup hs hlen hz';rw[aAk h1,hm'] at g0;have e:z' = .tail m':=by cases z' <;> simp[lZ] at g0;rw[g0]
    subst e;obtain⟨m,k1,k2,k3⟩:=ext.toks i m' (bA h2) hz';have k1':Hc[i]? = some (.tail m):=k1;rw[h2] at k1';cases k1';refine⟨m,?_,k2,λe=>⟨bsAt i id h1 (k3 e).1,λb s hb hr=>?_⟩⟩
    ·show H[id]? = _;rw[af hid,h3]
     rfl
    ·exact(k3 e).2 b s (h4.trans hb) hr
   ·rw[pD hin hid] at hm';refine⟨m',hm',ct _,λ_=>⟨oL hin (by omega),λb s hb hr=>?_⟩⟩
    obtain⟨c,T,g1,g2⟩:=hr;exact⟨c,T,(stay id b _ hin hb hm' (by simp)).trans g1,g2⟩
  gros:=λid q es' hid hm'=>by
   dsimp only at hid hm';by_cases hin:id∈σ
   ·obtain⟨i,z,h1,h2,h3,h4⟩:=lentAt id _ (af hid) hin;obtain⟨z',hz'⟩:∃z',Hc'[i]? = some z':=⟨_,af (by have:=bA h1;omega)⟩
    have g0:=qT (H:=H) L.nodup hs hlen hz';rw[aAk h1,hm'] at g0;have e:z' = .gro q es':=by cases z' <;> simp[lZ] at g0;obtain⟨rfl,rfl⟩:=g0;rfl
    subst e;obtain⟨es,k1,k2,k3⟩:=ext.gros i q es' (bA h2) hz';have k1':Hc[i]? = some (.gro q es):=k1;rw[h2] at k1';cases k1';refine⟨es,?_,k2,λe=>⟨bsAt i id h1 (k3 e).1,λb s hb hr=>?_⟩⟩
    ·show H[id]? = _;rw[af hid,h3]
     rfl
    ·exact(k3 e).2 b s (h4.trans hb) hr
   ·rw[pD hin hid] at hm';refine⟨es',hm',ct _,λ_=>⟨oL hin (by omega),λb s hb hr=>?_⟩⟩
    obtain⟨c,T,g1,g2⟩:=hr;exact⟨c,T,(stay id b _ hin hb hm' (by simp)).trans g1,g2⟩
  os:=ext.os
  tape:=ext.tape
  output:=ext.output }
 refine⟨extAll,?_,back⟩
 refine⟨λb o h=>Nat.lt_of_lt_of_le (ok.foreign b o h) ext.size,?_,?_,?_,?_,λg hg=>extAll.globAt (ok.glob g hg)⟩
 ·intro b o h hF;rcases(own' b o).1 h with h | h
  ·exact ok'.clear b o h (.inl hF)
  ·exact ok.clear b o ((old b o).2 (.inr h)) hF
 ·show(xI bs σ bc).length=(cL H σ Hc').length;unfold xI cL;simp only[ah,iV,List.length_drop,List.length_map]
  omega
 ·intro id o x ho hx;dsimp only at ho hx;rcases aAG L.nodup hs hlen hx with ⟨hid,h3⟩ | ⟨i,z,h3,rfl,rfl⟩
  ·have hlt:=bA h3;rw[oL hid (by omega)] at ho;refine pV extAll (λb hb hd=>?_) (ok.box id o x ho h3)
   subst hb;exact stay id b x hid ho h3 hd
  ·obtain⟨ob,hob⟩:∃ob,bc[i]? = some ob:=⟨_,af (by have:=bA h3;omega)⟩
   have h4:=aBX (bs:=bs) L.nodup (λs hs'=>by have:=hs s hs';omega) hob;rw[hbl] at h4;rw[h4] at ho;cases ho;have hok:=ok'.box i _ z hob h3;cases z with
   | dead=>trivial
   | var c=>
    obtain⟨b,ys,T,g1,g2,g3⟩:=hok;exact⟨b,ys,T,g1,g2,Rc.back back _ _ g3⟩
   | tail m=>exact hok
   | mp c0=>
    cases c0 with
    | kv kvs=>
     obtain⟨b,es,k,g1,g2,g3⟩:=hok;exact⟨b,es,k,g1,g2,g3.mono back.keeps⟩
    | it _ _=>exact hok
    | mi m=>
     obtain⟨b,c,t,g1,g2,g3⟩:=hok;exact⟨b,c,t,g1,g2,Rc.back back (.mp m) _ g3⟩
   | loop r=>exact hok
   | gro k es=>
    obtain⟨g0,g1 | ⟨b,ys,U,g1,g2,y1,y2,g3,g4⟩⟩:=hok
    ·exact⟨g0,.inl g1⟩
    ·exact⟨g0,.inr ⟨b,ys,U,g1,g2,y1,y2,g3,RdL.mono back.keeps _ _ g4⟩⟩
 ·intro i j b x z hi hj hx hz hxd hzd;dsimp only at hi hj hx hz
  -- a live box lets its owner write somewhere
  have wr:∀(x:Box),x ≠ .dead->∃m,∀o,m<=o->(x.whole=true\/∃m',x = .tail m'/\m'<=o):=by
   intro x hd;cases x with
   | dead=>exact absurd rfl hd
   | tail m=>exact⟨m,λo h => .inr ⟨m,rfl,h⟩⟩
   | _=>exact⟨0,λo _ => .inl rfl⟩
  have mixed:∀(id i':Nat) (x z:Box),id∉σ->H[id]? = some x->bs[id]? = some (some b)->Hc'[i']? = some z->bc[i']? = some (some b)->x ≠ .dead->z ≠ .dead->False:=by
   intro id i' x z hid hx hb hz hbz hxd hzd;obtain⟨m1,w1⟩:=wr x hxd;obtain⟨m2,w2⟩:=wr z hzd;have hr:rest H bs σ b (max m1 m2):=by
    rcases w1 (max m1 m2) (Nat.le_max_left _ _) with h | ⟨m',h1,h2⟩
    ·exact⟨id,hid,hb,.inl ⟨x,hx,h⟩⟩
    ·subst h1;exact⟨id,hid,hb,.inr ⟨m',hx,h2⟩⟩
   have ho:(⟨Hc',bc,w',λb o=>F b o\/rest H bs σ b o⟩:Mem).own b (max m1 m2):=by
    rcases w2 (max m1 m2) (Nat.le_max_right _ _) with h | ⟨m',h1,h2⟩
    ·exact⟨i',hbz,.inl ⟨z,hz,h⟩⟩
    ·subst h1;exact⟨i',hbz,.inr ⟨m',hz,h2⟩⟩
   exact ok'.clear b _ ho (.inr hr)
  have bcOf:∀(i':Nat) (z:Box),Hc'[i']? = some z->(xI bs σ bc)[rn σ H.length i']? = some (some b)->bc[i']? = some (some b):=by
   intro i' z hz hb;obtain⟨ob,hob⟩:∃ob,bc[i']? = some ob:=⟨_,af (by have:=bA hz;omega)⟩
   have h4:=aBX (bs:=bs) L.nodup (λs hs'=>by have:=hs s hs';omega) hob;rw[hbl,hb] at h4;rw[hob,h4]
  rcases aAG L.nodup hs hlen hx with ⟨hi1,hx1⟩ | ⟨i',x',hx1,rfl,rfl⟩ <;> rcases aAG L.nodup hs hlen hz with ⟨hj1,hz1⟩ | ⟨j',z',hz1,rfl,rfl⟩
  ·have l1:=bA hx1;have l2:=bA hz1;rw[oL hi1 (by omega)] at hi;rw[oL hj1 (by omega)] at hj;exact ok.apart i j b x z hi hj hx1 hz1 hxd hzd
  ·have l1:=bA hx1;rw[oL hi1 (by omega)] at hi;exact(mixed i j' x z' hi1 hx1 hi hz1 (bcOf j' z' hz1 hj) hxd (λe=>hzd (vE.2 e))).elim
  ·have l1:=bA hz1;rw[oL hj1 (by omega)] at hj;exact(mixed j i' z x' hj1 hz1 hj hx1 (bcOf i' x' hx1 hi) hzd (λe=>hxd (vE.2 e))).elim
  ·have e:=ok'.apart i' j' b x' z' (bcOf i' x' hx1 hi) (bcOf j' z' hz1 hj) hx1 hz1 (λe=>hxd (vE.2 e)) (λe=>hzd (vE.2 e))
   rw[e]
theorem aN5{P:Program}{f:FuncId}{Hc Hc':List Box}{args:List AV}{ret:AV}(C:FnM P f Hc args ret Hc'){H:List Box}{bs:List (Option Nat)}{w:World}{F:Nat->Nat->Prop}{σ:List Nat}
  (ok:(⟨H,bs,w,F⟩:Mem).OK) (L:aJX H bs σ Hc) (hlow:oS Hc Hc=true) (hargs:lowL Hc args=true) {vs:List Value} (hv:RvL ⟨H,bs,w,F⟩ (renL (rn σ H.length) args) vs) :
  Calls P f vs.toArray w λe w'=>∃y bs',e = .returned y/\Ext ⟨H,bs,w,F⟩ ⟨cL H σ Hc',bs',w',F⟩/\(⟨cL H σ Hc',bs',w',F⟩:Mem).OK/\Rv ⟨cL H σ Hc',bs',w',F⟩ (ren (rn σ H.length) ret) y:=by
 have less:=aAN (w:=w) (F:=F) L ok.len;have okc:=aHU L ok hlow;refine(C w _ _ vs okc (aBL less hargs hv)).mono ?_;rintro e w' ⟨y,bc,rfl,ext,ok',hr⟩
 obtain⟨h1,h2,h3⟩:=aEP ok L okc ext ok';exact⟨y,xI bs σ bc,rfl,h1,h2,aKu h3 hr⟩
end Go.UK

open Array renaming toList_inj→ik
open Bool renaming and_eq_true→bp,false_eq_true→bq
open List renaming getElem?_eq_getElem→af,getElem?_map→cw,getElem?_of_mem→gj,mem_cons→d9
open Nat renaming eq_of_beq_eq_true→aj,le_refl→ct
open Go.Result renaming andThen_ok→aq
open Go.Sem renaming run_bind→bj,run_pure→cv
namespace Go.UK
open Go
set_option linter.all false
variable [bU]
def Sub(a b:Env):Prop:=∀i e,cD a i=some e->cD b i=some e
theorem Sub.rfl{a:Env}:Sub a a:=λ_ _ h=>h
theorem aA0{μ:Mem}{a b:Env}{tmps:Array Value}(h:Sub a b)(hb:hU μ b tmps):hU μ a tmps:=λi e hl=>hb i e (h i e hl)
def Env.put(env:Env)(d:Option Nat)(e:EV):Env:=match d with | some d=>env.set d e | none=>env
def dOK(n:Nat):Option Nat->Bool
 | some d=>match Nat.ble n d with | true=>false | false=>true
 | none=>true
section
variable {P:Program} {T:TypeId→Option TI} {n:Fr}
theorem aIV{ctx:Mem}{st:ASt}{a:Act}{μ μ':Mem}(hm:aFM n ctx st a μ)(hx:Ext μ μ')(ok:μ'.OK){d:Option Nat}(hd:dOK n.n d=true){x:AV}{y:Value}(hy:Rv μ' x y) :
  Sat n ctx ⟨st.env.put d (none,x),μ'.H⟩ (a.put d y) μ'.w:=by
 cases d with
 | none=>exact(hm.putn hx ok).sat
 | some d=>
  simp only[dOK] at hd;split at hd
  ·cases hd
  ·rename_i h;exact(hm.put hx ok (aAU h) hy).sat
def Big(P:Program)(n:Fr)(o:Oper)(need:Env)(H:List Box)(x:AV)(H':List Box):Prop:=
 ∀env,Sub need env->owp P n o ⟨env,H⟩ ⟨env.put o.dst (none,x),H'⟩
theorem aT8{ops:Array Oper}{o:Oper}{l:List Oper}{st:ASt}{x:AV}{H':List Box}{K:ASt->Prop}(b:Big P n o st.env st.H x H')(hg:gOK ops o st.env=true)(hk:awl P n ops l K ⟨st.env.put o.dst (none,x),H'⟩):awl P n ops (o :: l) K st:=
 aOv (aKb hg (b st.env Sub.rfl)) hk
theorem iD{o:Oper}{need:Env}{H H':List Box}{x:AV}(hd:dOK n.n o.dst=true)(h:∀a (μ:Mem),μ.OK->μ.H=H->hU μ need a.tmps->∃μ',iL P o a μ x μ'/\μ'.H=H'):Big P n o need H x H':=by
 intro env hs;refine yO λctx a μ hm=>?_;obtain⟨μ',hr,e⟩:=h a μ hm.ok hm.h (aA0 hs hm.env)
 refine⟨x,μ',hr,λy hy hx hok=>?_⟩
 rw[<- e]
 exact aIV hm hx hok hd hy
theorem aNo(hT:TOK P T){im:Bool}{o:Oper}{need:Env}{H:List Box}{x:AV}{b:Option Box}(hd:dOK n.n o.dst=true)(he:ev T im (opd need none) H o=some (x,b)):Big P n o need H x (aCH H b):=
 iD hd λa μ ok hH hE=>by
  obtain⟨bs',w',hr⟩:=aEf (P:=P) (a:=a) hT (λy v hv=>aW hE noG hv) ok (by rw[hH];exact he)
  exact⟨_,hr,by rw[hH]⟩
def zZ : List AV->Bool
 | []=>true
 | p :: ps=>match p.isAgg with | true=>false | false=>zZ ps
theorem aAH : ∀{l:List AV},zZ l=true->∀p∈l,p.isAgg=false
 | [],_,p,h=>by cases h
 | q :: l,h,p,hp=>by
  simp only[zZ] at h;split at h
  ·cases h
  ·rename_i h0;rcases d9.1 hp with h' | h'
   ·subst h';exact h0
   ·exact aAH h p h'
def aLV(t:Nat)(name:String):List (Nat×String×Nat)->Option Nat
 | []=>none
 | q :: l=>match Nat.beq q.1 t&&(q.2.1==name) with | true=>some q.2.2 | false=>aLV t name l
theorem aGi{t f:Nat}{name:String}:∀{l:List (Nat×String×Nat)},aLV t name l=some f->(t,name,f)∈l
 | [],h=>by cases h
 | q :: l,h=>by
  unfold aLV at h;split at h
  ·rename_i hq;simp only[bp,beq_iff_eq] at hq;cases h;obtain⟨a,b,c⟩:=q;obtain⟨h1,h2⟩:=hq;have h1:=aj h1;dsimp only at h1 h2;subst h1 h2;simp
  ·exact List.mem_cons_of_mem _ (aGi h)
def aI4(ρ:Operand->Option AV)(o:Oper):Option (FuncId×List AV):=
 match o.op with
 | .call { callee := .value c,args,.. }=>match ρ c,aK5 ρ args.toList with
  | some (.fn (.func f) fi cap),some avs=>match zZ fi&&zZ cap with
   | true=>some (f,fi++(avs++cap))
   | false=>none
  | _,_=>none
 | .call { callee := .invoke c name,args,.. }=>match ρ c,aK5 ρ args.toList with
  | some (.ifc t x),some avs=>match aLV t name bU.ms with
   | some f=>some (f,x :: avs)
   | none=>none
  | _,_=>none
 | _=>none
def rZ(H:List Box)(σ:List Nat):List Box:=σ.map λs=>(H[s]?).getD .dead
def aME(m:Nat):List Nat->Bool
 | []=>true
 | x :: xs=>Nat.blt x m&&aME m xs
theorem aEM{m:Nat}:∀{l:List Nat},aME m l=true->∀x∈l,x < m
 | [],_,x,h=>by cases h
 | y :: l,h,x,hx=>by
  simp only[aME,bp] at h;rcases d9.1 hx with h' | h'
  ·subst h';have h1:Nat.ble (x+1) m=true:=h.1;have:=Nat.le_of_ble_eq_true h1;omega
  ·exact aEM h.2 x h'
def aAx(n:Fr)(o:Oper)(H:List Box)(σ:List Nat)(Hc:List Box)(args:List AV):Bool:=
 dOK n.n o.dst&&(aGM σ&&(aME H.length σ&&(Nat.beq σ.length Hc.length&&(zN Hc.length Hc&&(oS Hc Hc&&lowL Hc args)))))
def aAm(o:Oper)(need:Env)(H:List Box)(σ:List Nat)(Hc:List Box)(args:List AV):Option (FuncId×List AV)×List Box:=
 (match aI4 (opd need none) o with
  | some (f,avs)=>some (f,wkL avs (renL (rn σ H.length) args))
  | none=>none,
  yB (rZ H σ) (Hc.map (lZ (rn σ H.length))))
theorem RvL.append{μ:Mem}:∀{xs ys:List AV} {vs ws:List Value},RvL μ xs vs->RvL μ ys ws->RvL μ (xs++ys) (vs++ws)
 | [],ys,vs,ws,h,h'=>by have:vs=[]:=h;subst this;exact h'
 | x :: xs,ys,vs,ws,⟨v,r,e,h1,h2⟩,h'=>⟨v,r++ws,by rw[e];rfl,h1,RvL.append h2 h'⟩
theorem RcL.rvl{μ:Mem}:∀{ps:List AV} {ys:List Value},RcL μ ps ys->(∀p∈ps,p.isAgg=false)->RvL μ ps ys
 | [],ys,h,_=>by simp only[RcL] at h;exact h
 | p :: ps,ys,h,ha=>by
  simp only[RcL] at h;obtain⟨y1,y2,h1,h2,h3⟩:=h;obtain⟨y,e⟩:=h2.one (ha p (by simp))
  subst e;refine⟨y,y2,by simpa using h1,?_,RcL.rvl h3 (λq hq=>ha q (by simp[hq]))⟩
  unfold Rv0;rw[if_neg (by rw[ha p (by simp)];simp)]
  exact h2
theorem aAM{μ:Mem}{a:Act}{ρ:Operand->Option AV}(hρ:∀y v,ρ y=some v->Rv μ v (a.eval y)):∀(l:List Operand) (vs:List AV),aK5 ρ l=some vs->RvL μ vs (l.map a.eval)
 | [],vs,h=>by simp only[aK5,Option.some.injEq] at h;subst h;rfl
 | x :: l,vs,h=>by
  simp only[aK5] at h;split at h <;> try cases h
  rename_i v r h1 h2;split at h <;> cases h;rename_i hn;have h3:=hρ _ _ h1;have h4:Rv0 μ v (a.eval x):=by cases v <;> first | exact h3 | simp[kY] at hn
  exact⟨_,_,rfl,h4,aAM hρ l r h2⟩
theorem aMe{o:Oper}{callee:Operand}{args:Array Operand}{tys:Array TypeId}{ρ:Operand->Value}{f:FuncId}{as cs:List Value}{w:World}
  (ho:o.op = .call { callee := .value callee,args,argTypes:=tys }) (hv:ρ callee = .func (.func f) as.toArray cs.toArray) (hf:vY P f) :
  (execOp ρ o).run P w = .ok (.enter f (as++(args.toList.map ρ++cs)).toArray) w:=by
 obtain⟨⟨fn,h1,h2,h3⟩,_⟩:=hf;have e:(as++(args.toList.map ρ++cs)).toArray=as.toArray++args.map ρ++cs.toArray:=by
  rw[<- ik]
  simp
 rw[e]
 simp only[execOp,ho,resolve,Deferred.ofValue,hv,bj,cv,aq,invoke,callFunc,run_program,h1,h2,h3,bq,if_false]
theorem aJM{o:Oper}{recv:Operand}{name:String}{args:Array Operand}{tys:Array TypeId}{ρ:Operand->Value}{f:FuncId}{t:TypeId}{y:Value}{w:World}
  (ho:o.op = .call { callee := .invoke recv name,args,argTypes:=tys }) (hv:ρ recv = .iface t y) (hm:aNE P (t,name,f)) (hf:vY P f) :
  (execOp ρ o).run P w = .ok (.enter f (y :: args.toList.map ρ).toArray) w:=by
 obtain⟨⟨fn,h1,h2,h3⟩,_⟩:=hf;have e:(y :: args.toList.map ρ).toArray=#[y]++args.map ρ:=by
  rw[<- ik]
  simp
 have hmm:=hm y w (P.types.size+99)
 have e2:∀(A:Array Value),(#[ρ recv]++A)[0]? = some (ρ recv):=by intro A;rw[Array.getElem?_append_left (Nat.zero_lt_one)];rfl
 have e3:∀(A:Array Value),(#[ρ recv]++A).extract 1 (#[ρ recv]++A).size=A:=by
  intro A;rw[<- ik]
  simp
 have e4:(callMethod (.iface t y) name (args.map ρ)).run P w = .ok (.enter f (#[y]++args.map ρ)) w:=by
  unfold callMethod;simp only[bj,run_program,aq]
  rw[show P.types.size+Made.depth=P.types.size+99+1 from rfl,hmm]
  simp only[aq,callFunc,bj,run_program,h1,h2,h3,bq,if_false,cv]
 rw[e]
 have e5:(invoke (.fn (.method name) #[]) (#[ρ recv]++args.map ρ)).run P w = .ok (.enter f (#[y]++args.map ρ)) w:=by
  unfold invoke;simp only[e2,e3]
  rw[hv]
  exact e4
 simp only[execOp,ho,resolve,bj,cv,aq]
 exact e5
theorem aJd{o:Oper}{need:Env}{μ:Mem}{a:Act}{f:FuncId}{avs:List AV}(hE:hU μ need a.tmps)(h:aI4 (opd need none) o=some (f,avs))(hf:vY P f) :
  (∃c,o.op = .call c)/\∃vs:List Value,RvL μ avs vs/\(execOp a.eval o).run P μ.w = .ok (.enter f vs.toArray) μ.w:=by
 unfold aI4 at h;split at h <;> try cases h
 case h_2=>
  rename_i c name args tys ho;split at h <;> try cases h
  rename_i t x as hc hargs;split at h <;> cases h;rename_i hfm;have hcv:=aW hE noG hc;have hcv':∃y,a.eval c = .iface t y/\vOf x (λzs=>Rc μ x zs) y:=by
   simpa[Rv,Rv0,AV.isAgg,Rc] using hcv
  obtain⟨y,e,hy⟩:=hcv';have hav:=aAM (λy v hv=>aW hE noG hv) _ _ hargs;exact⟨⟨_,ho⟩,_,⟨y,_,rfl,hy,hav⟩,aJM ho e (hf.2 _ (aGi hfm)) hf⟩
 rename_i c args tys ho;split at h <;> try cases h
 rename_i f' fi cap as hc hargs;split at h <;> cases h;rename_i hag;simp only[bp] at hag;have hcv:=aW hE noG hc;have hcv':∃as cs:List Value,a.eval c = .func (.func f) as.toArray cs.toArray/\RcL μ fi as/\RcL μ cap cs:=by
  simpa[Rv,Rv0,AV.isAgg,Rc] using hcv
 obtain⟨as',cs,e,h1,h2⟩:=hcv';have hav:=aAM (λy v hv=>aW hE noG hv) _ _ hargs;exact⟨⟨_,ho⟩,_,(h1.rvl (aAH hag.1)).append (hav.append (h2.rvl (aAH hag.2))),aMe ho e hf⟩
theorem aC8{H H':List Box}{bs:List (Option Nat)}{w:World}{F:Nat->Nat->Prop}(hl:H.length=H'.length)(hk:∀(i:Nat) x y,H[i]? = some x->H'[i]? = some y->(y=x\/∃c c',x = .var c/\y = .var c')):Ext ⟨H,bs,w,F⟩ ⟨H',bs,w,F⟩ where
 size:=ct _
 len:=by show H.length<=H'.length;omega
 cells _ _ _ _:=rfl
 blocks _ _ _:=rfl
 mm b o _ h:=by
  obtain⟨i,h1,h2⟩:=h;refine⟨i,h1,?_⟩
  dsimp only at h2;have:∃y,H'[i]? = some y:=by rcases h2 with ⟨x,h2,_⟩ | ⟨m,h2,_⟩ <;> exact⟨_,h2⟩
  obtain⟨y,hy⟩:=this;obtain⟨x,hx⟩:∃x,H[i]? = some x:=⟨_,af (by have:=bA hy;omega)⟩
  rcases hk i x y hx hy with e | ⟨c,c',e1,e2⟩
  ·subst e;dsimp only;rw[hx,<- hy];exact h2
  ·subst e1 e2;exact .inl ⟨_,hx,rfl⟩
 same:=rfl
 vars i c hc:=by
  obtain⟨y,hy⟩:∃y,H'[i]? = some y:=⟨_,af (by have:=bA hc;dsimp only at this;omega)⟩
  rcases hk i _ y hc hy with e | ⟨_,c',_,e2⟩
  ·subst e;exact⟨⟨_,hy⟩,rfl⟩
  ·subst e2;exact⟨⟨_,hy⟩,rfl⟩
 maps i c hc:=by
  obtain⟨y,hy⟩:∃y,H'[i]? = some y:=⟨_,af (by have:=bA hc;dsimp only at this;omega)⟩
  rcases hk i _ y hc hy with e | ⟨_,c',e1,_⟩
  ·subst e;exact⟨⟨_,hy⟩,rfl⟩
  ·cases e1
 loops i c hc:=by
  obtain⟨y,hy⟩:∃y,H'[i]? = some y:=⟨_,af (by have:=bA hc;dsimp only at this;omega)⟩
  rcases hk i _ y hc hy with e | ⟨_,c',e1,_⟩
  ·subst e;exact⟨⟨_,hy⟩,rfl⟩
  ·cases e1
 toks i m hi hm:=by
  dsimp only at hi hm;rcases hk i _ _ (af hi) hm with e | ⟨_,_,_,e2⟩
  ·exact⟨m,(af hi).trans (congrArg some e.symm),ct _,λ_=>⟨rfl,λ_ _ _ h=>h⟩⟩
  ·cases e2
 gros i q es' hi hm:=by
  dsimp only at hi hm;rcases hk i _ _ (af hi) hm with e | ⟨_,_,_,e2⟩
  ·exact⟨es',(af hi).trans (congrArg some e.symm),ct _,λ_=>⟨rfl,λ_ _ _ h=>h⟩⟩
  ·cases e2
 os:=rfl
 tape:=rfl
 output:=rfl
theorem aQx{H H':List Box}{bs:List (Option Nat)}{w:World}{F:Nat->Nat->Prop}(hl:H.length=H'.length)(hk:∀(i:Nat) x y,H[i]? = some x->H'[i]? = some y->(y=x\/∃c e,x = .var c/\y = .var (wk c e)))
  (ok:(⟨H,bs,w,F⟩:Mem).OK):(⟨H',bs,w,F⟩:Mem).OK:=by
 have ext:Ext ⟨H,bs,w,F⟩ ⟨H',bs,w,F⟩:=aC8 hl λi x y hx hy=>(hk i x y hx hy).imp id (λ⟨c,e,h1,h2⟩=>⟨c,_,h1,h2⟩)
 have old:∀(i:Nat) y,H'[i]? = some y->∃x,H[i]? = some x/\(y=x\/∃c e,x = .var c/\y = .var (wk c e)):=by
  intro i y hy;obtain⟨x,hx⟩:∃x,H[i]? = some x:=⟨_,af (by have:=bA hy;omega)⟩
  exact⟨x,hx,hk i x y hx hy⟩
 refine⟨ok.foreign,λb o h=>ok.clear b o ?_,by have:=ok.len;dsimp only at this ⊢;omega,?_,?_,λg hg=>ext.globAt (ok.glob g hg)⟩
 ·by_cases hb:b < w.heap.size
  ·exact ext.mm b o hb h
  ·obtain⟨i,h1,h2⟩:=h;exfalso;dsimp only at h2;have:∃y,H'[i]? = some y/\y ≠ .dead:=by
    rcases h2 with ⟨y,h2,h3⟩ | ⟨m,h2,_⟩
    ·exact⟨y,h2,Box.whole_live h3⟩
    ·exact⟨_,h2,by simp⟩
   obtain⟨y,hy,hd⟩:=this;obtain⟨x,hx,h⟩:=old i y hy;refine hb (cJ ok (b:=b) h1 hx ?_)
   rcases h with e | ⟨c,e,h1,h2⟩
   ·subst e;exact hd
   ·subst h1;simp
 ·intro i o y ho hy;obtain⟨x,hx,h⟩:=old i y hy;have hok:=ok.box i o x ho hx;rcases h with e | ⟨c,e,h1,h2⟩
  ·subst e;exact pV ext (λ_ _ _=>rfl) hok
  ·subst h1 h2;obtain⟨b,ys,U,g1,g2,g3⟩:=hok;exact⟨b,ys,U,g1,g2,Rc.ext ext _ _ (aG4 _ _ _ g3)⟩
 ·intro i j b y z hi hj hy hz hyd hzd;obtain⟨x,hx,h⟩:=old i y hy;obtain⟨x2,hx2,h2⟩:=old j z hz;refine ok.apart i j b x x2 hi hj hx hx2 ?_ ?_
  ·rcases h with e | ⟨c,e,h1,_⟩
   ·subst e;exact hyd
   ·subst h1;simp
  ·rcases h2 with e | ⟨c,e,h1,_⟩
   ·subst e;exact hzd
   ·subst h1;simp
theorem aIv(σ:List Nat){f:FuncId}{Hc Hc':List Box}{args:List AV}{ret:AV}(C:FnM P f Hc args ret Hc')(hf:vY P f){o:Oper}{need:Env}{H:List Box}
  (hB:aAx n o H σ Hc args=true:=by kernel_rfl) (hE:aAm o need H σ Hc args=(some (f,renL (rn σ H.length) args),Hc.map (lZ (rn σ H.length))):=by kernel_rfl) :
  Big P n o need H (ren (rn σ H.length) ret) (cL H σ Hc'):=by
 simp only[aAx,bp] at hB;obtain⟨b1,b2,b3,b4,b5,b6,b7⟩:=hB;have b4:=aj b4;have hnd:=aA1 b2;have hlt:=aEM b3;simp only[aAm,Prod.mk.injEq] at hE;obtain⟨e1,e2⟩:=hE;split at e1 <;> try cases e1
 rename_i f' avs hca;simp only[Option.some.injEq,Prod.mk.injEq] at e1;obtain⟨rfl,e1⟩:=e1;intro env hs ctx a w Qx hsat;obtain⟨bs,hm⟩:=hsat;dsimp only at hm;obtain⟨⟨c,ho⟩,vs,hv,hrun⟩:=aJd (P:=P) (aA0 hs hm.env) hca hf;refine aBx rfl (aPe ho) ?_;unfold Oper.wp;have hrun':(execOp a.eval o).run P w = .ok (.enter f' vs.toArray) w:=hrun;rw[hrun']
 simp only[Oper.upon]
 -- the boxes, said as the contract says them
 let H2:List Box:=pC H σ (Hc.map (lZ (rn σ H.length)))
 have hl2:H.length=H2.length:=(iV _ _ _).symm;have hk:∀(i:Nat) x y,H[i]? = some x->H2[i]? = some y->(y=x\/∃c e,x = .var c/\y = .var (wk c e)):=by
  intro i x y hx hy;by_cases hi:i∈σ
  ·obtain⟨j,hj⟩:=gj hi;obtain⟨z,hz⟩:∃z,Hc[j]? = some z:=⟨_,af (by have:=bA hj;omega)⟩
   have h1:H2[i]? = some (lZ (rn σ H.length) z):=yC σ H _ j i _ hnd hj (by rw[cw,hz];rfl) (hlt i hi)
   rw[h1] at hy;cases hy;have h2:(yB (rZ H σ) (Hc.map (lZ (rn σ H.length))))[j]? = some (lZ (rn σ H.length) z):=by rw[e2,cw,hz];rfl
   obtain⟨x',t,g1,g2,g3⟩:=aEG (by simp[rZ];omega) h2;have h3:x'=x:=by
    simp only[rZ,cw,hj,Option.map_some,hx,Option.getD_some,Option.some.injEq] at g1;exact g1.symm
   subst h3;rw[g3]
   have hzd:z ≠ .dead:=by
    obtain⟨z',hz',hd⟩:=aGt b5 (bA hz)
    rw[hz] at hz';cases hz';exact hd
   have ht:t ≠ .dead:=by
    rw[cw,hz] at g2;simp only[Option.map_some,Option.some.injEq] at g2;rw[<- g2]
    exact λe=>hzd (vE.1 e)
   cases x' <;> cases t <;> simp[cBox] at ht ⊢;exact .inr ⟨_,rfl⟩
  ·left;have h1:H2[i]? = H[i]? := wQ σ H _ i hi;rw[h1,hx] at hy;cases hy;rfl
 have ext2:Ext ⟨H,bs,w,ctx.F⟩ ⟨H2,bs,w,ctx.F⟩:=aC8 hl2 λi x y hx hy=>(hk i x y hx hy).imp id (λ⟨c,e,h1,h2⟩=>⟨c,_,h1,h2⟩)
 have ok2:=aQx hl2 hk hm.ok;have L:aJX H2 bs σ Hc:=⟨hnd,b4.symm,λi y hy=>by
  have hi:=bA hy;have hj:σ[i]? = some (σ[i]'(by omega)):=af (by omega)
  refine⟨_,hj,?_⟩
  rw[<- hl2]
  exact yC σ H _ i _ _ hnd hj (by rw[cw,hy];rfl) (hlt _ (List.getElem_mem _))⟩
 have hargs:RvL ⟨H2,bs,w,ctx.F⟩ (renL (rn σ H2.length) args) vs:=by
  rw[<- hl2,<- e1]
  exact RvL.ext ext2 _ _ (aEt hv)
 refine(aN5 C ok2 L b6 b7 hargs).mono ?_;rintro e w'' ⟨y,bs',rfl,h1,h2,h3⟩
 simp only;have hout:cL H2 σ Hc'=cL H σ Hc':=by
  have key:∀(σ:List Nat) (H xs ys:List Box),σ.Nodup->σ.length<=ys.length->(∀s∈σ,s < H.length)->pC (pC H σ xs) σ ys=pC H σ ys:=by
   intro σ H xs ys hn hl hs';apply List.ext_getElem?;intro i;by_cases hi:i∈σ
   ·obtain⟨j,hj⟩:=gj hi;have hlt':=bA hj;have hy:=af (l:=ys) (i:=j) (by omega)
    rw[yC σ _ _ j i _ hn hj hy (by rw[iV];exact hs' i hi),yC σ _ _ j i _ hn hj hy (hs' i hi)]
   ·rw[wQ _ _ _ _ hi,wQ _ _ _ _ hi,wQ _ _ _ _ hi]
  unfold cL;rw[<- hl2]
  congr 1;refine key σ H _ _ hnd ?_ hlt;have:=h1.len;have e3:(cL H2 σ Hc').length=H2.length+(Hc'.length - σ.length):=by unfold cL;simp[iV]
  simp only[List.length_map,List.length_take]
  have hle:Hc.length<=Hc'.length:=by
   obtain⟨e',w3,_,⟨y3,bs3,_,g,_⟩,_⟩:=(C w _ _ vs (aHU L ok2 b6) (aBL (aAN L ok2.len) b7 hargs)) []
   exact g.len
  omega
 rw[hout] at h1 h2 h3;rw[<- hl2] at h3;exact aIV (μ':=⟨cL H σ Hc',bs',w'',ctx.F⟩) hm (ext2.trans h1) h2 b1 h3
end
end Go.UK

open Bool renaming and_eq_true→bp
open List renaming all_eq_true→fm,any_eq_true→nz,filterMap_cons→n8,map_cons→kn,mem_cons→d9,mem_filter→oi,mem_map→fa,range→ce
open Nat renaming beq→cd,eq_of_beq_eq_true→aj,eq_or_lt_of_le→np,le_of_ble_eq_true→dh,lt_succ_iff_lt_or_eq→lp
namespace Go.UK
open Go
set_option linter.all false
variable [bU]
section
variable {P:Program} {T:TypeId→Option TI} {n:Fr}
def aPn(d:Nat)(b:Bool)(st:ASt):ASt:=⟨(d,some (none,.v (.bool b))) :: st.env,st.H⟩
theorem aSf{d:Nat}{b c:Bool}{st:ASt}(hg:get st.env d=some (.v (.bool c)))(hc:c=b){ctx:Mem}{a:Act}{w:World}(hs:Sat n ctx st a w):Sat n ctx (aPn d b st) a w:=by
 subst hc;refine aLS (st:=st) ?_ hs;intro i e hl;unfold aPn cD at hl;cases hb:cd d i with
 | false=>rw[hb] at hl;exact hl
 | true=>
  rw[hb] at hl;cases hl;rw[<- aj hb]
  exact aIY hg
theorem aOd(d:Nat)(b:Bool){c:Bool}{ops:Array Oper}{K:ASt->Prop}{l:List Oper}{st:ASt}(hc:c=b)(hg:get st.env d=some (.v (.bool c)))(hk:awl P n ops l K (aPn d b st)):awl P n ops l K st:=
 λctx a w hs=>hk ctx a w (aSf hg hc hs)
def plU(T:TypeId->Option TI)(im:Bool)(n:Nat)(o:Oper)(need:Env)(H:List Box):Option (AV×List Box):=
 match dOK n o.dst with
 | false=>none
 | true=>match o.op with
  | .store t p v=>match o.dst with
   | some _=>none
   | none=>match opd need none p,opd need none v,T t with
    | some q,some x,some i=>match cd x.n i.size&&kY x with
     | true=>match yN H q x with
      | some H'=>some (.v (.bool false),H')
      | none=>none
     | false=>none
    | _,_,_=>none
  | .pick (.tmp c) x y=>match get need c with
   | some (.v (.bool b))=>match b with
    | true=>match opd need none x with | some v=>some (v,H) | none=>none
    | false=>match opd need none y with | some v=>some (v,H) | none=>none
   | _=>none
  | _=>match ev T im (opd need none) H o with
   | some (x,b)=>some (x,aCH H b)
   | none=>none
theorem aOD(hT:TOK P T){im:Bool}{o:Oper}{need:Env}{H H':List Box}{x:AV}(h:plU T im n.n o need H=some (x,H')):Big P n o need H x H':=by
 unfold plU at h;split at h <;> try cases h
 rename_i hd;split at h
 ·rename_i t p v ho;split at h <;> try cases h
  rename_i hdst;split at h <;> try cases h
  rename_i q x' i hq hx hi;split at h <;> try cases h
  rename_i hb;split at h <;> cases h;rename_i hH;simp only[bp] at hb;intro env hs;refine yU λctx a w hsat=>?_;obtain⟨bs,hm⟩:=hsat;have hE:=aA0 hs hm.env;obtain⟨w',h1,h2,h3⟩:=aIn (P:=P) hT ho hm.ok hi (aW hE noG hq) (aW hE noG hx) hH (aj hb.1) (pE hb.2)
  refine⟨w',h1,bs,?_⟩
  rw[hdst]
  exact hm.putn h2 h3
 ·rename_i c y z ho;split at h <;> try cases h
  rename_i b hc;have key:∀v,(∀a:Act,hU ⟨[],[],default,λ_ _=>False⟩ [] a.tmps->True)->(opd need none (if b then y else z)=some v)->Big P n o need H v H:=by
   intro v _ hv;refine iD hd λa μ ok hH hE=>?_;obtain⟨vc,h1,h2⟩:=hE.get hc;have e:=bV h2;subst e;refine⟨μ,iL.here (y:=a.eval (if b then y else z)) ok ?_ (aW hE noG hv),hH⟩
   simp only[execOp,ho,Act.eval,aAC h1,asBool,Sem.run_bind,Sem.run_pure,Result.andThen_ok]
   cases b <;> rfl
  split at h
  ·split at h <;> cases h;rename_i hv;exact key _ (λ_ _=>trivial) (by simpa using hv)
  ·split at h <;> cases h;rename_i hv;exact key _ (λ_ _=>trivial) (by simpa using hv)
 ·split at h <;> cases h;rename_i hv;exact aNo hT hd hv
def dir(ops:Array Oper)(i:Nat):List Nat:=
 match ops[i]? with
 | some o=>(o.after.toList.filter (Region.binds .any)).map (·.on)
 | none=>[]
def clo(ops:Array Oper):Nat->List Nat->List Nat
 | 0,S=>S
 | i+1,S=>match S.any (cd i) with
  | true=>clo ops i (dir ops i++S)
  | false=>clo ops i S
def uL(listed:Array Bool)(i:Nat):Prop:=listed.getD i false=true
def Down(ops:Array Oper)(listed:Array Bool):Prop:=∀i,uL listed i->∀j∈dir ops i,uL listed j
theorem aLM{ops:Array Oper}{listed:Array Bool}(hd:Down ops listed):∀(i:Nat) (S:List Nat),(∀s∈S,uL listed s)->∀s∈clo ops i S,uL listed s
 | 0,S,h=>h
 | i+1,S,h=>by
  unfold clo;split
  ·rename_i hb;refine aLM hd i _ ?_;intro s hs;rcases List.mem_append.1 hs with h' | h'
   ·obtain⟨q,hq,e⟩:=nz.1 hb;have:=aj e;subst this;exact hd _ (h _ hq) s h'
   ·exact h s h'
  ·exact aLM hd i S h
structure MI where
 keys:List Nat
 d:Option Nat
 e:Option AV
def aPj(ops:Array Oper):List (List Nat):=(ce ops.size).map λt=>clo ops t (dir ops t)
def inC(C:List (List Nat))(t i:Nat):Bool:=((C[t]?).getD []).any (cd i)
def aIQ(n:Nat)(p:Nat->Bool):Bool:=
 match n with
 | 0=>true
 | n+1=>p n&&aIQ n p
theorem rW : ∀{n:Nat} {p:Nat->Bool},aIQ n p=true->∀i,i < n->p i=true
 | 0,p,_,i,h=>by omega
 | n+1,p,h,i,hi=>by
  simp only[aIQ,bp] at h;rcases lp.1 hi with h' | h'
  ·exact rW h.2 i h'
  ·subst h';exact h.1
def dAt(ms:List MI)(i:Nat):Option Nat:=match ms[i]? with | some x=>x.d | none=>none
def dEq : Option Nat->Option Nat->Bool
 | some a,some b=>cd a b
 | none,none=>true
 | _,_=>false
def aE3 : Option Nat->Nat->Bool
 | some a,k=>cd a k
 | none,_=>false
def aLA : Option Nat->Option Nat->Bool
 | some a,some b=>cd a b
 | _,_=>false
def aHw(ms:List MI):Env->Bool
 | []=>true
 | (_,e) :: r=>(match e with | some (some _,_)=>false | _=>true)&&aHw ms r
def aNU(ms:List MI)(i:Nat):List Nat:=match ms[i]? with | some x=>x.keys | none=>[]
def aUm(C:List (List Nat))(ms:List MI)(N:Nat):Bool:=
 aIQ N λi=>(aNU ms i).all λk=>aIQ N λj=>match aE3 (dAt ms j) k with
  | true=>(inC C i j&&Nat.blt j i)||(inC C j i||cd i j)
  | false=>true
abbrev CS:=List (Nat×List Box)
def aB4(C:List (List Nat))(ms:List MI)(B:Env)(i k:Nat):Nat->Option EV
 | 0=>cD B k
 | j+1=>match ms[j]? with
  | some x=>match aE3 x.d k&&inC C i j with
   | true=>match x.e with | some v=>some (none,v) | none=>none
   | false=>aB4 C ms B i k j
  | none=>aB4 C ms B i k j
def qK(C:List (List Nat))(ms:List MI)(B:Env)(i:Nat):Env:=
 match ms[i]? with
 | some x=>x.keys.map λk=>(k,aB4 C ms B i k i)
 | none=>[]
theorem aLc{f:Nat->Option EV}:∀{l:List Nat} {i:Nat} {e:EV},cD (l.map λk=>(k,f k)) i=some e->f i=some e
 | [],i,e,h=>by simp[cD] at h
 | k :: l,i,e,h=>by
  simp only[kn,cD] at h;cases hb:cd k i with
  | true=>rw[hb] at h;rw[<- aj hb];exact h
  | false=>rw[hb] at h;exact aLc h
def uc(listed:Array Bool):Nat->Nat
 | 0=>0
 | k+1=>uc listed k+(match listed.getD k false with | true=>0 | false=>1)
theorem aAt{α:Type}{l:Array α}{i j:Nat}{x:α}(d:α)(h:i≠j):(l.setIfInBounds i x).getD j d=l.getD j d:=by
 rw[Array.getD_eq_getD_getElem?,Array.getD_eq_getD_getElem?,Array.getElem?_setIfInBounds_ne h]
theorem aUT{listed:Array Bool}{i:Nat}(hi:i < listed.size):∀k,k<=i->uc (listed.setIfInBounds i true) k=uc listed k
 | 0,_=>rfl
 | k+1,h=>by
  unfold uc;rw[aUT hi k (by omega),aAt false (show i≠k by omega)]
theorem aQY{listed:Array Bool}{i:Nat}(hi:i < listed.size)(hu:listed.getD i false=false):∀k,i < k->uc (listed.setIfInBounds i true) k+1=uc listed k
 | 0,h=>by omega
 | k+1,h=>by
  unfold uc;by_cases e:i=k
  ·subst e;rw[aUT hi i (Nat.le_refl _),hu]
   simp[hi]
  ·rw[aAt false e]
   have:=aQY hi hu k (by omega)
   omega
theorem aPV{listed:Array Bool}:∀k,uc listed k=0->∀i,i < k->listed.getD i false=true
 | 0,_,i,h=>by omega
 | k+1,h,i,hi=>by
  unfold uc at h;rcases lp.1 hi with h' | h'
  ·exact aPV k (by omega) i h'
  ·subst h';cases hc:listed.getD i false with
   | true=>rfl
   | false=>rw[hc] at h;dsimp only at h;omega
variable {ops:Array Oper}
def MI.put(x:MI)(env:Env):Env:=match x.d with | some d=>(match x.e with | some v=>env.set d (none,v) | none=>env.del d) | none=>env
theorem aAq{d k:Nat}{v:AV}{env:Env}(h:cD env k=some (none,v)):cD (aDE d env) k=some (none,v):=by
 unfold aDE;split
 ·have key:∀(env:Env),cD env k=some (none,v)->cD (aD3 d env) k=some (none,v):=by
   intro env
   induction env with
   | nil=>intro h;simp[cD] at h
   | cons p r ih=>
    obtain⟨j,e0⟩:=p;intro h;unfold cD at h;unfold aD3 cD;cases hb:cd j k with
    | false=>rw[hb] at h;exact ih h
    | true=>
     rw[hb] at h;dsimp only at h ⊢;subst h;rfl
  exact key env h
 ·exact h
theorem sY{a b:Nat}(h:a≠b):cd a b=false:=by
 cases hb:cd a b with
 | false=>rfl
 | true=>exact absurd (aj hb) h
theorem aPs(a b:Nat):cd a b=cd b a:=by
 by_cases h:a=b
 ·subst h;rfl
 ·rw[sY h,sY (Ne.symm h)]
theorem aGv{x:MI}{env:Env}{k:Nat}{v:AV}(hne:aE3 x.d k=false)(h:cD env k=some (none,v)):cD (x.put env) k=some (none,v):=by
 unfold MI.put;cases hx:x.d with
 | none=>exact h
 | some d=>
  rw[hx] at hne;have hb:cd d k=false:=hne;cases x.e with
  | some w=>simp only;unfold Env.set cD;rw[hb];exact aAq h
  | none=>simp only;unfold Env.del cD;rw[hb];exact aAq h
theorem aLd{x:MI}{env:Env}{d:Nat}{v:AV}(hd:x.d=some d)(he:x.e=some v):cD (x.put env) d=some (none,v):=by
 unfold MI.put;rw[hd,he]
 simp only;unfold Env.set cD;simp
theorem aLh{C:List (List Nat)}(hC:C=aPj ops){t i:Nat}(h:inC C t i=true):i∈clo ops t (dir ops t):=by
 subst hC;unfold inC aPj at h;rw[List.getElem?_map] at h;obtain⟨q,hq,e⟩:=nz.1 h;have e:=aj e;subst e;cases hr:(ce ops.size)[t]? with
 | none=>rw[hr] at hq;simp at hq
 | some t'=>
  rw[hr] at hq;have ht:t'=t:=by
   have h1:=bA hr;rw[List.length_range] at h1;rw[List.getElem?_range h1] at hr;exact(Option.some.inj hr).symm
  subst ht;simpa using hq
theorem aNW{C:List (List Nat)}{ms:List MI}{B env:Env}{i k:Nat}{e:EV}{on:Nat->Prop}(hcl:∀s,inC C i s=true->on s)(hB:∀v,cD B k=some (none,v)->(∀(j:Nat) x,ms[j]? = some x->on j->aE3 x.d k=false)->cD env k=some (none,v))(hBf:∀i e,cD B i=some e->e.1=none)
  (hE:∀(j:Nat) x d v,ms[j]? = some x->on j->x.d=some d->x.e=some v->cD env d=some (none,v)) (hkey:∀(j:Nat) x,ms[j]? = some x->on j->aE3 x.d k=true->inC C i j=true) :
  ∀(m:Nat),(∀(j:Nat) x,m<=j->ms[j]? = some x->on j->aE3 x.d k=false)->aB4 C ms B i k m=some e->cD env k=some e
 | 0,hup,h=>by
  have h1:=hBf k e h;obtain⟨g,v⟩:=e;simp only at h1;subst h1;exact hB v h λj x hx hon=>hup j x (Nat.zero_le _) hx hon
 | m+1,hup,h=>by
  unfold aB4 at h;split at h
  ·rename_i x hx;split at h
   ·rename_i hb;simp only[bp] at hb;split at h <;> cases h;rename_i v hv;cases hd:x.d with
    | none=>rw[hd] at hb;cases hb.1
    | some d=>
     rw[hd] at hb;have e1:=aj hb.1;rw[<- e1]
     exact hE m x d v hx (hcl _ hb.2) hd hv
   ·rename_i hb;refine aNW hcl hB hBf hE hkey m (λj y hj hy hon=>?_) h;rcases np hj with e1 | e1
    ·subst e1;rw[hx] at hy;cases hy;cases hc:aE3 x.d k with
     | false=>rfl
     | true=>rw[hc,hkey m x hx hon hc] at hb;simp at hb
    ·exact hup j y e1 hy hon
  ·rename_i hx;refine aNW hcl hB hBf hE hkey m (λj y hj hy hon=>?_) h;rcases np hj with e1 | e1
   ·subst e1;rw[hx] at hy;cases hy
   ·exact hup j y e1 hy hon
theorem aF0{listed:Array Bool}{i j:Nat}(hi:i < listed.size):uL (listed.setIfInBounds i true) j↔(j=i\/uL listed j):=by
 unfold uL;by_cases h:j=i
 ·subst h;simp[hi]
 ·rw[aAt false (Ne.symm h)];simp[h]
theorem aI5{listed:Array Bool}{i:Nat}(h:i∈Region.ready .any ops listed):listed.getD i true=false/\i < ops.size/\∀j∈dir ops i,uL listed j:=by
 obtain⟨h0,o,ho,hall⟩:=mem_ready.1 h;refine⟨h0,(Array.getElem?_eq_some_iff.1 ho).1,λj hj=>?_⟩
 unfold dir at hj;rw[ho] at hj;obtain⟨e,he,e2⟩:=fa.1 hj;rw[oi] at he;subst e2;exact hall e (by simpa using he.1) he.2
theorem aQ4{listed:Array Bool}{i:Nat}(hs:listed.size=ops.size)(hi:i < ops.size)(hu:¬uL listed i)(h:∀j∈dir ops i,uL listed j):i∈Region.ready .any ops listed:=by
 rw[mem_ready]
 have ho:ops[i]? = some ops[i]:=Array.getElem?_eq_getElem hi;refine⟨?_,ops[i],ho,λe he hb=>?_⟩
 ·unfold uL at hu;have hl:i < listed.size:=by omega
  simp[hl] at hu ⊢;exact hu
 ·refine h e.on ?_;unfold dir;rw[ho]
  exact fa.2 ⟨e,oi.2 ⟨by simpa using he,hb⟩,rfl⟩
theorem aQd{listed:Array Bool}{i:Nat}(h:listed.getD i true=false):¬uL listed i:=by
 unfold uL;have:i < listed.size:=by
  rcases Nat.lt_or_ge i listed.size with h' | h'
  ·exact h'
  ·simp[Array.getElem?_eq_none h'] at h
 simp[this] at h ⊢;exact h
theorem aNA{listed:Array Bool}(hs:listed.size=ops.size)(hedge:aIQ ops.size (λi=>(dir ops i).all λj=>Nat.blt j i)=true):∀(k:Nat),k < ops.size->¬uL listed k->∃i,i∈Region.ready .any ops listed:=by
 intro k
 induction k using Nat.strongRecOn with
 | _ k ih=>
  intro hk hu;by_cases h:∃j∈dir ops k,¬uL listed j
  ·obtain⟨j,hj,hju⟩:=h;have:=fm.1 (rW hedge k hk) j hj;have h':Nat.ble (j+1) k=true:=this;have:=dh h';exact ih j (by omega) (by omega) hju
  ·exact⟨k,aQ4 hs hk hu λj hj=>Classical.byContradiction λhn=>h ⟨j,hj,hn⟩⟩
theorem aT0{F:Fence}{m:Nat}{Q:Exit->Act->World->Prop}{i:Nat}{o:Oper}{K:Act->World->Prop}{a:Act}{w:World}(ho:ops[i]? = some o) :
  wpOpIn F m P ops Q i K a w=(if Region.wanted o (yielded ops a.tmps) then o.wpIn F m P a w K Q else(∀f,o.about P w a.eval=some f->F.fn f)/\K (a.put o.dst undef) w):=by
 unfold wpOpIn;rw[ho]
theorem aCU{ms:List MI}:∀{B:Env} {k:Nat} {e:EV},aHw ms B=true->cD B k=some e->e.1=none
 | [],k,e,_,h=>by simp[cD] at h
 | (j,e0) :: r,k,e,hb,h=>by
  simp only[aHw,bp] at hb;unfold cD at h;cases hj:cd j k with
  | false=>rw[hj] at h;exact aCU hb.2 h
  | true=>
   rw[hj] at h;dsimp only at h;subst h;obtain⟨g,v⟩:=e;cases g with
   | none=>rfl
   | some g=>simp at hb
theorem aNC{C:List (List Nat)}{ms:List MI}{N i j:Nat}{x y:MI}{k:Nat}(h:aUm C ms N=true)(hi:i < N)(hj:j < N)(hx:ms[i]? = some x)(hy:ms[j]? = some y)(hk:k∈x.keys)(hd:aE3 y.d k=true) :
  (inC C i j=true/\j < i)\/inC C j i=true\/i=j:=by
 have h1:=rW h i hi;have hk':k∈aNU ms i:=by unfold aNU;rw[hx];exact hk
 have h2:=rW (fm.1 h1 k hk') j hj;have hdj:dAt ms j=y.d:=by unfold dAt;rw[hy]
 rw[hdj,hd] at h2;simp only[Bool.or_eq_true,bp] at h2;rcases h2 with ⟨h3,h4⟩ | h3 | h3
 ·have h4':Nat.ble (j+1) i=true:=h4;exact .inl ⟨h3,by have:=dh h4';omega⟩
 ·exact .inr (.inl h3)
 ·exact .inr (.inr (aj h3))
theorem aEz{f:Nat->Option EV}:∀{l:List Nat} {i:Nat} {e:EV},cD (l.map λk=>(k,f k)) i=some e->i∈l
 | [],i,e,h=>by simp[cD] at h
 | k :: l,i,e,h=>by
  simp only[kn,cD] at h;cases hb:cd k i with
  | true=>rw[<- aj hb];simp
  | false=>rw[hb] at h;exact List.mem_cons_of_mem _ (aEz h)
def aGO(ms:List MI)(B:Env):Env:=(ms.filterMap λx=>match x.d with | some d=>some (d,match x.e with | some v=>some (none,v) | none=>none) | none=>none)++B
theorem aIl{B env:Env}(hBf:∀i e,cD B i=some e->e.1=none){i:Nat}:∀{l:List MI},(∀v,cD B i=some (none,v)->(∀x∈l,aE3 x.d i=false)->cD env i=some (none,v))->(∀x∈l,∀d v,x.d=some d->x.e=some v->cD env d=some (none,v))->∀e,cD (aGO l B) i=some e->cD env i=some e
 | [],hB,_=>λe h=>by
  have h:cD B i=some e:=by simpa[aGO] using h
  have h1:=hBf i e h;obtain⟨g,v⟩:=e;simp only at h1;subst h1;exact hB v h (λx hx=>by cases hx)
 | x :: l,hB,hE=>by
  intro e h;have hE':∀y∈l,∀d v,y.d=some d->y.e=some v->cD env d=some (none,v):=λy hy=>hE y (by simp[hy])
  unfold aGO at h;cases hd:x.d with
  | none=>
   rw[n8,hd] at h;refine aIl hBf (l:=l) (λv hv hl=>hB v hv λy hy=>?_) hE' e h;rcases d9.1 hy with e1 | e1
   ·subst e1;rw[hd];rfl
   ·exact hl y e1
  | some d=>
   rw[n8,hd] at h;simp only[List.cons_append,cD] at h;cases hb:cd d i with
   | true=>
    rw[hb] at h;dsimp only at h;cases he:x.e with
    | none=>rw[he] at h;cases h
    | some v=>
     rw[he] at h;cases h;rw[<- aj hb]
     exact hE x (by simp) d v hd he
   | false=>
    rw[hb] at h;refine aIl hBf (l:=l) (λv hv hl=>hB v hv λy hy=>?_) hE' e h;rcases d9.1 hy with e1 | e1
    ·subst e1;rw[hd];exact hb
    ·exact hl y e1
end
end Go.UK

namespace Go.UK
open Go
set_option linter.all false
variable [bU]
def zJ(l:List Oper)(i:Nat):Oper:=(l[i]?).getD default
def aIw(l:List Oper)(o:Oper)(need:Env):Bool:=
 match o.guard with
 | none=>false
 | some (j,want)=>match (zJ l j).dst with
  | some dj=>match get need dj with
   | some (.v (.bool b))=>match aKG b want with | true=>false | false=>true
   | some (.tup [])=>true
   | _=>false
  | none=>false
def aK2(l:List Oper)(o:Oper):List Nat:=
 (match o.guard with
  | some (j,_)=>match (zJ l j).dst with | some d=>[d] | none=>[]
  | none=>[])++o.op.operands.toList.filterMap λx=>match x with | .tmp t=>some t | _=>none
def imOf(im:Nat->Bool)(o:Oper):Bool:=match o.dst with | some d=>im d | none=>false
abbrev O1:=List (Nat×AV)
def eAt(ms:List MI)(i:Nat):Option AV:=match ms[i]? with | some x=>x.e | none=>none
def aBt{α:Type}:Option α->Bool
 | none=>true
 | some _=>false
def aKm{α:Type}:Option α->Bool
 | none=>false
 | some _=>true
def aKp : Option AV->Bool
 | some (.tup [])=>true
 | _=>false
theorem aLC{x:Option AV}(h:aKp x=true):x=some (.tup []):=by
 unfold aKp at h;split at h
 ·rfl
 ·cases h
section
variable {P:Program} {T:TypeId→Option TI} {n:Fr}
theorem aSh{ops:Array Oper}{o:Oper}{need env:Env}{H H':List Box}{x:AV}(hs:Sub need env)(hg:gOK ops o need=true)(b:Big P n o need H x H'):opS P n ops o ⟨env,H⟩ ⟨env.put o.dst (none,x),H'⟩:=by
 refine aKb ?_ (b env hs)
 unfold gOK at hg ⊢;split at hg
 ·rfl
 ·rename_i j want hgd;split at hg
  ·cases hg
  ·rename_i dj hdj;split at hg
   ·rename_i b' hb';have:get env dj=some (.v (.bool b')):=by
     have:=hs dj _ (aIY hb')
     unfold get;rw[this]
    rw[this]
    exact hg
   ·cases hg
theorem aRO{l:List Oper}{i:Nat}{o:Oper}(ho:l.toArray[i]? = some o){need env:Env}{H:List Box}(hs:Sub need env)(h:aIw l o need=true)(hd:dOK n.n o.dst=true):opS P n l.toArray o ⟨env,H⟩ ⟨match o.dst with | some d=>env.set d (none,.tup []) | none=>env,H⟩:=by
 have hw:∀ctx a w,Sat n ctx ⟨env,H⟩ a w->Region.wanted o (yielded l.toArray a.tmps)=false:=by
  intro ctx a w hsat;obtain⟨bs,hm⟩:=hsat;have hE:=aA0 hs hm.env;unfold aIw at h;split at h
  ·cases h
  ·rename_i j want hg;split at h
   ·rename_i dj hdj;have hfl:aBy l.toArray j=some dj:=by
     unfold aBy;unfold zJ at hdj;cases hj:l[j]? with
     | none=>rw[hj] at hdj;exact absurd (show(none:Option Tmp)=some dj from hdj) (by simp)
     | some oj=>rw[hj] at hdj;simpa[hj] using hdj
    split at h
    ·rename_i b hb;split at h
     ·cases h
     ·rename_i hsb;exact aHo hg hfl hb hsb hE
    ·rename_i hb;exact aGa hg hfl hb hE
    ·cases h
   ·cases h
 refine aCF ?_ hw;unfold aMS;cases hdst:o.dst with
 | none=>rfl
 | some d=>
  rw[hdst] at hd;simp only[dOK] at hd;split at hd
  ·cases hd
  ·rename_i hn;simp only[hn]
end
end Go.UK

open Bool renaming and_eq_true→bp
open Nat renaming beq→cd,eq_of_beq_eq_true→aj,le_of_ble_eq_true→dh
open Go.Sem renaming run_bind→bj,run_pure→cv
namespace Go.UK
open Go
set_option linter.all false
variable [bU]
section
variable {P:Program} {T:TypeId→Option TI} {n:Fr}
theorem tn_n{K:ASt->Prop}{Q:Exit->ASt->Prop}{st:ASt}(h:K st):tn K Q .normal st:=h
theorem tn_x{K:ASt->Prop}{Q:Exit->ASt->Prop}{id:Nat}{st:ASt}(h:Q (.exit id) st):tn K Q (.exit id) st:=h
theorem aSV{id:Nat}{Q:Exit->ASt->Prop}{st:ASt}(h:Q .normal st):inB id Q (.exit id) st:=by simp only[inB,if_true];exact h
theorem inB_x{id id':Nat}{Q:Exit->ASt->Prop}{st:ASt}(hne:cd id' id=false)(h:Q (.exit id') st):inB id Q (.exit id') st:=by
 simp only[inB]
 rw[if_neg (by intro e;subst e;simp at hne)]
 exact h
theorem wR{α β:Type}{x:Option α}{f:α->Option β}{r:β}(h:x.bind f=some r):∃y,x=some y/\f y=some r:=by
 cases x with
 | none=>cases h
 | some y=>exact⟨y,rfl,h⟩
theorem aPX{α:Type}{b:Bool}{px py:Option α}{r:α}(d:Nat){ops:Array Oper}{l:List Oper}{K:ASt->Prop}{st:ASt}(h:cond b px py=some r)(hb:get st.env d=some (.v (.bool b)))
  (h1:px=some r->awl P n ops l K (aPn d true st)) (h2:py=some r->awl P n ops l K (aPn d false st)):awl P n ops l K st:=by
 cases b with
 | true=>exact aOd d true rfl hb (h1 h)
 | false=>exact aOd d false rfl hb (h2 h)
def aSL : List AV->AV
 | [x]=>x
 | l => .tup l
def aBW(k:Nat):List AV->Env
 | []=>[]
 | x :: r=>(k,some (none,x)) :: aBW (k+1) r
theorem aI2{μ:Mem}{tmps:Array Value}:∀(xs:List AV) (vs:List Value) (k:Nat),RvL μ xs vs->(∀(i:Nat) v,vs[i]? = some v->tmps[k+i]? = some v)->hU μ (aBW k xs) tmps
 | [],_,_,_,_=>by intro i e h;simp[aBW,cD] at h
 | x :: xs,vs,k,hr,ht=>by
  obtain⟨v,r,e,h1,h2⟩:=hr;subst e;intro i e h;unfold aBW cD at h;cases hb:cd k i with
  | true=>
   rw[hb] at h;cases h;have:=aj hb;subst this;refine⟨v,by simpa using ht 0 v rfl,?_⟩
   show Rv μ x v;cases x with
   | tup vs=>simp[Rv0,AV.isAgg,Rc] at h1
   | _=>exact h1
  | false=>
   rw[hb] at h;exact aI2 xs r (k+1) h2 (λi v hv=>by have:=ht (i+1) v (by simpa using hv);rw[show k+1+i=k+(i+1) by omega];exact this) i e h
def aOl(T:TypeId->Option TI)(env:Env)(H:List Box):ResultVar->Option AV
 | .tmp t=>match get env t with
  | some x=>match kY x with | true=>some x | false=>none
  | none=>none
 | .cell a ty=>match get env a,T ty with
  | some q,some i=>match aIT H q with
   | some x=>match cd x.n i.size&&(x.isAgg==i.kind.agg)&&kY x with | true=>some x | false=>none
   | none=>none
  | _,_=>none
def aD9(T:TypeId->Option TI)(env:Env)(H:List Box):List ResultVar->Option (List AV)
 | []=>some []
 | r :: rs=>match aOl T env H r,aD9 T env H rs with
  | some x,some l=>some (x :: l)
  | _,_=>none
theorem aAW{μ:Mem}{x:AV}{y:Value}(h:Rv μ x y)(hn:kY x=true):Rv0 μ x y:=by
 cases x <;> first | exact h | simp[kY] at hn
theorem aIO{μ:Mem}{x:AV}{y:Value}(h:Rv0 μ x y):Rv μ x y:=by
 cases x <;> first | exact h | (simp[Rv0,AV.isAgg,Rc] at h)
theorem aNc(hT:TOK P T){μ:Mem}{env:Env}{tmps:Array Value}(ok:μ.OK)(he:hU μ env tmps){r:ResultVar}{x:AV}(h:aOl T env μ.H r=some x) :
  ∃y,(match r with | .tmp t=>(pure (tmps.getD t undef):Sem Value) | .cell a t=>do loadVar t (<- asAddr (tmps.getD a undef))).run P μ.w = .ok y μ.w/\Rv0 μ x y:=by
 cases r with
 | tmp t=>
  simp only[aOl] at h;split at h <;> try cases h
  rename_i x' hx;split at h <;> cases h;rename_i hn;obtain⟨y,h1,h2⟩:=he.get hx;exact⟨y,by simp only[aAC h1,cv],aAW h2 hn⟩
 | cell a ty=>
  simp only[aOl] at h;split at h <;> try cases h
  rename_i q i hq hi;split at h <;> try cases h
  rename_i x' hx;split at h <;> cases h;rename_i hb;simp only[bp,beq_iff_eq] at hb;obtain⟨y,h1,h2⟩:=he.get hq;obtain⟨b,off,zs,h3,h4,h5⟩:=aIu ok hx h2;obtain⟨v,h6,h7⟩:=aA3 hT hi h4 hb.1.2 (aj hb.1.1) h5;refine⟨v,?_,aAW h7 hb.2⟩
  simp only[aAC h1,h3,asAddr,bj,cv,Result.andThen_ok,h6]
theorem aCl(hT:TOK P T){μ:Mem}{env:Env}{tmps:Array Value}(ok:μ.OK)(he:hU μ env tmps):∀(rs:List ResultVar) (xs:List AV),aD9 T env μ.H rs=some xs ->
  ∃ys,(List.mapM (λ(r:ResultVar)=>match r with | .tmp t=>(pure (tmps.getD t undef):Sem Value) | .cell a t=>do loadVar t (<- asAddr (tmps.getD a undef))) rs).run P μ.w = .ok ys μ.w/\RvL μ xs ys/\ys.length=rs.length
 | [],xs,h=>by
  simp only[aD9,Option.some.injEq] at h;subst h;exact⟨[],by simp,rfl,rfl⟩
 | r :: rs,xs,h=>by
  simp only[aD9] at h;split at h <;> cases h;rename_i x l h1 h2;obtain⟨y,g1,g2⟩:=aNc (P:=P) hT ok he h1;obtain⟨ys,g3,g4,g5⟩:=aCl hT ok he rs l h2;refine⟨y :: ys,?_,⟨y,ys,rfl,g2,g4⟩,by simp[g5]⟩
  simp only[List.mapM_cons,bj,g1,Result.andThen_ok,g3,cv]
def aM1(lo:Nat)(H H':List Box)(ret:AV):Bool:=
 vL lo H H'&&(Nat.ble H'.length H.length&&(oS H' H'&&low H' ret))
def aNP(T:TypeId->Option TI)(rs:List ResultVar)(st:ASt)(ret:AV)(H':List Box):Option (AV×List Box):=
 match aD9 T st.env st.H rs with
 | some xs=>some (wk (aSL xs) ret,yB st.H H')
 | none=>none
def aFc(T:TypeId->Option TI)(lo:Nat)(rs:List ResultVar)(ret:AV)(H':List Box)(e:Exit)(st:ASt):Prop:=
 (e = .ret\/e = .normal)/\aM1 lo st.H H' ret=true/\aNP T rs st ret H'=some (ret,H')
theorem fin_r{lo:Nat}{rs:List ResultVar}{ret:AV}{H':List Box}{st:ASt}(h:(aM1 lo st.H H' ret,aNP T rs st ret H')=(true,some (ret,H')):=by kernel_rfl):aFc T lo rs ret H' .ret st:=by
 simp only[Prod.mk.injEq] at h;exact⟨.inl rfl,h.1,h.2⟩
theorem fin_n{lo:Nat}{rs:List ResultVar}{ret:AV}{H':List Box}{st:ASt}(h:(aM1 lo st.H H' ret,aNP T rs st ret H')=(true,some (ret,H'))):aFc T lo rs ret H' .normal st:=by
 simp only[Prod.mk.injEq] at h;exact⟨.inr rfl,h.1,h.2⟩
theorem aQN(hT:TOK P T){f:FuncId}{fn:Func}{c:Code}{rs:List ResultVar}{args:List AV}{ret:AV}{H H':List Box}{lo m:Nat}(hf:P.funcs[f]? = some fn)(hb:fn.body=some c)
  (hk:(cd fn.ntmps m&&(Nat.ble args.length m&&cd lo H.length))=true)
  (hres:fn.results=rs.toArray) (h:aw P (Fr.f m lo) c (aFc T lo rs ret H') ⟨aBW 0 args,H⟩):FnM P f H args ret H':=by
 intro w F bs vs ok hr;simp only[bp] at hk;obtain⟨k1,k2,k3⟩:=hk;have hn:=aj k1;have hargs:=dh k2;have hlo:=aj k3;refine(callsIn_wide (n:=0)).1 (callsIn_of_wp hf hb trivial ?_)
 have lens:∀(μ:Mem) (xs:List AV) (vs:List Value),RvL μ xs vs->vs.length=xs.length:=by
  intro μ xs
  induction xs with
  | nil=>intro vs h;have:vs=[]:=h;subst this;rfl
  | cons x xs ih=>rintro vs ⟨v,r,e,_,h2⟩;subst e;simp[ih r h2]
 have hlen:=lens _ _ _ hr;have hsat:Sat (Fr.f m lo) ⟨H,bs,w,F⟩ ⟨aBW 0 args,H⟩ { tmps:=vs.toArray++Array.replicate (fn.ntmps - vs.toArray.size) undef,defers:=[] } w:=by
  refine⟨bs,{ h:=rfl,ok:=ok,ext:=Ext.refl _,env:=aI2 args vs 0 hr ?_,size := ?_,low:=Nat.le_of_eq hlo.symm,defers:=trivial,nod:=λ_=>rfl,outs:=λp hp=>by cases hp }⟩
  ·intro i v hv;have:=bA hv;rw[Nat.zero_add,Array.getElem?_append_left (by simpa using this)]
   simpa using hv
  ·simp;omega
 have hwide:(Fr.f m lo).F=Fence.wide:=Fr.wide rfl;have hh:=h ⟨H,bs,w,F⟩ _ _ hsat;rw[hwide] at hh;refine wpIn_mono hh ?_;rintro e a' w' ⟨st',⟨he,h1,h2⟩,bs',hm⟩
 dsimp only at hm;unfold aNP at h2;cases hxs:aD9 T st'.env st'.H rs with
 | none=>rw[hxs] at h2;cases h2
 | some xs=>
 rw[hxs] at h2;simp only[Option.some.injEq,Prod.mk.injEq] at h2;simp only[aM1,bp] at h1;obtain⟨b1,b2,b3,b4⟩:=h1;obtain⟨ys,hys,hrl,hyl⟩:=aCl (P:=P) (μ:=⟨st'.H,bs',w',F⟩) hT hm.ok hm.env rs xs hxs;have hxl:=lens _ _ _ hrl;obtain⟨v,hres',hrv⟩:∃v,(results fn a'.tmps).run P w' = .ok v w'/\Rv ⟨st'.H,bs',w',F⟩ (aSL xs) v:=by
  have h0:(results fn a'.tmps).run P w'=Sem.run P (pure (if h:ys.toArray.size=1 then ys.toArray[0] else Value.tuple ys.toArray)) w':=by
   simp only[results,hres,bj,Array.mapM_eq_mapM_toList,Sem.run_map]
   exact(congrArg (λr:Result (List Value)=>(r.andThen λa w'=>Result.ok a.toArray w').andThen λa w'=>Sem.run P (pure (if h:a.size=1 then a[0] else Value.tuple a)) w') hys)
  match xs,ys,hrl,hxl,h0 with
  | [],ys,hrl,hxl,h0=>
   have:ys=[]:=hrl;subst this;exact⟨_,h0,#[],rfl,rfl⟩
  | [x],ys,hrl,hxl,h0=>
   obtain⟨y,r,e,g1,g2⟩:=hrl;have:r=[]:=g2;subst this e;exact⟨y,h0,aIO g1⟩
  | x :: x' :: xr,ys,hrl,hxl,h0=>
   have:¬ys.toArray.size=1:=by simp at hxl ⊢;omega
   rw[dif_neg this] at h0;exact⟨_,h0,_,rfl,by simpa using hrl⟩
 obtain⟨less,ext,ok'⟩:=aOa (ctx:=⟨H,bs,w,F⟩) (lo:=lo) b1 (dh b2) b3 h2.2 hm.ok hm.ext hm.low;have hfin:Rv ⟨H',bs'.take H'.length,w',F⟩ ret v:=by
  have:=aPP (e:=ret) hrv;rw[h2.1] at this;exact yD less b4 (by rw[yA];exact this)
 rcases he with rfl | rfl
 ·exact⟨hm.nod rfl,_,hres',_,_,rfl,ext,ok',hfin⟩
 ·exact⟨hm.nod rfl,_,hres',_,_,rfl,ext,ok',hfin⟩
theorem FnM.later{f:FuncId}{args:List AV}{ret:AV}(C:FnM P f [] args ret [])(w:World)(F:Nat->Nat->Prop)(vs:List Value)(ok:(⟨[],[],w,F⟩:Mem).OK)(hr:RvL ⟨[],[],w,F⟩ args vs) :
  Calls P f vs.toArray w λe w'=>∃y,e = .returned y/\dM w w'/\Rv ⟨[],[],w',F⟩ ret y:=by
 refine(C w F [] vs ok hr).mono ?_;rintro e w' ⟨y,bs',rfl,ext,ok',hy⟩
 have hl:bs'=[]:=List.eq_nil_of_length_eq_zero ok'.len;subst hl;refine⟨y,rfl,⟨ext.size,λb hb=>ext.blocks b hb ?_,ext.os,ext.tape,ext.output⟩,hy⟩
 rintro o ⟨id,h,_⟩
 simp at h
end
end Go.UK

