/- The own layer: abstract values, their memory, and the steps of the model over them: for any program. -/
import Derived.Test.YtbfieohdmihfpaaGreatDoorLib2
open List renaming getElem?_append_left→bx,getElem?_append_right→cf,getElem?_drop→ff,getElem?_eq_getElem→af,getElem?_map→ci,getElem?_of_mem→fh,getElem?_take→cw,getElem_mem→cm,length_append→ai,nodup_cons→mw
open Nat renaming add_sub_cancel_left→go,beq→bp,eq_of_beq_eq_true→ak,le_refl→ca,lt_or_ge→eo
namespace Go.UK
open Go
set_option linter.all false
variable [bL]
def FnM(P:Program)(f:FuncId)(H:List Box)(args:List AV)(ret:AV)(H':List Box):Prop:=
 ∀(w:World) (F:Nat->Nat->Prop) (bs:List (Option Nat)) (vs:List Value),(⟨H,bs,w,F⟩:Mem).OK->RvL ⟨H,bs,w,F⟩ args vs ->
  Calls P f vs.toArray w λe w'=>∃y bs',e = .returned y/\Ext ⟨H,bs,w,F⟩ ⟨H',bs',w',F⟩/\(⟨H',bs',w',F⟩:Mem).OK/\Rv ⟨H',bs',w',F⟩ ret y
def aQm(P:Program)(q:Nat×String×Nat):Bool:=
 match P.info? q.1 with
 | some ti=>match ti.methods.find? (·.name==q.2.1) with
  | some m=>m.path.isEmpty&&(match m.func,P.underlying q.1 with
   | some (g,true),some (.pointer _)=>bp g q.2.2
   | some (_,false),some (.pointer _)=>false
   | some (g,false),some _=>bp g q.2.2
   | _,_=>false)
  | none=>false
 | none=>false
def aMK(P:Program)(q:Nat×String×Nat):Prop:=∀(v:Value) (w:World) (fuel:Nat),(method (fuel+1) q.1 v q.2.1).run P w = .ok (q.2.2,v) w
theorem aMj{P:Program}{q:Nat×String×Nat}(h:aQm P q=true):aMK P q:=by
 intro v w fuel;unfold aQm at h;split at h <;> try cases h
 rename_i ti hti;split at h <;> try cases h
 rename_i m hm;simp only[Bool.and_eq_true] at h;obtain⟨h1,h2⟩:=h;have hp:m.path.toList=[]:=by rw[Array.isEmpty_iff.1 h1]
 have hrun:(typeInfo q.1).run P w = .ok ti w:=by simp[typeInfo,hti]
 split at h2 <;> try cases h2
 ·rename_i g e hf hu;have hg:=ak h2;subst hg;simp[method,hrun,hm,hp,follow,hf,receiverAt,underlying,hu,Place.get]
 ·rename_i g d hne hf hu;have hg:=ak h2;subst hg;have key:∀wr,(receiverAt q.1 (.val v) false wr).run P w = .ok v w:=by
   intro wr;cases d <;> first | (exact absurd rfl (hne _)) | simp[receiverAt,underlying,hu,Place.get]
  simp[method,hrun,hm,hp,follow,hf,key]
def nP(P:Program)(f:FuncId):Prop:=(∃fn,P.funcs[f]? = some fn/\(fn.name == "runtime.NumGoroutine")=false/\fn.body.isNone=false)/\∀q∈bL.ms,aMK P q
def mT{α:Type}(H:List α):List Nat->List α->List α
 | s :: σ,x :: xs=>mT (H.set s x) σ xs
 | _,_=>H
theorem fO{α:Type}:∀(σ:List Nat) (H xs:List α),(mT H σ xs).length=H.length
 | [],H,xs=>by cases xs <;> rfl
 | s :: σ,H,[]=>rfl
 | s :: σ,H,x :: xs=>by unfold mT;rw[fO σ];simp
theorem tY{α:Type}:∀(σ:List Nat) (H xs:List α) (i:Nat),i∉σ->(mT H σ xs)[i]? = H[i]?
 | [],H,xs,i,_=>by cases xs <;> rfl
 | s :: σ,H,[],i,_=>rfl
 | s :: σ,H,x :: xs,i,h=>by
  unfold mT;rw[tY σ _ _ i (λh'=>h (by simp[h']))]
  exact List.getElem?_set_ne (λe=>h (by simp[e]))
theorem vJ{α:Type}:∀(σ:List Nat) (H xs:List α) (j s:Nat) (x:α),σ.Nodup->σ[j]? = some s->xs[j]? = some x->s < H.length->(mT H σ xs)[s]? = some x
 | [],H,xs,j,s,x,_,h,_,_=>by simp at h
 | t :: σ,H,[],j,s,x,_,_,h,_=>by simp at h
 | t :: σ,H,y :: xs,j,s,x,hn,hj,hx,hs=>by
  unfold mT;rw[mw] at hn;cases j with
  | zero=>
   simp only[List.getElem?_cons_zero,Option.some.injEq] at hj hx;subst hj hx;rw[tY σ _ _ t hn.1]
   exact List.getElem?_set_self hs
  | succ j=>
   exact vJ σ _ xs j s x hn.2 (by simpa using hj) (by simpa using hx) (by simpa using hs)
def rn(σ:List Nat)(m i:Nat):Nat:=match σ[i]? with | some j=>j | none=>m+(i - σ.length)
def aE6 : List Nat->Bool
 | []=>true
 | x :: xs => !(xs.any (bp x))&&aE6 xs
theorem zG : ∀{l:List Nat},aE6 l=true->l.Nodup
 | [],_=>List.nodup_nil
 | x :: xs,h=>by
  simp only[aE6,Bool.and_eq_true,Bool.not_eq_true'] at h;refine mw.2 ⟨λhx=>?_,zG h.2⟩
  have:=List.any_eq_false.1 h.1 x hx;simp at this
def cB(H:List Box)(σ:List Nat)(H':List Box):List Box:=
 mT H σ ((H'.take σ.length).map (jS (rn σ H.length)))++(H'.drop σ.length).map (jS (rn σ H.length))
theorem yM(f:Nat->Nat)(x:Box):(jS f x).whole=x.whole:=by cases x <;> rfl
theorem sY{f:Nat->Nat}{x:Box}:jS f x = .dead↔x = .dead:=by cases x <;> simp[jS]
theorem zD{σ:List Nat}{m i s:Nat}(h:σ[i]? = some s):rn σ m i=s:=by unfold rn;rw[h]
theorem aLq{σ:List Nat}{m i:Nat}(h:σ.length<=i):rn σ m i=m+(i - σ.length):=by unfold rn;rw[List.getElem?_eq_none h]
section frame
variable {H:List Box} {bs:List (Option Nat)} {w:World} {F:Nat→Nat→Prop} {σ:List Nat} {Hc:List Box}
def rest(H:List Box)(bs:List (Option Nat))(σ:List Nat)(b o:Nat):Prop:=
 ∃id:Nat,id∉σ/\bs[id]? = some (some b)/\((∃x,H[id]? = some x/\x.whole=true)\/(∃m,H[id]? = some (.tail m)/\m<=o))
def lO(H:List Box)(bs:List (Option Nat))(w:World)(F:Nat->Nat->Prop)(σ:List Nat)(Hc:List Box):Mem:=
 ⟨Hc,σ.map λs=>(bs[s]?).getD none,w,λb o=>F b o\/rest H bs σ b o⟩
structure aIE(H:List Box)(bs:List (Option Nat))(σ:List Nat)(Hc:List Box):Prop where
 nodup:σ.Nodup
 len:Hc.length=σ.length
 box:∀(i:Nat) y,Hc[i]? = some y->∃s,σ[i]? = some s/\H[s]? = some (jS (rn σ H.length) y)
theorem aIE.at(L:aIE H bs σ Hc)(hl:bs.length=H.length){i s:Nat}(h:σ[i]? = some s):s < H.length/\(lO H bs w F σ Hc).bs[i]? = bs[s]? := by
 have hi:=aX h;obtain⟨y,hy⟩:∃y,Hc[i]? = some y:=by
  rw[<- L.len] at hi;exact⟨_,af hi⟩
 obtain⟨s',h1,h2⟩:=L.box i y hy;rw[h] at h1;cases h1;have hs:=aX h2;refine⟨hs,?_⟩
 show(σ.map λs=>(bs[s]?).getD none)[i]? = _;rw[ci,h]
 have:s < bs.length:=by omega
 simp[af this]
theorem aDe(L:aIE H bs σ Hc)(hl:bs.length=H.length){b o:Nat}:(⟨H,bs,w,F⟩:Mem).own b o↔(lO H bs w F σ Hc).own b o\/rest H bs σ b o:=by
 constructor
 ·rintro⟨id,h1,h2⟩
  by_cases hid:id∈σ
  ·left;obtain⟨i,hi⟩:=fh hid;obtain⟨hs,hb⟩:=L.at (w:=w) (F:=F) hl hi;obtain⟨y,hy⟩:∃y,Hc[i]? = some y:=by
    have:=aX hi;rw[<- L.len] at this;exact⟨_,af this⟩
   obtain⟨s',g1,g2⟩:=L.box i y hy;rw[hi] at g1;cases g1;refine⟨i,hb.trans h1,?_⟩
   dsimp only at h2;rcases h2 with ⟨x,h2,h3⟩ | ⟨m,h2,h3⟩
   ·rw[g2] at h2;cases h2;exact .inl ⟨y,hy,by rw[yM] at h3;exact h3⟩
   ·rw[g2] at h2;refine .inr ⟨m,?_,h3⟩
    cases y <;> simp[jS] at h2;subst h2;exact hy
  ·exact .inr ⟨id,hid,h1,h2⟩
 ·rintro(⟨i,h1,h2⟩ | ⟨id,_,h1,h2⟩)
  ·have hi:i < σ.length:=by
    have:=aX h1;simpa[lO] using this
   have hs:=af hi;obtain⟨hlt,hb⟩:=L.at (w:=w) (F:=F) hl hs;rw[hb] at h1;refine⟨_,h1,?_⟩
   obtain⟨y,hy⟩:∃y,Hc[i]? = some y:=⟨_,af (by rw[L.len];exact hi)⟩
   obtain⟨s',g1,g2⟩:=L.box i y hy;rw[hs] at g1;cases g1;rcases h2 with ⟨x,h2,h3⟩ | ⟨m,h2,h3⟩
   ·refine .inl ⟨_,g2,?_⟩
    have:Hc[i]? = some x:=h2;rw[hy] at this;cases this;rw[yM];exact h3
   ·have:Hc[i]? = some (.tail m):=h2;rw[hy] at this;cases this;exact .inr ⟨m,g2,h3⟩
  ·exact⟨id,h1,h2⟩
theorem yC(L:aIE H bs σ Hc)(hl:bs.length=H.length):aBj (rn σ H.length) ⟨H,bs,w,F⟩ (lO H bs w F σ Hc) where
 w:=rfl
 M b o h:=by
  rcases h with (h | h) | h
  ·exact .inl h
  ·exact .inr ((aDe (w:=w) (F:=F) L hl).2 (.inr h))
  ·exact .inr ((aDe (w:=w) (F:=F) L hl).2 (.inl h))
 bs i hi _:=by
  have hi':i < σ.length:=by rw[<- L.len];exact hi
  have hs:=af hi';rw[(L.at (w:=w) (F:=F) hl hs).2,zD hs]
 tail i m h:=by
  obtain⟨s,h1,h2⟩:=L.box i _ h;rw[zD h1]
  exact h2
 gro i k es h:=by
  obtain⟨s,h1,h2⟩:=L.box i _ h;rw[zD h1]
  exact h2
 lt i hi:=by
  have hi':i < σ.length:=by rw[<- L.len];exact hi
  have hs:=af hi';rw[zD hs]
  exact(L.at (w:=w) (F:=F) hl hs).1
theorem aGE(L:aIE H bs σ Hc)(ok:(⟨H,bs,w,F⟩:Mem).OK)(hlow:lF Hc Hc=true):(lO H bs w F σ Hc).OK where
 foreign b o h:=by
  rcases h with h | ⟨id,_,h1,h2⟩
  ·exact ok.foreign b o h
  ·rcases h2 with ⟨x,h2,h3⟩ | ⟨m,h2,_⟩
   ·exact bU ok (b:=b) h1 h2 (Box.whole_live h3)
   ·exact bU ok (b:=b) h1 h2 (by simp)
 clear b o h h':=by
  have hown:=(aDe (w:=w) (F:=F) L ok.len).2 (.inl h)
  rcases h' with h' | ⟨id,hid,h1,h2⟩
  ·exact ok.clear b o hown h'
  ·obtain⟨i,g1,g2⟩:=h;have hi:i < σ.length:=by
    have:=aX g1;simpa[lO] using this
   have hs:=af hi;obtain⟨hlt,hb⟩:=L.at (w:=w) (F:=F) ok.len hs;rw[hb] at g1;obtain⟨y,hy⟩:∃y,Hc[i]? = some y:=⟨_,af (by rw[L.len];exact hi)⟩
   obtain⟨s',k1,k2⟩:=L.box i y hy;rw[hs] at k1;cases k1;have live:jS (rn σ H.length) y ≠ .dead:=by
    intro e;have e:=sY.1 e;subst e;rcases g2 with ⟨x,g2,g3⟩ | ⟨m,g2,_⟩
    ·have:Hc[i]? = some x:=g2;rw[hy] at this;cases this;cases g3
    ·have:Hc[i]? = some (.tail m):=g2;rw[hy] at this;cases this
   have:σ[i]=id:=by
    rcases h2 with ⟨x,h2,h3⟩ | ⟨m,h2,_⟩
    ·exact ok.apart _ _ b _ _ g1 h1 k2 h2 live (Box.whole_live h3)
    ·exact ok.apart _ _ b _ _ g1 h1 k2 h2 live (by simp)
   exact hid (this▸cm hi)
 len:=by simp[lO,L.len]
 glob g hg:=(yC (w:=w) (F:=F) L ok.len).globAt (ok.glob g hg)
 box i o y ho hy:=by
  obtain⟨s,h1,h2⟩:=L.box i y hy;obtain⟨hlt,hb⟩:=L.at (w:=w) (F:=F) ok.len h1;have less:=yC (w:=w) (F:=F) L ok.len;rw[hb] at ho;have hok:=ok.box s o _ ho h2;cases y with
  | dead=>trivial
  | var c=>
   obtain⟨b,ys,T,g1,g2,g3⟩:=hok;exact⟨b,ys,T,g1,g2,Rc.less less _ _ (vM hlow hy) g3⟩
  | tail m=>exact hok
  | mp c0=>
   cases c0 with
   | kv kvs=>
    obtain⟨b,es,k,g1,g2,g3⟩:=hok;exact⟨b,es,k,g1,g2,g3.mono less.keeps⟩
   | it _ _=>exact hok
   | mi m=>
    obtain⟨b,c,t,g1,g2,g3⟩:=hok;exact⟨b,c,t,g1,g2,Rc.less less (.mp m) _ (aBp hlow hy) g3⟩
   | bl t e0 id s=>
    obtain⟨b,p,v,g1,g2,gp,g3⟩:=hok;exact⟨b,p,v,g1,g2,gp,Rc.less less (.gro id 1 s.size .all) _ (wB hlow hy) g3.1,less.typd (lowG (wB (k:=0) (n:=0) (g := .all) hlow hy)) g3.2⟩
  | loop r=>exact hok
  | gro k es=>
   obtain⟨g0,g1 | ⟨b,ys,U,g1,g2,y1,y2,g3,g4⟩⟩:=hok
   ·exact⟨g0,.inl g1⟩
   ·exact⟨g0,.inr ⟨b,ys,U,g1,g2,y1,y2,g3,RdL.mono less.keeps _ _ g4⟩⟩
 apart i j b x y hi hj hx hy hxd hyd:=by
  obtain⟨s,h1,h2⟩:=L.box i x hx;obtain⟨t,h3,h4⟩:=L.box j y hy;rw[(L.at (w:=w) (F:=F) ok.len h1).2] at hi;rw[(L.at (w:=w) (F:=F) ok.len h3).2] at hj;have e:=ok.apart s t b _ _ hi hj h2 h4 (λe=>hxd (sY.1 e)) (λe=>hyd (sY.1 e))
  subst e;have hij:=(List.getElem?_inj (aX h1) L.nodup).1 (h1.trans h3.symm)
  exact hij
def uR(bs:List (Option Nat))(σ:List Nat)(bc:List (Option Nat)):List (Option Nat):=mT bs σ (bc.take σ.length)++bc.drop σ.length
theorem nB{id:Nat}{Hc':List Box}(hid:id∉σ)(hlt:id < H.length):(cB H σ Hc')[id]? = H[id]? := by
 unfold cB;rw[bx (by rw[fO];exact hlt),tY _ _ _ _ hid]
theorem mD{id:Nat}{bc:List (Option Nat)}(hid:id∉σ)(hlt:id < bs.length):(uR bs σ bc)[id]? = bs[id]? := by
 unfold uR;rw[bx (by rw[fO];exact hlt),tY _ _ _ _ hid]
theorem oS{Hc':List Box}(hn:σ.Nodup)(hs:∀s∈σ,s < H.length)(hlen:σ.length<=Hc'.length){i:Nat}{y:Box}(hy:Hc'[i]? = some y):(cB H σ Hc')[rn σ H.length i]? = some (jS (rn σ H.length) y):=by
 unfold cB;rcases eo i σ.length with hi | hi
 ·have h1:=af hi;rw[zD h1]
  have hlt:=hs _ (cm hi)
  rw[bx (by rw[fO];exact hlt)]
  refine vJ σ H _ i _ _ hn h1 ?_ hlt;rw[ci,cw,if_pos hi,hy]
  rfl
 ·rw[aLq hi,cf (by rw[fO];omega),fO,go,ci,ff,show σ.length+(i - σ.length)=i by omega,hy]
  rfl
theorem aAb{bc:List (Option Nat)}(hn:σ.Nodup)(hs:∀s∈σ,s < bs.length){i:Nat}{y:Option Nat}(hy:bc[i]? = some y):(uR bs σ bc)[rn σ bs.length i]? = some y:=by
 unfold uR;rcases eo i σ.length with hi | hi
 ·have h1:=af hi;rw[zD h1]
  have hlt:=hs _ (cm hi)
  rw[bx (by rw[fO];exact hlt)]
  refine vJ σ bs _ i _ _ hn h1 ?_ hlt;rw[cw,if_pos hi,hy]
 ·rw[aLq hi,cf (by rw[fO];omega),fO,go,ff,show σ.length+(i - σ.length)=i by omega,hy]
theorem xS{Hc':List Box}(hn:σ.Nodup)(hs:∀s∈σ,s < H.length)(hlen:σ.length<=Hc'.length){id:Nat}{x:Box}(h:(cB H σ Hc')[id]? = some x) :
  (id∉σ/\H[id]? = some x)\/∃i y,Hc'[i]? = some y/\id=rn σ H.length i/\x=jS (rn σ H.length) y:=by
 by_cases hid:id∈σ
 ·right;obtain⟨i,hi⟩:=fh hid;have hlt:=aX hi;obtain⟨y,hy⟩:∃y,Hc'[i]? = some y:=⟨_,af (by omega)⟩
  have:=oS (H:=H) hn hs hlen hy;rw[zD hi] at this;rw[this] at h;cases h;exact⟨i,y,hy,(zD hi).symm,rfl⟩
 ·rcases eo id H.length with hlt | hge
  ·rw[nB hid hlt] at h;exact .inl ⟨hid,h⟩
  ·right;have h':=h;unfold cB at h';rw[cf (by rw[fO];exact hge),fO,ci,ff] at h';obtain⟨y,hy,e⟩:=Option.map_eq_some_iff.1 h';refine⟨_,y,hy,?_,e.symm⟩
   rw[aLq (by omega)]
   omega
end frame
structure aFv(f:Nat->Nat)(μ μ':Mem):Prop where
 w:μ'.w=μ.w
 M:∀b o,μ'.M b o->μ.M b o
 box:∀(i:Nat) x,μ.H[i]? = some x->μ'.H[f i]? = some (jS f x)
 bs:∀(i:Nat) o,μ.bs[i]? = some o->μ'.bs[f i]? = some o
theorem aFv.typd{f:Nat->Nat}{μ μ':Mem}(h:aFv f μ μ')(hl:μ.bs.length=μ.H.length){id n:Nat}{e:TypeId}(ht:μ.typd id n e):μ'.typd (f id) n e:=by
 have hH:=h.box id _ (af ht.1)
 refine⟨aX hH,λk es hm=>?_⟩
 have hm0:μ.H[id]? = some (.gro k es):=by
  rw[hH] at hm;rw[af ht.1]
  generalize μ.H[id]'ht.1=z at *;cases z <;> simp[jS] at hm;obtain⟨rfl,rfl⟩:=hm;rfl
 obtain⟨h3,h4⟩:=ht.2 k es hm0;refine⟨h3,λe1 b hb=>?_⟩
 have hid:id < μ.bs.length:=by rw[hl];exact ht.1
 have hbb:=h.bs id _ (af hid)
 rw[hbb] at hb;obtain⟨s,c,g1,g2⟩:=h4 e1 b ((af hid).trans hb)
 exact⟨s,c,by rw[h.w];exact g1,g2⟩
theorem aFv.keeps{f:Nat->Nat}{μ μ':Mem}(h:aFv f μ μ'):∀b o y,μ.w.cell? ⟨b,o,none⟩=some y->¬μ.M b o->μ'.w.cell? ⟨b,o,none⟩=some y/\¬μ'.M b o:=
 λb o y h1 h2=>⟨by rw[h.w];exact h1,λhm=>h2 (h.M _ _ hm)⟩
mutual
theorem Rc.back{f:Nat->Nat}{μ μ':Mem}(h:aFv f μ μ'):∀(x:AV) (ys:List Value),Rc μ x ys->Rc μ' (ren f x) ys
 | .v _,_,hr=>by simpa[ren,Rc] using hr
 | .st n ps,ys,hr=>by
  simp only[ren,Rc] at hr ⊢;exact⟨hr.1,RcL.back h ps ys hr.2⟩
 | .arr n k es,ys,hr=>by
  simp only[ren,Rc] at hr ⊢;exact⟨hr.1,hr.2.1,RdL.mono h.keeps es ys hr.2.2⟩
 | .sl k ln es,ys,hr=>by
  simp only[ren,Rc] at hr ⊢;obtain⟨hn,a,cap,h1,h2,h3,h4⟩:=hr;refine⟨hn,a,cap,h1,h2,h3,h4.imp id ?_⟩
  rintro⟨b,off,zs,h5,h6,h7⟩
  exact⟨b,off,zs,h5,RdL.mono h.keeps es zs h6,λj y hy=>h.keeps _ _ _ (h7 j y hy).1 (h7 j y hy).2⟩
 | .own i k ln es,ys,hr=>by
  simp only[ren,Rc] at hr ⊢;obtain⟨hn,a,cap,h1,h2,h3,h4,h5,h6⟩:=hr;have hH:=h.box i _ (af h5)
  refine⟨hn,a,cap,h1,h2,h3,?_,aX hH,λm hm=>?_⟩
  ·refine h4.imp id ?_;rintro⟨b,off,zs,h5,h6,h7⟩
   exact⟨b,off,zs,h5,RdL.mono h.keeps es zs h6,λj y hy=>h.keeps _ _ _ (h7 j y hy).1 (h7 j y hy).2⟩
  ·have hm0:μ.H[i]? = some (.tail m):=by
    rw[hH] at hm;rw[af h5]
    generalize μ.H[i]=z at *;cases z <;> simp[jS] at hm;subst hm;rfl
   obtain⟨k1,k2⟩:=h6 m hm0;refine⟨k1,λe=>?_⟩
   rcases k2 e with ⟨b,g1,g2,c,T,g3,g4⟩ | g2
   ·exact .inl ⟨b,h.bs i _ g1,g2,c,T,by rw[h.w];exact g3,g4⟩
   ·exact .inr g2
 | .ref i p o,ys,hr=>by
  simp only[ren,Rc] at hr ⊢;obtain⟨b,c,h1,h2,h3⟩:=hr;exact⟨b,_,h.bs i _ h1,h.box i _ h2,h3⟩
 | .bsl i p o k lo len,ys,hr=>by
  simp only[ren,Rc] at hr ⊢;obtain⟨b,c,cap,h1,h2,h3,h6⟩:=hr;exact⟨b,_,cap,h.bs i _ h1,h.box i _ h2,h3,h6⟩
 | .im x,ys,hr=>by
  simp only[ren,Rc] at hr ⊢;obtain⟨b,off,zs,h1,h2,h3⟩:=hr;exact⟨b,off,zs,h1,Rd.mono h.keeps x zs h2,λj y hy=>h.keeps _ _ _ (h3 j y hy).1 (h3 j y hy).2⟩
 | .tup _,_,hr=>by simp[Rc] at hr
 | .fn F first cap,ys,hr=>by
  simp only[ren,Rc] at hr ⊢;obtain⟨as,cs,h1,h2,h3⟩:=hr;exact⟨as,cs,h1,RcL.back h first as h2,RcL.back h cap cs h3⟩
 | .ifc t x,ys,hr=>by
  simp only[ren,Rc] at hr ⊢;obtain⟨y,h1,h2⟩:=hr;refine⟨y,h1,?_⟩
  have h3:=mS (λzs hz=>Rc.back h x zs hz) h2;unfold vOf at h3 ⊢;rw[aGR]
  exact h3
 | .mp i,ys,hr=>by
  simp only[ren,Rc] at hr ⊢;obtain⟨b,c,h1,h2,h3⟩:=hr;exact⟨b,_,h.bs i _ h1,h.box i _ h2,h3⟩
 | .it i,ys,hr=>by
  simp only[ren,Rc] at hr ⊢;obtain⟨b,c,h1,h2,h3⟩:=hr;exact⟨b,_,h.bs i _ h1,h.box i _ h2,h3⟩
 | .yld i,ys,hr=>by
  simp only[ren,Rc] at hr ⊢;obtain⟨b,c,h1,h2,h3⟩:=hr;exact⟨b,_,h.bs i _ h1,h.box i _ h2,h3⟩
 | .gro i k ln j,ys,hr=>by
  simp only[ren,Rc] at hr ⊢;obtain⟨y,e,h1,a,cap,e0,h0,h2⟩:=hr;have hH:=h.box i _ (af h1)
  refine⟨y,e,aX hH,a,cap,e0,h0,λk' es hm=>?_⟩
  have hm0:μ.H[i]? = some (.gro k' es):=by
   rw[hH] at hm;rw[af h1]
   generalize μ.H[i]=z at *;cases z <;> simp[jS] at hm;obtain⟨rfl,rfl⟩:=hm;rfl
  obtain⟨k1,k2⟩:=h2 k' es hm0;refine⟨k1,λe=>?_⟩
  obtain⟨g0,g1,g2⟩:=k2 e;refine⟨g0,h.bs i _ g1,g2.imp ?_ (λh=>h)⟩
  rintro⟨b,rfl,c,T,g3,g4⟩
  exact⟨b,rfl,c,T,by rw[h.w];exact g3,g4⟩
theorem RcL.back{f:Nat->Nat}{μ μ':Mem}(h:aFv f μ μ'):∀(ps:List AV) (ys:List Value),RcL μ ps ys->RcL μ' (renL f ps) ys
 | [],_,hr=>by simpa[renL,RcL] using hr
 | p :: ps,ys,hr=>by
  simp only[renL,RcL] at hr ⊢;obtain⟨y1,y2,h1,h2,h3⟩:=hr;exact⟨y1,y2,h1,Rc.back h p y1 h2,RcL.back h ps y2 h3⟩
end
theorem aKh{f:Nat->Nat}{μ μ':Mem}(h:aFv f μ μ'){x:AV}{y:Value}(hr:Rv0 μ x y):Rv0 μ' (ren f x) y:=by
 have h2:=mS (λzs hz=>Rc.back h x zs hz) (rG.1 hr)
 refine rG.2 ?_;unfold vOf at h2 ⊢;rw[aGR]
 exact h2
theorem aKS{f:Nat->Nat}{μ μ':Mem}(h:aFv f μ μ'):∀{xs:List AV} {vs:List Value},RvL μ xs vs->RvL μ' (renL f xs) vs
 | [],_,hr=>hr
 | x :: xs,_,⟨y,r,e,h1,h2⟩=>⟨y,r,e,aKh h h1,aKS h h2⟩
theorem aJs{f:Nat->Nat}{μ μ':Mem}(h:aFv f μ μ'){x:AV}{y:Value}(hr:Rv μ x y):Rv μ' (ren f x) y:=by
 cases x with
 | tup vs=>
  simp only[ren]
  obtain⟨ys,h1,h2⟩:=hr;exact⟨ys,h1,aKS h h2⟩
 | _=>exact aKh h hr
theorem aDV{H:List Box}{bs:List (Option Nat)}{w w':World}{F:Nat->Nat->Prop}{σ:List Nat}{Hc Hc':List Box}{bc:List (Option Nat)}(ok:(⟨H,bs,w,F⟩:Mem).OK)(L:aIE H bs σ Hc)(okc:(lO H bs w F σ Hc).OK)
  (ext:Ext (lO H bs w F σ Hc) ⟨Hc',bc,w',λb o=>F b o\/rest H bs σ b o⟩) (ok':(⟨Hc',bc,w',λb o=>F b o\/rest H bs σ b o⟩:Mem).OK) :
  Ext ⟨H,bs,w,F⟩ ⟨cB H σ Hc',uR bs σ bc,w',F⟩/\(⟨cB H σ Hc',uR bs σ bc,w',F⟩:Mem).OK/\aFv (rn σ H.length) ⟨Hc',bc,w',λb o=>F b o\/rest H bs σ b o⟩ ⟨cB H σ Hc',uR bs σ bc,w',F⟩:=by
 have hbl:bs.length=H.length:=ok.len;have hs:∀s∈σ,s < H.length:=λs hs'=>by
  obtain⟨i,hi⟩:=fh hs';exact(L.at (w:=w) (F:=F) hbl hi).1
 have hlen:σ.length<=Hc'.length:=by have:=ext.len;rw[<- L.len];exact this
 have hbc:bc.length=Hc'.length:=ok'.len;have old:∀b o,(⟨H,bs,w,F⟩:Mem).own b o↔(lO H bs w F σ Hc).own b o\/rest H bs σ b o:=λb o=>aDe L hbl;have restlt:∀b o,rest H bs σ b o->b < w.heap.size:=λb o h=>okc.foreign b o (.inr h)
 -- what is not lent stays as it was
 have stay:∀(id b:Nat) (x:Box),id∉σ->bs[id]? = some (some b)->H[id]? = some x->x ≠ .dead->w'.heap[b]? = w.heap[b]? := by
  intro id b x hid hb hx hd;have hlt:b < w.heap.size:=bU ok (b:=b) hb hx hd;refine ext.blocks b hlt λo ho=>?_;obtain⟨o',ho'⟩:∃o',rest H bs σ b o':=by
   cases x with
   | dead=>exact absurd rfl hd
   | tail m=>exact⟨m,id,hid,hb,.inr ⟨m,hx,ca _⟩⟩
   | _=>exact⟨0,id,hid,hb,.inl ⟨_,hx,rfl⟩⟩
  obtain⟨i,g1,g2⟩:=ho;have hi:i < σ.length:=by have:=aX g1;simpa[lO] using this
  have h1:=af hi;have g1:bs[σ[i]]? = some (some b):=(L.at (w:=w) (F:=F) hbl h1).2.symm.trans g1;obtain⟨z,hz⟩:∃z,Hc[i]? = some z:=⟨_,af (by rw[L.len];exact hi)⟩
  obtain⟨s',k1,k2⟩:=L.box i z hz;rw[h1] at k1;cases k1;have live:jS (rn σ H.length) z ≠ .dead:=by
   intro e;have e:=sY.1 e;subst e;rcases g2 with ⟨x,g2,g3⟩ | ⟨m,g2,_⟩
   ·have:Hc[i]? = some x:=g2;rw[hz] at this;cases this;cases g3
   ·have:Hc[i]? = some (.tail m):=g2;rw[hz] at this;cases this
  have e:=ok.apart _ _ b _ _ g1 hb k2 hx live hd;exact hid (e▸cm hi)
 have own':∀b o,(⟨cB H σ Hc',uR bs σ bc,w',F⟩:Mem).own b o↔(⟨Hc',bc,w',λb o=>F b o\/rest H bs σ b o⟩:Mem).own b o\/rest H bs σ b o:=by
  intro b o;constructor
  ·rintro⟨id,h1,h2⟩
   dsimp only at h1 h2;have:∃x,(cB H σ Hc')[id]? = some x:=by rcases h2 with ⟨x,h2,_⟩ | ⟨m,h2,_⟩ <;> exact⟨_,h2⟩
   obtain⟨x,hx⟩:=this;rcases xS L.nodup hs hlen hx with ⟨hid,h3⟩ | ⟨i,z,h3,rfl,rfl⟩
   ·right;have hlt:=aX h3;rw[mD hid (by omega)] at h1;rw[nB hid hlt] at h2;exact⟨id,hid,h1,h2⟩
   ·left;obtain⟨ob,hob⟩:∃ob,bc[i]? = some ob:=⟨_,af (by have:=aX h3;omega)⟩
    have h4:=aAb (bs:=bs) L.nodup (λs hs'=>by have:=hs s hs';omega) hob;rw[hbl] at h4;rw[h4] at h1;rw[oS L.nodup hs hlen h3] at h2;refine⟨i,hob.trans h1,?_⟩
    rcases h2 with ⟨x,h2,h5⟩ | ⟨m,h2,h5⟩
    ·cases h2;exact .inl ⟨z,h3,by rw[yM] at h5;exact h5⟩
    ·refine .inr ⟨m,?_,h5⟩
     cases z <;> simp[jS] at h2;subst h2;exact h3
  ·rintro(⟨i,h1,h2⟩ | ⟨id,hid,h1,h2⟩)
   ·dsimp only at h1 h2;obtain⟨z,h3⟩:∃z,Hc'[i]? = some z:=by rcases h2 with ⟨x,h2,_⟩ | ⟨m,h2,_⟩ <;> exact⟨_,h2⟩
    have h4:=aAb (bs:=bs) L.nodup (λs hs'=>by have:=hs s hs';omega) h1;rw[hbl] at h4;refine⟨_,h4,?_⟩
    dsimp only;rw[oS L.nodup hs hlen h3]
    rw[h3] at h2;rcases h2 with ⟨x,h2,h5⟩ | ⟨m,h2,h5⟩
    ·cases h2;exact .inl ⟨_,rfl,by rw[yM];exact h5⟩
    ·cases h2;exact .inr ⟨m,rfl,h5⟩
   ·have hlt:id < H.length:=by rcases h2 with ⟨x,h2,_⟩ | ⟨m,h2,_⟩ <;> exact aX h2
    refine⟨id,?_,?_⟩
    ·show(uR bs σ bc)[id]? = _;rw[mD hid (by omega)]
     exact h1
    ·dsimp only;rw[nB hid hlt]
     exact h2
 have back:aFv (rn σ H.length) ⟨Hc',bc,w',λb o=>F b o\/rest H bs σ b o⟩ ⟨cB H σ Hc',uR bs σ bc,w',F⟩:={
  w:=rfl
  M:=λb o h=>by
   rcases h with h | h
   ·exact .inl (.inl h)
   ·rcases(own' b o).1 h with h | h
    ·exact .inr h
    ·exact .inl (.inr h)
  box:=λi x hx=>oS L.nodup hs hlen hx
  bs:=λi o ho=>by
   have:=aAb (bs:=bs) L.nodup (λs hs'=>by have:=hs s hs';omega) ho;rw[hbl] at this;exact this }
 have notc:∀b o,¬(⟨H,bs,w,F⟩:Mem).own b o->¬(lO H bs w F σ Hc).own b o:=λb o h h'=>h ((old b o).2 (.inl h'))
 -- a box of the callee's, by its number
 have lentAt:∀(id:Nat) (c:Box),H[id]? = some c->id∈σ->∃(i:Nat) (z:Box),σ[i]? = some id/\Hc[i]? = some z/\c=jS (rn σ H.length) z/\(lO H bs w F σ Hc).bs[i]? = bs[id]? := by
  intro id c hc hid;obtain⟨i,hi⟩:=fh hid;obtain⟨z,hz⟩:∃z,Hc[i]? = some z:=⟨_,af (by have:=aX hi;rw[L.len];exact this)⟩
  obtain⟨s',k1,k2⟩:=L.box i z hz;rw[hi] at k1;cases k1;rw[hc] at k2;cases k2;exact⟨i,z,hi,hz,rfl,(L.at (w:=w) (F:=F) hbl hi).2⟩
 have bsAt:∀(i id:Nat),σ[i]? = some id->bc[i]? = (lO H bs w F σ Hc).bs[i]? -> (uR bs σ bc)[id]? = bs[id]? := by
  intro i id hi he;have h1:=(L.at (w:=w) (F:=F) hbl hi)
  obtain⟨ob,hob⟩:∃ob,bc[i]? = some ob:=⟨_,af (by have:=aX hi;omega)⟩
  have h2:=aAb (bs:=bs) L.nodup (λs hs'=>by have:=hs s hs';omega) hob;rw[hbl,zD hi] at h2;rw[h2,<- hob,he,h1.2]
 have extAll:Ext ⟨H,bs,w,F⟩ ⟨cB H σ Hc',uR bs σ bc,w',F⟩:={
  size:=ext.size
  len:=by show H.length<=(cB H σ Hc').length;unfold cB;rw[ai,fO];omega
  cells:=λb o hb hn=>ext.cells b o hb (notc b o hn)
  blocks:=λb hb hn=>ext.blocks b hb (λo=>notc b o (hn o))
  mm:=λb o hb h=>by
   rcases(own' b o).1 h with h | h
   ·exact(old b o).2 (.inl (ext.mm b o hb h))
   ·exact(old b o).2 (.inr h)
  same:=rfl
  vars:=λid c hc=>by
   by_cases hid:id∈σ
   ·obtain⟨i,z,h1,h2,h3,h4⟩:=lentAt id _ hc hid;cases z <;> simp[jS] at h3;obtain⟨⟨c',g1⟩,g2⟩:=ext.vars i _ h2;have:=oS (H:=H) L.nodup hs hlen g1;rw[zD h1] at this;exact⟨⟨_,this⟩,bsAt i id h1 g2⟩
   ·have hlt:=aX hc;dsimp only at hlt;exact⟨⟨c,(nB hid hlt).trans hc⟩,mD hid (by omega)⟩
  maps:=λid c hc=>by
   by_cases hid:id∈σ
   ·obtain⟨i,z,h1,h2,h3,h4⟩:=lentAt id _ hc hid;cases z <;> simp[jS] at h3;obtain⟨⟨c',g1⟩,g2⟩:=ext.maps i _ h2;have:=oS (H:=H) L.nodup hs hlen g1;rw[zD h1] at this;exact⟨⟨_,this⟩,bsAt i id h1 g2⟩
   ·have hlt:=aX hc;dsimp only at hlt;exact⟨⟨c,(nB hid hlt).trans hc⟩,mD hid (by omega)⟩
  loops:=λid c hc=>by
   by_cases hid:id∈σ
   ·obtain⟨i,z,h1,h2,h3,h4⟩:=lentAt id _ hc hid;cases z <;> simp[jS] at h3;obtain⟨⟨c',g1⟩,g2⟩:=ext.loops i _ h2;have:=oS (H:=H) L.nodup hs hlen g1;rw[zD h1] at this;exact⟨⟨_,this⟩,bsAt i id h1 g2⟩
   ·have hlt:=aX hc;dsimp only at hlt;exact⟨⟨c,(nB hid hlt).trans hc⟩,mD hid (by omega)⟩
  toks:=λid m' hid hm'=>by
   dsimp only at hid hm';by_cases hin:id∈σ
   ·obtain⟨i,z,h1,h2,h3,h4⟩:=lentAt id _ (af hid) hin;obtain⟨z',hz'⟩:∃z',Hc'[i]? = some z':=⟨_,af (by have:=aX h1;omega)⟩
    have g0:=oS (H:=H) L.nodup hs hlen hz';rw[zD h1,hm'] at g0;have e:z' = .tail m':=by cases z' <;> simp[jS] at g0;rw[g0]
    subst e;obtain⟨m,k1,k2,k3⟩:=ext.toks i m' (aX h2) hz';have k1':Hc[i]? = some (.tail m):=k1;rw[h2] at k1';cases k1';refine⟨m,?_,k2,λe=>⟨bsAt i id h1 (k3 e).1,λb s hb hr=>?_⟩⟩
    ·show H[id]? = _;rw[af hid,h3]
     rfl
    ·exact(k3 e).2 b s (h4.trans hb) hr
   ·rw[nB hin hid] at hm';refine⟨m',hm',ca _,λ_=>⟨mD hin (by omega),λb s hb hr=>?_⟩⟩
    obtain⟨c,T,g1,g2⟩:=hr;exact⟨c,T,(stay id b _ hin hb hm' (by simp)).trans g1,g2⟩
  gros:=λid q es' hid hm'=>by
   dsimp only at hid hm';by_cases hin:id∈σ
   ·obtain⟨i,z,h1,h2,h3,h4⟩:=lentAt id _ (af hid) hin;obtain⟨z',hz'⟩:∃z',Hc'[i]? = some z':=⟨_,af (by have:=aX h1;omega)⟩
    have g0:=oS (H:=H) L.nodup hs hlen hz';rw[zD h1,hm'] at g0;have e:z' = .gro q es':=by cases z' <;> simp[jS] at g0;obtain⟨rfl,rfl⟩:=g0;rfl
    subst e;obtain⟨es,k1,k2,k3⟩:=ext.gros i q es' (aX h2) hz';have k1':Hc[i]? = some (.gro q es):=k1;rw[h2] at k1';cases k1';refine⟨es,?_,k2,λe=>⟨bsAt i id h1 (k3 e).1,λb s T hb hr=>?_⟩⟩
    ·show H[id]? = _;rw[af hid,h3]
     rfl
    ·exact(k3 e).2 b s T (h4.trans hb) hr
   ·rw[nB hin hid] at hm';refine⟨es',hm',ca _,λ_=>⟨mD hin (by omega),λb s T hb hr=>?_⟩⟩
    obtain⟨c,g1,g2⟩:=hr;exact⟨c,(stay id b _ hin hb hm' (by simp)).trans g1,g2⟩
  os:=ext.os
  tape:=ext.tape
  output:=ext.output }
 refine⟨extAll,?_,back⟩
 refine⟨λb o h=>Nat.lt_of_lt_of_le (ok.foreign b o h) ext.size,?_,?_,?_,?_,λg hg=>extAll.globAt (ok.glob g hg)⟩
 ·intro b o h hF;rcases(own' b o).1 h with h | h
  ·exact ok'.clear b o h (.inl hF)
  ·exact ok.clear b o ((old b o).2 (.inr h)) hF
 ·show(uR bs σ bc).length=(cB H σ Hc').length;unfold uR cB;simp only[ai,fO,List.length_drop,List.length_map]
  omega
 ·intro id o x ho hx;dsimp only at ho hx;rcases xS L.nodup hs hlen hx with ⟨hid,h3⟩ | ⟨i,z,h3,rfl,rfl⟩
  ·have hlt:=aX h3;rw[mD hid (by omega)] at ho;refine mE extAll (λb hb hd=>?_) (ok.box id o x ho h3)
   subst hb;exact stay id b x hid ho h3 hd
  ·obtain⟨ob,hob⟩:∃ob,bc[i]? = some ob:=⟨_,af (by have:=aX h3;omega)⟩
   have h4:=aAb (bs:=bs) L.nodup (λs hs'=>by have:=hs s hs';omega) hob;rw[hbl] at h4;rw[h4] at ho;cases ho;have hok:=ok'.box i _ z hob h3;cases z with
   | dead=>trivial
   | var c=>
    obtain⟨b,ys,T,g1,g2,g3⟩:=hok;exact⟨b,ys,T,g1,g2,Rc.back back _ _ g3⟩
   | tail m=>exact hok
   | mp c0=>
    cases c0 with
    | kv kvs=>
     obtain⟨b,es,k,g1,g2,g3⟩:=hok;exact⟨b,es,k,g1,g2,g3.mono back.keeps⟩
    | it _ _=>exact hok
    | mi m=>
     obtain⟨b,c,t,g1,g2,g3⟩:=hok;exact⟨b,c,t,g1,g2,Rc.back back (.mp m) _ g3⟩
    | bl t e0 id s=>
     obtain⟨b,p,v,g1,g2,gp,g3⟩:=hok;exact⟨b,p,v,g1,g2,gp,Rc.back back (.gro id 1 s.size .all) _ g3.1,back.typd ok'.len g3.2⟩
   | loop r=>exact hok
   | gro k es=>
    obtain⟨g0,g1 | ⟨b,ys,U,g1,g2,y1,y2,g3,g4⟩⟩:=hok
    ·exact⟨g0,.inl g1⟩
    ·exact⟨g0,.inr ⟨b,ys,U,g1,g2,y1,y2,g3,RdL.mono back.keeps _ _ g4⟩⟩
 ·intro i j b x z hi hj hx hz hxd hzd;dsimp only at hi hj hx hz
  -- a live box lets its owner write somewhere
  have wr:∀(x:Box),x ≠ .dead->∃m,∀o,m<=o->(x.whole=true\/∃m',x = .tail m'/\m'<=o):=by
   intro x hd;cases x with
   | dead=>exact absurd rfl hd
   | tail m=>exact⟨m,λo h => .inr ⟨m,rfl,h⟩⟩
   | _=>exact⟨0,λo _ => .inl rfl⟩
  have mixed:∀(id i':Nat) (x z:Box),id∉σ->H[id]? = some x->bs[id]? = some (some b)->Hc'[i']? = some z->bc[i']? = some (some b)->x ≠ .dead->z ≠ .dead->False:=by
   intro id i' x z hid hx hb hz hbz hxd hzd;obtain⟨m1,w1⟩:=wr x hxd;obtain⟨m2,w2⟩:=wr z hzd;have hr:rest H bs σ b (max m1 m2):=by
    rcases w1 (max m1 m2) (Nat.le_max_left _ _) with h | ⟨m',h1,h2⟩
    ·exact⟨id,hid,hb,.inl ⟨x,hx,h⟩⟩
    ·subst h1;exact⟨id,hid,hb,.inr ⟨m',hx,h2⟩⟩
   have ho:(⟨Hc',bc,w',λb o=>F b o\/rest H bs σ b o⟩:Mem).own b (max m1 m2):=by
    rcases w2 (max m1 m2) (Nat.le_max_right _ _) with h | ⟨m',h1,h2⟩
    ·exact⟨i',hbz,.inl ⟨z,hz,h⟩⟩
    ·subst h1;exact⟨i',hbz,.inr ⟨m',hz,h2⟩⟩
   exact ok'.clear b _ ho (.inr hr)
  have bcOf:∀(i':Nat) (z:Box),Hc'[i']? = some z->(uR bs σ bc)[rn σ H.length i']? = some (some b)->bc[i']? = some (some b):=by
   intro i' z hz hb;obtain⟨ob,hob⟩:∃ob,bc[i']? = some ob:=⟨_,af (by have:=aX hz;omega)⟩
   have h4:=aAb (bs:=bs) L.nodup (λs hs'=>by have:=hs s hs';omega) hob;rw[hbl,hb] at h4;rw[hob,h4]
  rcases xS L.nodup hs hlen hx with ⟨hi1,hx1⟩ | ⟨i',x',hx1,rfl,rfl⟩ <;> rcases xS L.nodup hs hlen hz with ⟨hj1,hz1⟩ | ⟨j',z',hz1,rfl,rfl⟩
  ·have l1:=aX hx1;have l2:=aX hz1;rw[mD hi1 (by omega)] at hi;rw[mD hj1 (by omega)] at hj;exact ok.apart i j b x z hi hj hx1 hz1 hxd hzd
  ·have l1:=aX hx1;rw[mD hi1 (by omega)] at hi;exact(mixed i j' x z' hi1 hx1 hi hz1 (bcOf j' z' hz1 hj) hxd (λe=>hzd (sY.2 e))).elim
  ·have l1:=aX hz1;rw[mD hj1 (by omega)] at hj;exact(mixed j i' z x' hj1 hz1 hj hx1 (bcOf i' x' hx1 hi) hzd (λe=>hxd (sY.2 e))).elim
  ·have e:=ok'.apart i' j' b x' z' (bcOf i' x' hx1 hi) (bcOf j' z' hz1 hj) hx1 hz1 (λe=>hxd (sY.2 e)) (λe=>hzd (sY.2 e))
   rw[e]
theorem aMA{P:Program}{f:FuncId}{Hc Hc':List Box}{args:List AV}{ret:AV}(C:FnM P f Hc args ret Hc'){H:List Box}{bs:List (Option Nat)}{w:World}{F:Nat->Nat->Prop}{σ:List Nat}
  (ok:(⟨H,bs,w,F⟩:Mem).OK) (L:aIE H bs σ Hc) (hlow:lF Hc Hc=true) (hargs:lowL Hc args=true) {vs:List Value} (hv:RvL ⟨H,bs,w,F⟩ (renL (rn σ H.length) args) vs) :
  Calls P f vs.toArray w λe w'=>∃y bs',e = .returned y/\Ext ⟨H,bs,w,F⟩ ⟨cB H σ Hc',bs',w',F⟩/\(⟨cB H σ Hc',bs',w',F⟩:Mem).OK/\Rv ⟨cB H σ Hc',bs',w',F⟩ (ren (rn σ H.length) ret) y:=by
 have less:=yC (w:=w) (F:=F) L ok.len;have okc:=aGE L ok hlow;refine(C w _ _ vs okc (aAM less hargs hv)).mono ?_;rintro e w' ⟨y,bc,rfl,ext,ok',hr⟩
 obtain⟨h1,h2,h3⟩:=aDV ok L okc ext ok';exact⟨y,uR bs σ bc,rfl,h1,h2,aJs h3 hr⟩
end Go.UK

open Array renaming toList_inj→gd
open Bool renaming and_eq_true→b9,false_eq_true→au
open List renaming getElem?_eq_getElem→af,getElem?_map→ci,getElem?_of_mem→fh,mem_cons→cx
open Nat renaming eq_of_beq_eq_true→ak,le_refl→ca
open Go.Result renaming andThen_ok→am
open Go.Sem renaming run_bind→bf,run_pure→ck
namespace Go.UK
open Go
set_option linter.all false
variable [bL]
def Sub(a b:Env):Prop:=∀i e,bY a i=some e->bY b i=some e
theorem Sub.rfl{a:Env}:Sub a a:=λ_ _ h=>h
theorem zL{μ:Mem}{a b:Env}{tmps:Array Value}(h:Sub a b)(hb:eY μ b tmps):eY μ a tmps:=λi e hl=>hb i e (h i e hl)
def Env.put(env:Env)(d:Option Nat)(e:EV):Env:=match d with | some d=>env.set d e | none=>env
def dOK(n:Nat):Option Nat->Bool
 | some d=>match Nat.ble n d with | true=>false | false=>true
 | none=>true
section
variable {P:Program} {T:TypeId→Option TI} {n:Fr}
theorem aGs{ctx:Mem}{st:ASt}{a:Act}{μ μ':Mem}(hm:aDh n ctx st a μ)(hx:Ext μ μ')(ok:μ'.OK){d:Option Nat}(hd:dOK n.n d=true){x:AV}{y:Value}(hy:Rv μ' x y) :
  Sat n ctx ⟨st.env.put d (none,x),μ'.H⟩ (a.put d y) μ'.w:=by
 cases d with
 | none=>exact(hm.putn hx ok).sat
 | some d=>
  simp only[dOK] at hd;split at hd
  ·cases hd
  ·rename_i h;exact(hm.put hx ok (yK h) hy).sat
def Big(P:Program)(n:Fr)(o:Oper)(need:Env)(H:List Box)(x:AV)(H':List Box):Prop:=
 ∀env,Sub need env->owp P n o ⟨env,H⟩ ⟨env.put o.dst (none,x),H'⟩
theorem aTW{ops:Array Oper}{o:Oper}{l:List Oper}{st:ASt}{x:AV}{H':List Box}{K:ASt->Prop}(b:Big P n o st.env st.H x H')(hg:gOK ops o st.env=true)(hk:awl P n ops l K ⟨st.env.put o.dst (none,x),H'⟩):awl P n ops (o :: l) K st:=
 aNA (aJU hg (b st.env Sub.rfl)) hk
theorem cY{o:Oper}{need:Env}{H H':List Box}{x:AV}(hd:dOK n.n o.dst=true)(h:∀a (μ:Mem),μ.OK->μ.H=H->eY μ need a.tmps->∃μ',eQ P o a μ x μ'/\μ'.H=H'):Big P n o need H x H':=by
 intro env hs;refine wN λctx a μ hm=>?_;obtain⟨μ',hr,e⟩:=h a μ hm.ok hm.h (zL hs hm.env)
 refine⟨x,μ',hr,λy hy hx hok=>?_⟩
 rw[<- e]
 exact aGs hm hx hok hd hy
theorem aMM(hT:TOK P T){im:Bool}{o:Oper}{need:Env}{H:List Box}{x:AV}{b:Option Box}(hd:dOK n.n o.dst=true)(he:ev T im (opd need none) H o=some (x,b)):Big P n o need H x (aBJ H b):=
 cY hd λa μ ok hH hE=>by
  obtain⟨bs',w',hr⟩:=aD6 (P:=P) (a:=a) hT (λy v hv=>aR hE noG hv) ok (by rw[hH];exact he)
  exact⟨_,hr,by rw[hH]⟩
def xW : List AV->Bool
 | []=>true
 | p :: ps=>match p.isAgg with | true=>false | false=>xW ps
theorem yA : ∀{l:List AV},xW l=true->∀p∈l,p.isAgg=false
 | [],_,p,h=>by cases h
 | q :: l,h,p,hp=>by
  simp only[xW] at h;split at h
  ·cases h
  ·rename_i h0;rcases cx.1 hp with h' | h'
   ·subst h';exact h0
   ·exact yA h p h'
def aJm(t:Nat)(name:String):List (Nat×String×Nat)->Option Nat
 | []=>none
 | q :: l=>match Nat.beq q.1 t&&(q.2.1==name) with | true=>some q.2.2 | false=>aJm t name l
theorem aFp{t f:Nat}{name:String}:∀{l:List (Nat×String×Nat)},aJm t name l=some f->(t,name,f)∈l
 | [],h=>by cases h
 | q :: l,h=>by
  unfold aJm at h;split at h
  ·rename_i hq;simp only[b9,beq_iff_eq] at hq;cases h;obtain⟨a,b,c⟩:=q;obtain⟨h1,h2⟩:=hq;have h1:=ak h1;dsimp only at h1 h2;subst h1 h2;simp
  ·exact List.mem_cons_of_mem _ (aFp h)
def aHj(ρ:Operand->Option AV)(o:Oper):Option (FuncId×List AV):=
 match o.op with
 | .call { callee := .value c,args,.. }=>match ρ c,aJL ρ args.toList with
  | some (.fn (.func f) fi cap),some avs=>match xW fi&&xW cap with
   | true=>some (f,fi++(avs++cap))
   | false=>none
  | _,_=>none
 | .call { callee := .invoke c name,args,.. }=>match ρ c,aJL ρ args.toList with
  | some (.ifc t x),some avs=>match aJm t name bL.ms with
   | some f=>some (f,x :: avs)
   | none=>none
  | _,_=>none
 | _=>none
def pW(H:List Box)(σ:List Nat):List Box:=σ.map λs=>(H[s]?).getD .dead
def aLP(m:Nat):List Nat->Bool
 | []=>true
 | x :: xs=>Nat.blt x m&&aLP m xs
theorem aCx{m:Nat}:∀{l:List Nat},aLP m l=true->∀x∈l,x < m
 | [],_,x,h=>by cases h
 | y :: l,h,x,hx=>by
  simp only[aLP,b9] at h;rcases cx.1 hx with h' | h'
  ·subst h';have h1:Nat.ble (x+1) m=true:=h.1;have:=Nat.le_of_ble_eq_true h1;omega
  ·exact aCx h.2 x h'
def zN(n:Fr)(o:Oper)(H:List Box)(σ:List Nat)(Hc:List Box)(args:List AV):Bool:=
 dOK n.n o.dst&&(aE6 σ&&(aLP H.length σ&&(Nat.beq σ.length Hc.length&&(wX Hc.length Hc&&(lF Hc Hc&&lowL Hc args)))))
def zK(o:Oper)(need:Env)(H:List Box)(σ:List Nat)(Hc:List Box)(args:List AV):Option (FuncId×List AV)×List Box:=
 (match aHj (opd need none) o with
  | some (f,avs)=>some (f,wkL avs (renL (rn σ H.length) args))
  | none=>none,
  vA (pW H σ) (Hc.map (jS (rn σ H.length))))
theorem RvL.append{μ:Mem}:∀{xs ys:List AV} {vs ws:List Value},RvL μ xs vs->RvL μ ys ws->RvL μ (xs++ys) (vs++ws)
 | [],ys,vs,ws,h,h'=>by have:vs=[]:=h;subst this;exact h'
 | x :: xs,ys,vs,ws,⟨v,r,e,h1,h2⟩,h'=>⟨v,r++ws,by rw[e];rfl,h1,RvL.append h2 h'⟩
theorem RcL.rvl{μ:Mem}:∀{ps:List AV} {ys:List Value},RcL μ ps ys->(∀p∈ps,p.isAgg=false)->RvL μ ps ys
 | [],ys,h,_=>by simp only[RcL] at h;exact h
 | p :: ps,ys,h,ha=>by
  simp only[RcL] at h;obtain⟨y1,y2,h1,h2,h3⟩:=h;obtain⟨y,e⟩:=h2.one (ha p (by simp))
  subst e;refine⟨y,y2,by simpa using h1,?_,RcL.rvl h3 (λq hq=>ha q (by simp[hq]))⟩
  unfold Rv0;rw[if_neg (by rw[ha p (by simp)];simp)]
  exact h2
theorem yD{μ:Mem}{a:Act}{ρ:Operand->Option AV}(hρ:∀y v,ρ y=some v->Rv μ v (a.eval y)):∀(l:List Operand) (vs:List AV),aJL ρ l=some vs->RvL μ vs (l.map a.eval)
 | [],vs,h=>by simp only[aJL,Option.some.injEq] at h;subst h;rfl
 | x :: l,vs,h=>by
  simp only[aJL] at h;split at h <;> try cases h
  rename_i v r h1 h2;split at h <;> cases h;rename_i hn;have h3:=hρ _ _ h1;have h4:Rv0 μ v (a.eval x):=by cases v <;> first | exact h3 | simp[fK] at hn
  exact⟨_,_,rfl,h4,yD hρ l r h2⟩
theorem aLY{o:Oper}{callee:Operand}{args:Array Operand}{tys:Array TypeId}{ρ:Operand->Value}{f:FuncId}{as cs:List Value}{w:World}
  (ho:o.op = .call { callee := .value callee,args,argTypes:=tys }) (hv:ρ callee = .func (.func f) as.toArray cs.toArray) (hf:nP P f) :
  (execOp ρ o).run P w = .ok (.enter f (as++(args.toList.map ρ++cs)).toArray) w:=by
 obtain⟨⟨fn,h1,h2,h3⟩,_⟩:=hf;have e:(as++(args.toList.map ρ++cs)).toArray=as.toArray++args.map ρ++cs.toArray:=by
  rw[<- gd]
  simp
 rw[e]
 simp only[execOp,ho,resolve,Deferred.ofValue,hv,bf,ck,am,invoke,callFunc,run_program,h1,h2,h3,au,if_false]
theorem aIb{o:Oper}{recv:Operand}{name:String}{args:Array Operand}{tys:Array TypeId}{ρ:Operand->Value}{f:FuncId}{t:TypeId}{y:Value}{w:World}
  (ho:o.op = .call { callee := .invoke recv name,args,argTypes:=tys }) (hv:ρ recv = .iface t y) (hm:aMK P (t,name,f)) (hf:nP P f) :
  (execOp ρ o).run P w = .ok (.enter f (y :: args.toList.map ρ).toArray) w:=by
 obtain⟨⟨fn,h1,h2,h3⟩,_⟩:=hf;have e:(y :: args.toList.map ρ).toArray=#[y]++args.map ρ:=by
  rw[<- gd]
  simp
 have hmm:=hm y w (P.types.size+99)
 have e2:∀(A:Array Value),(#[ρ recv]++A)[0]? = some (ρ recv):=by intro A;rw[Array.getElem?_append_left (Nat.zero_lt_one)];rfl
 have e3:∀(A:Array Value),(#[ρ recv]++A).extract 1 (#[ρ recv]++A).size=A:=by
  intro A;rw[<- gd]
  simp
 have e4:(callMethod (.iface t y) name (args.map ρ)).run P w = .ok (.enter f (#[y]++args.map ρ)) w:=by
  unfold callMethod;simp only[bf,run_program,am]
  rw[show P.types.size+Made.depth=P.types.size+99+1 from rfl,hmm]
  simp only[am,callFunc,bf,run_program,h1,h2,h3,au,if_false,ck]
 rw[e]
 have e5:(invoke (.fn (.method name) #[]) (#[ρ recv]++args.map ρ)).run P w = .ok (.enter f (#[y]++args.map ρ)) w:=by
  unfold invoke;simp only[e2,e3]
  rw[hv]
  exact e4
 simp only[execOp,ho,resolve,bf,ck,am]
 exact e5
theorem aIA{o:Oper}{need:Env}{μ:Mem}{a:Act}{f:FuncId}{avs:List AV}(hE:eY μ need a.tmps)(h:aHj (opd need none) o=some (f,avs))(hf:nP P f) :
  (∃c,o.op = .call c)/\∃vs:List Value,RvL μ avs vs/\(execOp a.eval o).run P μ.w = .ok (.enter f vs.toArray) μ.w:=by
 unfold aHj at h;split at h <;> try cases h
 case h_2=>
  rename_i c name args tys ho;split at h <;> try cases h
  rename_i t x as hc hargs;split at h <;> cases h;rename_i hfm;have hcv:=aR hE noG hc;have hcv':∃y,a.eval c = .iface t y/\vOf x (λzs=>Rc μ x zs) y:=by
   simpa[Rv,Rv0,AV.isAgg,Rc] using hcv
  obtain⟨y,e,hy⟩:=hcv';have hav:=yD (λy v hv=>aR hE noG hv) _ _ hargs;exact⟨⟨_,ho⟩,_,⟨y,_,rfl,hy,hav⟩,aIb ho e (hf.2 _ (aFp hfm)) hf⟩
 rename_i c args tys ho;split at h <;> try cases h
 rename_i f' fi cap as hc hargs;split at h <;> cases h;rename_i hag;simp only[b9] at hag;have hcv:=aR hE noG hc;have hcv':∃as cs:List Value,a.eval c = .func (.func f) as.toArray cs.toArray/\RcL μ fi as/\RcL μ cap cs:=by
  simpa[Rv,Rv0,AV.isAgg,Rc] using hcv
 obtain⟨as',cs,e,h1,h2⟩:=hcv';have hav:=yD (λy v hv=>aR hE noG hv) _ _ hargs;exact⟨⟨_,ho⟩,_,(h1.rvl (yA hag.1)).append (hav.append (h2.rvl (yA hag.2))),aLY ho e hf⟩
theorem aB9{H H':List Box}{bs:List (Option Nat)}{w:World}{F:Nat->Nat->Prop}(hl:H.length=H'.length)(hk:∀(i:Nat) x y,H[i]? = some x->H'[i]? = some y->(y=x\/∃c c',x = .var c/\y = .var c')):Ext ⟨H,bs,w,F⟩ ⟨H',bs,w,F⟩ where
 size:=ca _
 len:=by show H.length<=H'.length;omega
 cells _ _ _ _:=rfl
 blocks _ _ _:=rfl
 mm b o _ h:=by
  obtain⟨i,h1,h2⟩:=h;refine⟨i,h1,?_⟩
  dsimp only at h2;have:∃y,H'[i]? = some y:=by rcases h2 with ⟨x,h2,_⟩ | ⟨m,h2,_⟩ <;> exact⟨_,h2⟩
  obtain⟨y,hy⟩:=this;obtain⟨x,hx⟩:∃x,H[i]? = some x:=⟨_,af (by have:=aX hy;omega)⟩
  rcases hk i x y hx hy with e | ⟨c,c',e1,e2⟩
  ·subst e;dsimp only;rw[hx,<- hy];exact h2
  ·subst e1 e2;exact .inl ⟨_,hx,rfl⟩
 same:=rfl
 vars i c hc:=by
  obtain⟨y,hy⟩:∃y,H'[i]? = some y:=⟨_,af (by have:=aX hc;dsimp only at this;omega)⟩
  rcases hk i _ y hc hy with e | ⟨_,c',_,e2⟩
  ·subst e;exact⟨⟨_,hy⟩,rfl⟩
  ·subst e2;exact⟨⟨_,hy⟩,rfl⟩
 maps i c hc:=by
  obtain⟨y,hy⟩:∃y,H'[i]? = some y:=⟨_,af (by have:=aX hc;dsimp only at this;omega)⟩
  rcases hk i _ y hc hy with e | ⟨_,c',e1,_⟩
  ·subst e;exact⟨⟨_,hy⟩,rfl⟩
  ·cases e1
 loops i c hc:=by
  obtain⟨y,hy⟩:∃y,H'[i]? = some y:=⟨_,af (by have:=aX hc;dsimp only at this;omega)⟩
  rcases hk i _ y hc hy with e | ⟨_,c',e1,_⟩
  ·subst e;exact⟨⟨_,hy⟩,rfl⟩
  ·cases e1
 toks i m hi hm:=by
  dsimp only at hi hm;rcases hk i _ _ (af hi) hm with e | ⟨_,_,_,e2⟩
  ·exact⟨m,(af hi).trans (congrArg some e.symm),ca _,λ_=>⟨rfl,λ_ _ _ h=>h⟩⟩
  ·cases e2
 gros i q es' hi hm:=by
  dsimp only at hi hm;rcases hk i _ _ (af hi) hm with e | ⟨_,_,_,e2⟩
  ·exact⟨es',(af hi).trans (congrArg some e.symm),ca _,λ_=>⟨rfl,λ_ _ _ _ h=>h⟩⟩
  ·cases e2
 os:=rfl
 tape:=rfl
 output:=rfl
theorem aRX{H H':List Box}{bs:List (Option Nat)}{w:World}{F:Nat->Nat->Prop}(hl:H.length=H'.length)(hk:∀(i:Nat) x y,H[i]? = some x->H'[i]? = some y->(y=x\/∃c e,x = .var c/\y = .var (wk c e)))
  (ok:(⟨H,bs,w,F⟩:Mem).OK):(⟨H',bs,w,F⟩:Mem).OK:=by
 have ext:Ext ⟨H,bs,w,F⟩ ⟨H',bs,w,F⟩:=aB9 hl λi x y hx hy=>(hk i x y hx hy).imp id (λ⟨c,e,h1,h2⟩=>⟨c,_,h1,h2⟩)
 have old:∀(i:Nat) y,H'[i]? = some y->∃x,H[i]? = some x/\(y=x\/∃c e,x = .var c/\y = .var (wk c e)):=by
  intro i y hy;obtain⟨x,hx⟩:∃x,H[i]? = some x:=⟨_,af (by have:=aX hy;omega)⟩
  exact⟨x,hx,hk i x y hx hy⟩
 refine⟨ok.foreign,λb o h=>ok.clear b o ?_,by have:=ok.len;dsimp only at this ⊢;omega,?_,?_,λg hg=>ext.globAt (ok.glob g hg)⟩
 ·by_cases hb:b < w.heap.size
  ·exact ext.mm b o hb h
  ·obtain⟨i,h1,h2⟩:=h;exfalso;dsimp only at h2;have:∃y,H'[i]? = some y/\y ≠ .dead:=by
    rcases h2 with ⟨y,h2,h3⟩ | ⟨m,h2,_⟩
    ·exact⟨y,h2,Box.whole_live h3⟩
    ·exact⟨_,h2,by simp⟩
   obtain⟨y,hy,hd⟩:=this;obtain⟨x,hx,h⟩:=old i y hy;refine hb (bU ok (b:=b) h1 hx ?_)
   rcases h with e | ⟨c,e,h1,h2⟩
   ·subst e;exact hd
   ·subst h1;simp
 ·intro i o y ho hy;obtain⟨x,hx,h⟩:=old i y hy;have hok:=ok.box i o x ho hx;rcases h with e | ⟨c,e,h1,h2⟩
  ·subst e;exact mE ext (λ_ _ _=>rfl) hok
  ·subst h1 h2;obtain⟨b,ys,U,g1,g2,g3⟩:=hok;exact⟨b,ys,U,g1,g2,Rc.ext ext _ _ (aFR _ _ _ g3)⟩
 ·intro i j b y z hi hj hy hz hyd hzd;obtain⟨x,hx,h⟩:=old i y hy;obtain⟨x2,hx2,h2⟩:=old j z hz;refine ok.apart i j b x x2 hi hj hx hx2 ?_ ?_
  ·rcases h with e | ⟨c,e,h1,_⟩
   ·subst e;exact hyd
   ·subst h1;simp
  ·rcases h2 with e | ⟨c,e,h1,_⟩
   ·subst e;exact hzd
   ·subst h1;simp
theorem wD(σ:List Nat){f:FuncId}{Hc Hc':List Box}{args:List AV}{ret:AV}(C:FnM P f Hc args ret Hc')(hf:nP P f){o:Oper}{need:Env}{H:List Box}
  (hB:zN n o H σ Hc args=true:=by kernel_rfl) (hE:zK o need H σ Hc args=(some (f,renL (rn σ H.length) args),Hc.map (jS (rn σ H.length))):=by kernel_rfl) :
  Big P n o need H (ren (rn σ H.length) ret) (cB H σ Hc'):=by
 simp only[zN,b9] at hB;obtain⟨b1,b2,b3,b4,b5,b6,b7⟩:=hB;have b4:=ak b4;have hnd:=zG b2;have hlt:=aCx b3;simp only[zK,Prod.mk.injEq] at hE;obtain⟨e1,e2⟩:=hE;split at e1 <;> try cases e1
 rename_i f' avs hca;simp only[Option.some.injEq,Prod.mk.injEq] at e1;obtain⟨rfl,e1⟩:=e1;intro env hs ctx a w Qx hsat;obtain⟨bs,hm⟩:=hsat;dsimp only at hm;obtain⟨⟨c,ho⟩,vs,hv,hrun⟩:=aIA (P:=P) (zL hs hm.env) hca hf;refine aAo rfl (aPI ho) ?_;unfold Oper.wp;have hrun':(execOp a.eval o).run P w = .ok (.enter f' vs.toArray) w:=hrun;rw[hrun']
 simp only[Oper.upon]
 -- the boxes, said as the contract says them
 let H2:List Box:=mT H σ (Hc.map (jS (rn σ H.length)))
 have hl2:H.length=H2.length:=(fO _ _ _).symm;have hk:∀(i:Nat) x y,H[i]? = some x->H2[i]? = some y->(y=x\/∃c e,x = .var c/\y = .var (wk c e)):=by
  intro i x y hx hy;by_cases hi:i∈σ
  ·obtain⟨j,hj⟩:=fh hi;obtain⟨z,hz⟩:∃z,Hc[j]? = some z:=⟨_,af (by have:=aX hj;omega)⟩
   have h1:H2[i]? = some (jS (rn σ H.length) z):=vJ σ H _ j i _ hnd hj (by rw[ci,hz];rfl) (hlt i hi)
   rw[h1] at hy;cases hy;have h2:(vA (pW H σ) (Hc.map (jS (rn σ H.length))))[j]? = some (jS (rn σ H.length) z):=by rw[e2,ci,hz];rfl
   obtain⟨x',t,g1,g2,g3⟩:=aC9 (by simp[pW];omega) h2;have h3:x'=x:=by
    simp only[pW,ci,hj,Option.map_some,hx,Option.getD_some,Option.some.injEq] at g1;exact g1.symm
   subst h3;rw[g3]
   have hzd:z ≠ .dead:=by
    obtain⟨z',hz',hd⟩:=aFF b5 (aX hz)
    rw[hz] at hz';cases hz';exact hd
   have ht:t ≠ .dead:=by
    rw[ci,hz] at g2;simp only[Option.map_some,Option.some.injEq] at g2;rw[<- g2]
    exact λe=>hzd (sY.1 e)
   cases x' <;> cases t <;> simp[cBox] at ht ⊢;exact .inr ⟨_,rfl⟩
  ·left;have h1:H2[i]? = H[i]? := tY σ H _ i hi;rw[h1,hx] at hy;cases hy;rfl
 have ext2:Ext ⟨H,bs,w,ctx.F⟩ ⟨H2,bs,w,ctx.F⟩:=aB9 hl2 λi x y hx hy=>(hk i x y hx hy).imp id (λ⟨c,e,h1,h2⟩=>⟨c,_,h1,h2⟩)
 have ok2:=aRX hl2 hk hm.ok;have L:aIE H2 bs σ Hc:=⟨hnd,b4.symm,λi y hy=>by
  have hi:=aX hy;have hj:σ[i]? = some (σ[i]'(by omega)):=af (by omega)
  refine⟨_,hj,?_⟩
  rw[<- hl2]
  exact vJ σ H _ i _ _ hnd hj (by rw[ci,hy];rfl) (hlt _ (List.getElem_mem _))⟩
 have hargs:RvL ⟨H2,bs,w,ctx.F⟩ (renL (rn σ H2.length) args) vs:=by
  rw[<- hl2,<- e1]
  exact RvL.ext ext2 _ _ (aEA hv)
 refine(aMA C ok2 L b6 b7 hargs).mono ?_;rintro e w'' ⟨y,bs',rfl,h1,h2,h3⟩
 simp only;have hout:cB H2 σ Hc'=cB H σ Hc':=by
  have key:∀(σ:List Nat) (H xs ys:List Box),σ.Nodup->σ.length<=ys.length->(∀s∈σ,s < H.length)->mT (mT H σ xs) σ ys=mT H σ ys:=by
   intro σ H xs ys hn hl hs';apply List.ext_getElem?;intro i;by_cases hi:i∈σ
   ·obtain⟨j,hj⟩:=fh hi;have hlt':=aX hj;have hy:=af (l:=ys) (i:=j) (by omega)
    rw[vJ σ _ _ j i _ hn hj hy (by rw[fO];exact hs' i hi),vJ σ _ _ j i _ hn hj hy (hs' i hi)]
   ·rw[tY _ _ _ _ hi,tY _ _ _ _ hi,tY _ _ _ _ hi]
  unfold cB;rw[<- hl2]
  congr 1;refine key σ H _ _ hnd ?_ hlt;have:=h1.len;have e3:(cB H2 σ Hc').length=H2.length+(Hc'.length - σ.length):=by unfold cB;simp[fO]
  simp only[List.length_map,List.length_take]
  have hle:Hc.length<=Hc'.length:=by
   obtain⟨e',w3,_,⟨y3,bs3,_,g,_⟩,_⟩:=(C w _ _ vs (aGE L ok2 b6) (aAM (yC L ok2.len) b7 hargs)) []
   exact g.len
  omega
 rw[hout] at h1 h2 h3;rw[<- hl2] at h3;exact aGs (μ':=⟨cB H σ Hc',bs',w'',ctx.F⟩) hm (ext2.trans h1) h2 b1 h3
end
end Go.UK

open Bool renaming and_eq_true→b9
open List renaming all_eq_true→eg,any_eq_true→mf,filterMap_cons→l5,map_cons→jx,mem_cons→cx,mem_filter→my,mem_map→dh,range→bq
open Nat renaming beq→bp,eq_of_beq_eq_true→ak,eq_or_lt_of_le→m9,le_of_ble_eq_true→cn,lt_succ_iff_lt_or_eq→jy
namespace Go.UK
open Go
set_option linter.all false
variable [bL]
section
variable {P:Program} {T:TypeId→Option TI} {n:Fr}
def aPG(d:Nat)(b:Bool)(st:ASt):ASt:=⟨(d,some (none,.v (.bool b))) :: st.env,st.H⟩
theorem aSN{d:Nat}{b c:Bool}{st:ASt}(hg:get st.env d=some (.v (.bool c)))(hc:c=b){ctx:Mem}{a:Act}{w:World}(hs:Sat n ctx st a w):Sat n ctx (aPG d b st) a w:=by
 subst hc;refine aJD (st:=st) ?_ hs;intro i e hl;unfold aPG bY at hl;cases hb:bp d i with
 | false=>rw[hb] at hl;exact hl
 | true=>
  rw[hb] at hl;cases hl;rw[<- ak hb]
  exact aH7 hg
theorem aOE(d:Nat)(b:Bool){c:Bool}{ops:Array Oper}{K:ASt->Prop}{l:List Oper}{st:ASt}(hc:c=b)(hg:get st.env d=some (.v (.bool c)))(hk:awl P n ops l K (aPG d b st)):awl P n ops l K st:=
 λctx a w hs=>hk ctx a w (aSN hg hc hs)
def plU(T:TypeId->Option TI)(im:Bool)(n:Nat)(o:Oper)(need:Env)(H:List Box):Option (AV×List Box):=
 match dOK n o.dst with
 | false=>none
 | true=>match o.op with
  | .store t p v=>match o.dst with
   | some _=>none
   | none=>match opd need none p,opd need none v,T t with
    | some q,some x,some i=>match bp x.n i.size&&fK x with
     | true=>match vX H q x with
      | some H'=>some (.v (.bool false),H')
      | none=>none
     | false=>none
    | _,_,_=>none
  | .pick (.tmp c) x y=>match get need c with
   | some (.v (.bool b))=>match b with
    | true=>match opd need none x with | some v=>some (v,H) | none=>none
    | false=>match opd need none y with | some v=>some (v,H) | none=>none
   | _=>none
  | _=>match ev T im (opd need none) H o with
   | some (x,b)=>some (x,aBJ H b)
   | none=>none
theorem aNP(hT:TOK P T){im:Bool}{o:Oper}{need:Env}{H H':List Box}{x:AV}(h:plU T im n.n o need H=some (x,H')):Big P n o need H x H':=by
 unfold plU at h;split at h <;> try cases h
 rename_i hd;split at h
 ·rename_i t p v ho;split at h <;> try cases h
  rename_i hdst;split at h <;> try cases h
  rename_i q x' i hq hx hi;split at h <;> try cases h
  rename_i hb;split at h <;> cases h;rename_i hH;simp only[b9] at hb;intro env hs;refine vV λctx a w hsat=>?_;obtain⟨bs,hm⟩:=hsat;have hE:=zL hs hm.env;obtain⟨w',h1,h2,h3⟩:=aHs (P:=P) hT ho hm.ok hi (aR hE noG hq) (aR hE noG hx) hH (ak hb.1) (mX hb.2)
  refine⟨w',h1,bs,?_⟩
  rw[hdst]
  exact hm.putn h2 h3
 ·rename_i c y z ho;split at h <;> try cases h
  rename_i b hc;have key:∀v,(∀a:Act,eY ⟨[],[],default,λ_ _=>False⟩ [] a.tmps->True)->(opd need none (if b then y else z)=some v)->Big P n o need H v H:=by
   intro v _ hv;refine cY hd λa μ ok hH hE=>?_;obtain⟨vc,h1,h2⟩:=hE.get hc;have e:=bH h2;subst e;refine⟨μ,eQ.here (y:=a.eval (if b then y else z)) ok ?_ (aR hE noG hv),hH⟩
   simp only[execOp,ho,Act.eval,xV h1,asBool,Sem.run_bind,Sem.run_pure,Result.andThen_ok]
   cases b <;> rfl
  split at h
  ·split at h <;> cases h;rename_i hv;exact key _ (λ_ _=>trivial) (by simpa using hv)
  ·split at h <;> cases h;rename_i hv;exact key _ (λ_ _=>trivial) (by simpa using hv)
 ·split at h <;> cases h;rename_i hv;exact aMM hT hd hv
def dir(ops:Array Oper)(i:Nat):List Nat:=
 match ops[i]? with
 | some o=>(o.after.toList.filter (Region.binds .any)).map (·.on)
 | none=>[]
def clo(ops:Array Oper):Nat->List Nat->List Nat
 | 0,S=>S
 | i+1,S=>match S.any (bp i) with
  | true=>clo ops i (dir ops i++S)
  | false=>clo ops i S
def rM(listed:Array Bool)(i:Nat):Prop:=listed.getD i false=true
def Down(ops:Array Oper)(listed:Array Bool):Prop:=∀i,rM listed i->∀j∈dir ops i,rM listed j
theorem aJh{ops:Array Oper}{listed:Array Bool}(hd:Down ops listed):∀(i:Nat) (S:List Nat),(∀s∈S,rM listed s)->∀s∈clo ops i S,rM listed s
 | 0,S,h=>h
 | i+1,S,h=>by
  unfold clo;split
  ·rename_i hb;refine aJh hd i _ ?_;intro s hs;rcases List.mem_append.1 hs with h' | h'
   ·obtain⟨q,hq,e⟩:=mf.1 hb;have:=ak e;subst this;exact hd _ (h _ hq) s h'
   ·exact h s h'
  ·exact aJh hd i S h
structure MI where
 keys:List Nat
 d:Option Nat
 e:Option AV
def aOi(ops:Array Oper):List (List Nat):=(bq ops.size).map λt=>clo ops t (dir ops t)
def inC(C:List (List Nat))(t i:Nat):Bool:=((C[t]?).getD []).any (bp i)
def aGn(n:Nat)(p:Nat->Bool):Bool:=
 match n with
 | 0=>true
 | n+1=>p n&&aGn n p
theorem pY : ∀{n:Nat} {p:Nat->Bool},aGn n p=true->∀i,i < n->p i=true
 | 0,p,_,i,h=>by omega
 | n+1,p,h,i,hi=>by
  simp only[aGn,b9] at h;rcases jy.1 hi with h' | h'
  ·exact pY h.2 i h'
  ·subst h';exact h.1
def dAt(ms:List MI)(i:Nat):Option Nat:=match ms[i]? with | some x=>x.d | none=>none
def dEq : Option Nat->Option Nat->Bool
 | some a,some b=>bp a b
 | none,none=>true
 | _,_=>false
def aDm : Option Nat->Nat->Bool
 | some a,k=>bp a k
 | none,_=>false
def aJy : Option Nat->Option Nat->Bool
 | some a,some b=>bp a b
 | _,_=>false
def aG1(ms:List MI):Env->Bool
 | []=>true
 | (_,e) :: r=>(match e with | some (some _,_)=>false | _=>true)&&aG1 ms r
def aME(ms:List MI)(i:Nat):List Nat:=match ms[i]? with | some x=>x.keys | none=>[]
def aT0(C:List (List Nat))(ms:List MI)(N:Nat):Bool:=
 aGn N λi=>(aME ms i).all λk=>aGn N λj=>match aDm (dAt ms j) k with
  | true=>(inC C i j&&Nat.blt j i)||(inC C j i||bp i j)
  | false=>true
abbrev CS:=List (Nat×List Box)
def aA0(C:List (List Nat))(ms:List MI)(B:Env)(i k:Nat):Nat->Option EV
 | 0=>bY B k
 | j+1=>match ms[j]? with
  | some x=>match aDm x.d k&&inC C i j with
   | true=>match x.e with | some v=>some (none,v) | none=>none
   | false=>aA0 C ms B i k j
  | none=>aA0 C ms B i k j
def nZ(C:List (List Nat))(ms:List MI)(B:Env)(i:Nat):Env:=
 match ms[i]? with
 | some x=>x.keys.map λk=>(k,aA0 C ms B i k i)
 | none=>[]
theorem aLM{f:Nat->Option EV}:∀{l:List Nat} {i:Nat} {e:EV},bY (l.map λk=>(k,f k)) i=some e->f i=some e
 | [],i,e,h=>by simp[bY] at h
 | k :: l,i,e,h=>by
  simp only[jx,bY] at h;cases hb:bp k i with
  | true=>rw[hb] at h;rw[<- ak hb];exact h
  | false=>rw[hb] at h;exact aLM h
def uc(listed:Array Bool):Nat->Nat
 | 0=>0
 | k+1=>uc listed k+(match listed.getD k false with | true=>0 | false=>1)
theorem zM{α:Type}{l:Array α}{i j:Nat}{x:α}(d:α)(h:i≠j):(l.setIfInBounds i x).getD j d=l.getD j d:=by
 rw[Array.getD_eq_getD_getElem?,Array.getD_eq_getD_getElem?,Array.getElem?_setIfInBounds_ne h]
theorem aUW{listed:Array Bool}{i:Nat}(hi:i < listed.size):∀k,k<=i->uc (listed.setIfInBounds i true) k=uc listed k
 | 0,_=>rfl
 | k+1,h=>by
  unfold uc;rw[aUW hi k (by omega),zM false (show i≠k by omega)]
theorem aQw{listed:Array Bool}{i:Nat}(hi:i < listed.size)(hu:listed.getD i false=false):∀k,i < k->uc (listed.setIfInBounds i true) k+1=uc listed k
 | 0,h=>by omega
 | k+1,h=>by
  unfold uc;by_cases e:i=k
  ·subst e;rw[aUW hi i (Nat.le_refl _),hu]
   simp[hi]
  ·rw[zM false e]
   have:=aQw hi hu k (by omega)
   omega
theorem aN6{listed:Array Bool}:∀k,uc listed k=0->∀i,i < k->listed.getD i false=true
 | 0,_,i,h=>by omega
 | k+1,h,i,hi=>by
  unfold uc at h;rcases jy.1 hi with h' | h'
  ·exact aN6 k (by omega) i h'
  ·subst h';cases hc:listed.getD i false with
   | true=>rfl
   | false=>rw[hc] at h;dsimp only at h;omega
variable {ops:Array Oper}
def MI.put(x:MI)(env:Env):Env:=match x.d with | some d=>(match x.e with | some v=>env.set d (none,v) | none=>env.del d) | none=>env
theorem zE{d k:Nat}{v:AV}{env:Env}(h:bY env k=some (none,v)):bY (aB5 d env) k=some (none,v):=by
 unfold aB5;split
 ·have key:∀(env:Env),bY env k=some (none,v)->bY (aC1 d env) k=some (none,v):=by
   intro env
   induction env with
   | nil=>intro h;simp[bY] at h
   | cons p r ih=>
    obtain⟨j,e0⟩:=p;intro h;unfold bY at h;unfold aC1 bY;cases hb:bp j k with
    | false=>rw[hb] at h;exact ih h
    | true=>
     rw[hb] at h;dsimp only at h ⊢;subst h;rfl
  exact key env h
 ·exact h
theorem pR{a b:Nat}(h:a≠b):bp a b=false:=by
 cases hb:bp a b with
 | false=>rfl
 | true=>exact absurd (ak hb) h
theorem aOe(a b:Nat):bp a b=bp b a:=by
 by_cases h:a=b
 ·subst h;rfl
 ·rw[pR h,pR (Ne.symm h)]
theorem aFi{x:MI}{env:Env}{k:Nat}{v:AV}(hne:aDm x.d k=false)(h:bY env k=some (none,v)):bY (x.put env) k=some (none,v):=by
 unfold MI.put;cases hx:x.d with
 | none=>exact h
 | some d=>
  rw[hx] at hne;have hb:bp d k=false:=hne;cases x.e with
  | some w=>simp only;unfold Env.set bY;rw[hb];exact zE h
  | none=>simp only;unfold Env.del bY;rw[hb];exact zE h
theorem aKr{x:MI}{env:Env}{d:Nat}{v:AV}(hd:x.d=some d)(he:x.e=some v):bY (x.put env) d=some (none,v):=by
 unfold MI.put;rw[hd,he]
 simp only;unfold Env.set bY;simp
theorem aLj{C:List (List Nat)}(hC:C=aOi ops){t i:Nat}(h:inC C t i=true):i∈clo ops t (dir ops t):=by
 subst hC;unfold inC aOi at h;rw[List.getElem?_map] at h;obtain⟨q,hq,e⟩:=mf.1 h;have e:=ak e;subst e;cases hr:(bq ops.size)[t]? with
 | none=>rw[hr] at hq;simp at hq
 | some t'=>
  rw[hr] at hq;have ht:t'=t:=by
   have h1:=aX hr;rw[List.length_range] at h1;rw[List.getElem?_range h1] at hr;exact(Option.some.inj hr).symm
  subst ht;simpa using hq
theorem aMw{C:List (List Nat)}{ms:List MI}{B env:Env}{i k:Nat}{e:EV}{on:Nat->Prop}(hcl:∀s,inC C i s=true->on s)(hB:∀v,bY B k=some (none,v)->(∀(j:Nat) x,ms[j]? = some x->on j->aDm x.d k=false)->bY env k=some (none,v))(hBf:∀i e,bY B i=some e->e.1=none)
  (hE:∀(j:Nat) x d v,ms[j]? = some x->on j->x.d=some d->x.e=some v->bY env d=some (none,v)) (hkey:∀(j:Nat) x,ms[j]? = some x->on j->aDm x.d k=true->inC C i j=true) :
  ∀(m:Nat),(∀(j:Nat) x,m<=j->ms[j]? = some x->on j->aDm x.d k=false)->aA0 C ms B i k m=some e->bY env k=some e
 | 0,hup,h=>by
  have h1:=hBf k e h;obtain⟨g,v⟩:=e;simp only at h1;subst h1;exact hB v h λj x hx hon=>hup j x (Nat.zero_le _) hx hon
 | m+1,hup,h=>by
  unfold aA0 at h;split at h
  ·rename_i x hx;split at h
   ·rename_i hb;simp only[b9] at hb;split at h <;> cases h;rename_i v hv;cases hd:x.d with
    | none=>rw[hd] at hb;cases hb.1
    | some d=>
     rw[hd] at hb;have e1:=ak hb.1;rw[<- e1]
     exact hE m x d v hx (hcl _ hb.2) hd hv
   ·rename_i hb;refine aMw hcl hB hBf hE hkey m (λj y hj hy hon=>?_) h;rcases m9 hj with e1 | e1
    ·subst e1;rw[hx] at hy;cases hy;cases hc:aDm x.d k with
     | false=>rfl
     | true=>rw[hc,hkey m x hx hon hc] at hb;simp at hb
    ·exact hup j y e1 hy hon
  ·rename_i hx;refine aMw hcl hB hBf hE hkey m (λj y hj hy hon=>?_) h;rcases m9 hj with e1 | e1
   ·subst e1;rw[hx] at hy;cases hy
   ·exact hup j y e1 hy hon
theorem aEn{listed:Array Bool}{i j:Nat}(hi:i < listed.size):rM (listed.setIfInBounds i true) j↔(j=i\/rM listed j):=by
 unfold rM;by_cases h:j=i
 ·subst h;simp[hi]
 ·rw[zM false (Ne.symm h)];simp[h]
theorem aHW{listed:Array Bool}{i:Nat}(h:i∈Region.ready .any ops listed):listed.getD i true=false/\i < ops.size/\∀j∈dir ops i,rM listed j:=by
 obtain⟨h0,o,ho,hall⟩:=mem_ready.1 h;refine⟨h0,(Array.getElem?_eq_some_iff.1 ho).1,λj hj=>?_⟩
 unfold dir at hj;rw[ho] at hj;obtain⟨e,he,e2⟩:=dh.1 hj;rw[my] at he;subst e2;exact hall e (by simpa using he.1) he.2
theorem aPx{listed:Array Bool}{i:Nat}(hs:listed.size=ops.size)(hi:i < ops.size)(hu:¬rM listed i)(h:∀j∈dir ops i,rM listed j):i∈Region.ready .any ops listed:=by
 rw[mem_ready]
 have ho:ops[i]? = some ops[i]:=Array.getElem?_eq_getElem hi;refine⟨?_,ops[i],ho,λe he hb=>?_⟩
 ·unfold rM at hu;have hl:i < listed.size:=by omega
  simp[hl] at hu ⊢;exact hu
 ·refine h e.on ?_;unfold dir;rw[ho]
  exact dh.2 ⟨e,my.2 ⟨by simpa using he,hb⟩,rfl⟩
theorem aRC{listed:Array Bool}{i:Nat}(h:listed.getD i true=false):¬rM listed i:=by
 unfold rM;have:i < listed.size:=by
  rcases Nat.lt_or_ge i listed.size with h' | h'
  ·exact h'
  ·simp[Array.getElem?_eq_none h'] at h
 simp[this] at h ⊢;exact h
theorem aMC{listed:Array Bool}(hs:listed.size=ops.size)(hedge:aGn ops.size (λi=>(dir ops i).all λj=>Nat.blt j i)=true):∀(k:Nat),k < ops.size->¬rM listed k->∃i,i∈Region.ready .any ops listed:=by
 intro k
 induction k using Nat.strongRecOn with
 | _ k ih=>
  intro hk hu;by_cases h:∃j∈dir ops k,¬rM listed j
  ·obtain⟨j,hj,hju⟩:=h;have:=eg.1 (pY hedge k hk) j hj;have h':Nat.ble (j+1) k=true:=this;have:=cn h';exact ih j (by omega) (by omega) hju
  ·exact⟨k,aPx hs hk hu λj hj=>Classical.byContradiction λhn=>h ⟨j,hj,hn⟩⟩
theorem aSK{F:Fence}{m:Nat}{Q:Exit->Act->World->Prop}{i:Nat}{o:Oper}{K:Act->World->Prop}{a:Act}{w:World}(ho:ops[i]? = some o) :
  wpOpIn F m P ops Q i K a w=(if Region.wanted o (yielded ops a.tmps) then o.wpIn F m P a w K Q else(∀f,o.about P w a.eval=some f->F.fn f)/\K (a.put o.dst undef) w):=by
 unfold wpOpIn;rw[ho]
theorem aBM{ms:List MI}:∀{B:Env} {k:Nat} {e:EV},aG1 ms B=true->bY B k=some e->e.1=none
 | [],k,e,_,h=>by simp[bY] at h
 | (j,e0) :: r,k,e,hb,h=>by
  simp only[aG1,b9] at hb;unfold bY at h;cases hj:bp j k with
  | false=>rw[hj] at h;exact aBM hb.2 h
  | true=>
   rw[hj] at h;dsimp only at h;subst h;obtain⟨g,v⟩:=e;cases g with
   | none=>rfl
   | some g=>simp at hb
theorem aMZ{C:List (List Nat)}{ms:List MI}{N i j:Nat}{x y:MI}{k:Nat}(h:aT0 C ms N=true)(hi:i < N)(hj:j < N)(hx:ms[i]? = some x)(hy:ms[j]? = some y)(hk:k∈x.keys)(hd:aDm y.d k=true) :
  (inC C i j=true/\j < i)\/inC C j i=true\/i=j:=by
 have h1:=pY h i hi;have hk':k∈aME ms i:=by unfold aME;rw[hx];exact hk
 have h2:=pY (eg.1 h1 k hk') j hj;have hdj:dAt ms j=y.d:=by unfold dAt;rw[hy]
 rw[hdj,hd] at h2;simp only[Bool.or_eq_true,b9] at h2;rcases h2 with ⟨h3,h4⟩ | h3 | h3
 ·have h4':Nat.ble (j+1) i=true:=h4;exact .inl ⟨h3,by have:=cn h4';omega⟩
 ·exact .inr (.inl h3)
 ·exact .inr (.inr (ak h3))
theorem aD3{f:Nat->Option EV}:∀{l:List Nat} {i:Nat} {e:EV},bY (l.map λk=>(k,f k)) i=some e->i∈l
 | [],i,e,h=>by simp[bY] at h
 | k :: l,i,e,h=>by
  simp only[jx,bY] at h;cases hb:bp k i with
  | true=>rw[<- ak hb];simp
  | false=>rw[hb] at h;exact List.mem_cons_of_mem _ (aD3 h)
def aEd(ms:List MI)(B:Env):Env:=(ms.filterMap λx=>match x.d with | some d=>some (d,match x.e with | some v=>some (none,v) | none=>none) | none=>none)++B
theorem aHX{B env:Env}(hBf:∀i e,bY B i=some e->e.1=none){i:Nat}:∀{l:List MI},(∀v,bY B i=some (none,v)->(∀x∈l,aDm x.d i=false)->bY env i=some (none,v))->(∀x∈l,∀d v,x.d=some d->x.e=some v->bY env d=some (none,v))->∀e,bY (aEd l B) i=some e->bY env i=some e
 | [],hB,_=>λe h=>by
  have h:bY B i=some e:=by simpa[aEd] using h
  have h1:=hBf i e h;obtain⟨g,v⟩:=e;simp only at h1;subst h1;exact hB v h (λx hx=>by cases hx)
 | x :: l,hB,hE=>by
  intro e h;have hE':∀y∈l,∀d v,y.d=some d->y.e=some v->bY env d=some (none,v):=λy hy=>hE y (by simp[hy])
  unfold aEd at h;cases hd:x.d with
  | none=>
   rw[l5,hd] at h;refine aHX hBf (l:=l) (λv hv hl=>hB v hv λy hy=>?_) hE' e h;rcases cx.1 hy with e1 | e1
   ·subst e1;rw[hd];rfl
   ·exact hl y e1
  | some d=>
   rw[l5,hd] at h;simp only[List.cons_append,bY] at h;cases hb:bp d i with
   | true=>
    rw[hb] at h;dsimp only at h;cases he:x.e with
    | none=>rw[he] at h;cases h
    | some v=>
     rw[he] at h;cases h;rw[<- ak hb]
     exact hE x (by simp) d v hd he
   | false=>
    rw[hb] at h;refine aHX hBf (l:=l) (λv hv hl=>hB v hv λy hy=>?_) hE' e h;rcases cx.1 hy with e1 | e1
    ·subst e1;rw[hd];exact hb
    ·exact hl y e1
end
end Go.UK

namespace Go.UK
open Go
set_option linter.all false
variable [bL]
def xA(l:List Oper)(i:Nat):Oper:=(l[i]?).getD default
def aGu(l:List Oper)(o:Oper)(need:Env):Bool:=
 match o.guard with
 | none=>false
 | some (j,want)=>match (xA l j).dst with
  | some dj=>match get need dj with
   | some (.v (.bool b))=>match aI8 b want with | true=>false | false=>true
   | some (.tup [])=>true
   | _=>false
  | none=>false
def aJP(l:List Oper)(o:Oper):List Nat:=
 (match o.guard with
  | some (j,_)=>match (xA l j).dst with | some d=>[d] | none=>[]
  | none=>[])++o.op.operands.toList.filterMap λx=>match x with | .tmp t=>some t | _=>none
def imOf(im:Nat->Bool)(o:Oper):Bool:=match o.dst with | some d=>im d | none=>false
def eAt(ms:List MI)(i:Nat):Option AV:=match ms[i]? with | some x=>x.e | none=>none
def aBR{α:Type}:Option α->Bool
 | none=>true
 | some _=>false
def aJp{α:Type}:Option α->Bool
 | none=>false
 | some _=>true
def aJr : Option AV->Bool
 | some (.tup [])=>true
 | _=>false
theorem aKE{x:Option AV}(h:aJr x=true):x=some (.tup []):=by
 unfold aJr at h;split at h
 ·rfl
 ·cases h
section
variable {P:Program} {T:TypeId→Option TI} {n:Fr}
theorem aTf{ops:Array Oper}{o:Oper}{need env:Env}{H H':List Box}{x:AV}(hs:Sub need env)(hg:gOK ops o need=true)(b:Big P n o need H x H'):opS P n ops o ⟨env,H⟩ ⟨env.put o.dst (none,x),H'⟩:=by
 refine aJU ?_ (b env hs)
 unfold gOK at hg ⊢;split at hg
 ·rfl
 ·rename_i j want hgd;split at hg
  ·cases hg
  ·rename_i dj hdj;split at hg
   ·rename_i b' hb';have:get env dj=some (.v (.bool b')):=by
     have:=hs dj _ (aH7 hb')
     unfold get;rw[this]
    rw[this]
    exact hg
   ·cases hg
theorem aPs{l:List Oper}{i:Nat}{o:Oper}(ho:l.toArray[i]? = some o){need env:Env}{H:List Box}(hs:Sub need env)(h:aGu l o need=true)(hd:dOK n.n o.dst=true):opS P n l.toArray o ⟨env,H⟩ ⟨match o.dst with | some d=>env.set d (none,.tup []) | none=>env,H⟩:=by
 have hw:∀ctx a w,Sat n ctx ⟨env,H⟩ a w->Region.wanted o (yielded l.toArray a.tmps)=false:=by
  intro ctx a w hsat;obtain⟨bs,hm⟩:=hsat;have hE:=zL hs hm.env;unfold aGu at h;split at h
  ·cases h
  ·rename_i j want hg;split at h
   ·rename_i dj hdj;have hfl:aAh l.toArray j=some dj:=by
     unfold aAh;unfold xA at hdj;cases hj:l[j]? with
     | none=>rw[hj] at hdj;exact absurd (show(none:Option Tmp)=some dj from hdj) (by simp)
     | some oj=>rw[hj] at hdj;simpa[hj] using hdj
    split at h
    ·rename_i b hb;split at h
     ·cases h
     ·rename_i hsb;exact aHk hg hfl hb hsb hE
    ·rename_i hb;exact aFV hg hfl hb hE
    ·cases h
   ·cases h
 refine aBr ?_ hw;unfold aK3;cases hdst:o.dst with
 | none=>rfl
 | some d=>
  rw[hdst] at hd;simp only[dOK] at hd;split at hd
  ·cases hd
  ·rename_i hn;simp only[hn]
end
end Go.UK

open Bool renaming and_eq_true→b9
open Nat renaming beq→bp,eq_of_beq_eq_true→ak,le_of_ble_eq_true→cn
open Go.Sem renaming run_bind→bf,run_pure→ck
namespace Go.UK
open Go
set_option linter.all false
variable [bL]
section
variable {P:Program} {T:TypeId→Option TI} {n:Fr}
theorem tn_n{K:ASt->Prop}{Q:Exit->ASt->Prop}{st:ASt}(h:K st):tn K Q .normal st:=h
theorem tn_x{K:ASt->Prop}{Q:Exit->ASt->Prop}{id:Nat}{st:ASt}(h:Q (.exit id) st):tn K Q (.exit id) st:=h
theorem aRr{id:Nat}{Q:Exit->ASt->Prop}{st:ASt}(h:Q .normal st):inB id Q (.exit id) st:=by simp only[inB,if_true];exact h
theorem inB_x{id id':Nat}{Q:Exit->ASt->Prop}{st:ASt}(hne:bp id' id=false)(h:Q (.exit id') st):inB id Q (.exit id') st:=by
 simp only[inB]
 rw[if_neg (by intro e;subst e;simp at hne)]
 exact h
theorem aA3{α β:Type}{x:Option α}{f:α->Option β}{r:β}(h:x.bind f=some r):∃y,x=some y/\f y=some r:=by
 cases x with
 | none=>cases h
 | some y=>exact⟨y,rfl,h⟩
theorem aOg{α:Type}{b:Bool}{px py:Option α}{r:α}(d:Nat){ops:Array Oper}{l:List Oper}{K:ASt->Prop}{st:ASt}(h:cond b px py=some r)(hb:get st.env d=some (.v (.bool b)))
  (h1:px=some r->awl P n ops l K (aPG d true st)) (h2:py=some r->awl P n ops l K (aPG d false st)):awl P n ops l K st:=by
 cases b with
 | true=>exact aOE d true rfl hb (h1 h)
 | false=>exact aOE d false rfl hb (h2 h)
def aQC : List AV->AV
 | [x]=>x
 | l => .tup l
def aAD(k:Nat):List AV->Env
 | []=>[]
 | x :: r=>(k,some (none,x)) :: aAD (k+1) r
theorem aG3{μ:Mem}{tmps:Array Value}:∀(xs:List AV) (vs:List Value) (k:Nat),RvL μ xs vs->(∀(i:Nat) v,vs[i]? = some v->tmps[k+i]? = some v)->eY μ (aAD k xs) tmps
 | [],_,_,_,_=>by intro i e h;simp[aAD,bY] at h
 | x :: xs,vs,k,hr,ht=>by
  obtain⟨v,r,e,h1,h2⟩:=hr;subst e;intro i e h;unfold aAD bY at h;cases hb:bp k i with
  | true=>
   rw[hb] at h;cases h;have:=ak hb;subst this;refine⟨v,by simpa using ht 0 v rfl,?_⟩
   show Rv μ x v;cases x with
   | tup vs=>simp[Rv0,AV.isAgg,Rc] at h1
   | _=>exact h1
  | false=>
   rw[hb] at h;exact aG3 xs r (k+1) h2 (λi v hv=>by have:=ht (i+1) v (by simpa using hv);rw[show k+1+i=k+(i+1) by omega];exact this) i e h
def aN0(T:TypeId->Option TI)(env:Env)(H:List Box):ResultVar->Option AV
 | .tmp t=>match get env t with
  | some x=>match fK x with | true=>some x | false=>none
  | none=>none
 | .cell a ty=>match get env a,T ty with
  | some q,some i=>match aHp H q with
   | some x=>match bp x.n i.size&&(x.isAgg==i.kind.agg)&&fK x with | true=>some x | false=>none
   | none=>none
  | _,_=>none
def aDQ(T:TypeId->Option TI)(env:Env)(H:List Box):List ResultVar->Option (List AV)
 | []=>some []
 | r :: rs=>match aN0 T env H r,aDQ T env H rs with
  | some x,some l=>some (x :: l)
  | _,_=>none
theorem yO{μ:Mem}{x:AV}{y:Value}(h:Rv μ x y)(hn:fK x=true):Rv0 μ x y:=by
 cases x <;> first | exact h | simp[fK] at hn
theorem uN{μ:Mem}{x:AV}{y:Value}(h:Rv0 μ x y):Rv μ x y:=by
 cases x <;> first | exact h | (simp[Rv0,AV.isAgg,Rc] at h)
theorem aMg(hT:TOK P T){μ:Mem}{env:Env}{tmps:Array Value}(ok:μ.OK)(he:eY μ env tmps){r:ResultVar}{x:AV}(h:aN0 T env μ.H r=some x) :
  ∃y,(match r with | .tmp t=>(pure (tmps.getD t undef):Sem Value) | .cell a t=>do loadVar t (<- asAddr (tmps.getD a undef))).run P μ.w = .ok y μ.w/\Rv0 μ x y:=by
 cases r with
 | tmp t=>
  simp only[aN0] at h;split at h <;> try cases h
  rename_i x' hx;split at h <;> cases h;rename_i hn;obtain⟨y,h1,h2⟩:=he.get hx;exact⟨y,by simp only[xV h1,ck],yO h2 hn⟩
 | cell a ty=>
  simp only[aN0] at h;split at h <;> try cases h
  rename_i q i hq hi;split at h <;> try cases h
  rename_i x' hx;split at h <;> cases h;rename_i hb;simp only[b9,beq_iff_eq] at hb;obtain⟨y,h1,h2⟩:=he.get hq;obtain⟨b,off,zs,h3,h4,h5⟩:=aGa ok hx h2;obtain⟨v,h6,h7⟩:=zO hT hi h4 hb.1.2 (ak hb.1.1) h5;refine⟨v,?_,yO h7 hb.2⟩
  simp only[xV h1,h3,asAddr,bf,ck,Result.andThen_ok,h6]
theorem aBh(hT:TOK P T){μ:Mem}{env:Env}{tmps:Array Value}(ok:μ.OK)(he:eY μ env tmps):∀(rs:List ResultVar) (xs:List AV),aDQ T env μ.H rs=some xs ->
  ∃ys,(List.mapM (λ(r:ResultVar)=>match r with | .tmp t=>(pure (tmps.getD t undef):Sem Value) | .cell a t=>do loadVar t (<- asAddr (tmps.getD a undef))) rs).run P μ.w = .ok ys μ.w/\RvL μ xs ys/\ys.length=rs.length
 | [],xs,h=>by
  simp only[aDQ,Option.some.injEq] at h;subst h;exact⟨[],by simp,rfl,rfl⟩
 | r :: rs,xs,h=>by
  simp only[aDQ] at h;split at h <;> cases h;rename_i x l h1 h2;obtain⟨y,g1,g2⟩:=aMg (P:=P) hT ok he h1;obtain⟨ys,g3,g4,g5⟩:=aBh hT ok he rs l h2;refine⟨y :: ys,?_,⟨y,ys,rfl,g2,g4⟩,by simp[g5]⟩
  simp only[List.mapM_cons,bf,g1,Result.andThen_ok,g3,ck]
def aMX(lo:Nat)(H H':List Box)(ret:AV):Bool:=
 sO lo H H'&&(Nat.ble H'.length H.length&&(lF H' H'&&low H' ret))
def aMk(T:TypeId->Option TI)(rs:List ResultVar)(st:ASt)(ret:AV)(H':List Box):Option (AV×List Box):=
 match aDQ T st.env st.H rs with
 | some xs=>some (wk (aQC xs) ret,vA st.H H')
 | none=>none
def aDg(T:TypeId->Option TI)(lo:Nat)(rs:List ResultVar)(ret:AV)(H':List Box)(e:Exit)(st:ASt):Prop:=
 (e = .ret\/e = .normal)/\aMX lo st.H H' ret=true/\aMk T rs st ret H'=some (ret,H')
theorem fin_r{lo:Nat}{rs:List ResultVar}{ret:AV}{H':List Box}{st:ASt}(h:(aMX lo st.H H' ret,aMk T rs st ret H')=(true,some (ret,H')):=by kernel_rfl):aDg T lo rs ret H' .ret st:=by
 simp only[Prod.mk.injEq] at h;exact⟨.inl rfl,h.1,h.2⟩
theorem fin_n{lo:Nat}{rs:List ResultVar}{ret:AV}{H':List Box}{st:ASt}(h:(aMX lo st.H H' ret,aMk T rs st ret H')=(true,some (ret,H'))):aDg T lo rs ret H' .normal st:=by
 simp only[Prod.mk.injEq] at h;exact⟨.inr rfl,h.1,h.2⟩
theorem aPa(hT:TOK P T){f:FuncId}{fn:Func}{c:Code}{rs:List ResultVar}{args:List AV}{ret:AV}{H H':List Box}{lo m:Nat}(hf:P.funcs[f]? = some fn)(hb:fn.body=some c)
  (hk:(bp fn.ntmps m&&(Nat.ble args.length m&&bp lo H.length))=true)
  (hres:fn.results=rs.toArray) (h:aw P (Fr.f m lo) c (aDg T lo rs ret H') ⟨aAD 0 args,H⟩):FnM P f H args ret H':=by
 intro w F bs vs ok hr;simp only[b9] at hk;obtain⟨k1,k2,k3⟩:=hk;have hn:=ak k1;have hargs:=cn k2;have hlo:=ak k3;refine(callsIn_wide (n:=0)).1 (callsIn_of_wp hf hb trivial ?_)
 have lens:∀(μ:Mem) (xs:List AV) (vs:List Value),RvL μ xs vs->vs.length=xs.length:=by
  intro μ xs
  induction xs with
  | nil=>intro vs h;have:vs=[]:=h;subst this;rfl
  | cons x xs ih=>rintro vs ⟨v,r,e,_,h2⟩;subst e;simp[ih r h2]
 have hlen:=lens _ _ _ hr;have hsat:Sat (Fr.f m lo) ⟨H,bs,w,F⟩ ⟨aAD 0 args,H⟩ { tmps:=vs.toArray++Array.replicate (fn.ntmps - vs.toArray.size) undef,defers:=[] } w:=by
  refine⟨bs,{ h:=rfl,ok:=ok,ext:=Ext.refl _,env:=aG3 args vs 0 hr ?_,size := ?_,low:=Nat.le_of_eq hlo.symm,defers:=trivial,nod:=λ_=>rfl,outs:=λp hp=>by cases hp }⟩
  ·intro i v hv;have:=aX hv;rw[Nat.zero_add,Array.getElem?_append_left (by simpa using this)]
   simpa using hv
  ·simp;omega
 have hwide:(Fr.f m lo).F=Fence.wide:=Fr.wide rfl;have hh:=h ⟨H,bs,w,F⟩ _ _ hsat;rw[hwide] at hh;refine wpIn_mono hh ?_;rintro e a' w' ⟨st',⟨he,h1,h2⟩,bs',hm⟩
 dsimp only at hm;unfold aMk at h2;cases hxs:aDQ T st'.env st'.H rs with
 | none=>rw[hxs] at h2;cases h2
 | some xs=>
 rw[hxs] at h2;simp only[Option.some.injEq,Prod.mk.injEq] at h2;simp only[aMX,b9] at h1;obtain⟨b1,b2,b3,b4⟩:=h1;obtain⟨ys,hys,hrl,hyl⟩:=aBh (P:=P) (μ:=⟨st'.H,bs',w',F⟩) hT hm.ok hm.env rs xs hxs;have hxl:=lens _ _ _ hrl;obtain⟨v,hres',hrv⟩:∃v,(results fn a'.tmps).run P w' = .ok v w'/\Rv ⟨st'.H,bs',w',F⟩ (aQC xs) v:=by
  have h0:(results fn a'.tmps).run P w'=Sem.run P (pure (if h:ys.toArray.size=1 then ys.toArray[0] else Value.tuple ys.toArray)) w':=by
   simp only[results,hres,bf,Array.mapM_eq_mapM_toList,Sem.run_map]
   exact(congrArg (λr:Result (List Value)=>(r.andThen λa w'=>Result.ok a.toArray w').andThen λa w'=>Sem.run P (pure (if h:a.size=1 then a[0] else Value.tuple a)) w') hys)
  match xs,ys,hrl,hxl,h0 with
  | [],ys,hrl,hxl,h0=>
   have:ys=[]:=hrl;subst this;exact⟨_,h0,#[],rfl,rfl⟩
  | [x],ys,hrl,hxl,h0=>
   obtain⟨y,r,e,g1,g2⟩:=hrl;have:r=[]:=g2;subst this e;exact⟨y,h0,uN g1⟩
  | x :: x' :: xr,ys,hrl,hxl,h0=>
   have:¬ys.toArray.size=1:=by simp at hxl ⊢;omega
   rw[dif_neg this] at h0;exact⟨_,h0,_,rfl,by simpa using hrl⟩
 obtain⟨less,ext,ok'⟩:=aNc (ctx:=⟨H,bs,w,F⟩) (lo:=lo) b1 (cn b2) b3 h2.2 hm.ok hm.ext hm.low;have hfin:Rv ⟨H',bs'.take H'.length,w',F⟩ ret v:=by
  have:=aN3 (e:=ret) hrv;rw[h2.1] at this;exact vP less b4 (by rw[uJ];exact this)
 rcases he with rfl | rfl
 ·exact⟨hm.nod rfl,_,hres',_,_,rfl,ext,ok',hfin⟩
 ·exact⟨hm.nod rfl,_,hres',_,_,rfl,ext,ok',hfin⟩
theorem FnM.later{f:FuncId}{args:List AV}{ret:AV}(C:FnM P f [] args ret [])(w:World)(F:Nat->Nat->Prop)(vs:List Value)(ok:(⟨[],[],w,F⟩:Mem).OK)(hr:RvL ⟨[],[],w,F⟩ args vs) :
  Calls P f vs.toArray w λe w'=>∃y,e = .returned y/\cL w w'/\Rv ⟨[],[],w',F⟩ ret y:=by
 refine(C w F [] vs ok hr).mono ?_;rintro e w' ⟨y,bs',rfl,ext,ok',hy⟩
 have hl:bs'=[]:=List.eq_nil_of_length_eq_zero ok'.len;subst hl;refine⟨y,rfl,⟨ext.size,λb hb=>ext.blocks b hb ?_,ext.os,ext.tape,ext.output⟩,hy⟩
 rintro o ⟨id,h,_⟩
 simp at h
end
end Go.UK

