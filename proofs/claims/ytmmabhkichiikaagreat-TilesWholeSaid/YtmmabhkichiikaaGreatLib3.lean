/- The own layer: abstract values, their memory, and the steps of the model over them: for any program. -/
import Derived.Test.YtmmabhkichiikaaGreatLib2
open List renaming getElem?_append_left→bd,getElem?_append_right→ci,getElem?_drop→gk,getElem?_eq_getElem→af,getElem?_map→bq,getElem?_of_mem→dm,getElem?_take→bz,getElem_mem→bh,length_append→ar,nodup_cons→kx
open Nat renaming add_sub_cancel_left→fv,beq→au,eq_of_beq_eq_true→ag,le_refl→ay,lt_or_ge→d6
namespace Go.UK
open Go
set_option linter.all false
variable [bS]
def FnM(P:Program)(f:FuncId)(H:List Box)(args:List AV)(ret:AV)(H':List Box):Prop:=
 ∀(w:World) (F:Nat->Nat->Prop) (bs:List (Option Nat)) (vs:List Value),(⟨H,bs,w,F⟩:Mem).OK->RvL ⟨H,bs,w,F⟩ args vs ->
  Calls P f vs.toArray w λe w'=>∃y bs',e = .returned y/\Ext ⟨H,bs,w,F⟩ ⟨H',bs',w',F⟩/\(⟨H',bs',w',F⟩:Mem).OK/\Rv ⟨H',bs',w',F⟩ ret y
def aTd(P:Program)(q:Nat×String×Nat):Bool:=
 match P.info? q.1 with
 | some ti=>match ti.methods.find? (·.name==q.2.1) with
  | some m=>m.path.isEmpty&&(match m.func,P.underlying q.1 with
   | some (g,true),some (.pointer _)=>au g q.2.2
   | some (_,false),some (.pointer _)=>false
   | some (g,false),some _=>au g q.2.2
   | _,_=>false)
  | none=>false
 | none=>false
def aOF(P:Program)(q:Nat×String×Nat):Prop:=∀(v:Value) (w:World) (fuel:Nat),(method (fuel+1) q.1 v q.2.1).run P w = .ok (q.2.2,v) w
theorem aPE{P:Program}{q:Nat×String×Nat}(h:aTd P q=true):aOF P q:=by
 intro v w fuel;unfold aTd at h;split at h <;> try cases h
 rename_i ti hti;split at h <;> try cases h
 rename_i m hm;simp only[Bool.and_eq_true] at h;obtain⟨h1,h2⟩:=h;have hp:m.path.toList=[]:=by rw[Array.isEmpty_iff.1 h1]
 have hrun:(typeInfo q.1).run P w = .ok ti w:=by simp[typeInfo,hti]
 split at h2 <;> try cases h2
 ·rename_i g e hf hu;have hg:=ag h2;subst hg;simp[method,hrun,hm,hp,follow,hf,receiverAt,underlying,hu,Place.get]
 ·rename_i g d hne hf hu;have hg:=ag h2;subst hg;have key:∀wr,(receiverAt q.1 (.val v) false wr).run P w = .ok v w:=by
   intro wr;cases d <;> first | (exact absurd rfl (hne _)) | simp[receiverAt,underlying,hu,Place.get]
  simp[method,hrun,hm,hp,follow,hf,key]
def sC(P:Program)(f:FuncId):Prop:=(∃fn,P.funcs[f]? = some fn/\(fn.name == "runtime.NumGoroutine")=false/\fn.body.isNone=false)/\∀q∈bS.ms,aOF P q
def nW{α:Type}(H:List α):List Nat->List α->List α
 | s :: σ,x :: xs=>nW (H.set s x) σ xs
 | _,_=>H
theorem iM{α:Type}:∀(σ:List Nat) (H xs:List α),(nW H σ xs).length=H.length
 | [],H,xs=>by cases xs <;> rfl
 | s :: σ,H,[]=>rfl
 | s :: σ,H,x :: xs=>by unfold nW;rw[iM σ];simp
theorem xH{α:Type}:∀(σ:List Nat) (H xs:List α) (i:Nat),i∉σ->(nW H σ xs)[i]? = H[i]?
 | [],H,xs,i,_=>by cases xs <;> rfl
 | s :: σ,H,[],i,_=>rfl
 | s :: σ,H,x :: xs,i,h=>by
  unfold nW;rw[xH σ _ _ i (λh'=>h (by simp[h']))]
  exact List.getElem?_set_ne (λe=>h (by simp[e]))
theorem zS{α:Type}:∀(σ:List Nat) (H xs:List α) (j s:Nat) (x:α),σ.Nodup->σ[j]? = some s->xs[j]? = some x->s < H.length->(nW H σ xs)[s]? = some x
 | [],H,xs,j,s,x,_,h,_,_=>by simp at h
 | t :: σ,H,[],j,s,x,_,_,h,_=>by simp at h
 | t :: σ,H,y :: xs,j,s,x,hn,hj,hx,hs=>by
  unfold nW;rw[kx] at hn;cases j with
  | zero=>
   simp only[List.getElem?_cons_zero,Option.some.injEq] at hj hx;subst hj hx;rw[xH σ _ _ t hn.1]
   exact List.getElem?_set_self hs
  | succ j=>
   exact zS σ _ xs j s x hn.2 (by simpa using hj) (by simpa using hx) (by simpa using hs)
def rn(σ:List Nat)(m i:Nat):Nat:=match σ[i]? with | some j=>j | none=>m+(i - σ.length)
def aHC : List Nat->Bool
 | []=>true
 | x :: xs => !(xs.any (au x))&&aHC xs
theorem aCA : ∀{l:List Nat},aHC l=true->l.Nodup
 | [],_=>List.nodup_nil
 | x :: xs,h=>by
  simp only[aHC,Bool.and_eq_true,Bool.not_eq_true'] at h;refine kx.2 ⟨λhx=>?_,aCA h.2⟩
  have:=List.any_eq_false.1 h.1 x hx;simp at this
def cL(H:List Box)(σ:List Nat)(H':List Box):List Box:=
 nW H σ ((H'.take σ.length).map (iK (rn σ H.length)))++(H'.drop σ.length).map (iK (rn σ H.length))
theorem zA(f:Nat->Nat)(x:Box):(iK f x).whole=x.whole:=by cases x <;> rfl
theorem uP{f:Nat->Nat}{x:Box}:iK f x = .dead↔x = .dead:=by cases x <;> simp[iK]
theorem aCI{σ:List Nat}{m i s:Nat}(h:σ[i]? = some s):rn σ m i=s:=by unfold rn;rw[h]
theorem aPB{σ:List Nat}{m i:Nat}(h:σ.length<=i):rn σ m i=m+(i - σ.length):=by unfold rn;rw[List.getElem?_eq_none h]
section frame
variable {H:List Box} {bs:List (Option Nat)} {w:World} {F:Nat→Nat→Prop} {σ:List Nat} {Hc:List Box}
def rest(H:List Box)(bs:List (Option Nat))(σ:List Nat)(b o:Nat):Prop:=
 ∃id:Nat,id∉σ/\bs[id]? = some (some b)/\((∃x,H[id]? = some x/\x.whole=true)\/(∃m,H[id]? = some (.tail m)/\m<=o))
def mC(H:List Box)(bs:List (Option Nat))(w:World)(F:Nat->Nat->Prop)(σ:List Nat)(Hc:List Box):Mem:=
 ⟨Hc,σ.map λs=>(bs[s]?).getD none,w,λb o=>F b o\/rest H bs σ b o⟩
structure aKP(H:List Box)(bs:List (Option Nat))(σ:List Nat)(Hc:List Box):Prop where
 nodup:σ.Nodup
 len:Hc.length=σ.length
 box:∀(i:Nat) y,Hc[i]? = some y->∃s,σ[i]? = some s/\H[s]? = some (iK (rn σ H.length) y)
theorem aKP.at(L:aKP H bs σ Hc)(hl:bs.length=H.length){i s:Nat}(h:σ[i]? = some s):s < H.length/\(mC H bs w F σ Hc).bs[i]? = bs[s]? := by
 have hi:=aZ h;obtain⟨y,hy⟩:∃y,Hc[i]? = some y:=by
  rw[<- L.len] at hi;exact⟨_,af hi⟩
 obtain⟨s',h1,h2⟩:=L.box i y hy;rw[h] at h1;cases h1;have hs:=aZ h2;refine⟨hs,?_⟩
 show(σ.map λs=>(bs[s]?).getD none)[i]? = _;rw[bq,h]
 have:s < bs.length:=by omega
 simp[af this]
theorem aGd(L:aKP H bs σ Hc)(hl:bs.length=H.length){b o:Nat}:(⟨H,bs,w,F⟩:Mem).own b o↔(mC H bs w F σ Hc).own b o\/rest H bs σ b o:=by
 constructor
 ·rintro⟨id,h1,h2⟩
  by_cases hid:id∈σ
  ·left;obtain⟨i,hi⟩:=dm hid;obtain⟨hs,hb⟩:=L.at (w:=w) (F:=F) hl hi;obtain⟨y,hy⟩:∃y,Hc[i]? = some y:=by
    have:=aZ hi;rw[<- L.len] at this;exact⟨_,af this⟩
   obtain⟨s',g1,g2⟩:=L.box i y hy;rw[hi] at g1;cases g1;refine⟨i,hb.trans h1,?_⟩
   dsimp only at h2;rcases h2 with ⟨x,h2,h3⟩ | ⟨m,h2,h3⟩
   ·rw[g2] at h2;cases h2;exact .inl ⟨y,hy,by rw[zA] at h3;exact h3⟩
   ·rw[g2] at h2;refine .inr ⟨m,?_,h3⟩
    cases y <;> simp[iK] at h2;subst h2;exact hy
  ·exact .inr ⟨id,hid,h1,h2⟩
 ·rintro(⟨i,h1,h2⟩ | ⟨id,_,h1,h2⟩)
  ·have hi:i < σ.length:=by
    have:=aZ h1;simpa[mC] using this
   have hs:=af hi;obtain⟨hlt,hb⟩:=L.at (w:=w) (F:=F) hl hs;rw[hb] at h1;refine⟨_,h1,?_⟩
   obtain⟨y,hy⟩:∃y,Hc[i]? = some y:=⟨_,af (by rw[L.len];exact hi)⟩
   obtain⟨s',g1,g2⟩:=L.box i y hy;rw[hs] at g1;cases g1;rcases h2 with ⟨x,h2,h3⟩ | ⟨m,h2,h3⟩
   ·refine .inl ⟨_,g2,?_⟩
    have:Hc[i]? = some x:=h2;rw[hy] at this;cases this;rw[zA];exact h3
   ·have:Hc[i]? = some (.tail m):=h2;rw[hy] at this;cases this;exact .inr ⟨m,g2,h3⟩
  ·exact⟨id,h1,h2⟩
theorem aBE(L:aKP H bs σ Hc)(hl:bs.length=H.length):aFL (rn σ H.length) ⟨H,bs,w,F⟩ (mC H bs w F σ Hc) where
 w:=rfl
 M b o h:=by
  rcases h with (h | h) | h
  ·exact .inl h
  ·exact .inr ((aGd (w:=w) (F:=F) L hl).2 (.inr h))
  ·exact .inr ((aGd (w:=w) (F:=F) L hl).2 (.inl h))
 bs i hi _:=by
  have hi':i < σ.length:=by rw[<- L.len];exact hi
  have hs:=af hi';rw[(L.at (w:=w) (F:=F) hl hs).2,aCI hs]
 tail i m h:=by
  obtain⟨s,h1,h2⟩:=L.box i _ h;rw[aCI h1]
  exact h2
 gro i k es h:=by
  obtain⟨s,h1,h2⟩:=L.box i _ h;rw[aCI h1]
  exact h2
 lt i hi:=by
  have hi':i < σ.length:=by rw[<- L.len];exact hi
  have hs:=af hi';rw[aCI hs]
  exact(L.at (w:=w) (F:=F) hl hs).1
theorem aIe(L:aKP H bs σ Hc)(ok:(⟨H,bs,w,F⟩:Mem).OK)(hlow:nT Hc Hc=true):(mC H bs w F σ Hc).OK where
 foreign b o h:=by
  rcases h with h | ⟨id,_,h1,h2⟩
  ·exact ok.foreign b o h
  ·rcases h2 with ⟨x,h2,h3⟩ | ⟨m,h2,_⟩
   ·exact cK ok (b:=b) h1 h2 (Box.whole_live h3)
   ·exact cK ok (b:=b) h1 h2 (by simp)
 clear b o h h':=by
  have hown:=(aGd (w:=w) (F:=F) L ok.len).2 (.inl h)
  rcases h' with h' | ⟨id,hid,h1,h2⟩
  ·exact ok.clear b o hown h'
  ·obtain⟨i,g1,g2⟩:=h;have hi:i < σ.length:=by
    have:=aZ g1;simpa[mC] using this
   have hs:=af hi;obtain⟨hlt,hb⟩:=L.at (w:=w) (F:=F) ok.len hs;rw[hb] at g1;obtain⟨y,hy⟩:∃y,Hc[i]? = some y:=⟨_,af (by rw[L.len];exact hi)⟩
   obtain⟨s',k1,k2⟩:=L.box i y hy;rw[hs] at k1;cases k1;have live:iK (rn σ H.length) y ≠ .dead:=by
    intro e;have e:=uP.1 e;subst e;rcases g2 with ⟨x,g2,g3⟩ | ⟨m,g2,_⟩
    ·have:Hc[i]? = some x:=g2;rw[hy] at this;cases this;cases g3
    ·have:Hc[i]? = some (.tail m):=g2;rw[hy] at this;cases this
   have:σ[i]=id:=by
    rcases h2 with ⟨x,h2,h3⟩ | ⟨m,h2,_⟩
    ·exact ok.apart _ _ b _ _ g1 h1 k2 h2 live (Box.whole_live h3)
    ·exact ok.apart _ _ b _ _ g1 h1 k2 h2 live (by simp)
   exact hid (this▸bh hi)
 len:=by simp[mC,L.len]
 glob g hg:=(aBE (w:=w) (F:=F) L ok.len).globAt (ok.glob g hg)
 box i o y ho hy:=by
  obtain⟨s,h1,h2⟩:=L.box i y hy;obtain⟨hlt,hb⟩:=L.at (w:=w) (F:=F) ok.len h1;have less:=aBE (w:=w) (F:=F) L ok.len;rw[hb] at ho;have hok:=ok.box s o _ ho h2;cases y with
  | dead=>trivial
  | var c=>
   obtain⟨b,ys,T,g1,g2,g3⟩:=hok;exact⟨b,ys,T,g1,g2,Rc.less less _ _ (zZ hlow hy) g3⟩
  | tail m=>exact hok
  | mp c0=>
   cases c0 with
   | kv kvs=>
    obtain⟨b,es,k,g1,g2,g3⟩:=hok;exact⟨b,es,k,g1,g2,g3.mono less.keeps⟩
   | it _ _=>exact hok
   | mi m=>
    obtain⟨b,c,t,g1,g2,g3⟩:=hok;exact⟨b,c,t,g1,g2,Rc.less less (.mp m) _ (aD7 hlow hy) g3⟩
  | loop r=>exact hok
  | gro k es=>
   obtain⟨g0,g1 | ⟨b,ys,U,g1,g2,y1,y2,g3,g4⟩⟩:=hok
   ·exact⟨g0,.inl g1⟩
   ·exact⟨g0,.inr ⟨b,ys,U,g1,g2,y1,y2,g3,RdL.mono less.keeps _ _ g4⟩⟩
 apart i j b x y hi hj hx hy hxd hyd:=by
  obtain⟨s,h1,h2⟩:=L.box i x hx;obtain⟨t,h3,h4⟩:=L.box j y hy;rw[(L.at (w:=w) (F:=F) ok.len h1).2] at hi;rw[(L.at (w:=w) (F:=F) ok.len h3).2] at hj;have e:=ok.apart s t b _ _ hi hj h2 h4 (λe=>hxd (uP.1 e)) (λe=>hyd (uP.1 e))
  subst e;have hij:=(List.getElem?_inj (aZ h1) L.nodup).1 (h1.trans h3.symm)
  exact hij
def yW(bs:List (Option Nat))(σ:List Nat)(bc:List (Option Nat)):List (Option Nat):=nW bs σ (bc.take σ.length)++bc.drop σ.length
theorem oB{id:Nat}{Hc':List Box}(hid:id∉σ)(hlt:id < H.length):(cL H σ Hc')[id]? = H[id]? := by
 unfold cL;rw[bd (by rw[iM];exact hlt),xH _ _ _ _ hid]
theorem nM{id:Nat}{bc:List (Option Nat)}(hid:id∉σ)(hlt:id < bs.length):(yW bs σ bc)[id]? = bs[id]? := by
 unfold yW;rw[bd (by rw[iM];exact hlt),xH _ _ _ _ hid]
theorem pU{Hc':List Box}(hn:σ.Nodup)(hs:∀s∈σ,s < H.length)(hlen:σ.length<=Hc'.length){i:Nat}{y:Box}(hy:Hc'[i]? = some y):(cL H σ Hc')[rn σ H.length i]? = some (iK (rn σ H.length) y):=by
 unfold cL;rcases d6 i σ.length with hi | hi
 ·have h1:=af hi;rw[aCI h1]
  have hlt:=hs _ (bh hi)
  rw[bd (by rw[iM];exact hlt)]
  refine zS σ H _ i _ _ hn h1 ?_ hlt;rw[bq,bz,if_pos hi,hy]
  rfl
 ·rw[aPB hi,ci (by rw[iM];omega),iM,fv,bq,gk,show σ.length+(i - σ.length)=i by omega,hy]
  rfl
theorem aCo{bc:List (Option Nat)}(hn:σ.Nodup)(hs:∀s∈σ,s < bs.length){i:Nat}{y:Option Nat}(hy:bc[i]? = some y):(yW bs σ bc)[rn σ bs.length i]? = some y:=by
 unfold yW;rcases d6 i σ.length with hi | hi
 ·have h1:=af hi;rw[aCI h1]
  have hlt:=hs _ (bh hi)
  rw[bd (by rw[iM];exact hlt)]
  refine zS σ bs _ i _ _ hn h1 ?_ hlt;rw[bz,if_pos hi,hy]
 ·rw[aPB hi,ci (by rw[iM];omega),iM,fv,gk,show σ.length+(i - σ.length)=i by omega,hy]
theorem aA3{Hc':List Box}(hn:σ.Nodup)(hs:∀s∈σ,s < H.length)(hlen:σ.length<=Hc'.length){id:Nat}{x:Box}(h:(cL H σ Hc')[id]? = some x) :
  (id∉σ/\H[id]? = some x)\/∃i y,Hc'[i]? = some y/\id=rn σ H.length i/\x=iK (rn σ H.length) y:=by
 by_cases hid:id∈σ
 ·right;obtain⟨i,hi⟩:=dm hid;have hlt:=aZ hi;obtain⟨y,hy⟩:∃y,Hc'[i]? = some y:=⟨_,af (by omega)⟩
  have:=pU (H:=H) hn hs hlen hy;rw[aCI hi] at this;rw[this] at h;cases h;exact⟨i,y,hy,(aCI hi).symm,rfl⟩
 ·rcases d6 id H.length with hlt | hge
  ·rw[oB hid hlt] at h;exact .inl ⟨hid,h⟩
  ·right;have h':=h;unfold cL at h';rw[ci (by rw[iM];exact hge),iM,bq,gk] at h';obtain⟨y,hy,e⟩:=Option.map_eq_some_iff.1 h';refine⟨_,y,hy,?_,e.symm⟩
   rw[aPB (by omega)]
   omega
end frame
structure aJU(f:Nat->Nat)(μ μ':Mem):Prop where
 w:μ'.w=μ.w
 M:∀b o,μ'.M b o->μ.M b o
 box:∀(i:Nat) x,μ.H[i]? = some x->μ'.H[f i]? = some (iK f x)
 bs:∀(i:Nat) o,μ.bs[i]? = some o->μ'.bs[f i]? = some o
theorem aJU.keeps{f:Nat->Nat}{μ μ':Mem}(h:aJU f μ μ'):∀b o y,μ.w.cell? ⟨b,o,none⟩=some y->¬μ.M b o->μ'.w.cell? ⟨b,o,none⟩=some y/\¬μ'.M b o:=
 λb o y h1 h2=>⟨by rw[h.w];exact h1,λhm=>h2 (h.M _ _ hm)⟩
mutual
theorem Rc.back{f:Nat->Nat}{μ μ':Mem}(h:aJU f μ μ'):∀(x:AV) (ys:List Value),Rc μ x ys->Rc μ' (ren f x) ys
 | .v _,_,hr=>by simpa[ren,Rc] using hr
 | .st n ps,ys,hr=>by
  simp only[ren,Rc] at hr ⊢;exact⟨hr.1,RcL.back h ps ys hr.2⟩
 | .arr n k es,ys,hr=>by
  simp only[ren,Rc] at hr ⊢;exact⟨hr.1,hr.2.1,RdL.mono h.keeps es ys hr.2.2⟩
 | .sl k ln es,ys,hr=>by
  simp only[ren,Rc] at hr ⊢;obtain⟨hn,a,cap,h1,h2,h3,h4⟩:=hr;refine⟨hn,a,cap,h1,h2,h3,h4.imp id ?_⟩
  rintro⟨b,off,zs,h5,h6,h7⟩
  exact⟨b,off,zs,h5,RdL.mono h.keeps es zs h6,λj y hy=>h.keeps _ _ _ (h7 j y hy).1 (h7 j y hy).2⟩
 | .own i k ln es,ys,hr=>by
  simp only[ren,Rc] at hr ⊢;obtain⟨hn,a,cap,h1,h2,h3,h4,h5,h6⟩:=hr;have hH:=h.box i _ (af h5)
  refine⟨hn,a,cap,h1,h2,h3,?_,aZ hH,λm hm=>?_⟩
  ·refine h4.imp id ?_;rintro⟨b,off,zs,h5,h6,h7⟩
   exact⟨b,off,zs,h5,RdL.mono h.keeps es zs h6,λj y hy=>h.keeps _ _ _ (h7 j y hy).1 (h7 j y hy).2⟩
  ·have hm0:μ.H[i]? = some (.tail m):=by
    rw[hH] at hm;rw[af h5]
    generalize μ.H[i]=z at *;cases z <;> simp[iK] at hm;subst hm;rfl
   obtain⟨k1,k2⟩:=h6 m hm0;refine⟨k1,λe=>?_⟩
   rcases k2 e with ⟨b,g1,g2,c,T,g3,g4⟩ | g2
   ·exact .inl ⟨b,h.bs i _ g1,g2,c,T,by rw[h.w];exact g3,g4⟩
   ·exact .inr g2
 | .ref i p o,ys,hr=>by
  simp only[ren,Rc] at hr ⊢;obtain⟨b,c,h1,h2,h3⟩:=hr;exact⟨b,_,h.bs i _ h1,h.box i _ h2,h3⟩
 | .bsl i p o k lo len,ys,hr=>by
  simp only[ren,Rc] at hr ⊢;obtain⟨b,c,cap,h1,h2,h3,h6⟩:=hr;exact⟨b,_,cap,h.bs i _ h1,h.box i _ h2,h3,h6⟩
 | .im x,ys,hr=>by
  simp only[ren,Rc] at hr ⊢;obtain⟨b,off,zs,h1,h2,h3⟩:=hr;exact⟨b,off,zs,h1,Rd.mono h.keeps x zs h2,λj y hy=>h.keeps _ _ _ (h3 j y hy).1 (h3 j y hy).2⟩
 | .tup _,_,hr=>by simp[Rc] at hr
 | .fn F first cap,ys,hr=>by
  simp only[ren,Rc] at hr ⊢;obtain⟨as,cs,h1,h2,h3⟩:=hr;exact⟨as,cs,h1,RcL.back h first as h2,RcL.back h cap cs h3⟩
 | .ifc t x,ys,hr=>by
  simp only[ren,Rc] at hr ⊢;obtain⟨y,h1,h2⟩:=hr;refine⟨y,h1,?_⟩
  have h3:=pO (λzs hz=>Rc.back h x zs hz) h2;unfold vOf at h3 ⊢;rw[aIR]
  exact h3
 | .mp i,ys,hr=>by
  simp only[ren,Rc] at hr ⊢;obtain⟨b,c,h1,h2,h3⟩:=hr;exact⟨b,_,h.bs i _ h1,h.box i _ h2,h3⟩
 | .it i,ys,hr=>by
  simp only[ren,Rc] at hr ⊢;obtain⟨b,c,h1,h2,h3⟩:=hr;exact⟨b,_,h.bs i _ h1,h.box i _ h2,h3⟩
 | .yld i,ys,hr=>by
  simp only[ren,Rc] at hr ⊢;obtain⟨b,c,h1,h2,h3⟩:=hr;exact⟨b,_,h.bs i _ h1,h.box i _ h2,h3⟩
 | .gro i k ln j,ys,hr=>by
  simp only[ren,Rc] at hr ⊢;obtain⟨y,e,h1,a,cap,e0,h0,h2⟩:=hr;have hH:=h.box i _ (af h1)
  refine⟨y,e,aZ hH,a,cap,e0,h0,λk' es hm=>?_⟩
  have hm0:μ.H[i]? = some (.gro k' es):=by
   rw[hH] at hm;rw[af h1]
   generalize μ.H[i]=z at *;cases z <;> simp[iK] at hm;obtain⟨rfl,rfl⟩:=hm;rfl
  obtain⟨k1,k2⟩:=h2 k' es hm0;refine⟨k1,λe=>?_⟩
  obtain⟨g0,g1,g2⟩:=k2 e;refine⟨g0,h.bs i _ g1,g2.imp ?_ (λh=>h)⟩
  rintro⟨b,rfl,c,T,g3,g4⟩
  exact⟨b,rfl,c,T,by rw[h.w];exact g3,g4⟩
theorem RcL.back{f:Nat->Nat}{μ μ':Mem}(h:aJU f μ μ'):∀(ps:List AV) (ys:List Value),RcL μ ps ys->RcL μ' (renL f ps) ys
 | [],_,hr=>by simpa[renL,RcL] using hr
 | p :: ps,ys,hr=>by
  simp only[renL,RcL] at hr ⊢;obtain⟨y1,y2,h1,h2,h3⟩:=hr;exact⟨y1,y2,h1,Rc.back h p y1 h2,RcL.back h ps y2 h3⟩
end
theorem aM8{f:Nat->Nat}{μ μ':Mem}(h:aJU f μ μ'){x:AV}{y:Value}(hr:Rv0 μ x y):Rv0 μ' (ren f x) y:=by
 have h2:=pO (λzs hz=>Rc.back h x zs hz) (wC.1 hr)
 refine wC.2 ?_;unfold vOf at h2 ⊢;rw[aIR]
 exact h2
theorem aNi{f:Nat->Nat}{μ μ':Mem}(h:aJU f μ μ'):∀{xs:List AV} {vs:List Value},RvL μ xs vs->RvL μ' (renL f xs) vs
 | [],_,hr=>hr
 | x :: xs,_,⟨y,r,e,h1,h2⟩=>⟨y,r,e,aM8 h h1,aNi h h2⟩
theorem aF1{f:Nat->Nat}{μ μ':Mem}(h:aJU f μ μ'){x:AV}{y:Value}(hr:Rv μ x y):Rv μ' (ren f x) y:=by
 cases x with
 | tup vs=>
  simp only[ren]
  obtain⟨ys,h1,h2⟩:=hr;exact⟨ys,h1,aNi h h2⟩
 | _=>exact aM8 h hr
theorem aFW{H:List Box}{bs:List (Option Nat)}{w w':World}{F:Nat->Nat->Prop}{σ:List Nat}{Hc Hc':List Box}{bc:List (Option Nat)}(ok:(⟨H,bs,w,F⟩:Mem).OK)(L:aKP H bs σ Hc)(okc:(mC H bs w F σ Hc).OK)
  (ext:Ext (mC H bs w F σ Hc) ⟨Hc',bc,w',λb o=>F b o\/rest H bs σ b o⟩) (ok':(⟨Hc',bc,w',λb o=>F b o\/rest H bs σ b o⟩:Mem).OK) :
  Ext ⟨H,bs,w,F⟩ ⟨cL H σ Hc',yW bs σ bc,w',F⟩/\(⟨cL H σ Hc',yW bs σ bc,w',F⟩:Mem).OK/\aJU (rn σ H.length) ⟨Hc',bc,w',λb o=>F b o\/rest H bs σ b o⟩ ⟨cL H σ Hc',yW bs σ bc,w',F⟩:=by
 have hbl:bs.length=H.length:=ok.len;have hs:∀s∈σ,s < H.length:=λs hs'=>by
  obtain⟨i,hi⟩:=dm hs';exact(L.at (w:=w) (F:=F) hbl hi).1
 have hlen:σ.length<=Hc'.length:=by have:=ext.len;rw[<- L.len];exact this
 have hbc:bc.length=Hc'.length:=ok'.len;have old:∀b o,(⟨H,bs,w,F⟩:Mem).own b o↔(mC H bs w F σ Hc).own b o\/rest H bs σ b o:=λb o=>aGd L hbl;have restlt:∀b o,rest H bs σ b o->b < w.heap.size:=λb o h=>okc.foreign b o (.inr h)
 -- what is not lent stays as it was
 have stay:∀(id b:Nat) (x:Box),id∉σ->bs[id]? = some (some b)->H[id]? = some x->x ≠ .dead->w'.heap[b]? = w.heap[b]? := by
  intro id b x hid hb hx hd;have hlt:b < w.heap.size:=cK ok (b:=b) hb hx hd;refine ext.blocks b hlt λo ho=>?_;obtain⟨o',ho'⟩:∃o',rest H bs σ b o':=by
   cases x with
   | dead=>exact absurd rfl hd
   | tail m=>exact⟨m,id,hid,hb,.inr ⟨m,hx,ay _⟩⟩
   | _=>exact⟨0,id,hid,hb,.inl ⟨_,hx,rfl⟩⟩
  obtain⟨i,g1,g2⟩:=ho;have hi:i < σ.length:=by have:=aZ g1;simpa[mC] using this
  have h1:=af hi;have g1:bs[σ[i]]? = some (some b):=(L.at (w:=w) (F:=F) hbl h1).2.symm.trans g1;obtain⟨z,hz⟩:∃z,Hc[i]? = some z:=⟨_,af (by rw[L.len];exact hi)⟩
  obtain⟨s',k1,k2⟩:=L.box i z hz;rw[h1] at k1;cases k1;have live:iK (rn σ H.length) z ≠ .dead:=by
   intro e;have e:=uP.1 e;subst e;rcases g2 with ⟨x,g2,g3⟩ | ⟨m,g2,_⟩
   ·have:Hc[i]? = some x:=g2;rw[hz] at this;cases this;cases g3
   ·have:Hc[i]? = some (.tail m):=g2;rw[hz] at this;cases this
  have e:=ok.apart _ _ b _ _ g1 hb k2 hx live hd;exact hid (e▸bh hi)
 have own':∀b o,(⟨cL H σ Hc',yW bs σ bc,w',F⟩:Mem).own b o↔(⟨Hc',bc,w',λb o=>F b o\/rest H bs σ b o⟩:Mem).own b o\/rest H bs σ b o:=by
  intro b o;constructor
  ·rintro⟨id,h1,h2⟩
   dsimp only at h1 h2;have:∃x,(cL H σ Hc')[id]? = some x:=by rcases h2 with ⟨x,h2,_⟩ | ⟨m,h2,_⟩ <;> exact⟨_,h2⟩
   obtain⟨x,hx⟩:=this;rcases aA3 L.nodup hs hlen hx with ⟨hid,h3⟩ | ⟨i,z,h3,rfl,rfl⟩
   ·right;have hlt:=aZ h3;rw[nM hid (by omega)] at h1;rw[oB hid hlt] at h2;exact⟨id,hid,h1,h2⟩
   ·left;obtain⟨ob,hob⟩:∃ob,bc[i]? = some ob:=⟨_,af (by have:=aZ h3;omega)⟩
    have h4:=aCo (bs:=bs) L.nodup (λs hs'=>by have:=hs s hs';omega) hob;rw[hbl] at h4;rw[h4] at h1;rw[pU L.nodup hs hlen h3] at h2;refine⟨i,hob.trans h1,?_⟩
    rcases h2 with ⟨x,h2,h5⟩ | ⟨m,h2,h5⟩
    ·cases h2;exact .inl ⟨z,h3,by rw[zA] at h5;exact h5⟩
    ·refine .inr ⟨m,?_,h5⟩
     cases z <;> simp[iK] at h2;subst h2;exact h3
  ·rintro(⟨i,h1,h2⟩ | ⟨id,hid,h1,h2⟩)
   ·dsimp only at h1 h2;obtain⟨z,h3⟩:∃z,Hc'[i]? = some z:=by rcases h2 with ⟨x,h2,_⟩ | ⟨m,h2,_⟩ <;> exact⟨_,h2⟩
    have h4:=aCo (bs:=bs) L.nodup (λs hs'=>by have:=hs s hs';omega) h1;rw[hbl] at h4;refine⟨_,h4,?_⟩
    dsimp only;rw[pU L.nodup hs hlen h3]
    rw[h3] at h2;rcases h2 with ⟨x,h2,h5⟩ | ⟨m,h2,h5⟩
    ·cases h2;exact .inl ⟨_,rfl,by rw[zA];exact h5⟩
    ·cases h2;exact .inr ⟨m,rfl,h5⟩
   ·have hlt:id < H.length:=by rcases h2 with ⟨x,h2,_⟩ | ⟨m,h2,_⟩ <;> exact aZ h2
    refine⟨id,?_,?_⟩
    ·show(yW bs σ bc)[id]? = _;rw[nM hid (by omega)]
     exact h1
    ·dsimp only;rw[oB hid hlt]
     exact h2
 have back:aJU (rn σ H.length) ⟨Hc',bc,w',λb o=>F b o\/rest H bs σ b o⟩ ⟨cL H σ Hc',yW bs σ bc,w',F⟩:={
  w:=rfl
  M:=λb o h=>by
   rcases h with h | h
   ·exact .inl (.inl h)
   ·rcases(own' b o).1 h with h | h
    ·exact .inr h
    ·exact .inl (.inr h)
  box:=λi x hx=>pU L.nodup hs hlen hx
  bs:=λi o ho=>by
   have:=aCo (bs:=bs) L.nodup (λs hs'=>by have:=hs s hs';omega) ho;rw[hbl] at this;exact this }
 have notc:∀b o,¬(⟨H,bs,w,F⟩:Mem).own b o->¬(mC H bs w F σ Hc).own b o:=λb o h h'=>h ((old b o).2 (.inl h'))
 -- a box of the callee's, by its number
 have lentAt:∀(id:Nat) (c:Box),H[id]? = some c->id∈σ->∃(i:Nat) (z:Box),σ[i]? = some id/\Hc[i]? = some z/\c=iK (rn σ H.length) z/\(mC H bs w F σ Hc).bs[i]? = bs[id]? := by
  intro id c hc hid;obtain⟨i,hi⟩:=dm hid;obtain⟨z,hz⟩:∃z,Hc[i]? = some z:=⟨_,af (by have:=aZ hi;rw[L.len];exact this)⟩
  obtain⟨s',k1,k2⟩:=L.box i z hz;rw[hi] at k1;cases k1;rw[hc] at k2;cases k2;exact⟨i,z,hi,hz,rfl,(L.at (w:=w) (F:=F) hbl hi).2⟩
 have bsAt:∀(i id:Nat),σ[i]? = some id->bc[i]? = (mC H bs w F σ Hc).bs[i]? -> (yW bs σ bc)[id]? = bs[id]? := by
  intro i id hi he;have h1:=(L.at (w:=w) (F:=F) hbl hi)
  obtain⟨ob,hob⟩:∃ob,bc[i]? = some ob:=⟨_,af (by have:=aZ hi;omega)⟩
  have h2:=aCo (bs:=bs) L.nodup (λs hs'=>by have:=hs s hs';omega) hob;rw[hbl,aCI hi] at h2;rw[h2,<- hob,he,h1.2]
 have extAll:Ext ⟨H,bs,w,F⟩ ⟨cL H σ Hc',yW bs σ bc,w',F⟩:={
  size:=ext.size
  len:=by show H.length<=(cL H σ Hc').length;unfold cL;rw[ar,iM];omega
  cells:=λb o hb hn=>ext.cells b o hb (notc b o hn)
  blocks:=λb hb hn=>ext.blocks b hb (λo=>notc b o (hn o))
  mm:=λb o hb h=>by
   rcases(own' b o).1 h with h | h
   ·exact(old b o).2 (.inl (ext.mm b o hb h))
   ·exact(old b o).2 (.inr h)
  same:=rfl
  vars:=λid c hc=>by
   by_cases hid:id∈σ
   ·obtain⟨i,z,h1,h2,h3,h4⟩:=lentAt id _ hc hid;cases z <;> simp[iK] at h3;obtain⟨⟨c',g1⟩,g2⟩:=ext.vars i _ h2;have:=pU (H:=H) L.nodup hs hlen g1;rw[aCI h1] at this;exact⟨⟨_,this⟩,bsAt i id h1 g2⟩
   ·have hlt:=aZ hc;dsimp only at hlt;exact⟨⟨c,(oB hid hlt).trans hc⟩,nM hid (by omega)⟩
  maps:=λid c hc=>by
   by_cases hid:id∈σ
   ·obtain⟨i,z,h1,h2,h3,h4⟩:=lentAt id _ hc hid;cases z <;> simp[iK] at h3;obtain⟨⟨c',g1⟩,g2⟩:=ext.maps i _ h2;have:=pU (H:=H) L.nodup hs hlen g1;rw[aCI h1] at this;exact⟨⟨_,this⟩,bsAt i id h1 g2⟩
   ·have hlt:=aZ hc;dsimp only at hlt;exact⟨⟨c,(oB hid hlt).trans hc⟩,nM hid (by omega)⟩
  loops:=λid c hc=>by
   by_cases hid:id∈σ
   ·obtain⟨i,z,h1,h2,h3,h4⟩:=lentAt id _ hc hid;cases z <;> simp[iK] at h3;obtain⟨⟨c',g1⟩,g2⟩:=ext.loops i _ h2;have:=pU (H:=H) L.nodup hs hlen g1;rw[aCI h1] at this;exact⟨⟨_,this⟩,bsAt i id h1 g2⟩
   ·have hlt:=aZ hc;dsimp only at hlt;exact⟨⟨c,(oB hid hlt).trans hc⟩,nM hid (by omega)⟩
  toks:=λid m' hid hm'=>by
   dsimp only at hid hm';by_cases hin:id∈σ
   ·obtain⟨i,z,h1,h2,h3,h4⟩:=lentAt id _ (af hid) hin;obtain⟨z',hz'⟩:∃z',Hc'[i]? = some z':=⟨_,af (by have:=aZ h1;omega)⟩
    have g0:=pU (H:=H) L.nodup hs hlen hz';rw[aCI h1,hm'] at g0;have e:z' = .tail m':=by cases z' <;> simp[iK] at g0;rw[g0]
    subst e;obtain⟨m,k1,k2,k3⟩:=ext.toks i m' (aZ h2) hz';have k1':Hc[i]? = some (.tail m):=k1;rw[h2] at k1';cases k1';refine⟨m,?_,k2,λe=>⟨bsAt i id h1 (k3 e).1,λb s hb hr=>?_⟩⟩
    ·show H[id]? = _;rw[af hid,h3]
     rfl
    ·exact(k3 e).2 b s (h4.trans hb) hr
   ·rw[oB hin hid] at hm';refine⟨m',hm',ay _,λ_=>⟨nM hin (by omega),λb s hb hr=>?_⟩⟩
    obtain⟨c,T,g1,g2⟩:=hr;exact⟨c,T,(stay id b _ hin hb hm' (by simp)).trans g1,g2⟩
  gros:=λid q es' hid hm'=>by
   dsimp only at hid hm';by_cases hin:id∈σ
   ·obtain⟨i,z,h1,h2,h3,h4⟩:=lentAt id _ (af hid) hin;obtain⟨z',hz'⟩:∃z',Hc'[i]? = some z':=⟨_,af (by have:=aZ h1;omega)⟩
    have g0:=pU (H:=H) L.nodup hs hlen hz';rw[aCI h1,hm'] at g0;have e:z' = .gro q es':=by cases z' <;> simp[iK] at g0;obtain⟨rfl,rfl⟩:=g0;rfl
    subst e;obtain⟨es,k1,k2,k3⟩:=ext.gros i q es' (aZ h2) hz';have k1':Hc[i]? = some (.gro q es):=k1;rw[h2] at k1';cases k1';refine⟨es,?_,k2,λe=>⟨bsAt i id h1 (k3 e).1,λb s hb hr=>?_⟩⟩
    ·show H[id]? = _;rw[af hid,h3]
     rfl
    ·exact(k3 e).2 b s (h4.trans hb) hr
   ·rw[oB hin hid] at hm';refine⟨es',hm',ay _,λ_=>⟨nM hin (by omega),λb s hb hr=>?_⟩⟩
    obtain⟨c,T,g1,g2⟩:=hr;exact⟨c,T,(stay id b _ hin hb hm' (by simp)).trans g1,g2⟩
  os:=ext.os
  tape:=ext.tape
  output:=ext.output }
 refine⟨extAll,?_,back⟩
 refine⟨λb o h=>Nat.lt_of_lt_of_le (ok.foreign b o h) ext.size,?_,?_,?_,?_,λg hg=>extAll.globAt (ok.glob g hg)⟩
 ·intro b o h hF;rcases(own' b o).1 h with h | h
  ·exact ok'.clear b o h (.inl hF)
  ·exact ok.clear b o ((old b o).2 (.inr h)) hF
 ·show(yW bs σ bc).length=(cL H σ Hc').length;unfold yW cL;simp only[ar,iM,List.length_drop,List.length_map]
  omega
 ·intro id o x ho hx;dsimp only at ho hx;rcases aA3 L.nodup hs hlen hx with ⟨hid,h3⟩ | ⟨i,z,h3,rfl,rfl⟩
  ·have hlt:=aZ h3;rw[nM hid (by omega)] at ho;refine oP extAll (λb hb hd=>?_) (ok.box id o x ho h3)
   subst hb;exact stay id b x hid ho h3 hd
  ·obtain⟨ob,hob⟩:∃ob,bc[i]? = some ob:=⟨_,af (by have:=aZ h3;omega)⟩
   have h4:=aCo (bs:=bs) L.nodup (λs hs'=>by have:=hs s hs';omega) hob;rw[hbl] at h4;rw[h4] at ho;cases ho;have hok:=ok'.box i _ z hob h3;cases z with
   | dead=>trivial
   | var c=>
    obtain⟨b,ys,T,g1,g2,g3⟩:=hok;exact⟨b,ys,T,g1,g2,Rc.back back _ _ g3⟩
   | tail m=>exact hok
   | mp c0=>
    cases c0 with
    | kv kvs=>
     obtain⟨b,es,k,g1,g2,g3⟩:=hok;exact⟨b,es,k,g1,g2,g3.mono back.keeps⟩
    | it _ _=>exact hok
    | mi m=>
     obtain⟨b,c,t,g1,g2,g3⟩:=hok;exact⟨b,c,t,g1,g2,Rc.back back (.mp m) _ g3⟩
   | loop r=>exact hok
   | gro k es=>
    obtain⟨g0,g1 | ⟨b,ys,U,g1,g2,y1,y2,g3,g4⟩⟩:=hok
    ·exact⟨g0,.inl g1⟩
    ·exact⟨g0,.inr ⟨b,ys,U,g1,g2,y1,y2,g3,RdL.mono back.keeps _ _ g4⟩⟩
 ·intro i j b x z hi hj hx hz hxd hzd;dsimp only at hi hj hx hz
  -- a live box lets its owner write somewhere
  have wr:∀(x:Box),x ≠ .dead->∃m,∀o,m<=o->(x.whole=true\/∃m',x = .tail m'/\m'<=o):=by
   intro x hd;cases x with
   | dead=>exact absurd rfl hd
   | tail m=>exact⟨m,λo h => .inr ⟨m,rfl,h⟩⟩
   | _=>exact⟨0,λo _ => .inl rfl⟩
  have mixed:∀(id i':Nat) (x z:Box),id∉σ->H[id]? = some x->bs[id]? = some (some b)->Hc'[i']? = some z->bc[i']? = some (some b)->x ≠ .dead->z ≠ .dead->False:=by
   intro id i' x z hid hx hb hz hbz hxd hzd;obtain⟨m1,w1⟩:=wr x hxd;obtain⟨m2,w2⟩:=wr z hzd;have hr:rest H bs σ b (max m1 m2):=by
    rcases w1 (max m1 m2) (Nat.le_max_left _ _) with h | ⟨m',h1,h2⟩
    ·exact⟨id,hid,hb,.inl ⟨x,hx,h⟩⟩
    ·subst h1;exact⟨id,hid,hb,.inr ⟨m',hx,h2⟩⟩
   have ho:(⟨Hc',bc,w',λb o=>F b o\/rest H bs σ b o⟩:Mem).own b (max m1 m2):=by
    rcases w2 (max m1 m2) (Nat.le_max_right _ _) with h | ⟨m',h1,h2⟩
    ·exact⟨i',hbz,.inl ⟨z,hz,h⟩⟩
    ·subst h1;exact⟨i',hbz,.inr ⟨m',hz,h2⟩⟩
   exact ok'.clear b _ ho (.inr hr)
  have bcOf:∀(i':Nat) (z:Box),Hc'[i']? = some z->(yW bs σ bc)[rn σ H.length i']? = some (some b)->bc[i']? = some (some b):=by
   intro i' z hz hb;obtain⟨ob,hob⟩:∃ob,bc[i']? = some ob:=⟨_,af (by have:=aZ hz;omega)⟩
   have h4:=aCo (bs:=bs) L.nodup (λs hs'=>by have:=hs s hs';omega) hob;rw[hbl,hb] at h4;rw[hob,h4]
  rcases aA3 L.nodup hs hlen hx with ⟨hi1,hx1⟩ | ⟨i',x',hx1,rfl,rfl⟩ <;> rcases aA3 L.nodup hs hlen hz with ⟨hj1,hz1⟩ | ⟨j',z',hz1,rfl,rfl⟩
  ·have l1:=aZ hx1;have l2:=aZ hz1;rw[nM hi1 (by omega)] at hi;rw[nM hj1 (by omega)] at hj;exact ok.apart i j b x z hi hj hx1 hz1 hxd hzd
  ·have l1:=aZ hx1;rw[nM hi1 (by omega)] at hi;exact(mixed i j' x z' hi1 hx1 hi hz1 (bcOf j' z' hz1 hj) hxd (λe=>hzd (uP.2 e))).elim
  ·have l1:=aZ hz1;rw[nM hj1 (by omega)] at hj;exact(mixed j i' z x' hj1 hz1 hj hx1 (bcOf i' x' hx1 hi) hzd (λe=>hxd (uP.2 e))).elim
  ·have e:=ok'.apart i' j' b x' z' (bcOf i' x' hx1 hi) (bcOf j' z' hz1 hj) hx1 hz1 (λe=>hxd (uP.2 e)) (λe=>hzd (uP.2 e))
   rw[e]
theorem aOa{P:Program}{f:FuncId}{Hc Hc':List Box}{args:List AV}{ret:AV}(C:FnM P f Hc args ret Hc'){H:List Box}{bs:List (Option Nat)}{w:World}{F:Nat->Nat->Prop}{σ:List Nat}
  (ok:(⟨H,bs,w,F⟩:Mem).OK) (L:aKP H bs σ Hc) (hlow:nT Hc Hc=true) (hargs:lowL Hc args=true) {vs:List Value} (hv:RvL ⟨H,bs,w,F⟩ (renL (rn σ H.length) args) vs) :
  Calls P f vs.toArray w λe w'=>∃y bs',e = .returned y/\Ext ⟨H,bs,w,F⟩ ⟨cL H σ Hc',bs',w',F⟩/\(⟨cL H σ Hc',bs',w',F⟩:Mem).OK/\Rv ⟨cL H σ Hc',bs',w',F⟩ (ren (rn σ H.length) ret) y:=by
 have less:=aBE (w:=w) (F:=F) L ok.len;have okc:=aIe L ok hlow;refine(C w _ _ vs okc (aCk less hargs hv)).mono ?_;rintro e w' ⟨y,bc,rfl,ext,ok',hr⟩
 obtain⟨h1,h2,h3⟩:=aFW ok L okc ext ok';exact⟨y,yW bs σ bc,rfl,h1,h2,aF1 h3 hr⟩
end Go.UK

open Array renaming toList_inj→ef
open Bool renaming and_eq_true→am,false_eq_true→aq
open List renaming getElem?_eq_getElem→af,getElem?_map→bq,getElem?_of_mem→dm,mem_cons→fg
open Nat renaming eq_of_beq_eq_true→ag,le_refl→ay
open Go.Result renaming andThen_ok→aj
open Go.Sem renaming run_bind→ap,run_pure→bl
namespace Go.UK
open Go
set_option linter.all false
variable [bS]
def Sub(a b:Env):Prop:=∀i e,bZ a i=some e->bZ b i=some e
theorem Sub.rfl{a:Env}:Sub a a:=λ_ _ h=>h
theorem aDZ{μ:Mem}{a b:Env}{tmps:Array Value}(h:Sub a b)(hb:iC μ b tmps):iC μ a tmps:=λi e hl=>hb i e (h i e hl)
def Env.put(env:Env)(d:Option Nat)(e:EV):Env:=match d with | some d=>env.set d e | none=>env
def dOK(n:Nat):Option Nat->Bool
 | some d=>match Nat.ble n d with | true=>false | false=>true
 | none=>true
section
variable {P:Program} {T:TypeId→Option TI} {n:Fr}
theorem aIj{ctx:Mem}{st:ASt}{a:Act}{μ μ':Mem}(hm:aGC n ctx st a μ)(hx:Ext μ μ')(ok:μ'.OK){d:Option Nat}(hd:dOK n.n d=true){x:AV}{y:Value}(hy:Rv μ' x y) :
  Sat n ctx ⟨st.env.put d (none,x),μ'.H⟩ (a.put d y) μ'.w:=by
 cases d with
 | none=>exact(hm.putn hx ok).sat
 | some d=>
  simp only[dOK] at hd;split at hd
  ·cases hd
  ·rename_i h;exact(hm.put hx ok (aBf h) hy).sat
def Big(P:Program)(n:Fr)(o:Oper)(need:Env)(H:List Box)(x:AV)(H':List Box):Prop:=
 ∀env,Sub need env->owp P n o ⟨env,H⟩ ⟨env.put o.dst (none,x),H'⟩
theorem aUv{ops:Array Oper}{o:Oper}{l:List Oper}{st:ASt}{x:AV}{H':List Box}{K:ASt->Prop}(b:Big P n o st.env st.H x H')(hg:gOK ops o st.env=true)(hk:awl P n ops l K ⟨st.env.put o.dst (none,x),H'⟩):awl P n ops (o :: l) K st:=
 aQJ (aLv hg (b st.env Sub.rfl)) hk
theorem eK{o:Oper}{need:Env}{H H':List Box}{x:AV}(hd:dOK n.n o.dst=true)(h:∀a (μ:Mem),μ.OK->μ.H=H->iC μ need a.tmps->∃μ',fO P o a μ x μ'/\μ'.H=H'):Big P n o need H x H':=by
 intro env hs;refine aAH λctx a μ hm=>?_;obtain⟨μ',hr,e⟩:=h a μ hm.ok hm.h (aDZ hs hm.env)
 refine⟨x,μ',hr,λy hy hx hok=>?_⟩
 rw[<- e]
 exact aIj hm hx hok hd hy
theorem aOm(hT:TOK P T){im:Bool}{o:Oper}{need:Env}{H:List Box}{x:AV}{b:Option Box}(hd:dOK n.n o.dst=true)(he:ev T im (opd need none) H o=some (x,b)):Big P n o need H x (aDu H b):=
 eK hd λa μ ok hH hE=>by
  obtain⟨bs',w',hr⟩:=aGi (P:=P) (a:=a) hT (λy v hv=>aV hE noG hv) ok (by rw[hH];exact he)
  exact⟨_,hr,by rw[hH]⟩
def aAw : List AV->Bool
 | []=>true
 | p :: ps=>match p.isAgg with | true=>false | false=>aAw ps
theorem aBD : ∀{l:List AV},aAw l=true->∀p∈l,p.isAgg=false
 | [],_,p,h=>by cases h
 | q :: l,h,p,hp=>by
  simp only[aAw] at h;split at h
  ·cases h
  ·rename_i h0;rcases fg.1 hp with h' | h'
   ·subst h';exact h0
   ·exact aBD h p h'
def aMb(t:Nat)(name:String):List (Nat×String×Nat)->Option Nat
 | []=>none
 | q :: l=>match Nat.beq q.1 t&&(q.2.1==name) with | true=>some q.2.2 | false=>aMb t name l
theorem aHN{t f:Nat}{name:String}:∀{l:List (Nat×String×Nat)},aMb t name l=some f->(t,name,f)∈l
 | [],h=>by cases h
 | q :: l,h=>by
  unfold aMb at h;split at h
  ·rename_i hq;simp only[am,beq_iff_eq] at hq;cases h;obtain⟨a,b,c⟩:=q;obtain⟨h1,h2⟩:=hq;have h1:=ag h1;dsimp only at h1 h2;subst h1 h2;simp
  ·exact List.mem_cons_of_mem _ (aHN h)
def aI4(ρ:Operand->Option AV)(o:Oper):Option (FuncId×List AV):=
 match o.op with
 | .call { callee := .value c,args,.. }=>match ρ c,aL3 ρ args.toList with
  | some (.fn (.func f) fi cap),some avs=>match aAw fi&&aAw cap with
   | true=>some (f,fi++(avs++cap))
   | false=>none
  | _,_=>none
 | .call { callee := .invoke c name,args,.. }=>match ρ c,aL3 ρ args.toList with
  | some (.ifc t x),some avs=>match aMb t name bS.ms with
   | some f=>some (f,x :: avs)
   | none=>none
  | _,_=>none
 | _=>none
def rC(H:List Box)(σ:List Nat):List Box:=σ.map λs=>(H[s]?).getD .dead
def aM0(m:Nat):List Nat->Bool
 | []=>true
 | x :: xs=>Nat.blt x m&&aM0 m xs
theorem aFV{m:Nat}:∀{l:List Nat},aM0 m l=true->∀x∈l,x < m
 | [],_,x,h=>by cases h
 | y :: l,h,x,hx=>by
  simp only[aM0,am] at h;rcases fg.1 hx with h' | h'
  ·subst h';have h1:Nat.ble (x+1) m=true:=h.1;have:=Nat.le_of_ble_eq_true h1;omega
  ·exact aFV h.2 x h'
def aCN(n:Fr)(o:Oper)(H:List Box)(σ:List Nat)(Hc:List Box)(args:List AV):Bool:=
 dOK n.n o.dst&&(aHC σ&&(aM0 H.length σ&&(Nat.beq σ.length Hc.length&&(aAY Hc.length Hc&&(nT Hc Hc&&lowL Hc args)))))
def aBz(o:Oper)(need:Env)(H:List Box)(σ:List Nat)(Hc:List Box)(args:List AV):Option (FuncId×List AV)×List Box:=
 (match aI4 (opd need none) o with
  | some (f,avs)=>some (f,wkL avs (renL (rn σ H.length) args))
  | none=>none,
  zG (rC H σ) (Hc.map (iK (rn σ H.length))))
theorem RvL.append{μ:Mem}:∀{xs ys:List AV} {vs ws:List Value},RvL μ xs vs->RvL μ ys ws->RvL μ (xs++ys) (vs++ws)
 | [],ys,vs,ws,h,h'=>by have:vs=[]:=h;subst this;exact h'
 | x :: xs,ys,vs,ws,⟨v,r,e,h1,h2⟩,h'=>⟨v,r++ws,by rw[e];rfl,h1,RvL.append h2 h'⟩
theorem RcL.rvl{μ:Mem}:∀{ps:List AV} {ys:List Value},RcL μ ps ys->(∀p∈ps,p.isAgg=false)->RvL μ ps ys
 | [],ys,h,_=>by simp only[RcL] at h;exact h
 | p :: ps,ys,h,ha=>by
  simp only[RcL] at h;obtain⟨y1,y2,h1,h2,h3⟩:=h;obtain⟨y,e⟩:=h2.one (ha p (by simp))
  subst e;refine⟨y,y2,by simpa using h1,?_,RcL.rvl h3 (λq hq=>ha q (by simp[hq]))⟩
  unfold Rv0;rw[if_neg (by rw[ha p (by simp)];simp)]
  exact h2
theorem aBH{μ:Mem}{a:Act}{ρ:Operand->Option AV}(hρ:∀y v,ρ y=some v->Rv μ v (a.eval y)):∀(l:List Operand) (vs:List AV),aL3 ρ l=some vs->RvL μ vs (l.map a.eval)
 | [],vs,h=>by simp only[aL3,Option.some.injEq] at h;subst h;rfl
 | x :: l,vs,h=>by
  simp only[aL3] at h;split at h <;> try cases h
  rename_i v r h1 h2;split at h <;> cases h;rename_i hn;have h3:=hρ _ _ h1;have h4:Rv0 μ v (a.eval x):=by cases v <;> first | exact h3 | simp[fP] at hn
  exact⟨_,_,rfl,h4,aBH hρ l r h2⟩
theorem aNN{o:Oper}{callee:Operand}{args:Array Operand}{tys:Array TypeId}{ρ:Operand->Value}{f:FuncId}{as cs:List Value}{w:World}
  (ho:o.op = .call { callee := .value callee,args,argTypes:=tys }) (hv:ρ callee = .func (.func f) as.toArray cs.toArray) (hf:sC P f) :
  (execOp ρ o).run P w = .ok (.enter f (as++(args.toList.map ρ++cs)).toArray) w:=by
 obtain⟨⟨fn,h1,h2,h3⟩,_⟩:=hf;have e:(as++(args.toList.map ρ++cs)).toArray=as.toArray++args.map ρ++cs.toArray:=by
  rw[<- ef]
  simp
 rw[e]
 simp only[execOp,ho,resolve,Deferred.ofValue,hv,ap,bl,aj,invoke,callFunc,run_program,h1,h2,h3,aq,if_false]
theorem aKJ{o:Oper}{recv:Operand}{name:String}{args:Array Operand}{tys:Array TypeId}{ρ:Operand->Value}{f:FuncId}{t:TypeId}{y:Value}{w:World}
  (ho:o.op = .call { callee := .invoke recv name,args,argTypes:=tys }) (hv:ρ recv = .iface t y) (hm:aOF P (t,name,f)) (hf:sC P f) :
  (execOp ρ o).run P w = .ok (.enter f (y :: args.toList.map ρ).toArray) w:=by
 obtain⟨⟨fn,h1,h2,h3⟩,_⟩:=hf;have e:(y :: args.toList.map ρ).toArray=#[y]++args.map ρ:=by
  rw[<- ef]
  simp
 have hmm:=hm y w (P.types.size+99)
 have e2:∀(A:Array Value),(#[ρ recv]++A)[0]? = some (ρ recv):=by intro A;rw[Array.getElem?_append_left (Nat.zero_lt_one)];rfl
 have e3:∀(A:Array Value),(#[ρ recv]++A).extract 1 (#[ρ recv]++A).size=A:=by
  intro A;rw[<- ef]
  simp
 have e4:(callMethod (.iface t y) name (args.map ρ)).run P w = .ok (.enter f (#[y]++args.map ρ)) w:=by
  unfold callMethod;simp only[ap,run_program,aj]
  rw[show P.types.size+Made.depth=P.types.size+99+1 from rfl,hmm]
  simp only[aj,callFunc,ap,run_program,h1,h2,h3,aq,if_false,bl]
 rw[e]
 have e5:(invoke (.fn (.method name) #[]) (#[ρ recv]++args.map ρ)).run P w = .ok (.enter f (#[y]++args.map ρ)) w:=by
  unfold invoke;simp only[e2,e3]
  rw[hv]
  exact e4
 simp only[execOp,ho,resolve,ap,bl,aj]
 exact e5
theorem aKE{o:Oper}{need:Env}{μ:Mem}{a:Act}{f:FuncId}{avs:List AV}(hE:iC μ need a.tmps)(h:aI4 (opd need none) o=some (f,avs))(hf:sC P f) :
  (∃c,o.op = .call c)/\∃vs:List Value,RvL μ avs vs/\(execOp a.eval o).run P μ.w = .ok (.enter f vs.toArray) μ.w:=by
 unfold aI4 at h;split at h <;> try cases h
 case h_2=>
  rename_i c name args tys ho;split at h <;> try cases h
  rename_i t x as hc hargs;split at h <;> cases h;rename_i hfm;have hcv:=aV hE noG hc;have hcv':∃y,a.eval c = .iface t y/\vOf x (λzs=>Rc μ x zs) y:=by
   simpa[Rv,Rv0,AV.isAgg,Rc] using hcv
  obtain⟨y,e,hy⟩:=hcv';have hav:=aBH (λy v hv=>aV hE noG hv) _ _ hargs;exact⟨⟨_,ho⟩,_,⟨y,_,rfl,hy,hav⟩,aKJ ho e (hf.2 _ (aHN hfm)) hf⟩
 rename_i c args tys ho;split at h <;> try cases h
 rename_i f' fi cap as hc hargs;split at h <;> cases h;rename_i hag;simp only[am] at hag;have hcv:=aV hE noG hc;have hcv':∃as cs:List Value,a.eval c = .func (.func f) as.toArray cs.toArray/\RcL μ fi as/\RcL μ cap cs:=by
  simpa[Rv,Rv0,AV.isAgg,Rc] using hcv
 obtain⟨as',cs,e,h1,h2⟩:=hcv';have hav:=aBH (λy v hv=>aV hE noG hv) _ _ hargs;exact⟨⟨_,ho⟩,_,(h1.rvl (aBD hag.1)).append (hav.append (h2.rvl (aBD hag.2))),aNN ho e hf⟩
theorem aEm{H H':List Box}{bs:List (Option Nat)}{w:World}{F:Nat->Nat->Prop}(hl:H.length=H'.length)(hk:∀(i:Nat) x y,H[i]? = some x->H'[i]? = some y->(y=x\/∃c c',x = .var c/\y = .var c')):Ext ⟨H,bs,w,F⟩ ⟨H',bs,w,F⟩ where
 size:=ay _
 len:=by show H.length<=H'.length;omega
 cells _ _ _ _:=rfl
 blocks _ _ _:=rfl
 mm b o _ h:=by
  obtain⟨i,h1,h2⟩:=h;refine⟨i,h1,?_⟩
  dsimp only at h2;have:∃y,H'[i]? = some y:=by rcases h2 with ⟨x,h2,_⟩ | ⟨m,h2,_⟩ <;> exact⟨_,h2⟩
  obtain⟨y,hy⟩:=this;obtain⟨x,hx⟩:∃x,H[i]? = some x:=⟨_,af (by have:=aZ hy;omega)⟩
  rcases hk i x y hx hy with e | ⟨c,c',e1,e2⟩
  ·subst e;dsimp only;rw[hx,<- hy];exact h2
  ·subst e1 e2;exact .inl ⟨_,hx,rfl⟩
 same:=rfl
 vars i c hc:=by
  obtain⟨y,hy⟩:∃y,H'[i]? = some y:=⟨_,af (by have:=aZ hc;dsimp only at this;omega)⟩
  rcases hk i _ y hc hy with e | ⟨_,c',_,e2⟩
  ·subst e;exact⟨⟨_,hy⟩,rfl⟩
  ·subst e2;exact⟨⟨_,hy⟩,rfl⟩
 maps i c hc:=by
  obtain⟨y,hy⟩:∃y,H'[i]? = some y:=⟨_,af (by have:=aZ hc;dsimp only at this;omega)⟩
  rcases hk i _ y hc hy with e | ⟨_,c',e1,_⟩
  ·subst e;exact⟨⟨_,hy⟩,rfl⟩
  ·cases e1
 loops i c hc:=by
  obtain⟨y,hy⟩:∃y,H'[i]? = some y:=⟨_,af (by have:=aZ hc;dsimp only at this;omega)⟩
  rcases hk i _ y hc hy with e | ⟨_,c',e1,_⟩
  ·subst e;exact⟨⟨_,hy⟩,rfl⟩
  ·cases e1
 toks i m hi hm:=by
  dsimp only at hi hm;rcases hk i _ _ (af hi) hm with e | ⟨_,_,_,e2⟩
  ·exact⟨m,(af hi).trans (congrArg some e.symm),ay _,λ_=>⟨rfl,λ_ _ _ h=>h⟩⟩
  ·cases e2
 gros i q es' hi hm:=by
  dsimp only at hi hm;rcases hk i _ _ (af hi) hm with e | ⟨_,_,_,e2⟩
  ·exact⟨es',(af hi).trans (congrArg some e.symm),ay _,λ_=>⟨rfl,λ_ _ _ h=>h⟩⟩
  ·cases e2
 os:=rfl
 tape:=rfl
 output:=rfl
theorem aRy{H H':List Box}{bs:List (Option Nat)}{w:World}{F:Nat->Nat->Prop}(hl:H.length=H'.length)(hk:∀(i:Nat) x y,H[i]? = some x->H'[i]? = some y->(y=x\/∃c e,x = .var c/\y = .var (wk c e)))
  (ok:(⟨H,bs,w,F⟩:Mem).OK):(⟨H',bs,w,F⟩:Mem).OK:=by
 have ext:Ext ⟨H,bs,w,F⟩ ⟨H',bs,w,F⟩:=aEm hl λi x y hx hy=>(hk i x y hx hy).imp id (λ⟨c,e,h1,h2⟩=>⟨c,_,h1,h2⟩)
 have old:∀(i:Nat) y,H'[i]? = some y->∃x,H[i]? = some x/\(y=x\/∃c e,x = .var c/\y = .var (wk c e)):=by
  intro i y hy;obtain⟨x,hx⟩:∃x,H[i]? = some x:=⟨_,af (by have:=aZ hy;omega)⟩
  exact⟨x,hx,hk i x y hx hy⟩
 refine⟨ok.foreign,λb o h=>ok.clear b o ?_,by have:=ok.len;dsimp only at this ⊢;omega,?_,?_,λg hg=>ext.globAt (ok.glob g hg)⟩
 ·by_cases hb:b < w.heap.size
  ·exact ext.mm b o hb h
  ·obtain⟨i,h1,h2⟩:=h;exfalso;dsimp only at h2;have:∃y,H'[i]? = some y/\y ≠ .dead:=by
    rcases h2 with ⟨y,h2,h3⟩ | ⟨m,h2,_⟩
    ·exact⟨y,h2,Box.whole_live h3⟩
    ·exact⟨_,h2,by simp⟩
   obtain⟨y,hy,hd⟩:=this;obtain⟨x,hx,h⟩:=old i y hy;refine hb (cK ok (b:=b) h1 hx ?_)
   rcases h with e | ⟨c,e,h1,h2⟩
   ·subst e;exact hd
   ·subst h1;simp
 ·intro i o y ho hy;obtain⟨x,hx,h⟩:=old i y hy;have hok:=ok.box i o x ho hx;rcases h with e | ⟨c,e,h1,h2⟩
  ·subst e;exact oP ext (λ_ _ _=>rfl) hok
  ·subst h1 h2;obtain⟨b,ys,U,g1,g2,g3⟩:=hok;exact⟨b,ys,U,g1,g2,Rc.ext ext _ _ (aHP _ _ _ g3)⟩
 ·intro i j b y z hi hj hy hz hyd hzd;obtain⟨x,hx,h⟩:=old i y hy;obtain⟨x2,hx2,h2⟩:=old j z hz;refine ok.apart i j b x x2 hi hj hx hx2 ?_ ?_
  ·rcases h with e | ⟨c,e,h1,_⟩
   ·subst e;exact hyd
   ·subst h1;simp
  ·rcases h2 with e | ⟨c,e,h1,_⟩
   ·subst e;exact hzd
   ·subst h1;simp
theorem aNx(σ:List Nat){f:FuncId}{Hc Hc':List Box}{args:List AV}{ret:AV}(C:FnM P f Hc args ret Hc')(hf:sC P f){o:Oper}{need:Env}{H:List Box}
  (hB:aCN n o H σ Hc args=true:=by kernel_rfl) (hE:aBz o need H σ Hc args=(some (f,renL (rn σ H.length) args),Hc.map (iK (rn σ H.length))):=by kernel_rfl) :
  Big P n o need H (ren (rn σ H.length) ret) (cL H σ Hc'):=by
 simp only[aCN,am] at hB;obtain⟨b1,b2,b3,b4,b5,b6,b7⟩:=hB;have b4:=ag b4;have hnd:=aCA b2;have hlt:=aFV b3;simp only[aBz,Prod.mk.injEq] at hE;obtain⟨e1,e2⟩:=hE;split at e1 <;> try cases e1
 rename_i f' avs hca;simp only[Option.some.injEq,Prod.mk.injEq] at e1;obtain⟨rfl,e1⟩:=e1;intro env hs ctx a w Qx hsat;obtain⟨bs,hm⟩:=hsat;dsimp only at hm;obtain⟨⟨c,ho⟩,vs,hv,hrun⟩:=aKE (P:=P) (aDZ hs hm.env) hca hf;refine aC9 rfl (aRa ho) ?_;unfold Oper.wp;have hrun':(execOp a.eval o).run P w = .ok (.enter f' vs.toArray) w:=hrun;rw[hrun']
 simp only[Oper.upon]
 -- the boxes, said as the contract says them
 let H2:List Box:=nW H σ (Hc.map (iK (rn σ H.length)))
 have hl2:H.length=H2.length:=(iM _ _ _).symm;have hk:∀(i:Nat) x y,H[i]? = some x->H2[i]? = some y->(y=x\/∃c e,x = .var c/\y = .var (wk c e)):=by
  intro i x y hx hy;by_cases hi:i∈σ
  ·obtain⟨j,hj⟩:=dm hi;obtain⟨z,hz⟩:∃z,Hc[j]? = some z:=⟨_,af (by have:=aZ hj;omega)⟩
   have h1:H2[i]? = some (iK (rn σ H.length) z):=zS σ H _ j i _ hnd hj (by rw[bq,hz];rfl) (hlt i hi)
   rw[h1] at hy;cases hy;have h2:(zG (rC H σ) (Hc.map (iK (rn σ H.length))))[j]? = some (iK (rn σ H.length) z):=by rw[e2,bq,hz];rfl
   obtain⟨x',t,g1,g2,g3⟩:=aFl (by simp[rC];omega) h2;have h3:x'=x:=by
    simp only[rC,bq,hj,Option.map_some,hx,Option.getD_some,Option.some.injEq] at g1;exact g1.symm
   subst h3;rw[g3]
   have hzd:z ≠ .dead:=by
    obtain⟨z',hz',hd⟩:=aHZ b5 (aZ hz)
    rw[hz] at hz';cases hz';exact hd
   have ht:t ≠ .dead:=by
    rw[bq,hz] at g2;simp only[Option.map_some,Option.some.injEq] at g2;rw[<- g2]
    exact λe=>hzd (uP.1 e)
   cases x' <;> cases t <;> simp[cBox] at ht ⊢;exact .inr ⟨_,rfl⟩
  ·left;have h1:H2[i]? = H[i]? := xH σ H _ i hi;rw[h1,hx] at hy;cases hy;rfl
 have ext2:Ext ⟨H,bs,w,ctx.F⟩ ⟨H2,bs,w,ctx.F⟩:=aEm hl2 λi x y hx hy=>(hk i x y hx hy).imp id (λ⟨c,e,h1,h2⟩=>⟨c,_,h1,h2⟩)
 have ok2:=aRy hl2 hk hm.ok;have L:aKP H2 bs σ Hc:=⟨hnd,b4.symm,λi y hy=>by
  have hi:=aZ hy;have hj:σ[i]? = some (σ[i]'(by omega)):=af (by omega)
  refine⟨_,hj,?_⟩
  rw[<- hl2]
  exact zS σ H _ i _ _ hnd hj (by rw[bq,hy];rfl) (hlt _ (List.getElem_mem _))⟩
 have hargs:RvL ⟨H2,bs,w,ctx.F⟩ (renL (rn σ H2.length) args) vs:=by
  rw[<- hl2,<- e1]
  exact RvL.ext ext2 _ _ (aGb hv)
 refine(aOa C ok2 L b6 b7 hargs).mono ?_;rintro e w'' ⟨y,bs',rfl,h1,h2,h3⟩
 simp only;have hout:cL H2 σ Hc'=cL H σ Hc':=by
  have key:∀(σ:List Nat) (H xs ys:List Box),σ.Nodup->σ.length<=ys.length->(∀s∈σ,s < H.length)->nW (nW H σ xs) σ ys=nW H σ ys:=by
   intro σ H xs ys hn hl hs';apply List.ext_getElem?;intro i;by_cases hi:i∈σ
   ·obtain⟨j,hj⟩:=dm hi;have hlt':=aZ hj;have hy:=af (l:=ys) (i:=j) (by omega)
    rw[zS σ _ _ j i _ hn hj hy (by rw[iM];exact hs' i hi),zS σ _ _ j i _ hn hj hy (hs' i hi)]
   ·rw[xH _ _ _ _ hi,xH _ _ _ _ hi,xH _ _ _ _ hi]
  unfold cL;rw[<- hl2]
  congr 1;refine key σ H _ _ hnd ?_ hlt;have:=h1.len;have e3:(cL H2 σ Hc').length=H2.length+(Hc'.length - σ.length):=by unfold cL;simp[iM]
  simp only[List.length_map,List.length_take]
  have hle:Hc.length<=Hc'.length:=by
   obtain⟨e',w3,_,⟨y3,bs3,_,g,_⟩,_⟩:=(C w _ _ vs (aIe L ok2 b6) (aCk (aBE L ok2.len) b7 hargs)) []
   exact g.len
  omega
 rw[hout] at h1 h2 h3;rw[<- hl2] at h3;exact aIj (μ':=⟨cL H σ Hc',bs',w'',ctx.F⟩) hm (ext2.trans h1) h2 b1 h3
end
end Go.UK

open Array renaming getD_eq_getD_getElem?→eg,getElem?_eq_getElem→ii,replicate→iw
open Bool renaming and_eq_true→am
open List renaming all_eq_true→ca,any_eq_true→kj,filterMap_cons→jl,map_cons→i8,mem_cons→fg,mem_cons_of_mem→gm,mem_filter→ky,mem_map→cj,range→be
open Nat renaming beq→au,ble→f8,blt→jx,eq_of_beq_eq_true→ag,eq_or_lt_of_le→ka,le_of_ble_eq_true→bg,le_refl→ay,lt_succ_iff_lt_or_eq→iz
namespace Go.UK
open Go
set_option linter.all false
variable [bS]
section
variable {P:Program} {T:TypeId→Option TI} {n:Fr}
def aRM(d:Nat)(b:Bool)(st:ASt):ASt:=⟨(d,some (none,.v (.bool b))) :: st.env,st.H⟩
theorem aT9{d:Nat}{b c:Bool}{st:ASt}(hg:get st.env d=some (.v (.bool c)))(hc:c=b){ctx:Mem}{a:Act}{w:World}(hs:Sat n ctx st a w):Sat n ctx (aRM d b st) a w:=by
 subst hc;refine aGB (st:=st) ?_ hs;intro i e hl;unfold aRM bZ at hl;cases hb:au d i with
 | false=>rw[hb] at hl;exact hl
 | true=>
  rw[hb] at hl;cases hl;rw[<- ag hb]
  exact aGW hg
theorem aPm(d:Nat)(b:Bool){c:Bool}{ops:Array Oper}{K:ASt->Prop}{l:List Oper}{st:ASt}(hc:c=b)(hg:get st.env d=some (.v (.bool c)))(hk:awl P n ops l K (aRM d b st)):awl P n ops l K st:=
 λctx a w hs=>hk ctx a w (aT9 hg hc hs)
def plU(T:TypeId->Option TI)(im:Bool)(n:Nat)(o:Oper)(need:Env)(H:List Box):Option (AV×List Box):=
 match dOK n o.dst with
 | false=>none
 | true=>match o.op with
  | .store t p v=>match o.dst with
   | some _=>none
   | none=>match opd need none p,opd need none v,T t with
    | some q,some x,some i=>match au x.n i.size&&fP x with
     | true=>match aAJ H q x with
      | some H'=>some (.v (.bool false),H')
      | none=>none
     | false=>none
    | _,_,_=>none
  | .pick (.tmp c) x y=>match get need c with
   | some (.v (.bool b))=>match b with
    | true=>match opd need none x with | some v=>some (v,H) | none=>none
    | false=>match opd need none y with | some v=>some (v,H) | none=>none
   | _=>none
  | _=>match ev T im (opd need none) H o with
   | some (x,b)=>some (x,aDu H b)
   | none=>none
theorem aIb(hT:TOK P T){im:Bool}{o:Oper}{need:Env}{H H':List Box}{x:AV}(h:plU T im n.n o need H=some (x,H')):Big P n o need H x H':=by
 unfold plU at h;split at h <;> try cases h
 rename_i hd;split at h
 ·rename_i t p v ho;split at h <;> try cases h
  rename_i hdst;split at h <;> try cases h
  rename_i q x' i hq hx hi;split at h <;> try cases h
  rename_i hb;split at h <;> cases h;rename_i hH;simp only[am] at hb;intro env hs;refine aB0 λctx a w hsat=>?_;obtain⟨bs,hm⟩:=hsat;have hE:=aDZ hs hm.env;obtain⟨w',h1,h2,h3⟩:=aJP (P:=P) hT ho hm.ok hi (aV hE noG hq) (aV hE noG hx) hH (ag hb.1) (oC hb.2)
  refine⟨w',h1,bs,?_⟩
  rw[hdst]
  exact hm.putn h2 h3
 ·rename_i c y z ho;split at h <;> try cases h
  rename_i b hc;have key:∀v,(∀a:Act,iC ⟨[],[],default,λ_ _=>False⟩ [] a.tmps->True)->(opd need none (if b then y else z)=some v)->Big P n o need H v H:=by
   intro v _ hv;refine eK hd λa μ ok hH hE=>?_;obtain⟨vc,h1,h2⟩:=hE.get hc;have e:=cC h2;subst e;refine⟨μ,fO.here (y:=a.eval (if b then y else z)) ok ?_ (aV hE noG hv),hH⟩
   simp only[execOp,ho,Act.eval,aAy h1,asBool,Sem.run_bind,Sem.run_pure,Result.andThen_ok]
   cases b <;> rfl
  split at h
  ·split at h <;> cases h;rename_i hv;exact key _ (λ_ _=>trivial) (by simpa using hv)
  ·split at h <;> cases h;rename_i hv;exact key _ (λ_ _=>trivial) (by simpa using hv)
 ·split at h <;> cases h;rename_i hv;exact aOm hT hd hv
def dir(ops:Array Oper)(i:Nat):List Nat:=
 match ops[i]? with
 | some o=>(o.after.toList.filter (Region.binds .any)).map (·.on)
 | none=>[]
def clo(ops:Array Oper):Nat->List Nat->List Nat
 | 0,S=>S
 | i+1,S=>match S.any (au i) with
  | true=>clo ops i (dir ops i++S)
  | false=>clo ops i S
def jZ(listed:Array Bool)(i:Nat):Prop:=listed.getD i false=true
def Down(ops:Array Oper)(listed:Array Bool):Prop:=∀i,jZ listed i->∀j∈dir ops i,jZ listed j
theorem aG9{ops:Array Oper}{listed:Array Bool}(hd:Down ops listed):∀(i:Nat) (S:List Nat),(∀s∈S,jZ listed s)->∀s∈clo ops i S,jZ listed s
 | 0,S,h=>h
 | i+1,S,h=>by
  unfold clo;split
  ·rename_i hb;refine aG9 hd i _ ?_;intro s hs;rcases List.mem_append.1 hs with h' | h'
   ·obtain⟨q,hq,e⟩:=kj.1 hb;have:=ag e;subst this;exact hd _ (h _ hq) s h'
   ·exact h s h'
  ·exact aG9 hd i S h
structure MI where
 keys:List Nat
 d:Option Nat
 e:Option AV
def tW(ops:Array Oper):List (List Nat):=(be ops.size).map λt=>clo ops t (dir ops t)
def inC(C:List (List Nat))(t i:Nat):Bool:=((C[t]?).getD []).any (au i)
def aEx(n:Nat)(p:Nat->Bool):Bool:=
 match n with
 | 0=>true
 | n+1=>p n&&aEx n p
theorem jF : ∀{n:Nat} {p:Nat->Bool},aEx n p=true->∀i,i < n->p i=true
 | 0,p,_,i,h=>by omega
 | n+1,p,h,i,hi=>by
  simp only[aEx,am] at h;rcases iz.1 hi with h' | h'
  ·exact jF h.2 i h'
  ·subst h';exact h.1
def dAt(ms:List MI)(i:Nat):Option Nat:=match ms[i]? with | some x=>x.d | none=>none
def dEq : Option Nat->Option Nat->Bool
 | some a,some b=>au a b
 | none,none=>true
 | _,_=>false
def aC0 : Option Nat->Nat->Bool
 | some a,k=>au a k
 | none,_=>false
def aDx : Option Nat->Option Nat->Bool
 | some a,some b=>au a b
 | _,_=>false
def aFO(ms:List MI):Env->Bool
 | []=>true
 | (_,e) :: r=>(match e with | some (some _,_)=>false | _=>true)&&aFO ms r
def aOW(ms:List MI)(i:Nat):List Nat:=match ms[i]? with | some x=>x.keys | none=>[]
def aSK(C:List (List Nat))(ms:List MI)(N:Nat):Bool:=
 aEx N λi=>(aOW ms i).all λk=>aEx N λj=>match aC0 (dAt ms j) k with
  | true=>(inC C i j&&jx j i)||(inC C j i||au i j)
  | false=>true
abbrev CS:=List (Nat×List Box)
def aIJ(C:List (List Nat)):CS->Bool
 | []=>true
 | (i,_) :: r=>r.all (λq=>inC C q.1 i)&&aIJ C r
def aFT(ops:Array Oper)(C:List (List Nat))(ms:List MI)(cs:CS)(B:Env):Bool:=
 au ms.length ops.size&&(
 aEx ops.size (λi=>(dir ops i).all λj=>jx j i)&&(
 aEx ops.size (λi=>dEq ((ops[i]?).bind (·.dst)) (dAt ms i))&&(
 aEx ops.size (λj=>aEx j λi => !aDx (dAt ms i) (dAt ms j))&&(
 (aFO ms B&&aSK C ms ops.size)&&(
 aIJ C cs&&cs.all (λq=>jx q.1 ops.size))))))
def aAe(C:List (List Nat))(ms:List MI)(B:Env)(i k:Nat):Nat->Option EV
 | 0=>bZ B k
 | j+1=>match ms[j]? with
  | some x=>match aC0 x.d k&&inC C i j with
   | true=>match x.e with | some v=>some (none,v) | none=>none
   | false=>aAe C ms B i k j
  | none=>aAe C ms B i k j
def fL(C:List (List Nat))(ms:List MI)(B:Env)(i:Nat):Env:=
 match ms[i]? with
 | some x=>x.keys.map λk=>(k,aAe C ms B i k i)
 | none=>[]
theorem aJ2{f:Nat->Option EV}:∀{l:List Nat} {i:Nat} {e:EV},bZ (l.map λk=>(k,f k)) i=some e->f i=some e
 | [],i,e,h=>by simp[bZ] at h
 | k :: l,i,e,h=>by
  simp only[i8,bZ] at h;cases hb:au k i with
  | true=>rw[hb] at h;rw[<- ag hb];exact h
  | false=>rw[hb] at h;exact aJ2 h
def hOn(H:List Box):CS->Array Bool->List Box
 | [],_=>H
 | (i,H') :: r,listed=>match listed.getD i false with | true=>hOn H' r listed | false=>H
def aPN(H:List Box):CS->List Box
 | []=>H
 | (_,H') :: r=>aPN H' r
def xY(C:List (List Nat))(i:Nat)(H:List Box):CS->List (List Box)
 | []=>[H]
 | (c,H') :: r=>match inC C c i with
  | true=>[H]
  | false=>match inC C i c with
   | true=>xY C i H' r
   | false=>H :: xY C i H' r
def kL(i:Nat)(H:List Box):CS->Option (List Box×List Box)
 | []=>none
 | (c,H') :: r=>match au c i with | true=>some (H,H') | false=>kL i H' r
def uc(listed:Array Bool):Nat->Nat
 | 0=>0
 | k+1=>uc listed k+(match listed.getD k false with | true=>0 | false=>1)
theorem xK{α:Type}{l:Array α}{i j:Nat}{x:α}(d:α)(h:i≠j):(l.setIfInBounds i x).getD j d=l.getD j d:=by
 rw[eg,eg,Array.getElem?_setIfInBounds_ne h]
theorem aVS{listed:Array Bool}{i:Nat}(hi:i < listed.size):∀k,k<=i->uc (listed.setIfInBounds i true) k=uc listed k
 | 0,_=>rfl
 | k+1,h=>by
  unfold uc;rw[aVS hi k (by omega),xK false (show i≠k by omega)]
theorem aOX{listed:Array Bool}{i:Nat}(hi:i < listed.size)(hu:listed.getD i false=false):∀k,i < k->uc (listed.setIfInBounds i true) k+1=uc listed k
 | 0,h=>by omega
 | k+1,h=>by
  unfold uc;by_cases e:i=k
  ·subst e;rw[aVS hi i (ay _),hu]
   simp[hi]
  ·rw[xK false e]
   have:=aOX hi hu k (by omega)
   omega
theorem aMk{listed:Array Bool}:∀k,uc listed k=0->∀i,i < k->listed.getD i false=true
 | 0,_,i,h=>by omega
 | k+1,h,i,hi=>by
  unfold uc at h;rcases iz.1 hi with h' | h'
  ·exact aMk k (by omega) i h'
  ·subst h';cases hc:listed.getD i false with
   | true=>rfl
   | false=>rw[hc] at h;dsimp only at h;omega
variable {ops:Array Oper}
def Stab(P:Program)(n:Fr)(ops:Array Oper)(C:List (List Nat))(ms:List MI)(cs:CS)(B:Env)(H:List Box)(i:Nat):Prop:=
 ∀o x env,ops[i]? = some o->ms[i]? = some x->Sub (fL C ms B i) env ->
  match kL i H cs with
  | some (H1,H2)=>opS P n ops o ⟨env,H1⟩ ⟨match x.d with | some d=>(match x.e with | some v=>env.set d (none,v) | none=>env.del d) | none=>env,H2⟩
  | none=>∀H'∈xY C i H cs,opS P n ops o ⟨env,H'⟩ ⟨match x.d with | some d=>(match x.e with | some v=>env.set d (none,v) | none=>env.del d) | none=>env,H'⟩
def MI.put(x:MI)(env:Env):Env:=match x.d with | some d=>(match x.e with | some v=>env.set d (none,v) | none=>env.del d) | none=>env
theorem aB4{d k:Nat}{v:AV}{env:Env}(h:bZ env k=some (none,v)):bZ (aEk d env) k=some (none,v):=by
 unfold aEk;split
 ·have key:∀(env:Env),bZ env k=some (none,v)->bZ (aFR d env) k=some (none,v):=by
   intro env
   induction env with
   | nil=>intro h;simp[bZ] at h
   | cons p r ih=>
    obtain⟨j,e0⟩:=p;intro h;unfold bZ at h;unfold aFR bZ;cases hb:au j k with
    | false=>rw[hb] at h;exact ih h
    | true=>
     rw[hb] at h;dsimp only at h ⊢;subst h;rfl
  exact key env h
 ·exact h
theorem qS{a b:Nat}(h:a≠b):au a b=false:=by
 cases hb:au a b with
 | false=>rfl
 | true=>exact absurd (ag hb) h
theorem aK5(a b:Nat):au a b=au b a:=by
 by_cases h:a=b
 ·subst h;rfl
 ·rw[qS h,qS (Ne.symm h)]
theorem aCB{x:MI}{env:Env}{k:Nat}{v:AV}(hne:aC0 x.d k=false)(h:bZ env k=some (none,v)):bZ (x.put env) k=some (none,v):=by
 unfold MI.put;cases hx:x.d with
 | none=>exact h
 | some d=>
  rw[hx] at hne;have hb:au d k=false:=hne;cases x.e with
  | some w=>simp only;unfold Env.set bZ;rw[hb];exact aB4 h
  | none=>simp only;unfold Env.del bZ;rw[hb];exact aB4 h
theorem aHS{x:MI}{env:Env}{d:Nat}{v:AV}(hd:x.d=some d)(he:x.e=some v):bZ (x.put env) d=some (none,v):=by
 unfold MI.put;rw[hd,he]
 simp only;unfold Env.set bZ;simp
theorem aF5{C:List (List Nat)}(hC:C=tW ops){t i:Nat}(h:inC C t i=true):i∈clo ops t (dir ops t):=by
 subst hC;unfold inC tW at h;rw[List.getElem?_map] at h;obtain⟨q,hq,e⟩:=kj.1 h;have e:=ag e;subst e;cases hr:(be ops.size)[t]? with
 | none=>rw[hr] at hq;simp at hq
 | some t'=>
  rw[hr] at hq;have ht:t'=t:=by
   have h1:=aZ hr;rw[List.length_range] at h1;rw[List.getElem?_range h1] at hr;exact(Option.some.inj hr).symm
  subst ht;simpa using hq
theorem aLM{C:List (List Nat)}{ms:List MI}{B env:Env}{i k:Nat}{e:EV}{on:Nat->Prop}(hcl:∀s,inC C i s=true->on s)(hB:∀v,bZ B k=some (none,v)->(∀(j:Nat) x,ms[j]? = some x->on j->aC0 x.d k=false)->bZ env k=some (none,v))(hBf:∀i e,bZ B i=some e->e.1=none)
  (hE:∀(j:Nat) x d v,ms[j]? = some x->on j->x.d=some d->x.e=some v->bZ env d=some (none,v)) (hkey:∀(j:Nat) x,ms[j]? = some x->on j->aC0 x.d k=true->inC C i j=true) :
  ∀(m:Nat),(∀(j:Nat) x,m<=j->ms[j]? = some x->on j->aC0 x.d k=false)->aAe C ms B i k m=some e->bZ env k=some e
 | 0,hup,h=>by
  have h1:=hBf k e h;obtain⟨g,v⟩:=e;simp only at h1;subst h1;exact hB v h λj x hx hon=>hup j x (Nat.zero_le _) hx hon
 | m+1,hup,h=>by
  unfold aAe at h;split at h
  ·rename_i x hx;split at h
   ·rename_i hb;simp only[am] at hb;split at h <;> cases h;rename_i v hv;cases hd:x.d with
    | none=>rw[hd] at hb;cases hb.1
    | some d=>
     rw[hd] at hb;have e1:=ag hb.1;rw[<- e1]
     exact hE m x d v hx (hcl _ hb.2) hd hv
   ·rename_i hb;refine aLM hcl hB hBf hE hkey m (λj y hj hy hon=>?_) h;rcases ka hj with e1 | e1
    ·subst e1;rw[hx] at hy;cases hy;cases hc:aC0 x.d k with
     | false=>rfl
     | true=>rw[hc,hkey m x hx hon hc] at hb;simp at hb
    ·exact hup j y e1 hy hon
  ·rename_i hx;refine aLM hcl hB hBf hE hkey m (λj y hj hy hon=>?_) h;rcases ka hj with e1 | e1
   ·subst e1;rw[hx] at hy;cases hy
   ·exact hup j y e1 hy hon
theorem yX{listed:Array Bool}{i j:Nat}(hi:i < listed.size):jZ (listed.setIfInBounds i true) j↔(j=i\/jZ listed j):=by
 unfold jZ;by_cases h:j=i
 ·subst h;simp[hi]
 ·rw[xK false (Ne.symm h)];simp[h]
theorem aDL{listed:Array Bool}{i:Nat}(h:i∈Region.ready .any ops listed):listed.getD i true=false/\i < ops.size/\∀j∈dir ops i,jZ listed j:=by
 obtain⟨h0,o,ho,hall⟩:=mem_ready.1 h;refine⟨h0,(Array.getElem?_eq_some_iff.1 ho).1,λj hj=>?_⟩
 unfold dir at hj;rw[ho] at hj;obtain⟨e,he,e2⟩:=cj.1 hj;rw[ky] at he;subst e2;exact hall e (by simpa using he.1) he.2
theorem aRl{listed:Array Bool}{i:Nat}(hs:listed.size=ops.size)(hi:i < ops.size)(hu:¬jZ listed i)(h:∀j∈dir ops i,jZ listed j):i∈Region.ready .any ops listed:=by
 rw[mem_ready]
 have ho:ops[i]? = some ops[i]:=ii hi;refine⟨?_,ops[i],ho,λe he hb=>?_⟩
 ·unfold jZ at hu;have hl:i < listed.size:=by omega
  simp[hl] at hu ⊢;exact hu
 ·refine h e.on ?_;unfold dir;rw[ho]
  exact cj.2 ⟨e,ky.2 ⟨by simpa using he,hb⟩,rfl⟩
theorem aLR{listed:Array Bool}{i:Nat}(h:listed.getD i true=false):¬jZ listed i:=by
 unfold jZ;have:i < listed.size:=by
  rcases Nat.lt_or_ge i listed.size with h' | h'
  ·exact h'
  ·simp[Array.getElem?_eq_none h'] at h
 simp[this] at h ⊢;exact h
theorem aJr{listed:Array Bool}(hs:listed.size=ops.size)(hedge:aEx ops.size (λi=>(dir ops i).all λj=>jx j i)=true):∀(k:Nat),k < ops.size->¬jZ listed k->∃i,i∈Region.ready .any ops listed:=by
 intro k
 induction k using Nat.strongRecOn with
 | _ k ih=>
  intro hk hu;by_cases h:∃j∈dir ops k,¬jZ listed j
  ·obtain⟨j,hj,hju⟩:=h;have:=ca.1 (jF hedge k hk) j hj;have h':f8 (j+1) k=true:=this;have:=bg h';exact ih j (by omega) (by omega) hju
  ·exact⟨k,aRl hs hk hu λj hj=>Classical.byContradiction λhn=>h ⟨j,hj,hn⟩⟩
theorem aPb{F:Fence}{m:Nat}{Q:Exit->Act->World->Prop}{i:Nat}{o:Oper}{K:Act->World->Prop}{a:Act}{w:World}(ho:ops[i]? = some o) :
  wpOpIn F m P ops Q i K a w=(if Region.wanted o (yielded ops a.tmps) then o.wpIn F m P a w K Q else(∀f,o.about P w a.eval=some f->F.fn f)/\K (a.put o.dst undef) w):=by
 unfold wpOpIn;rw[ho]
theorem aFI{C:List (List Nat)}{listed:Array Bool}{i:Nat}(hcl:∀s,inC C i s=true->jZ listed s)(hni:∀c,inC C c i=true->¬jZ listed c):∀(H:List Box) (cs:CS),hOn H cs listed∈xY C i H cs
 | H,[]=>by simp[hOn,xY]
 | H,(c,H') :: r=>by
  unfold hOn xY;cases h1:inC C c i with
  | true=>
   have:=hni c h1;unfold jZ at this;cases hg:listed.getD c false with
   | true=>exact absurd hg this
   | false=>exact List.mem_singleton.2 rfl
  | false=>
   cases h2:inC C i c with
   | true=>
    have:=hcl c h2;unfold jZ at this;rw[this]
    exact aFI hcl hni H' r
   | false=>
    cases hg:listed.getD c false with
    | true=>exact gm _ (aFI hcl hni H' r)
    | false=>exact List.mem_cons_self
theorem aIn{listed:Array Bool}{i:Nat}:∀(H:List Box) (cs:CS),kL i H cs=none->hOn H cs (listed.setIfInBounds i true)=hOn H cs listed
 | H,[],_=>rfl
 | H,(c,H') :: r,h=>by
  unfold kL at h;split at h
  ·cases h
  ·rename_i hb;unfold hOn;have hne:i≠c:=λe=>by subst e;simp at hb
   rw[xK false hne,aIn H' r h]
theorem aK1{C:List (List Nat)}{listed:Array Bool}{i:Nat}(hi:i < listed.size)(hu:¬jZ listed i)(hcl:∀s,inC C i s=true->jZ listed s)(hni:∀c,inC C c i=true->¬jZ listed c):∀(H:List Box) (cs:CS) (H1 H2:List Box),aIJ C cs=true->kL i H cs=some (H1,H2) ->
  hOn H cs listed=H1/\hOn H cs (listed.setIfInBounds i true)=H2
 | H,[],H1,H2,_,h=>by simp[kL] at h
 | H,(c,H') :: r,H1,H2,hc,h=>by
  simp only[aIJ,am] at hc;unfold kL at h;split at h
  ·rename_i hb;cases h;have e:=ag hb;subst e;unfold jZ at hu;have h1:listed.getD c false=false:=by cases hg:listed.getD c false with | true=>exact absurd hg hu | false=>rfl
   have h2:(listed.setIfInBounds c true).getD c false=true:=(yX hi).2 (.inl rfl)
   refine⟨by unfold hOn;rw[h1],?_⟩
   unfold hOn;rw[h2]
   simp only;have key:∀(r:CS),(∀q∈r,inC C q.1 c=true)->hOn H' r (listed.setIfInBounds c true)=H':=by
    intro r;cases r with
    | nil=>intro _;rfl
    | cons q r=>
     obtain⟨q1,q2⟩:=q;intro hq;have:=hni q1 (hq (q1,q2) (by simp))
     unfold jZ at this;have h3:¬(listed.setIfInBounds c true).getD q1 false=true:=by
      intro h4;rcases(yX hi).1 h4 with h5 | h5
      ·subst h5;exact absurd (hcl q1 (hq (q1,q2) (by simp))) (by unfold jZ;exact hu)
      ·exact this h5
     unfold hOn;split
     ·rename_i hon;exact absurd hon h3
     ·rfl
   exact key r (λq hq=>ca.1 hc.1 q hq)
  ·rename_i hb;have hne:i≠c:=λe=>by subst e;simp at hb
   -- c is ahead of i in the chain, so it is done
   have hin:inC C i c=true:=by
    have key:∀(r:CS) (H:List Box),(∀q∈r,inC C q.1 c=true)->kL i H r=some (H1,H2)->inC C i c=true:=by
     intro r
     induction r with
     | nil=>intro H _ h;simp[kL] at h
     | cons q r ih=>
      obtain⟨q1,q2⟩:=q;intro H hq h;unfold kL at h;split at h
      ·rename_i hb;have e:=ag hb;subst e;exact hq (q1,q2) (by simp)
      ·exact ih _ (λq hq'=>hq q (by simp[hq'])) h
    exact key r H' (λq hq=>ca.1 hc.1 q hq) h
   have hon:=hcl c hin;unfold jZ at hon;obtain⟨g1,g2⟩:=aK1 hi hu hcl hni H' r H1 H2 hc.2 h;refine⟨by unfold hOn;rw[hon];exact g1,?_⟩
   unfold hOn;rw[xK false hne,hon]
   exact g2
theorem aQX{listed:Array Bool}:∀(H:List Box) (cs:CS),(∀q∈cs,listed.getD q.1 false=true)->hOn H cs listed=aPN H cs
 | H,[],_=>rfl
 | H,(c,H') :: r,h=>by
  unfold hOn aPN;rw[h (c,H') (by simp)]
  exact aQX H' r (λq hq=>h q (by simp[hq]))
theorem aSX{listed:Array Bool}(h:∀i,¬jZ listed i):∀(H:List Box) (cs:CS),hOn H cs listed=H
 | H,[]=>rfl
 | H,(c,H') :: r=>by
  unfold hOn;split
  ·rename_i hon;exact absurd hon (h c)
  ·rfl
theorem aAR{ms:List MI}:∀{B:Env} {k:Nat} {e:EV},aFO ms B=true->bZ B k=some e->e.1=none
 | [],k,e,_,h=>by simp[bZ] at h
 | (j,e0) :: r,k,e,hb,h=>by
  simp only[aFO,am] at hb;unfold bZ at h;cases hj:au j k with
  | false=>rw[hj] at h;exact aAR hb.2 h
  | true=>
   rw[hj] at h;dsimp only at h;subst h;obtain⟨g,v⟩:=e;cases g with
   | none=>rfl
   | some g=>simp at hb
theorem aI9{C:List (List Nat)}{ms:List MI}{N i j:Nat}{x y:MI}{k:Nat}(h:aSK C ms N=true)(hi:i < N)(hj:j < N)(hx:ms[i]? = some x)(hy:ms[j]? = some y)(hk:k∈x.keys)(hd:aC0 y.d k=true) :
  (inC C i j=true/\j < i)\/inC C j i=true\/i=j:=by
 have h1:=jF h i hi;have hk':k∈aOW ms i:=by unfold aOW;rw[hx];exact hk
 have h2:=jF (ca.1 h1 k hk') j hj;have hdj:dAt ms j=y.d:=by unfold dAt;rw[hy]
 rw[hdj,hd] at h2;simp only[Bool.or_eq_true,am] at h2;rcases h2 with ⟨h3,h4⟩ | h3 | h3
 ·have h4':f8 (j+1) i=true:=h4;exact .inl ⟨h3,by have:=bg h4';omega⟩
 ·exact .inr (.inl h3)
 ·exact .inr (.inr (ag h3))
theorem aDS{f:Nat->Option EV}:∀{l:List Nat} {i:Nat} {e:EV},bZ (l.map λk=>(k,f k)) i=some e->i∈l
 | [],i,e,h=>by simp[bZ] at h
 | k :: l,i,e,h=>by
  simp only[i8,bZ] at h;cases hb:au k i with
  | true=>rw[<- ag hb];simp
  | false=>rw[hb] at h;exact gm _ (aDS h)
theorem aS4{C:List (List Nat)}(hC:C=tW ops){ms:List MI}{cs:CS}{B:Env}{H:List Box}{ctx:Mem}{Q:Exit->Act->World->Prop}(hok:aFT ops C ms cs B=true)(hst:∀i,i < ops.size->Stab P n ops C ms cs B H i)
  (hk:∀a w env,Sat n ctx ⟨env,aPN H cs⟩ a w->(∀k v,bZ B k=some (none,v)->(∀x∈ms,aC0 x.d k=false)->bZ env k=some (none,v))->(∀(j:Nat) (x:MI) d v,ms[j]? = some x->x.d=some d->x.e=some v->bZ env d=some (none,v))->Q .normal a w) :
  ∀(fuel:Nat) (listed:Array Bool) (a:Act) (w:World) (env:Env),listed.size=ops.size->Down ops listed->(∀i,jZ listed i->i < ops.size)->uc listed ops.size<=fuel ->
  Sat n ctx ⟨env,hOn H cs listed⟩ a w->(∀k v,bZ B k=some (none,v)->(∀(j:Nat) x,ms[j]? = some x->jZ listed j->aC0 x.d k=false)->bZ env k=some (none,v))->(∀(j:Nat) (x:MI) d v,ms[j]? = some x->jZ listed j->x.d=some d->x.e=some v->bZ env d=some (none,v))->wpAnyIn n.F 0 P .any ops Q fuel listed a w:=by
 simp only[aFT,am] at hok;obtain⟨h1,h2,h3,h4,⟨h5,h5k⟩,h6,h7⟩:=hok;have hsz:=ag h1;have hcs:∀q∈cs,q.1 < ops.size:=λq hq=>by
  have h8:f8 (q.1+1) ops.size=true:=ca.1 h7 q hq;have:=bg h8;omega
 have done:∀(listed:Array Bool) (a:Act) (w:World) (env:Env),(∀i,i < ops.size->jZ listed i)->Sat n ctx ⟨env,hOn H cs listed⟩ a w->(∀k v,bZ B k=some (none,v)->(∀(j:Nat) x,ms[j]? = some x->jZ listed j->aC0 x.d k=false)->bZ env k=some (none,v)) ->
   (∀(j:Nat) (x:MI) d v,ms[j]? = some x->jZ listed j->x.d=some d->x.e=some v->bZ env d=some (none,v))->Q .normal a w:=by
  intro listed a w env hall hsat hB hE;rw[aQX H cs (λq hq=>hall q.1 (hcs q hq))] at hsat;exact hk a w env hsat (λk v hb hl=>hB k v hb λj x hx _=>hl x (List.mem_of_getElem? hx)) (λj x d v hx=>hE j x d v hx (hall j (by have:=aZ hx;omega)))
 have nothing:∀(listed:Array Bool),(∀i,i < ops.size->jZ listed i)->Region.ready .any ops listed=[]:=by
  intro listed hall;refine List.eq_nil_iff_forall_not_mem.2 λi hi=>?_;obtain⟨r1,r2,_⟩:=aDL hi;exact aLR r1 (hall i r2)
 intro fuel
 induction fuel with
 | zero=>
  intro listed a w env hs hd hm hc hsat hB hE;have hall:∀i,i < ops.size->jZ listed i:=aMk ops.size (by omega)
  exact⟨nothing listed hall,done listed a w env hall hsat hB hE⟩
 | succ fuel ih=>
  intro listed a w env hs hd hm hc hsat hB hE;refine⟨λh0=>?_,λi hi=>?_⟩
  ·refine done listed a w env (λj hj=>?_) hsat hB hE;apply Classical.byContradiction;intro hn;obtain⟨i,hi⟩:=aJr hs h2 j hj hn;rw[h0] at hi;cases hi
  ·obtain⟨r1,r2,r3⟩:=aDL hi;have hu:=aLR r1;have hcl:∀s,inC C i s=true->jZ listed s:=λs hs'=>aG9 hd i _ r3 s (aF5 hC hs')
   have hni:∀c,inC C c i=true->¬jZ listed c:=λc hc' hon=>hu (aG9 hd c _ (hd c hon) i (aF5 hC hc'))
   have him:i < ms.length:=by omega
   have ho:ops[i]? = some ops[i]:=ii r2;have hx:ms[i]? = some ms[i]:=List.getElem?_eq_getElem him;have hBf:∀i e,bZ B i=some e->e.1=none:=λi e h=>aAR h5 h;have hsub:Sub (fL C ms B i) env:=by
    intro k e hl;unfold fL at hl;rw[hx] at hl;dsimp only at hl;have hkm:k∈ms[i].keys:=aDS (f:=λk=>aAe C ms B i k i) hl;have hord:∀(j:Nat) x,ms[j]? = some x->jZ listed j->aC0 x.d k=true->inC C i j=true/\j < i:=by
     intro j x hjx hon hdh;rcases aI9 h5k r2 (hm j hon) hx hjx hkm hdh with h' | h' | h'
     ·exact h'
     ·exact absurd hon (hni j h')
     ·subst h';exact absurd hon hu
    refine aLM (on:=jZ listed) hcl (λv hb hl=>hB k v hb hl) hBf (λj x d v hjx hj hd' he=>hE j x d v hjx hj hd' he) (λj x hjx hon hdh=>(hord j x hjx hon hdh).1) i ?_ (aJ2 (f:=λk=>aAe C ms B i k i) hl)
    intro j x hij hjx hon;cases hc:aC0 x.d k with
    | false=>rfl
    | true=>have:=(hord j x hjx hon hc).2;omega
   have hstab:=hst i r2 ops[i] ms[i] env ho hx hsub;have hdst:(ops[i]).dst=ms[i].d:=by
    have:=jF h3 i r2;rw[ho] at this;simp only[Option.bind_some,dAt,hx] at this;generalize (ops[i]).dst=u at *;generalize ms[i].d=v at *;cases u <;> cases v <;> simp[dEq] at this ⊢;exact this
   have hops:opS P n ops ops[i] ⟨env,hOn H cs listed⟩ ⟨ms[i].put env,hOn H cs (listed.setIfInBounds i true)⟩:=by
    cases hch:kL i H cs with
    | none=>
     rw[hch] at hstab;rw[aIn H cs hch]
     exact hstab _ (aFI hcl hni H cs)
    | some q=>
     obtain⟨H1,H2⟩:=q;rw[hch] at hstab;obtain⟨g1,g2⟩:=aK1 (by omega) hu hcl hni H cs H1 H2 h6 hch;rw[g1,g2]
     exact hstab
   have hstep:=hops ctx a w Q hsat;rw[aPb ho]
   have next:∀a' w',Sat n ctx ⟨ms[i].put env,hOn H cs (listed.setIfInBounds i true)⟩ a' w'->wpAnyIn n.F 0 P .any ops Q fuel (listed.setIfInBounds i true) a' w':=by
    intro a' w' hs';refine ih _ a' w' _ (by simpa using hs) ?_ ?_ ?_ hs' ?_ ?_
    ·intro p hp j hj;rw[yX (by omega)] at hp ⊢;rcases hp with hp | hp
     ·subst hp;exact .inr (r3 j hj)
     ·exact .inr (hd p hp j hj)
    ·intro p hp;rw[yX (by omega)] at hp;rcases hp with hp | hp
     ·subst hp;exact r2
     ·exact hm p hp
    ·have:=aOX (k:=ops.size) (show i < listed.size by omega) (by
      cases hc':listed.getD i false with
      | false=>rfl
      | true=>exact absurd hc' hu) r2
     omega
    ·intro k v hke hno;exact aCB (hno i _ hx ((yX (by omega)).2 (.inl rfl))) (hB k v hke λj x hjx hon=>hno j x hjx ((yX (by omega)).2 (.inr hon)))
    ·intro j x d v hjx hj hdx hex;rw[yX (by omega)] at hj;by_cases hji:j=i
     ·subst hji;rw[hx] at hjx;cases hjx;exact aHS hdx hex
     ·have hjo:=hj.resolve_left hji;refine aCB ?_ (hE j x d v hjx hjo hdx hex)
      have hjm:=aZ hjx;have hcl':aDx ms[i].d x.d=false:=by
       have hi':dAt ms i=ms[i].d:=by unfold dAt;rw[hx]
       have hj':dAt ms j=x.d:=by unfold dAt;rw[hjx]
       rw[<- hi',<- hj']
       rcases Nat.lt_trichotomy i j with hlt | hlt | hlt
       ·have:=jF (jF h4 j (by omega)) i hlt;simpa using this
       ·exact absurd hlt.symm hji
       ·have:=jF (jF h4 i r2) j hlt;have h9:aDx (dAt ms j) (dAt ms i)=false:=by simpa using this
        generalize dAt ms i=u at *;generalize dAt ms j=v at *;cases u <;> cases v <;> first | rfl | (simp only[aDx] at h9 ⊢;rw[aK5];exact h9)
      rw[hdx] at hcl';cases hdi:ms[i].d with
      | none=>rfl
      | some di=>rw[hdi] at hcl';exact hcl'
   split
   ·rename_i hw;rw[if_pos hw] at hstep;exact Oper.wpIn_mono next hstep
   ·rename_i hw;rw[if_neg hw] at hstep;exact⟨λ_ _=>trivial,next _ _ hstep⟩
def aEC(ms:List MI)(B:Env):Env:=(ms.filterMap λx=>match x.d with | some d=>some (d,match x.e with | some v=>some (none,v) | none=>none) | none=>none)++B
theorem aF9{B env:Env}(hBf:∀i e,bZ B i=some e->e.1=none){i:Nat}:∀{l:List MI},(∀v,bZ B i=some (none,v)->(∀x∈l,aC0 x.d i=false)->bZ env i=some (none,v))->(∀x∈l,∀d v,x.d=some d->x.e=some v->bZ env d=some (none,v))->∀e,bZ (aEC l B) i=some e->bZ env i=some e
 | [],hB,_=>λe h=>by
  have h:bZ B i=some e:=by simpa[aEC] using h
  have h1:=hBf i e h;obtain⟨g,v⟩:=e;simp only at h1;subst h1;exact hB v h (λx hx=>by cases hx)
 | x :: l,hB,hE=>by
  intro e h;have hE':∀y∈l,∀d v,y.d=some d->y.e=some v->bZ env d=some (none,v):=λy hy=>hE y (by simp[hy])
  unfold aEC at h;cases hd:x.d with
  | none=>
   rw[jl,hd] at h;refine aF9 hBf (l:=l) (λv hv hl=>hB v hv λy hy=>?_) hE' e h;rcases fg.1 hy with e1 | e1
   ·subst e1;rw[hd];rfl
   ·exact hl y e1
  | some d=>
   rw[jl,hd] at h;simp only[List.cons_append,bZ] at h;cases hb:au d i with
   | true=>
    rw[hb] at h;dsimp only at h;cases he:x.e with
    | none=>rw[he] at h;cases h
    | some v=>
     rw[he] at h;cases h;rw[<- ag hb]
     exact hE x (by simp) d v hd he
   | false=>
    rw[hb] at h;refine aF9 hBf (l:=l) (λv hv hl=>hB v hv λy hy=>?_) hE' e h;rcases fg.1 hy with e1 | e1
    ·subst e1;rw[hd];exact hb
    ·exact hl y e1
theorem aSr{id:Nat}{l:List Oper}{Q:Exit->ASt->Prop}{st:ASt}(hm:P.follows .mixedOrders=true){ms:List MI}{cs:CS}
  (hok:aFT l.toArray (tW l.toArray) ms cs st.env=true) (hst:∀i,i < l.toArray.size->Stab P n l.toArray (tW l.toArray) ms cs st.env st.H i)
  (hk:Q .normal ⟨aEC ms st.env,aPN st.H cs⟩):aw P n (.region id l.toArray true) Q st:=by
 intro ctx a w hs;refine wpIn_region_any hm ?_;obtain⟨bs,hmm⟩:=hs;have hdrew:Sat n ctx st a { w with drawn:=w.drawn+1 }:=by
  have hl:dG w w.drew:=dG.drew w;exact⟨bs,{ h:=rfl,ok:=OK.later hl hmm.ok,ext:=hmm.ext.trans (Ext.later hl),env:=hmm.env.ext (Ext.later hl),size:=hmm.size,low:=hmm.low,defers:=vQ.ext hmm.ok (Ext.later hl) hmm.defers,nod:=hmm.nod,outs:=λp hp=>(hmm.outs p hp).ext (Ext.later hl) }⟩
 have hl0:∀i,¬jZ (iw l.toArray.size false) i:=by
  intro i h;unfold jZ at h;rw[eg] at h;rw[Array.getElem?_replicate] at h;split at h <;> simp at h
 have hb5:aFO ms st.env=true:=by
  simp only[aFT,am] at hok;exact hok.2.2.2.2.1.1
 have hlen:ms.length=l.toArray.size:=by
  simp only[aFT,am] at hok;exact ag hok.1
 refine aS4 rfl (ctx:=ctx) hok hst ?_ _ _ _ _ st.env (by simp) (λi h=>absurd h (hl0 i)) (λi h=>absurd h (hl0 i)) ?_ ?_ (λ_ _ h _=>h) (λj x d v _ h=>absurd h (hl0 j))
 ·intro a w env hs hB hE;refine⟨_,hk,aGB (st:=⟨env,aPN st.H cs⟩) (λi e h=>aF9 (λi e h=>aAR hb5 h) (λv=>hB i v) (λx hx d v hd he=>?_) e h) hs⟩
  obtain⟨j,hj⟩:=List.getElem?_of_mem hx;exact hE j x d v hj hd he
 ·have:∀k,uc (iw l.toArray.size false) k<=k:=by
   intro k
   induction k with
   | zero=>exact ay _
   | succ k ih=>unfold uc;split <;> omega
  exact this _
 ·rw[aSX hl0]
  exact hdrew
end
end Go.UK

namespace Go.UK
open Go
set_option linter.all false
variable [bS]
def rF(l:List Oper)(i:Nat):Oper:=(l[i]?).getD default
def aAj{α:Type}:List (Nat×α)->Nat->Option α
 | [],_=>none
 | (j,x) :: r,i=>match Nat.beq j i with | true=>some x | false=>aAj r i
def aDf(l:List Oper)(o:Oper)(need:Env):Bool:=
 match o.guard with
 | none=>false
 | some (j,want)=>match (rF l j).dst with
  | some dj=>match get need dj with
   | some (.v (.bool b))=>match aKk b want with | true=>false | false=>true
   | some (.tup [])=>true
   | _=>false
  | none=>false
def aAb(l:List Oper)(o:Oper):List Nat:=
 (match o.guard with
  | some (j,_)=>match (rF l j).dst with | some d=>[d] | none=>[]
  | none=>[])++o.op.operands.toList.filterMap λx=>match x with | .tmp t=>some t | _=>none
def isEff(im:Nat->Bool)(o:Oper):Bool:=
 match o.op with
 | .store .. => true
 | .alloc _=>match o.dst with | some d=>(match im d with | true=>false | false=>true) | none=>true
 | .box _ _=>match o.dst with | some d=>(match im d with | true=>false | false=>true) | none=>true
 | _=>false
def aRX(im:Nat->Bool)(o:Oper):Bool:=match o.dst with | some d=>im d | none=>false
structure DS where
 ms:List MI
 cs:CS
 H:List Box
abbrev O1:=List (Nat×AV)
abbrev O2:=List (Nat×(List Box->AV×List Box))
def dStep(T:TypeId->Option TI)(im:Nat->Bool)(n:Nat)(l:List Oper)(C:List (List Nat))(B:Env)(o1:O1)(o2:O2)(i:Nat)(o:Oper)(s:DS):DS:=
 match aDf l o ((aAb l o).map λk=>(k,aAe C s.ms B i k i)) with
 | true=>⟨s.ms++[⟨aAb l o,o.dst,some (.tup [])⟩],s.cs,s.H⟩
 | false=>match aAj o1 i with
  | some x=>⟨s.ms++[⟨aAb l o,o.dst,some x⟩],s.cs,s.H⟩
  | none=>match aAj o2 i with
   | some f=>⟨s.ms++[⟨aAb l o,o.dst,some (f s.H).1⟩],s.cs++[(i,(f s.H).2)],(f s.H).2⟩
   | none=>match plU T (aRX im o) n o ((aAb l o).map λk=>(k,aAe C s.ms B i k i)) s.H with
    | some (x,H')=>match isEff im o with
     | true=>⟨s.ms++[⟨aAb l o,o.dst,some x⟩],s.cs++[(i,H')],H'⟩
     | false=>⟨s.ms++[⟨aAb l o,o.dst,some x⟩],s.cs,s.H⟩
    | none=>⟨s.ms++[⟨aAb l o,o.dst,none⟩],s.cs,s.H⟩
def dRun(T:TypeId->Option TI)(im:Nat->Bool)(n:Nat)(l:List Oper)(C:List (List Nat))(B:Env)(o1:O1)(o2:O2):Nat->List Oper->DS->DS
 | _,[],s=>s
 | i,o :: r,s=>dRun T im n l C B o1 o2 (i+1) r (dStep T im n l C B o1 o2 i o s)
def wP(T:TypeId->Option TI)(im:Nat->Bool)(n:Nat)(l:List Oper)(st:ASt)(o1:O1)(o2:O2):DS:=
 dRun T im n l (tW l.toArray) st.env o1 o2 0 l ⟨[],[],st.H⟩
def dSt(T:TypeId->Option TI)(im:Nat->Bool)(n:Nat)(l:List Oper)(st:ASt)(o1:O1)(o2:O2):ASt:=
 ⟨aEC (wP T im n l st o1 o2).ms st.env,aPN st.H (wP T im n l st o1 o2).cs⟩
def eAt(ms:List MI)(i:Nat):Option AV:=match ms[i]? with | some x=>x.e | none=>none
def aNH(i:Nat)(H:List Box)(cs:CS):List Box:=match kL i H cs with | some (H1,_)=>H1 | none=>[]
def aEB{α:Type}:Option α->Bool
 | none=>true
 | some _=>false
def aMU{α:Type}:Option α->Bool
 | none=>false
 | some _=>true
def aIK : Option AV->Bool
 | some (.tup [])=>true
 | _=>false
theorem aGa{x:Option AV}(h:aIK x=true):x=some (.tup []):=by
 unfold aIK at h;split at h
 ·rfl
 ·cases h
def dB(l:List Oper)(C:List (List Nat))(ms:List MI)(cs:CS)(B:Env)(H:List Box)(o1:O1)(o2:O2)(i:Nat):Bool:=
 match aDf l (rF l i) (fL C ms B i) with
 | true=>aIK (eAt ms i)&&aEB (kL i H cs)
 | false=>gOK l.toArray (rF l i) (fL C ms B i)&&(aMU (eAt ms i)&&(match aAj o1 i with
  | some _=>aEB (kL i H cs)
  | none=>match aAj o2 i with
   | some _=>aMU (kL i H cs)
   | none=>true))
def dL(T:TypeId->Option TI)(im:Nat->Bool)(n:Nat)(l:List Oper)(C:List (List Nat))(ms:List MI)(cs:CS)(B:Env)(H:List Box)(o1:O1)(o2:O2)(i:Nat):List (Option (AV×List Box)):=
 match aDf l (rF l i) (fL C ms B i) with
 | true=>[]
 | false=>match aAj o1 i with
  | some x=>[some (x,[])]
  | none=>match aAj o2 i with
   | some f=>[some (f (aNH i H cs))]
   | none=>match kL i H cs with
    | some (H1,_)=>[plU T (aRX im (rF l i)) n (rF l i) (fL C ms B i) H1]
    | none=>(xY C i H cs).map λH'=>plU T (aRX im (rF l i)) n (rF l i) (fL C ms B i) H'
def dR(l:List Oper)(C:List (List Nat))(ms:List MI)(cs:CS)(B:Env)(H:List Box)(o1:O1)(o2:O2)(i:Nat):List (Option (AV×List Box)):=
 match aDf l (rF l i) (fL C ms B i) with
 | true=>[]
 | false=>match aAj o1 i with
  | some _=>[some ((eAt ms i).getD default,[])]
  | none=>match kL i H cs with
   | some (_,H2)=>[some ((eAt ms i).getD default,H2)]
   | none=>(xY C i H cs).map λH'=>some ((eAt ms i).getD default,H')
def aNV(l:List Oper)(C:List (List Nat))(s:DS)(st:ASt)(o1:O1)(o2:O2):Bool:=
 aFT l.toArray C s.ms s.cs st.env&&aEx l.toArray.size (dB l C s.ms s.cs st.env st.H o1 o2)
def aM1(T:TypeId->Option TI)(im:Nat->Bool)(n:Nat)(l:List Oper)(C:List (List Nat))(s:DS)(st:ASt)(o1:O1)(o2:O2):List (List (Option (AV×List Box))):=
 (List.range l.toArray.size).map (dL T im n l C s.ms s.cs st.env st.H o1 o2)
def aNE(l:List Oper)(C:List (List Nat))(s:DS)(st:ASt)(o1:O1)(o2:O2):List (List (Option (AV×List Box))):=
 (List.range l.toArray.size).map (dR l C s.ms s.cs st.env st.H o1 o2)
section
variable {P:Program} {T:TypeId→Option TI} {n:Fr}
def or2(P:Program)(n:Fr)(l:List Oper)(C:List (List Nat))(ms:List MI)(cs:CS)(B:Env)(H:List Box):O2->Prop
 | []=>True
 | (i,f) :: r=>Big P n (rF l i) (fL C ms B i) (aNH i H cs) (f (aNH i H cs)).1 (f (aNH i H cs)).2/\or2 P n l C ms cs B H r
theorem aM4{l:List Oper}{C:List (List Nat)}{ms:List MI}{cs:CS}{B:Env}{H:List Box}:∀{o:O2} {i:Nat} {f:List Box->AV×List Box},or2 P n l C ms cs B H o->aAj o i=some f->Big P n (rF l i) (fL C ms B i) (aNH i H cs) (f (aNH i H cs)).1 (f (aNH i H cs)).2
 | [],i,x,_,h=>by simp[aAj] at h
 | (j,y) :: r,i,x,ho,h=>by
  simp only[aAj] at h;cases hb:Nat.beq j i with
  | true=>
   rw[hb] at h;cases h;have:=Nat.eq_of_beq_eq_true hb;subst this;exact ho.1
  | false=>rw[hb] at h;exact aM4 ho.2 h
theorem aQN{ops:Array Oper}{o:Oper}{need env:Env}{H H':List Box}{x:AV}(hs:Sub need env)(hg:gOK ops o need=true)(b:Big P n o need H x H'):opS P n ops o ⟨env,H⟩ ⟨env.put o.dst (none,x),H'⟩:=by
 refine aLv ?_ (b env hs)
 unfold gOK at hg ⊢;split at hg
 ·rfl
 ·rename_i j want hgd;split at hg
  ·cases hg
  ·rename_i dj hdj;split at hg
   ·rename_i b' hb';have:get env dj=some (.v (.bool b')):=by
     have:=hs dj _ (aGW hb')
     unfold get;rw[this]
    rw[this]
    exact hg
   ·cases hg
theorem aNd{l:List Oper}{i:Nat}{o:Oper}(ho:l.toArray[i]? = some o){need env:Env}{H:List Box}(hs:Sub need env)(h:aDf l o need=true)(hd:dOK n.n o.dst=true):opS P n l.toArray o ⟨env,H⟩ ⟨match o.dst with | some d=>env.set d (none,.tup []) | none=>env,H⟩:=by
 have hw:∀ctx a w,Sat n ctx ⟨env,H⟩ a w->Region.wanted o (yielded l.toArray a.tmps)=false:=by
  intro ctx a w hsat;obtain⟨bs,hm⟩:=hsat;have hE:=aDZ hs hm.env;unfold aDf at h;split at h
  ·cases h
  ·rename_i j want hg;split at h
   ·rename_i dj hdj;have hfl:aDV l.toArray j=some dj:=by
     unfold aDV;unfold rF at hdj;cases hj:l[j]? with
     | none=>rw[hj] at hdj;exact absurd (show(none:Option Tmp)=some dj from hdj) (by simp)
     | some oj=>rw[hj] at hdj;simpa[hj] using hdj
    split at h
    ·rename_i b hb;split at h
     ·cases h
     ·rename_i hsb;exact aJc hg hfl hb hsb hE
    ·rename_i hb;exact aHq hg hfl hb hE
    ·cases h
   ·cases h
 refine aD4 ?_ hw;unfold aNZ;cases hdst:o.dst with
 | none=>rfl
 | some d=>
  rw[hdst] at hd;simp only[dOK] at hd;split at hd
  ·cases hd
  ·rename_i hn;simp only[hn]
theorem aMO{α:Type}{f g:Nat->α}{N:Nat}(h:(List.range N).map f=(List.range N).map g){i:Nat}(hi:i < N):f i=g i:=by
 have:=congrArg (λl=>l[i]?) h;simpa[List.getElem?_map,List.getElem?_range hi] using this
end
end Go.UK

open Bool renaming and_eq_true→am
open Nat renaming beq→au,eq_of_beq_eq_true→ag,le_of_ble_eq_true→bg
open Go.Sem renaming run_bind→ap,run_pure→bl
namespace Go.UK
open Go
set_option linter.all false
variable [bS]
section
variable {P:Program} {T:TypeId→Option TI} {n:Fr}
theorem tn_n{K:ASt->Prop}{Q:Exit->ASt->Prop}{st:ASt}(h:K st):tn K Q .normal st:=h
theorem tn_x{K:ASt->Prop}{Q:Exit->ASt->Prop}{id:Nat}{st:ASt}(h:Q (.exit id) st):tn K Q (.exit id) st:=h
theorem aTn{id:Nat}{Q:Exit->ASt->Prop}{st:ASt}(h:Q .normal st):inB id Q (.exit id) st:=by simp only[inB,if_true];exact h
theorem inB_x{id id':Nat}{Q:Exit->ASt->Prop}{st:ASt}(hne:au id' id=false)(h:Q (.exit id') st):inB id Q (.exit id') st:=by
 simp only[inB]
 rw[if_neg (by intro e;subst e;simp at hne)]
 exact h
theorem aDd{α β:Type}{x:Option α}{f:α->Option β}{r:β}(h:x.bind f=some r):∃y,x=some y/\f y=some r:=by
 cases x with
 | none=>cases h
 | some y=>exact⟨y,rfl,h⟩
theorem aQ8{α:Type}{b:Bool}{px py:Option α}{r:α}(d:Nat){ops:Array Oper}{l:List Oper}{K:ASt->Prop}{st:ASt}(h:cond b px py=some r)(hb:get st.env d=some (.v (.bool b)))
  (h1:px=some r->awl P n ops l K (aRM d true st)) (h2:py=some r->awl P n ops l K (aRM d false st)):awl P n ops l K st:=by
 cases b with
 | true=>exact aPm d true rfl hb (h1 h)
 | false=>exact aPm d false rfl hb (h2 h)
def aTL : List AV->AV
 | [x]=>x
 | l => .tup l
def aCJ(k:Nat):List AV->Env
 | []=>[]
 | x :: r=>(k,some (none,x)) :: aCJ (k+1) r
theorem aIu{μ:Mem}{tmps:Array Value}:∀(xs:List AV) (vs:List Value) (k:Nat),RvL μ xs vs->(∀(i:Nat) v,vs[i]? = some v->tmps[k+i]? = some v)->iC μ (aCJ k xs) tmps
 | [],_,_,_,_=>by intro i e h;simp[aCJ,bZ] at h
 | x :: xs,vs,k,hr,ht=>by
  obtain⟨v,r,e,h1,h2⟩:=hr;subst e;intro i e h;unfold aCJ bZ at h;cases hb:au k i with
  | true=>
   rw[hb] at h;cases h;have:=ag hb;subst this;refine⟨v,by simpa using ht 0 v rfl,?_⟩
   show Rv μ x v;cases x with
   | tup vs=>simp[Rv0,AV.isAgg,Rc] at h1
   | _=>exact h1
  | false=>
   rw[hb] at h;exact aIu xs r (k+1) h2 (λi v hv=>by have:=ht (i+1) v (by simpa using hv);rw[show k+1+i=k+(i+1) by omega];exact this) i e h
def aQH(T:TypeId->Option TI)(env:Env)(H:List Box):ResultVar->Option AV
 | .tmp t=>match get env t with
  | some x=>match fP x with | true=>some x | false=>none
  | none=>none
 | .cell a ty=>match get env a,T ty with
  | some q,some i=>match aJ8 H q with
   | some x=>match au x.n i.size&&(x.isAgg==i.kind.agg)&&fP x with | true=>some x | false=>none
   | none=>none
  | _,_=>none
def aFh(T:TypeId->Option TI)(env:Env)(H:List Box):List ResultVar->Option (List AV)
 | []=>some []
 | r :: rs=>match aQH T env H r,aFh T env H rs with
  | some x,some l=>some (x :: l)
  | _,_=>none
theorem aBT{μ:Mem}{x:AV}{y:Value}(h:Rv μ x y)(hn:fP x=true):Rv0 μ x y:=by
 cases x <;> first | exact h | simp[fP] at hn
theorem aLu{μ:Mem}{x:AV}{y:Value}(h:Rv0 μ x y):Rv μ x y:=by
 cases x <;> first | exact h | (simp[Rv0,AV.isAgg,Rc] at h)
theorem aOL(hT:TOK P T){μ:Mem}{env:Env}{tmps:Array Value}(ok:μ.OK)(he:iC μ env tmps){r:ResultVar}{x:AV}(h:aQH T env μ.H r=some x) :
  ∃y,(match r with | .tmp t=>(pure (tmps.getD t undef):Sem Value) | .cell a t=>do loadVar t (<- asAddr (tmps.getD a undef))).run P μ.w = .ok y μ.w/\Rv0 μ x y:=by
 cases r with
 | tmp t=>
  simp only[aQH] at h;split at h <;> try cases h
  rename_i x' hx;split at h <;> cases h;rename_i hn;obtain⟨y,h1,h2⟩:=he.get hx;exact⟨y,by simp only[aAy h1,bl],aBT h2 hn⟩
 | cell a ty=>
  simp only[aQH] at h;split at h <;> try cases h
  rename_i q i hq hi;split at h <;> try cases h
  rename_i x' hx;split at h <;> cases h;rename_i hb;simp only[am,beq_iff_eq] at hb;obtain⟨y,h1,h2⟩:=he.get hq;obtain⟨b,off,zs,h3,h4,h5⟩:=aI5 ok hx h2;obtain⟨v,h6,h7⟩:=aB5 hT hi h4 hb.1.2 (ag hb.1.1) h5;refine⟨v,?_,aBT h7 hb.2⟩
  simp only[aAy h1,h3,asAddr,ap,bl,Result.andThen_ok,h6]
theorem aEK(hT:TOK P T){μ:Mem}{env:Env}{tmps:Array Value}(ok:μ.OK)(he:iC μ env tmps):∀(rs:List ResultVar) (xs:List AV),aFh T env μ.H rs=some xs ->
  ∃ys,(List.mapM (λ(r:ResultVar)=>match r with | .tmp t=>(pure (tmps.getD t undef):Sem Value) | .cell a t=>do loadVar t (<- asAddr (tmps.getD a undef))) rs).run P μ.w = .ok ys μ.w/\RvL μ xs ys/\ys.length=rs.length
 | [],xs,h=>by
  simp only[aFh,Option.some.injEq] at h;subst h;exact⟨[],by simp,rfl,rfl⟩
 | r :: rs,xs,h=>by
  simp only[aFh] at h;split at h <;> cases h;rename_i x l h1 h2;obtain⟨y,g1,g2⟩:=aOL (P:=P) hT ok he h1;obtain⟨ys,g3,g4,g5⟩:=aEK hT ok he rs l h2;refine⟨y :: ys,?_,⟨y,ys,rfl,g2,g4⟩,by simp[g5]⟩
  simp only[List.mapM_cons,ap,g1,Result.andThen_ok,g3,bl]
def aOd(lo:Nat)(H H':List Box)(ret:AV):Bool:=
 uM lo H H'&&(Nat.ble H'.length H.length&&(nT H' H'&&low H' ret))
def aPD(T:TypeId->Option TI)(rs:List ResultVar)(st:ASt)(ret:AV)(H':List Box):Option (AV×List Box):=
 match aFh T st.env st.H rs with
 | some xs=>some (wk (aTL xs) ret,zG st.H H')
 | none=>none
def aFK(T:TypeId->Option TI)(lo:Nat)(rs:List ResultVar)(ret:AV)(H':List Box)(e:Exit)(st:ASt):Prop:=
 (e = .ret\/e = .normal)/\aOd lo st.H H' ret=true/\aPD T rs st ret H'=some (ret,H')
theorem fin_r{lo:Nat}{rs:List ResultVar}{ret:AV}{H':List Box}{st:ASt}(h:(aOd lo st.H H' ret,aPD T rs st ret H')=(true,some (ret,H')):=by kernel_rfl):aFK T lo rs ret H' .ret st:=by
 simp only[Prod.mk.injEq] at h;exact⟨.inl rfl,h.1,h.2⟩
theorem fin_n{lo:Nat}{rs:List ResultVar}{ret:AV}{H':List Box}{st:ASt}(h:(aOd lo st.H H' ret,aPD T rs st ret H')=(true,some (ret,H'))):aFK T lo rs ret H' .normal st:=by
 simp only[Prod.mk.injEq] at h;exact⟨.inr rfl,h.1,h.2⟩
theorem aKu(hT:TOK P T){f:FuncId}{fn:Func}{c:Code}{rs:List ResultVar}{args:List AV}{ret:AV}{H H':List Box}{lo m:Nat}(hf:P.funcs[f]? = some fn)(hb:fn.body=some c)
  (hk:(au fn.ntmps m&&(Nat.ble args.length m&&au lo H.length))=true)
  (hres:fn.results=rs.toArray) (h:aw P (Fr.f m lo) c (aFK T lo rs ret H') ⟨aCJ 0 args,H⟩):FnM P f H args ret H':=by
 intro w F bs vs ok hr;simp only[am] at hk;obtain⟨k1,k2,k3⟩:=hk;have hn:=ag k1;have hargs:=bg k2;have hlo:=ag k3;refine(callsIn_wide (n:=0)).1 (callsIn_of_wp hf hb trivial ?_)
 have lens:∀(μ:Mem) (xs:List AV) (vs:List Value),RvL μ xs vs->vs.length=xs.length:=by
  intro μ xs
  induction xs with
  | nil=>intro vs h;have:vs=[]:=h;subst this;rfl
  | cons x xs ih=>rintro vs ⟨v,r,e,_,h2⟩;subst e;simp[ih r h2]
 have hlen:=lens _ _ _ hr;have hsat:Sat (Fr.f m lo) ⟨H,bs,w,F⟩ ⟨aCJ 0 args,H⟩ { tmps:=vs.toArray++Array.replicate (fn.ntmps - vs.toArray.size) undef,defers:=[] } w:=by
  refine⟨bs,{ h:=rfl,ok:=ok,ext:=Ext.refl _,env:=aIu args vs 0 hr ?_,size := ?_,low:=Nat.le_of_eq hlo.symm,defers:=trivial,nod:=λ_=>rfl,outs:=λp hp=>by cases hp }⟩
  ·intro i v hv;have:=aZ hv;rw[Nat.zero_add,Array.getElem?_append_left (by simpa using this)]
   simpa using hv
  ·simp;omega
 have hwide:(Fr.f m lo).F=Fence.wide:=Fr.wide rfl;have hh:=h ⟨H,bs,w,F⟩ _ _ hsat;rw[hwide] at hh;refine wpIn_mono hh ?_;rintro e a' w' ⟨st',⟨he,h1,h2⟩,bs',hm⟩
 dsimp only at hm;unfold aPD at h2;cases hxs:aFh T st'.env st'.H rs with
 | none=>rw[hxs] at h2;cases h2
 | some xs=>
 rw[hxs] at h2;simp only[Option.some.injEq,Prod.mk.injEq] at h2;simp only[aOd,am] at h1;obtain⟨b1,b2,b3,b4⟩:=h1;obtain⟨ys,hys,hrl,hyl⟩:=aEK (P:=P) (μ:=⟨st'.H,bs',w',F⟩) hT hm.ok hm.env rs xs hxs;have hxl:=lens _ _ _ hrl;obtain⟨v,hres',hrv⟩:∃v,(results fn a'.tmps).run P w' = .ok v w'/\Rv ⟨st'.H,bs',w',F⟩ (aTL xs) v:=by
  have h0:(results fn a'.tmps).run P w'=Sem.run P (pure (if h:ys.toArray.size=1 then ys.toArray[0] else Value.tuple ys.toArray)) w':=by
   simp only[results,hres,ap,Array.mapM_eq_mapM_toList,Sem.run_map]
   exact(congrArg (λr:Result (List Value)=>(r.andThen λa w'=>Result.ok a.toArray w').andThen λa w'=>Sem.run P (pure (if h:a.size=1 then a[0] else Value.tuple a)) w') hys)
  match xs,ys,hrl,hxl,h0 with
  | [],ys,hrl,hxl,h0=>
   have:ys=[]:=hrl;subst this;exact⟨_,h0,#[],rfl,rfl⟩
  | [x],ys,hrl,hxl,h0=>
   obtain⟨y,r,e,g1,g2⟩:=hrl;have:r=[]:=g2;subst this e;exact⟨y,h0,aLu g1⟩
  | x :: x' :: xr,ys,hrl,hxl,h0=>
   have:¬ys.toArray.size=1:=by simp at hxl ⊢;omega
   rw[dif_neg this] at h0;exact⟨_,h0,_,rfl,by simpa using hrl⟩
 obtain⟨less,ext,ok'⟩:=aP7 (ctx:=⟨H,bs,w,F⟩) (lo:=lo) b1 (bg b2) b3 h2.2 hm.ok hm.ext hm.low;have hfin:Rv ⟨H',bs'.take H'.length,w',F⟩ ret v:=by
  have:=aP3 (e:=ret) hrv;rw[h2.1] at this;exact aAF less b4 (by rw[zU];exact this)
 rcases he with rfl | rfl
 ·exact⟨hm.nod rfl,_,hres',_,_,rfl,ext,ok',hfin⟩
 ·exact⟨hm.nod rfl,_,hres',_,_,rfl,ext,ok',hfin⟩
theorem FnM.later{f:FuncId}{args:List AV}{ret:AV}(C:FnM P f [] args ret [])(w:World)(F:Nat->Nat->Prop)(vs:List Value)(ok:(⟨[],[],w,F⟩:Mem).OK)(hr:RvL ⟨[],[],w,F⟩ args vs) :
  Calls P f vs.toArray w λe w'=>∃y,e = .returned y/\dG w w'/\Rv ⟨[],[],w',F⟩ ret y:=by
 refine(C w F [] vs ok hr).mono ?_;rintro e w' ⟨y,bs',rfl,ext,ok',hy⟩
 have hl:bs'=[]:=List.eq_nil_of_length_eq_zero ok'.len;subst hl;refine⟨y,rfl,⟨ext.size,λb hb=>ext.blocks b hb ?_,ext.os,ext.tape,ext.output⟩,hy⟩
 rintro o ⟨id,h,_⟩
 simp at h
end
end Go.UK

