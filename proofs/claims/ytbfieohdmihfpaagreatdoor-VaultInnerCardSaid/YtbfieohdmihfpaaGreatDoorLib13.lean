/- The own layer: abstract values, their memory, and the steps of the model over them: for any program. -/
import Derived.Test.YtbfieohdmihfpaaGreatDoorLib12
namespace Go.UK
open Go
set_option linter.all false
variable [bL]
section
variable {P:Program} {T:TypeId→Option TI} {im:Nat→Bool} {n:Fr} {Q:Exit→ASt→Prop} {p:Pt}
theorem At.of(im:Nat->Bool)(hT:TOK P T)(hm:P.follows .mixedOrders=true){c:Code}{st:ASt}{π:Prop}(e:π)(h:π->At P T im n Q (.code c [] st)):aw P n c Q st:=h e hT hm
def aMN : Pt->Code
 | .code c _ _=>c
 | _ => .skip
theorem aMy{q:Pt}{g:Operand}{a:Array Tmp}{x y:Code}(h:aMN q = .rangeFunc g a x y):∃ks st,q = .code (.rangeFunc g a x y) ks st:=by
 unfold aMN at h;split at h
 ·subst h;exact⟨_,_,rfl⟩
 ·cases h
theorem At.rg{π:Prop}(k:Nat){s:aDz}{env:Env}{Hc Hc':List Box}{args:List AV}{ret:AV}{f:FuncId}(I:ItM P f s env Hc args ret Hc' none)(hf:nP P f)(g:Operand)(σ0:List Nat)(t:ASt)(caps:List AV)
  (h:π->At P T im n Q (Go.UK.aAn (aMs (Go.UK.adv T im [] n.n k p)) t))
  (hcode:(aMN (Go.UK.adv T im [] n.n k p),rngE g (nY (Go.UK.adv T im [] n.n k p)),n.ro,n.rg,n.n)=(.rangeFunc g s.ps.toArray s.assign s.body,some (f,caps),none,true,s.n):=by kernel_rfl)
  (hB:(λr:Loop=>rngB (cW (Go.UK.adv T im [] n.n k p)) σ0 Hc Hc' args env r)=(λ_=>true):=by kernel_rfl)
  (hE:(λr:Loop=>(wkL (.yld (cW (Go.UK.adv T im [] n.n k p)).length :: caps) (renL (rn (σ0++[(cW (Go.UK.adv T im [] n.n k p)).length]) ((cW (Go.UK.adv T im [] n.n k p)).length+1)) args),pW (cW (Go.UK.adv T im [] n.n k p)++[Box.loop r]) (σ0++[(cW (Go.UK.adv T im [] n.n k p)).length]),aID (nY (Go.UK.adv T im [] n.n k p)) (swE (rn (σ0++[(cW (Go.UK.adv T im [] n.n k p)).length]) ((cW (Go.UK.adv T im [] n.n k p)).length+1)) env)))
   = (λr=>(renL (rn (σ0++[(cW (Go.UK.adv T im [] n.n k p)).length]) ((cW (Go.UK.adv T im [] n.n k p)).length+1)) args,(Hc++[Box.loop r]).map (jS (rn (σ0++[(cW (Go.UK.adv T im [] n.n k p)).length]) ((cW (Go.UK.adv T im [] n.n k p)).length+1))),swE (rn (σ0++[(cW (Go.UK.adv T im [] n.n k p)).length]) ((cW (Go.UK.adv T im [] n.n k p)).length+1)) env)):=by kernel_rfl)
  (hj:(λr:Loop=>(cOK n ⟨nY (Go.UK.adv T im [] n.n k p),mT (cW (Go.UK.adv T im [] n.n k p)) σ0 (Hc'.map (jS (rn (σ0++[(cW (Go.UK.adv T im [] n.n k p)).length]) ((cW (Go.UK.adv T im [] n.n k p)).length+1))))++[.loop r]⟩ t,cSt ⟨nY (Go.UK.adv T im [] n.n k p),mT (cW (Go.UK.adv T im [] n.n k p)) σ0 (Hc'.map (jS (rn (σ0++[(cW (Go.UK.adv T im [] n.n k p)).length]) ((cW (Go.UK.adv T im [] n.n k p)).length+1))))++[.loop r]⟩ t))=(λ_=>(true,t)):=by kernel_rfl) (e0:π):At P T im n Q p:=by
 have h:=h e0;refine At.adv (gl:=[]) k ?_;generalize Go.UK.adv T im [] n.n k p=q at *;simp only[Prod.mk.injEq] at hcode;obtain⟨h1,h2,h3,h4,h5⟩:=hcode;obtain⟨ks,st,rfl⟩:=aMy h1;intro hT hm;exact aPz I hf rfl h3 h4 h5 h2 (λr=>congrFun hB r) (λr=>congrFun hE r) (λr=>Go.UK.jr (congrFun hj r)) (At.popN hT hm h)
theorem At.mid{π:Prop}(k:Nat){m:Nat}{body:Code}{H':List Box}{kk:Option Code}{r:Loop}(hb:∀r2,π->At P T im n (aQ5 H' kk r2) (.code body [] ⟨nY (Go.UK.adv T im [] n.n k p),(cW (Go.UK.adv T im [] n.n k p)).set m (.loop r2)⟩))
  (hc:(aHJ (Go.UK.adv T im [] n.n k p),(cW (Go.UK.adv T im [] n.n k p))[m]?)=(true,some (.loop r)):=by kernel_rfl) (e0:π):At P T im n (MidM P n m body H' kk r) p:=by
 refine At.adv (gl:=[]) k ?_;generalize Go.UK.adv T im [] n.n k p=q at *;simp only[Prod.mk.injEq] at hc;rw[vE hc.1]
 exact λhT hm=>mid_n hc.2 (λr2=>hb r2 e0 hT hm)
theorem At.rnd(k:Nat){H':List Box}{kk:Option Code}{r:Loop}
  (hc:(aHJ (Go.UK.adv T im [] n.n k p),aHC kk .normal,(wX (H'.length+1) (H'++[.loop r])&&(Nat.ble (H'.length+1) (cW (Go.UK.adv T im [] n.n k p)).length&&lF (H'++[.loop r]) (H'++[.loop r]))),vA (cW (Go.UK.adv T im [] n.n k p)) (H'++[.loop r]))=(true,true,true,H'++[.loop r]):=by kernel_rfl):At P T im n (aQ5 H' kk r) p:=by
 refine At.adv (gl:=[]) k ?_;generalize Go.UK.adv T im [] n.n k p=q at *;simp only[Prod.mk.injEq] at hc;obtain⟨h1,h2,h3,h4⟩:=hc;rw[vE h1]
 exact λhT hm=>rnd_n (Prod.ext h2 (Prod.ext h3 h4))
end
end Go.UK

namespace Go.UK
open Go
set_option linter.all false
variable [bL]
def lK(P:Program)(f:FuncId):Bool:=match P.funcs[f]? with | some fn=>(!(fn.name == "runtime.NumGoroutine") && !fn.body.isNone)&&bL.ms.all (aQm P) | none=>false
theorem kA{P:Program}{f:FuncId}(h:lK P f=true):nP P f:=by
 unfold lK at h;split at h
 ·rename_i fn hf;simp only[Bool.and_eq_true,Bool.not_eq_true'] at h;exact⟨⟨fn,hf,h.1.1,h.1.2⟩,λq hq=>aMj (List.all_eq_true.1 h.2 q hq)⟩
 ·cases h
def upB(bs:List (Nat×Box))(new H:List Box):List Box:=(bs.foldl (λH p=>H.set p.1 p.2) H)++new
def upS(s:ASt)(ks:List Nat)(es:List (Nat×AV))(m:Nat)(bs:List (Nat×Box))(new:List Box):ASt:=
 ⟨es.map (λp=>(p.1,some (none,p.2)))++ks.map (λi=>(i,bY s.env i)),upB bs new (aFh m s.H)⟩
section
variable {P:Program} {T:TypeId→Option TI} {im:Nat→Bool} {n:Fr} {Q:Exit→ASt→Prop} {p:Pt}
theorem aKV(σ:List Nat){f:FuncId}{Hc Hc':List Box}{args:List AV}{ret:AV}(C:FnM P f Hc args ret Hc'){o:Oper}{need:Env}{H:List Box}(hf:lK P f=true:=by kernel_rfl)
  (hB:zN n o H σ Hc args=true:=by kernel_rfl) (hE:zK o need H σ Hc args=(some (f,renL (rn σ H.length) args),Hc.map (jS (rn σ H.length))):=by kernel_rfl) :
  Big P n o need H (ren (rn σ H.length) ret) (cB H σ Hc'):=wD σ C (kA hf) hB hE
theorem aRD{f:FuncId}{args:List AV}{ret x:AV}(C:FnM P f [] args ret []){o:Oper}{need:Env}{H:List Box}(hf:lK P f=true:=by kernel_rfl)
  (hB:zN n o H [] [] args=true:=by kernel_rfl) (hE:zK o need H [] [] args=(some (f,renL (rn [] H.length) args),([]:List Box).map (jS (rn [] H.length))):=by kernel_rfl) (hx:ren (rn [] H.length) ret=x:=by kernel_rfl) :
  Big P n o need H x H:=aPE C (kA hf) hB hE hx
theorem At.f(im:Nat->Bool)(hT:TOK P T)(hmo:P.follows .mixedOrders=true){f:FuncId}{fn:Func}{c:Code}{args:List AV}{ret:AV}{H H':List Box}(hf:P.funcs[f]? = some fn)(hb:fn.body=some c)
  {π:Prop} (e:π) (h:π->At P T im (Fr.f fn.ntmps H.length) (aDg T H.length fn.results.toList ret H') (.code c [] ⟨aAD 0 args,H⟩)) (hk:Nat.ble args.length fn.ntmps=true:=by kernel_rfl):FnM P f H args ret H':=
 aPa hT hf hb (by simp[hk]) (by simp) (h e hT hmo)
theorem At.fR(im:Nat->Bool)(hT:TOK P T)(hmo:P.follows .mixedOrders=true){f:FuncId}{fn:Func}{c:Code}{args:List AV}{ret:AV}{H H':List Box}(hf:P.funcs[f]? = some fn)(hb:fn.body=some c)
  {π:Prop} (e:π) (h:π->At P T im (Fr.f fn.ntmps H.length true) (aDg T H.length fn.results.toList ret H') (.code c [] ⟨aAD 0 args,H⟩)) (hk:Nat.ble args.length fn.ntmps=true:=by kernel_rfl):FnM P f H args ret H':=
 aMl hT hf hb (by simp[hk]) (by simp) (h e hT hmo)
theorem At.J{α ρ:Type}{X:Option α}{F:α->Option ρ}{r:ρ}(k d:Nat)(ks:List Nat)(m:Nat)(t:α->List (Nat×AV)×List (Nat×Box)×List Box)(h:∀x,X=some x->At P T im n (tn (Go.UK.JR n (upS (fS (Go.UK.adv T im [] n.n k p)) ks (t x).1 m (t x).2.1 (t x).2.2)) (kQ P n Q (oA d (Go.UK.adv T im [] n.n k p)))) (aHh d (Go.UK.adv T im [] n.n k p)))
  (hy:∀x,F x=some r->At P T im n Q (Go.UK.aAn (oA d (Go.UK.adv T im [] n.n k p)) (upS (fS (Go.UK.adv T im [] n.n k p)) ks (t x).1 m (t x).2.1 (t x).2.2))) (e:Option.bind X F=some r):At P T im n Q p:=At.j k d _ h hy e
theorem At.JS{α β ρ:Type}{X:Option (Sum α β)}{F:α->Option ρ}{G:β->Option ρ}{r:ρ}(k d:Nat)(ks:List Nat)(m:Nat)(t:α->List (Nat×AV)×List (Nat×Box)×List Box)(h:∀o,mW o F G=some r->X=some o->At P T im n (tn (Go.UK.JS n (λx=>upS (fS (Go.UK.adv T im [] n.n k p)) ks (t x).1 m (t x).2.1 (t x).2.2) o) (kQ P n Q (oA d (Go.UK.adv T im [] n.n k p)))) (aHh d (Go.UK.adv T im [] n.n k p)))
  (hy:∀x,F x=some r->At P T im n Q (Go.UK.aAn (oA d (Go.UK.adv T im [] n.n k p)) (upS (fS (Go.UK.adv T im [] n.n k p)) ks (t x).1 m (t x).2.1 (t x).2.2))) (e:Option.bind X (λo=>mW o F G)=some r):At P T im n Q p:=At.js k d _ h hy e
section
variable {l:List Oper} {C:List (List Nat)} {ms:List MI} {B:Env} {H0:List Box} {cs:CS}
end
end
theorem xB{α1 β:Type}{v r:β}{o1:Sum α1 β}{F1:α1->Option β}{p:β->Prop}(g1:mW o1 F1 (λr=>some r)=some r)(e:some (Sum.inr v)=some o1)(h:p v):p r:=by cases e;cases g1;exact h
theorem rtS2{α1 α2 β:Type}{v r:β}{o1:Sum α1 β}{o2:Sum α2 β}{F1:α1->Option (Sum α2 β)}{F2:α2->Option β}{p:β->Prop}(g1:mW o1 F1 (λr=>some (Sum.inr r))=some o2)(g2:mW o2 F2 (λr=>some r)=some r)(e:some (Sum.inr v)=some o1)(h:p v):p r:=by cases e;cases g1;cases g2;exact h
end Go.UK

namespace Go.UK
open Go
set_option linter.all false
variable [bL]
section
variable {P:Program} {T:TypeId→Option TI} {n:Fr}
end
end Go.UK

namespace Go.UK
open Go
set_option linter.all false
variable [bL]
section
variable {P:Program} {T:TypeId→Option TI} {n:Fr}
def mkiE(T:TypeId->Option TI)(o:Oper)(need:Env):Option (Nat×AV):=
 match o.op with
 | .makeInterface t x=>match opd need none x,T t with
  | some v,some i=>match fK v,i.kind with
   | false,_=>none
   | _,.other=>none
   | _,_=>some (t,v)
  | _,_=>none
 | _=>none
theorem aNo(hT:TOK P T){t:Nat}{x:AV}{o:Oper}{need:Env}{H:List Box}(hd:dOK n.n o.dst=true)(h:mkiE T o need=some (t,x)):Big P n o need H (.ifc t x) H:=by
 unfold mkiE at h;split at h <;> try cases h
 rename_i t' p ho;split at h <;> try cases h
 rename_i v i hp ht;refine cY hd λa μ ok hH hE=>⟨μ,?_,hH⟩
 obtain⟨d,hd',hf⟩:=(hT _ _ ht).kind;have hv:=aR hE noG hp;split at h <;> try cases h
 rename_i hn2 hn1;have hnt:fK x=true:=by
  cases hh:fK x with
  | true=>rfl
  | false=>exact absurd hh hn1
 refine eQ.here (y := .iface t (a.eval p)) ok ?_ ?_
 ·have hne:∀z,d ≠ .interface z:=by
   intro z e;subst e;cases hk:i.kind <;> rw[hk] at hf <;> simp[TK.fits] at hf;exact hn2 hk
  simp only[execOp,ho,Instr.makeInterface,Sem.run_bind,run_underlying hd',Result.andThen_ok]
  cases d <;> first | (exact absurd rfl (hne _)) | simp
 ·show Rv0 _ _ _;simp only[Rv0,AV.isAgg,Rc,Bool.false_eq_true,if_false]
  refine⟨_,rfl,?_⟩
  have h4:Rv0 μ x (a.eval p):=by cases x <;> first | exact hv | simp[fK] at hnt
  exact h4
end
end Go.UK

namespace Go.UK
open Go Go.Proofs Go.Sort Go.RowKit
set_option linter.all false
variable [bL]
section
variable {P:Program} {ρ:Shelf.Ren}
end
end Go.UK

