/- The own layer: abstract values, their memory, and the steps of the model over them: for any program. -/
import Derived.Test.YtogkmakcedgneaaGreatLib12
namespace Go.UK
open Go
set_option linter.all false
variable [bU]
section
variable {P:Program} {T:TypeId→Option TI} {im:Nat→Bool} {n:Fr} {Q:Exit→ASt→Prop} {p:Pt}
theorem At.of(im:Nat->Bool)(hT:TOK P T)(hm:P.follows .mixedOrders=true){c:Code}{st:ASt}{π:Prop}(e:π)(h:π->At P T im n Q (.code c [] st)):aw P n c Q st:=h e hT hm
def aNT : Pt->Code
 | .code c _ _=>c
 | _ => .skip
theorem aM6{q:Pt}{g:Operand}{a:Array Tmp}{x y:Code}(h:aNT q = .rangeFunc g a x y):∃ks st,q = .code (.rangeFunc g a x y) ks st:=by
 unfold aNT at h;split at h
 ·subst h;exact⟨_,_,rfl⟩
 ·cases h
theorem At.rg{π:Prop}(k:Nat){s:aEl}{env:Env}{Hc Hc':List Box}{args:List AV}{ret:AV}{f:FuncId}(I:ItM P f s env Hc args ret Hc' none)(hf:vY P f)(g:Operand)(σ0:List Nat)(t:ASt)(caps:List AV)
  (h:π->At P T im n Q (Go.UK.aBm (aNk (Go.UK.adv T im [] n.n k p)) t))
  (hcode:(aNT (Go.UK.adv T im [] n.n k p),rngE g (qH (Go.UK.adv T im [] n.n k p)),n.ro,n.rg,n.n)=(.rangeFunc g s.ps.toArray s.assign s.body,some (f,caps),none,true,s.n):=by kernel_rfl)
  (hB:(λr:Loop=>rngB (dN (Go.UK.adv T im [] n.n k p)) σ0 Hc Hc' args env r)=(λ_=>true):=by kernel_rfl)
  (hE:(λr:Loop=>(wkL (.yld (dN (Go.UK.adv T im [] n.n k p)).length :: caps) (renL (rn (σ0++[(dN (Go.UK.adv T im [] n.n k p)).length]) ((dN (Go.UK.adv T im [] n.n k p)).length+1)) args),rZ (dN (Go.UK.adv T im [] n.n k p)++[Box.loop r]) (σ0++[(dN (Go.UK.adv T im [] n.n k p)).length]),aJn (qH (Go.UK.adv T im [] n.n k p)) (swE (rn (σ0++[(dN (Go.UK.adv T im [] n.n k p)).length]) ((dN (Go.UK.adv T im [] n.n k p)).length+1)) env)))
   = (λr=>(renL (rn (σ0++[(dN (Go.UK.adv T im [] n.n k p)).length]) ((dN (Go.UK.adv T im [] n.n k p)).length+1)) args,(Hc++[Box.loop r]).map (lZ (rn (σ0++[(dN (Go.UK.adv T im [] n.n k p)).length]) ((dN (Go.UK.adv T im [] n.n k p)).length+1))),swE (rn (σ0++[(dN (Go.UK.adv T im [] n.n k p)).length]) ((dN (Go.UK.adv T im [] n.n k p)).length+1)) env)):=by kernel_rfl)
  (hj:(λr:Loop=>(cOK n ⟨qH (Go.UK.adv T im [] n.n k p),pC (dN (Go.UK.adv T im [] n.n k p)) σ0 (Hc'.map (lZ (rn (σ0++[(dN (Go.UK.adv T im [] n.n k p)).length]) ((dN (Go.UK.adv T im [] n.n k p)).length+1))))++[.loop r]⟩ t,cSt ⟨qH (Go.UK.adv T im [] n.n k p),pC (dN (Go.UK.adv T im [] n.n k p)) σ0 (Hc'.map (lZ (rn (σ0++[(dN (Go.UK.adv T im [] n.n k p)).length]) ((dN (Go.UK.adv T im [] n.n k p)).length+1))))++[.loop r]⟩ t))=(λ_=>(true,t)):=by kernel_rfl) (e0:π):At P T im n Q p:=by
 have h:=h e0;refine At.adv (gl:=[]) k ?_;generalize Go.UK.adv T im [] n.n k p=q at *;simp only[Prod.mk.injEq] at hcode;obtain⟨h1,h2,h3,h4,h5⟩:=hcode;obtain⟨ks,st,rfl⟩:=aM6 h1;intro hT hm;exact aRV I hf rfl h3 h4 h5 h2 (λr=>congrFun hB r) (λr=>congrFun hE r) (λr=>Go.UK.jr (congrFun hj r)) (At.popN hT hm h)
theorem At.mid{π:Prop}(k:Nat){m:Nat}{body:Code}{H':List Box}{kk:Option Code}{r:Loop}(hb:∀r2,π->At P T im n (aSJ H' kk r2) (.code body [] ⟨qH (Go.UK.adv T im [] n.n k p),(dN (Go.UK.adv T im [] n.n k p)).set m (.loop r2)⟩))
  (hc:(aIX (Go.UK.adv T im [] n.n k p),(dN (Go.UK.adv T im [] n.n k p))[m]?)=(true,some (.loop r)):=by kernel_rfl) (e0:π):At P T im n (MidM P n m body H' kk r) p:=by
 refine At.adv (gl:=[]) k ?_;generalize Go.UK.adv T im [] n.n k p=q at *;simp only[Prod.mk.injEq] at hc;rw[xW hc.1]
 exact λhT hm=>mid_n hc.2 (λr2=>hb r2 e0 hT hm)
theorem At.rnd(k:Nat){H':List Box}{kk:Option Code}{r:Loop}
  (hc:(aIX (Go.UK.adv T im [] n.n k p),aHi kk .normal,(zN (H'.length+1) (H'++[.loop r])&&(Nat.ble (H'.length+1) (dN (Go.UK.adv T im [] n.n k p)).length&&oS (H'++[.loop r]) (H'++[.loop r]))),yB (dN (Go.UK.adv T im [] n.n k p)) (H'++[.loop r]))=(true,true,true,H'++[.loop r]):=by kernel_rfl):At P T im n (aSJ H' kk r) p:=by
 refine At.adv (gl:=[]) k ?_;generalize Go.UK.adv T im [] n.n k p=q at *;simp only[Prod.mk.injEq] at hc;obtain⟨h1,h2,h3,h4⟩:=hc;rw[xW h1]
 exact λhT hm=>rnd_n (Prod.ext h2 (Prod.ext h3 h4))
end
end Go.UK

namespace Go.UK
open Go
set_option linter.all false
variable [bU]
def nM(P:Program)(f:FuncId):Bool:=match P.funcs[f]? with | some fn=>(!(fn.name == "runtime.NumGoroutine") && !fn.body.isNone)&&bU.ms.all (aQ3 P) | none=>false
theorem wU{P:Program}{f:FuncId}(h:nM P f=true):vY P f:=by
 unfold nM at h;split at h
 ·rename_i fn hf;simp only[Bool.and_eq_true,Bool.not_eq_true'] at h;exact⟨⟨fn,hf,h.1.1,h.1.2⟩,λq hq=>aM2 (List.all_eq_true.1 h.2 q hq)⟩
 ·cases h
def upB(bs:List (Nat×Box))(new H:List Box):List Box:=(bs.foldl (λH p=>H.set p.1 p.2) H)++new
def upS(s:ASt)(ks:List Nat)(es:List (Nat×AV))(m:Nat)(bs:List (Nat×Box))(new:List Box):ASt:=
 ⟨es.map (λp=>(p.1,some (none,p.2)))++ks.map (λi=>(i,cD s.env i)),upB bs new (aGz m s.H)⟩
section
variable {P:Program} {T:TypeId→Option TI} {im:Nat→Bool} {n:Fr} {Q:Exit→ASt→Prop} {p:Pt}
theorem aLl(σ:List Nat){f:FuncId}{Hc Hc':List Box}{args:List AV}{ret:AV}(C:FnM P f Hc args ret Hc'){o:Oper}{need:Env}{H:List Box}(hf:nM P f=true:=by kernel_rfl)
  (hB:aAx n o H σ Hc args=true:=by kernel_rfl) (hE:aAm o need H σ Hc args=(some (f,renL (rn σ H.length) args),Hc.map (lZ (rn σ H.length))):=by kernel_rfl) :
  Big P n o need H (ren (rn σ H.length) ret) (cL H σ Hc'):=aIv σ C (wU hf) hB hE
theorem aRY{f:FuncId}{args:List AV}{ret x:AV}(C:FnM P f [] args ret []){o:Oper}{need:Env}{H:List Box}(hf:nM P f=true:=by kernel_rfl)
  (hB:aAx n o H [] [] args=true:=by kernel_rfl) (hE:aAm o need H [] [] args=(some (f,renL (rn [] H.length) args),([]:List Box).map (lZ (rn [] H.length))):=by kernel_rfl) (hx:ren (rn [] H.length) ret=x:=by kernel_rfl) :
  Big P n o need H x H:=aP3 C (wU hf) hB hE hx
theorem At.f(im:Nat->Bool)(hT:TOK P T)(hmo:P.follows .mixedOrders=true){f:FuncId}{fn:Func}{c:Code}{args:List AV}{ret:AV}{H H':List Box}(hf:P.funcs[f]? = some fn)(hb:fn.body=some c)
  {π:Prop} (e:π) (h:π->At P T im (Fr.f fn.ntmps H.length) (aFc T H.length fn.results.toList ret H') (.code c [] ⟨aBW 0 args,H⟩)) (hk:Nat.ble args.length fn.ntmps=true:=by kernel_rfl):FnM P f H args ret H':=
 aQN hT hf hb (by simp[hk]) (by simp) (h e hT hmo)
theorem At.fR(im:Nat->Bool)(hT:TOK P T)(hmo:P.follows .mixedOrders=true){f:FuncId}{fn:Func}{c:Code}{args:List AV}{ret:AV}{H H':List Box}(hf:P.funcs[f]? = some fn)(hb:fn.body=some c)
  {π:Prop} (e:π) (h:π->At P T im (Fr.f fn.ntmps H.length true) (aFc T H.length fn.results.toList ret H') (.code c [] ⟨aBW 0 args,H⟩)) (hk:Nat.ble args.length fn.ntmps=true:=by kernel_rfl):FnM P f H args ret H':=
 aMz hT hf hb (by simp[hk]) (by simp) (h e hT hmo)
theorem At.J{α ρ:Type}{X:Option α}{F:α->Option ρ}{r:ρ}(k d:Nat)(ks:List Nat)(m:Nat)(t:α->List (Nat×AV)×List (Nat×Box)×List Box)(h:∀x,X=some x->At P T im n (tn (Go.UK.JR n (upS (iN (Go.UK.adv T im [] n.n k p)) ks (t x).1 m (t x).2.1 (t x).2.2)) (kQ P n Q (qJ d (Go.UK.adv T im [] n.n k p)))) (aH6 d (Go.UK.adv T im [] n.n k p)))
  (hy:∀x,F x=some r->At P T im n Q (Go.UK.aBm (qJ d (Go.UK.adv T im [] n.n k p)) (upS (iN (Go.UK.adv T im [] n.n k p)) ks (t x).1 m (t x).2.1 (t x).2.2))) (e:Option.bind X F=some r):At P T im n Q p:=At.j k d _ h hy e
theorem At.JS{α β ρ:Type}{X:Option (Sum α β)}{F:α->Option ρ}{G:β->Option ρ}{r:ρ}(k d:Nat)(ks:List Nat)(m:Nat)(t:α->List (Nat×AV)×List (Nat×Box)×List Box)(h:∀o,mZ o F G=some r->X=some o->At P T im n (tn (Go.UK.JS n (λx=>upS (iN (Go.UK.adv T im [] n.n k p)) ks (t x).1 m (t x).2.1 (t x).2.2) o) (kQ P n Q (qJ d (Go.UK.adv T im [] n.n k p)))) (aH6 d (Go.UK.adv T im [] n.n k p)))
  (hy:∀x,F x=some r->At P T im n Q (Go.UK.aBm (qJ d (Go.UK.adv T im [] n.n k p)) (upS (iN (Go.UK.adv T im [] n.n k p)) ks (t x).1 m (t x).2.1 (t x).2.2))) (e:Option.bind X (λo=>mZ o F G)=some r):At P T im n Q p:=At.js k d _ h hy e
section
variable {l:List Oper} {C:List (List Nat)} {ms:List MI} {B:Env} {H0:List Box} {cs:CS}
end
end
theorem wH{α1 β:Type}{v r:β}{o1:Sum α1 β}{F1:α1->Option β}{p:β->Prop}(g1:mZ o1 F1 (λr=>some r)=some r)(e:some (Sum.inr v)=some o1)(h:p v):p r:=by cases e;cases g1;exact h
theorem rtS2{α1 α2 β:Type}{v r:β}{o1:Sum α1 β}{o2:Sum α2 β}{F1:α1->Option (Sum α2 β)}{F2:α2->Option β}{p:β->Prop}(g1:mZ o1 F1 (λr=>some (Sum.inr r))=some o2)(g2:mZ o2 F2 (λr=>some r)=some r)(e:some (Sum.inr v)=some o1)(h:p v):p r:=by cases e;cases g1;cases g2;exact h
end Go.UK

namespace Go.UK
open Go
set_option linter.all false
variable [bU]
section
variable {P:Program} {T:TypeId→Option TI} {n:Fr}
end
end Go.UK

namespace Go.UK
open Go
set_option linter.all false
variable [bU]
section
variable {P:Program} {T:TypeId→Option TI} {n:Fr}
end
end Go.UK

namespace Go.UK
open Go Go.Proofs Go.Sort Go.RowKit
set_option linter.all false
variable [bU]
section
variable {P:Program} {ρ:Shelf.Ren}
end
end Go.UK

