/- The own layer: abstract values, their memory, and the steps of the model over them: for any program. -/
import Derived.Test.YtidamaopieegkaaGreatDoorLib12
namespace Go.UK
open Go
set_option linter.all false
variable [bJ]
section
variable {P:Program} {T:TypeId→Option TI} {im:Nat→Bool} {n:Fr} {Q:Exit→ASt→Prop} {p:Pt}
theorem At.of(im:Nat->Bool)(hT:TOK P T)(hm:P.follows .mixedOrders=true){c:Code}{st:ASt}{π:Prop}(e:π)(h:π->At P T im n Q (.code c [] st)):aw P n c Q st:=h e hT hm
def aCm : Pt->Code
 | .code c _ _=>c
 | _ => .skip
theorem aB9{q:Pt}{g:Operand}{a:Array Tmp}{x y:Code}(h:aCm q = .rangeFunc g a x y):∃ks st,q = .code (.rangeFunc g a x y) ks st:=by
 unfold aCm at h;split at h
 ·subst h;exact⟨_,_,rfl⟩
 ·cases h
theorem At.rg{π:Prop}(k:Nat){s:aEM}{env:Env}{Hc Hc':List Box}{args:List AV}{ret:AV}{f:FuncId}(I:ItM P f s env Hc args ret Hc' none)(hf:jS P f)(g:Operand)(σ0:List Nat)(t:ASt)(caps:List AV)
  (h:π->At P T im n Q (Go.UK.nG (aAu (Go.UK.adv T im [] n.n k p)) t))
  (hcode:(aCm (Go.UK.adv T im [] n.n k p),rngE g (jW (Go.UK.adv T im [] n.n k p)),n.ro,n.rg,n.n)=(.rangeFunc g s.ps.toArray s.assign s.body,some (f,caps),none,true,s.n):=by kernel_rfl)
  (hB:(λr:Loop=>rngB (cW (Go.UK.adv T im [] n.n k p)) σ0 Hc Hc' args env r)=(λ_=>true):=by kernel_rfl)
  (hE:(λr:Loop=>(wkL (.yld (cW (Go.UK.adv T im [] n.n k p)).length :: caps) (renL (rn (σ0++[(cW (Go.UK.adv T im [] n.n k p)).length]) ((cW (Go.UK.adv T im [] n.n k p)).length+1)) args),kH (cW (Go.UK.adv T im [] n.n k p)++[Box.loop r]) (σ0++[(cW (Go.UK.adv T im [] n.n k p)).length]),zE (jW (Go.UK.adv T im [] n.n k p)) (swE (rn (σ0++[(cW (Go.UK.adv T im [] n.n k p)).length]) ((cW (Go.UK.adv T im [] n.n k p)).length+1)) env)))
   = (λr=>(renL (rn (σ0++[(cW (Go.UK.adv T im [] n.n k p)).length]) ((cW (Go.UK.adv T im [] n.n k p)).length+1)) args,(Hc++[Box.loop r]).map (dE (rn (σ0++[(cW (Go.UK.adv T im [] n.n k p)).length]) ((cW (Go.UK.adv T im [] n.n k p)).length+1))),swE (rn (σ0++[(cW (Go.UK.adv T im [] n.n k p)).length]) ((cW (Go.UK.adv T im [] n.n k p)).length+1)) env)):=by kernel_rfl)
  (hj:(λr:Loop=>(cOK n ⟨jW (Go.UK.adv T im [] n.n k p),fD (cW (Go.UK.adv T im [] n.n k p)) σ0 (Hc'.map (dE (rn (σ0++[(cW (Go.UK.adv T im [] n.n k p)).length]) ((cW (Go.UK.adv T im [] n.n k p)).length+1))))++[.loop r]⟩ t,cSt ⟨jW (Go.UK.adv T im [] n.n k p),fD (cW (Go.UK.adv T im [] n.n k p)) σ0 (Hc'.map (dE (rn (σ0++[(cW (Go.UK.adv T im [] n.n k p)).length]) ((cW (Go.UK.adv T im [] n.n k p)).length+1))))++[.loop r]⟩ t))=(λ_=>(true,t)):=by kernel_rfl) (e0:π):At P T im n Q p:=by
 have h:=h e0;refine At.adv (gl:=[]) k ?_;generalize Go.UK.adv T im [] n.n k p=q at *;simp only[Prod.mk.injEq] at hcode;obtain⟨h1,h2,h3,h4,h5⟩:=hcode;obtain⟨ks,st,rfl⟩:=aB9 h1;intro hT hm;exact aEY I hf rfl h3 h4 h5 h2 (λr=>congrFun hB r) (λr=>congrFun hE r) (λr=>Go.UK.jr (congrFun hj r)) (At.popN hT hm h)
end
end Go.UK

namespace Go.UK
open Go
set_option linter.all false
variable [bJ]
def eP(P:Program)(f:FuncId):Bool:=match P.funcs[f]? with | some fn=>(!(fn.name == "runtime.NumGoroutine") && !fn.body.isNone)&&bJ.ms.all (aFM P) | none=>false
theorem kO{P:Program}{f:FuncId}(h:eP P f=true):jS P f:=by
 unfold eP at h;split at h
 ·rename_i fn hf;simp only[Bool.and_eq_true,Bool.not_eq_true'] at h;exact⟨⟨fn,hf,h.1.1,h.1.2⟩,λq hq=>aCo (List.all_eq_true.1 h.2 q hq)⟩
 ·cases h
def upB(bs:List (Nat×Box))(new H:List Box):List Box:=(bs.foldl (λH p=>H.set p.1 p.2) H)++new
def upS(s:ASt)(ks:List Nat)(es:List (Nat×AV))(m:Nat)(bs:List (Nat×Box))(new:List Box):ASt:=
 ⟨es.map (λp=>(p.1,some (none,p.2)))++ks.map (λi=>(i,bK s.env i)),upB bs new (vH m s.H)⟩
section
variable {P:Program} {T:TypeId→Option TI} {im:Nat→Bool} {n:Fr} {Q:Exit→ASt→Prop} {p:Pt}
theorem aBK(σ:List Nat){f:FuncId}{Hc Hc':List Box}{args:List AV}{ret:AV}(C:FnM P f Hc args ret Hc'){o:Oper}{need:Env}{H:List Box}(hf:eP P f=true:=by kernel_rfl)
  (hB:nT n o H σ Hc args=true:=by kernel_rfl) (hE:nQ o need H σ Hc args=(some (f,renL (rn σ H.length) args),Hc.map (dE (rn σ H.length))):=by kernel_rfl) :
  Big P n o need H (ren (rn σ H.length) ret) (bV H σ Hc'):=tK σ C (kO hf) hB hE
theorem aFj{f:FuncId}{args:List AV}{ret x:AV}(C:FnM P f [] args ret []){o:Oper}{need:Env}{H:List Box}(hf:eP P f=true:=by kernel_rfl)
  (hB:nT n o H [] [] args=true:=by kernel_rfl) (hE:nQ o need H [] [] args=(some (f,renL (rn [] H.length) args),([]:List Box).map (dE (rn [] H.length))):=by kernel_rfl) (hx:ren (rn [] H.length) ret=x:=by kernel_rfl) :
  Big P n o need H x H:=aDZ C (kO hf) hB hE hx
theorem At.f(im:Nat->Bool)(hT:TOK P T)(hmo:P.follows .mixedOrders=true){f:FuncId}{fn:Func}{c:Code}{args:List AV}{ret:AV}{H H':List Box}(hf:P.funcs[f]? = some fn)(hb:fn.body=some c)
  {π:Prop} (e:π) (h:π->At P T im (Fr.f fn.ntmps H.length) (xC T H.length fn.results.toList ret H') (.code c [] ⟨tL 0 args,H⟩)) (hk:Nat.ble args.length fn.ntmps=true:=by kernel_rfl):FnM P f H args ret H':=
 aAB hT hf hb (by simp[hk]) (by simp) (h e hT hmo)
theorem At.J{α ρ:Type}{X:Option α}{F:α->Option ρ}{r:ρ}(k d:Nat)(ks:List Nat)(m:Nat)(t:α->List (Nat×AV)×List (Nat×Box)×List Box)(h:∀x,X=some x->At P T im n (tn (Go.UK.JR n (upS (bO (Go.UK.adv T im [] n.n k p)) ks (t x).1 m (t x).2.1 (t x).2.2)) (kQ P n Q (fE d (Go.UK.adv T im [] n.n k p)))) (yI d (Go.UK.adv T im [] n.n k p)))
  (hy:∀x,F x=some r->At P T im n Q (Go.UK.nG (fE d (Go.UK.adv T im [] n.n k p)) (upS (bO (Go.UK.adv T im [] n.n k p)) ks (t x).1 m (t x).2.1 (t x).2.2))) (e:Option.bind X F=some r):At P T im n Q p:=At.j k d _ h hy e
theorem At.JS{α β ρ:Type}{X:Option (Sum α β)}{F:α->Option ρ}{G:β->Option ρ}{r:ρ}(k d:Nat)(ks:List Nat)(m:Nat)(t:α->List (Nat×AV)×List (Nat×Box)×List Box)(h:∀o,oL o F G=some r->X=some o->At P T im n (tn (Go.UK.JS n (λx=>upS (bO (Go.UK.adv T im [] n.n k p)) ks (t x).1 m (t x).2.1 (t x).2.2) o) (kQ P n Q (fE d (Go.UK.adv T im [] n.n k p)))) (yI d (Go.UK.adv T im [] n.n k p)))
  (hy:∀x,F x=some r->At P T im n Q (Go.UK.nG (fE d (Go.UK.adv T im [] n.n k p)) (upS (bO (Go.UK.adv T im [] n.n k p)) ks (t x).1 m (t x).2.1 (t x).2.2))) (e:Option.bind X (λo=>oL o F G)=some r):At P T im n Q p:=At.js k d _ h hy e
abbrev InvJ:=List Nat->Nat->List (Nat×AV)->List (Nat×Box)->List Box->Prop
theorem At.L{α ρ:Type}{X:Option α}{F:α->Option ρ}{r:ρ}(k:Nat)(ks:List Nat)(m:Nat)(t:α->List (Nat×AV)×List (Nat×Box)×List Box)(I:α->InvJ->Nat->Prop)(N:Nat)(h0:∀x,X=some x->I x (λks m es bs new=>JR n (upS (bO (Go.UK.adv T im [] n.n k p)) ks es m bs new) (bO (Go.UK.adv T im [] n.n k p))) N)
  (h:∀x j s,I x (λks m es bs new=>JR n (upS (bO (Go.UK.adv T im [] n.n k p)) ks es m bs new) s) j->At P T im n (tn (λs'=>∃i,i < j/\I x (λks m es bs new=>JR n (upS (bO (Go.UK.adv T im [] n.n k p)) ks es m bs new) s') i) (inB (aD8 (Go.UK.adv T im [] n.n k p)) (tn (Go.UK.JR n (upS (bO (Go.UK.adv T im [] n.n k p)) ks (t x).1 m (t x).2.1 (t x).2.2)) (kQ P n Q (fE 1 (Go.UK.adv T im [] n.n k p)))))) (.code (zI (Go.UK.adv T im [] n.n k p)) [] s))
  (hy:∀x,F x=some r->At P T im n Q (Go.UK.nG (fE 1 (Go.UK.adv T im [] n.n k p)) (upS (bO (Go.UK.adv T im [] n.n k p)) ks (t x).1 m (t x).2.1 (t x).2.2))) (hi:aCc (Go.UK.adv T im [] n.n k p)=true:=by kernel_rfl) (e:Option.bind X F=some r):At P T im n Q p:=by
 obtain⟨x,e1,e2⟩:=pU e;exact At.adv (gl:=[]) k λhT hm=>lp0 (λi s=>I x (λks m es bs new=>JR n (upS (bO (Go.UK.adv T im [] n.n k p)) ks es m bs new) s) i) N hi (h0 x e1) (aFO (At.popN hT hm (hy x e2))) (h x) hT hm
section
variable {l:List Oper} {C:List (List Nat)} {ms:List MI} {B:Env} {H0:List Box} {cs:CS}
end
end
theorem aB0{α1 β:Type}{v r:β}{o1:Sum α1 β}{F1:α1->Option β}{p:β->Prop}(g1:oL o1 F1 (λr=>some r)=some r)(e:some (Sum.inr v)=some o1)(h:p v):p r:=by cases e;cases g1;exact h
end Go.UK

namespace Go.UK
open Go
set_option linter.all false
variable [bJ]
section
variable {P:Program} {T:TypeId→Option TI} {n:Fr}
end
end Go.UK

namespace Go.UK
open Go
set_option linter.all false
variable [bJ]
section
variable {P:Program} {T:TypeId→Option TI} {n:Fr}
end
end Go.UK

namespace Go.UK
open Go Go.Proofs Go.Sort Go.RowKit
set_option linter.all false
variable [bJ]
section
variable {P:Program} {ρ:Shelf.Ren}
end
end Go.UK

