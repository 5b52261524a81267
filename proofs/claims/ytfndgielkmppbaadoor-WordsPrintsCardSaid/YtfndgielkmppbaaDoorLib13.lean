/- The own layer: abstract values, their memory, and the steps of the model over them: for any program. -/
import Derived.Test.YtfndgielkmppbaaDoorLib12
namespace Go.UK
open Go
set_option linter.all false
variable [aV]
section
variable {P:Program} {T:TypeId→Option TI} {im:Nat→Bool} {n:Fr} {Q:Exit→ASt→Prop} {p:Pt}
theorem At.of(im:Nat->Bool)(hT:TOK P T)(hm:P.follows .mixedOrders=true){c:Code}{st:ASt}{π:Prop}(e:π)(h:π->At P T im n Q (.code c [] st)):aw P n c Q st:=h e hT hm
def aAc : Pt->Code
 | .code c _ _=>c
 | _ => .skip
theorem aA6{q:Pt}{g:Operand}{a:Array Tmp}{x y:Code}(h:aAc q = .rangeFunc g a x y):∃ks st,q = .code (.rangeFunc g a x y) ks st:=by
 unfold aAc at h;split at h
 ·subst h;exact⟨_,_,rfl⟩
 ·cases h
theorem At.rg{π:Prop}(k:Nat){s:aCR}{env:Env}{Hc Hc':List Box}{args:List AV}{ret:AV}{f:FuncId}(I:ItM P f s env Hc args ret Hc' none)(hf:fV P f)(g:Operand)(σ0:List Nat)(t:ASt)(caps:List AV)
  (h:π->At P T im n Q (Go.UK.nQ (yI (Go.UK.adv T im [] n.n k p)) t))
  (hcode:(aAc (Go.UK.adv T im [] n.n k p),rngE g (fT (Go.UK.adv T im [] n.n k p)),n.ro,n.rg,n.n)=(.rangeFunc g s.ps.toArray s.assign s.body,some (f,caps),none,true,s.n):=by kernel_rfl)
  (hB:(λr:Loop=>rngB (cY (Go.UK.adv T im [] n.n k p)) σ0 Hc Hc' args env r)=(λ_=>true):=by kernel_rfl)
  (hE:(λr:Loop=>(wkL (.yld (cY (Go.UK.adv T im [] n.n k p)).length :: caps) (renL (rn (σ0++[(cY (Go.UK.adv T im [] n.n k p)).length]) ((cY (Go.UK.adv T im [] n.n k p)).length+1)) args),iU (cY (Go.UK.adv T im [] n.n k p)++[Box.loop r]) (σ0++[(cY (Go.UK.adv T im [] n.n k p)).length]),vP (fT (Go.UK.adv T im [] n.n k p)) (swE (rn (σ0++[(cY (Go.UK.adv T im [] n.n k p)).length]) ((cY (Go.UK.adv T im [] n.n k p)).length+1)) env)))
   = (λr=>(renL (rn (σ0++[(cY (Go.UK.adv T im [] n.n k p)).length]) ((cY (Go.UK.adv T im [] n.n k p)).length+1)) args,(Hc++[Box.loop r]).map (dH (rn (σ0++[(cY (Go.UK.adv T im [] n.n k p)).length]) ((cY (Go.UK.adv T im [] n.n k p)).length+1))),swE (rn (σ0++[(cY (Go.UK.adv T im [] n.n k p)).length]) ((cY (Go.UK.adv T im [] n.n k p)).length+1)) env)):=by kernel_rfl)
  (hj:(λr:Loop=>(cOK n ⟨fT (Go.UK.adv T im [] n.n k p),eZ (cY (Go.UK.adv T im [] n.n k p)) σ0 (Hc'.map (dH (rn (σ0++[(cY (Go.UK.adv T im [] n.n k p)).length]) ((cY (Go.UK.adv T im [] n.n k p)).length+1))))++[.loop r]⟩ t,cSt ⟨fT (Go.UK.adv T im [] n.n k p),eZ (cY (Go.UK.adv T im [] n.n k p)) σ0 (Hc'.map (dH (rn (σ0++[(cY (Go.UK.adv T im [] n.n k p)).length]) ((cY (Go.UK.adv T im [] n.n k p)).length+1))))++[.loop r]⟩ t))=(λ_=>(true,t)):=by kernel_rfl) (e0:π):At P T im n Q p:=by
 have h:=h e0;refine At.adv (gl:=[]) k ?_;generalize Go.UK.adv T im [] n.n k p=q at *;simp only[Prod.mk.injEq] at hcode;obtain⟨h1,h2,h3,h4,h5⟩:=hcode;obtain⟨ks,st,rfl⟩:=aA6 h1;intro hT hm;exact aC5 I hf rfl h3 h4 h5 h2 (λr=>congrFun hB r) (λr=>congrFun hE r) (λr=>Go.UK.jr (congrFun hj r)) (At.popN hT hm h)
end
end Go.UK

namespace Go.UK
open Go
set_option linter.all false
variable [aV]
def oQ(P:Program)(f:FuncId):Bool:=match P.funcs[f]? with | some fn=>(!(fn.name == "runtime.NumGoroutine") && !fn.body.isNone)&&aV.ms.all (aCr P) | none=>false
theorem fR{P:Program}{f:FuncId}(h:oQ P f=true):fV P f:=by
 unfold oQ at h;split at h
 ·rename_i fn hf;simp only[Bool.and_eq_true,Bool.not_eq_true'] at h;exact⟨⟨fn,hf,h.1.1,h.1.2⟩,λq hq=>aAi (List.all_eq_true.1 h.2 q hq)⟩
 ·cases h
def upB(bs:List (Nat×Box))(new H:List Box):List Box:=(bs.foldl (λH p=>H.set p.1 p.2) H)++new
def upS(s:ASt)(ks:List Nat)(es:List (Nat×AV))(m:Nat)(bs:List (Nat×Box))(new:List Box):ASt:=
 ⟨es.map (λp=>(p.1,some (none,p.2)))++ks.map (λi=>(i,bA s.env i)),upB bs new (rN m s.H)⟩
section
variable {P:Program} {T:TypeId→Option TI} {im:Nat→Bool} {n:Fr} {Q:Exit→ASt→Prop} {p:Pt}
theorem aL(σ:List Nat){f:FuncId}{Hc Hc':List Box}{args:List AV}{ret:AV}(C:FnM P f Hc args ret Hc'){o:Oper}{need:Env}{H:List Box}(hf:oQ P f=true:=by kernel_rfl)
  (hB:yO n o H σ Hc args=true:=by kernel_rfl) (hE:yV o need H σ Hc args=(some (f,renL (rn σ H.length) args),Hc.map (dH (rn σ H.length))):=by kernel_rfl) :
  Big P n o need H (ren (rn σ H.length) ret) (bO H σ Hc'):=fG σ C (fR hf) hB hE
theorem iS{f:FuncId}{args:List AV}{ret x:AV}(C:FnM P f [] args ret []){o:Oper}{need:Env}{H:List Box}(hf:oQ P f=true:=by kernel_rfl)
  (hB:yO n o H [] [] args=true:=by kernel_rfl) (hE:yV o need H [] [] args=(some (f,renL (rn [] H.length) args),([]:List Box).map (dH (rn [] H.length))):=by kernel_rfl) (hx:ren (rn [] H.length) ret=x:=by kernel_rfl) :
  Big P n o need H x H:=mM C (fR hf) hB hE hx
theorem At.f(im:Nat->Bool)(hT:TOK P T)(hmo:P.follows .mixedOrders=true){f:FuncId}{fn:Func}{c:Code}{args:List AV}{ret:AV}{H H':List Box}(hf:P.funcs[f]? = some fn)(hb:fn.body=some c)
  {π:Prop} (e:π) (h:π->At P T im (Fr.f fn.ntmps H.length) (uW T H.length fn.results.toList ret H') (.code c [] ⟨qA 0 args,H⟩)) (hk:Nat.ble args.length fn.ntmps=true:=by kernel_rfl):FnM P f H args ret H':=
 vZ hT hf hb (by simp[hk]) (by simp) (h e hT hmo)
theorem At.J{α ρ:Type}{X:Option α}{F:α->Option ρ}{r:ρ}(k d:Nat)(ks:List Nat)(m:Nat)(t:α->List (Nat×AV)×List (Nat×Box)×List Box)(h:∀x,X=some x->At P T im n (tn (Go.UK.JR n (upS (bP (Go.UK.adv T im [] n.n k p)) ks (t x).1 m (t x).2.1 (t x).2.2)) (kQ P n Q (iH d (Go.UK.adv T im [] n.n k p)))) (zY d (Go.UK.adv T im [] n.n k p)))
  (hy:∀x,F x=some r->At P T im n Q (Go.UK.nQ (iH d (Go.UK.adv T im [] n.n k p)) (upS (bP (Go.UK.adv T im [] n.n k p)) ks (t x).1 m (t x).2.1 (t x).2.2))) (e:Option.bind X F=some r):At P T im n Q p:=At.j k d _ h hy e
abbrev InvJ:=List Nat->Nat->List (Nat×AV)->List (Nat×Box)->List Box->Prop
theorem At.L{α ρ:Type}{X:Option α}{F:α->Option ρ}{r:ρ}(k:Nat)(ks:List Nat)(m:Nat)(t:α->List (Nat×AV)×List (Nat×Box)×List Box)(I:α->InvJ->Nat->Prop)(N:Nat)(h0:∀x,X=some x->I x (λks m es bs new=>JR n (upS (bP (Go.UK.adv T im [] n.n k p)) ks es m bs new) (bP (Go.UK.adv T im [] n.n k p))) N)
  (h:∀x j s,I x (λks m es bs new=>JR n (upS (bP (Go.UK.adv T im [] n.n k p)) ks es m bs new) s) j->At P T im n (tn (λs'=>∃i,i < j/\I x (λks m es bs new=>JR n (upS (bP (Go.UK.adv T im [] n.n k p)) ks es m bs new) s') i) (inB (idPt (Go.UK.adv T im [] n.n k p)) (tn (Go.UK.JR n (upS (bP (Go.UK.adv T im [] n.n k p)) ks (t x).1 m (t x).2.1 (t x).2.2)) (kQ P n Q (iH 1 (Go.UK.adv T im [] n.n k p)))))) (.code (aBe (Go.UK.adv T im [] n.n k p)) [] s))
  (hy:∀x,F x=some r->At P T im n Q (Go.UK.nQ (iH 1 (Go.UK.adv T im [] n.n k p)) (upS (bP (Go.UK.adv T im [] n.n k p)) ks (t x).1 m (t x).2.1 (t x).2.2))) (hi:aCV (Go.UK.adv T im [] n.n k p)=true:=by kernel_rfl) (e:Option.bind X F=some r):At P T im n Q p:=by
 obtain⟨x,e1,e2⟩:=tZ e;exact At.adv (gl:=[]) k λhT hm=>lp0 (λi s=>I x (λks m es bs new=>JR n (upS (bP (Go.UK.adv T im [] n.n k p)) ks es m bs new) s) i) N hi (h0 x e1) (aCU (At.popN hT hm (hy x e2))) (h x) hT hm
theorem At.LS{α β ρ:Type}{X:Option (Sum α β)}{F:α->Option ρ}{G:β->Option ρ}{r:ρ}(k:Nat)(ks:List Nat)(m:Nat)(t:α->List (Nat×AV)×List (Nat×Box)×List Box)(I:Sum α β->InvJ->Nat->Prop)(N:Nat)(h0:∀o,X=some o->I o (λks m es bs new=>JR n (upS (bP (Go.UK.adv T im [] n.n k p)) ks es m bs new) (bP (Go.UK.adv T im [] n.n k p))) N)
  (h:∀o,mG o F G=some r->∀j s,I o (λks m es bs new=>JR n (upS (bP (Go.UK.adv T im [] n.n k p)) ks es m bs new) s) j->At P T im n (tn (λs'=>∃i,i < j/\I o (λks m es bs new=>JR n (upS (bP (Go.UK.adv T im [] n.n k p)) ks es m bs new) s') i) (inB (idPt (Go.UK.adv T im [] n.n k p)) (tn (Go.UK.JS n (λx=>upS (bP (Go.UK.adv T im [] n.n k p)) ks (t x).1 m (t x).2.1 (t x).2.2) o) (kQ P n Q (iH 1 (Go.UK.adv T im [] n.n k p)))))) (.code (aBe (Go.UK.adv T im [] n.n k p)) [] s))
  (hy:∀x,F x=some r->At P T im n Q (Go.UK.nQ (iH 1 (Go.UK.adv T im [] n.n k p)) (upS (bP (Go.UK.adv T im [] n.n k p)) ks (t x).1 m (t x).2.1 (t x).2.2))) (hi:aCV (Go.UK.adv T im [] n.n k p)=true:=by kernel_rfl) (e:Option.bind X (λo=>mG o F G)=some r):At P T im n Q p:=by
 obtain⟨o,e1,g⟩:=tZ e;exact At.adv (gl:=[]) k λhT hm=>lp0 (λi s=>I o (λks m es bs new=>JR n (upS (bP (Go.UK.adv T im [] n.n k p)) ks es m bs new) s) i) N hi (h0 o e1) (le_js g (λx hx=>At.popN hT hm (hy x hx))) (h o g) hT hm
section
variable {l:List Oper} {C:List (List Nat)} {ms:List MI} {B:Env} {H0:List Box} {cs:CS}
theorem dF(i:Nat)(x:AV)(bs:List (Nat×Box))(new:List Box){r:O2}(b:Big P n (hY l i) (cE C ms B i) (vJ i H0 cs) x (upB bs new (vJ i H0 cs)))(h:or2 P n l C ms cs B H0 r):or2 P n l C ms cs B H0 ((i,λH=>(x,upB bs new H)) :: r):=⟨b,h⟩
end
end
theorem vN{α1 β:Type}{v r:β}{o1:Sum α1 β}{F1:α1->Option β}{p:β->Prop}(g1:mG o1 F1 (λr=>some r)=some r)(e:some (Sum.inr v)=some o1)(h:p v):p r:=by cases e;cases g1;exact h
end Go.UK

namespace Go.UK
open Go
set_option linter.all false
variable [aV]
section
variable {P:Program} {T:TypeId→Option TI} {n:Fr}
end
end Go.UK

namespace Go.UK
open Go
set_option linter.all false
variable [aV]
section
variable {P:Program} {T:TypeId→Option TI} {n:Fr}
end
end Go.UK

namespace Go.UK
open Go Go.Proofs Go.Sort Go.RowKit
set_option linter.all false
variable [aV]
section
variable {P:Program} {ρ:Shelf.Ren}
end
end Go.UK

