/- The own layer: abstract values, their memory, and the steps of the model over them: for any program. -/
import Derived.Test.YtidamaopieegkaaGreatDoorLib12
namespace Go.UK
open Go
set_option linter.all false
variable [bJ]
section
variable {P:Program} {T:TypeId→Option TI} {im:Nat→Bool} {n:Fr} {Q:Exit→ASt→Prop} {p:Pt}
theorem At.of(im:Nat->Bool)(hT:TOK P T)(hm:P.follows .mixedOrders=true){c:Code}{st:ASt}{π:Prop}(e:π)(h:π->At P T im n Q (.code c [] st)):aw P n c Q st:=h e hT hm
def aCi : Pt->Code
 | .code c _ _=>c
 | _ => .skip
theorem aCG{q:Pt}{g:Operand}{a:Array Tmp}{x y:Code}(h:aCi q = .rangeFunc g a x y):∃ks st,q = .code (.rangeFunc g a x y) ks st:=by
 unfold aCi at h;split at h
 ·subst h;exact⟨_,_,rfl⟩
 ·cases h
theorem At.rg{π:Prop}(k:Nat){s:aD6}{env:Env}{Hc Hc':List Box}{args:List AV}{ret:AV}{f:FuncId}(I:ItM P f s env Hc args ret Hc' none)(hf:iY P f)(g:Operand)(σ0:List Nat)(t:ASt)(caps:List AV)
  (h:π->At P T im n Q (Go.UK.oQ (aAZ (Go.UK.adv T im [] n.n k p)) t))
  (hcode:(aCi (Go.UK.adv T im [] n.n k p),rngE g (fU (Go.UK.adv T im [] n.n k p)),n.ro,n.rg,n.n)=(.rangeFunc g s.ps.toArray s.assign s.body,some (f,caps),none,true,s.n):=by kernel_rfl)
  (hB:(λr:Loop=>rngB (cZ (Go.UK.adv T im [] n.n k p)) σ0 Hc Hc' args env r)=(λ_=>true):=by kernel_rfl)
  (hE:(λr:Loop=>(wkL (.yld (cZ (Go.UK.adv T im [] n.n k p)).length :: caps) (renL (rn (σ0++[(cZ (Go.UK.adv T im [] n.n k p)).length]) ((cZ (Go.UK.adv T im [] n.n k p)).length+1)) args),kU (cZ (Go.UK.adv T im [] n.n k p)++[Box.loop r]) (σ0++[(cZ (Go.UK.adv T im [] n.n k p)).length]),zA (fU (Go.UK.adv T im [] n.n k p)) (swE (rn (σ0++[(cZ (Go.UK.adv T im [] n.n k p)).length]) ((cZ (Go.UK.adv T im [] n.n k p)).length+1)) env)))
   = (λr=>(renL (rn (σ0++[(cZ (Go.UK.adv T im [] n.n k p)).length]) ((cZ (Go.UK.adv T im [] n.n k p)).length+1)) args,(Hc++[Box.loop r]).map (dY (rn (σ0++[(cZ (Go.UK.adv T im [] n.n k p)).length]) ((cZ (Go.UK.adv T im [] n.n k p)).length+1))),swE (rn (σ0++[(cZ (Go.UK.adv T im [] n.n k p)).length]) ((cZ (Go.UK.adv T im [] n.n k p)).length+1)) env)):=by kernel_rfl)
  (hj:(λr:Loop=>(cOK n ⟨fU (Go.UK.adv T im [] n.n k p),fR (cZ (Go.UK.adv T im [] n.n k p)) σ0 (Hc'.map (dY (rn (σ0++[(cZ (Go.UK.adv T im [] n.n k p)).length]) ((cZ (Go.UK.adv T im [] n.n k p)).length+1))))++[.loop r]⟩ t,cSt ⟨fU (Go.UK.adv T im [] n.n k p),fR (cZ (Go.UK.adv T im [] n.n k p)) σ0 (Hc'.map (dY (rn (σ0++[(cZ (Go.UK.adv T im [] n.n k p)).length]) ((cZ (Go.UK.adv T im [] n.n k p)).length+1))))++[.loop r]⟩ t))=(λ_=>(true,t)):=by kernel_rfl) (e0:π):At P T im n Q p:=by
 have h:=h e0;refine At.adv (gl:=[]) k ?_;generalize Go.UK.adv T im [] n.n k p=q at *;simp only[Prod.mk.injEq] at hcode;obtain⟨h1,h2,h3,h4,h5⟩:=hcode;obtain⟨ks,st,rfl⟩:=aCG h1;intro hT hm;exact aEK I hf rfl h3 h4 h5 h2 (λr=>congrFun hB r) (λr=>congrFun hE r) (λr=>Go.UK.jr (congrFun hj r)) (At.popN hT hm h)
end
end Go.UK

namespace Go.UK
open Go
set_option linter.all false
variable [bJ]
def kW(P:Program)(f:FuncId):Bool:=match P.funcs[f]? with | some fn=>(!(fn.name == "runtime.NumGoroutine") && !fn.body.isNone)&&bJ.ms.all (aFN P) | none=>false
theorem iL{P:Program}{f:FuncId}(h:kW P f=true):iY P f:=by
 unfold kW at h;split at h
 ·rename_i fn hf;simp only[Bool.and_eq_true,Bool.not_eq_true'] at h;exact⟨⟨fn,hf,h.1.1,h.1.2⟩,λq hq=>aB9 (List.all_eq_true.1 h.2 q hq)⟩
 ·cases h
def upB(bs:List (Nat×Box))(new H:List Box):List Box:=(bs.foldl (λH p=>H.set p.1 p.2) H)++new
def upS(s:ASt)(ks:List Nat)(es:List (Nat×AV))(m:Nat)(bs:List (Nat×Box))(new:List Box):ASt:=
 ⟨es.map (λp=>(p.1,some (none,p.2)))++ks.map (λi=>(i,bM s.env i)),upB bs new (vR m s.H)⟩
section
variable {P:Program} {T:TypeId→Option TI} {im:Nat→Bool} {n:Fr} {Q:Exit→ASt→Prop} {p:Pt}
theorem aQ(σ:List Nat){f:FuncId}{Hc Hc':List Box}{args:List AV}{ret:AV}(C:FnM P f Hc args ret Hc'){o:Oper}{need:Env}{H:List Box}(hf:kW P f=true:=by kernel_rfl)
  (hB:aBN n o H σ Hc args=true:=by kernel_rfl) (hE:aBR o need H σ Hc args=(some (f,renL (rn σ H.length) args),Hc.map (dY (rn σ H.length))):=by kernel_rfl) :
  Big P n o need H (ren (rn σ H.length) ret) (cE H σ Hc'):=oU σ C (iL hf) hB hE
theorem lA{f:FuncId}{args:List AV}{ret x:AV}(C:FnM P f [] args ret []){o:Oper}{need:Env}{H:List Box}(hf:kW P f=true:=by kernel_rfl)
  (hB:aBN n o H [] [] args=true:=by kernel_rfl) (hE:aBR o need H [] [] args=(some (f,renL (rn [] H.length) args),([]:List Box).map (dY (rn [] H.length))):=by kernel_rfl) (hx:ren (rn [] H.length) ret=x:=by kernel_rfl) :
  Big P n o need H x H:=aDZ C (iL hf) hB hE hx
theorem At.f(im:Nat->Bool)(hT:TOK P T)(hmo:P.follows .mixedOrders=true){f:FuncId}{fn:Func}{c:Code}{args:List AV}{ret:AV}{H H':List Box}(hf:P.funcs[f]? = some fn)(hb:fn.body=some c)
  {π:Prop} (e:π) (h:π->At P T im (Fr.f fn.ntmps H.length) (xX T H.length fn.results.toList ret H') (.code c [] ⟨tT 0 args,H⟩)) (hk:Nat.ble args.length fn.ntmps=true:=by kernel_rfl):FnM P f H args ret H':=
 zW hT hf hb (by simp[hk]) (by simp) (h e hT hmo)
theorem At.J{α ρ:Type}{X:Option α}{F:α->Option ρ}{r:ρ}(k d:Nat)(ks:List Nat)(m:Nat)(t:α->List (Nat×AV)×List (Nat×Box)×List Box)(h:∀x,X=some x->At P T im n (tn (Go.UK.JR n (upS (bY (Go.UK.adv T im [] n.n k p)) ks (t x).1 m (t x).2.1 (t x).2.2)) (kQ P n Q (iM d (Go.UK.adv T im [] n.n k p)))) (yO d (Go.UK.adv T im [] n.n k p)))
  (hy:∀x,F x=some r->At P T im n Q (Go.UK.oQ (iM d (Go.UK.adv T im [] n.n k p)) (upS (bY (Go.UK.adv T im [] n.n k p)) ks (t x).1 m (t x).2.1 (t x).2.2))) (e:Option.bind X F=some r):At P T im n Q p:=At.j k d _ h hy e
theorem At.JS{α β ρ:Type}{X:Option (Sum α β)}{F:α->Option ρ}{G:β->Option ρ}{r:ρ}(k d:Nat)(ks:List Nat)(m:Nat)(t:α->List (Nat×AV)×List (Nat×Box)×List Box)(h:∀o,qK o F G=some r->X=some o->At P T im n (tn (Go.UK.JS n (λx=>upS (bY (Go.UK.adv T im [] n.n k p)) ks (t x).1 m (t x).2.1 (t x).2.2) o) (kQ P n Q (iM d (Go.UK.adv T im [] n.n k p)))) (yO d (Go.UK.adv T im [] n.n k p)))
  (hy:∀x,F x=some r->At P T im n Q (Go.UK.oQ (iM d (Go.UK.adv T im [] n.n k p)) (upS (bY (Go.UK.adv T im [] n.n k p)) ks (t x).1 m (t x).2.1 (t x).2.2))) (e:Option.bind X (λo=>qK o F G)=some r):At P T im n Q p:=At.js k d _ h hy e
abbrev InvJ:=List Nat->Nat->List (Nat×AV)->List (Nat×Box)->List Box->Prop
theorem At.L{α ρ:Type}{X:Option α}{F:α->Option ρ}{r:ρ}(k:Nat)(ks:List Nat)(m:Nat)(t:α->List (Nat×AV)×List (Nat×Box)×List Box)(I:α->InvJ->Nat->Prop)(N:Nat)(h0:∀x,X=some x->I x (λks m es bs new=>JR n (upS (bY (Go.UK.adv T im [] n.n k p)) ks es m bs new) (bY (Go.UK.adv T im [] n.n k p))) N)
  (h:∀x j s,I x (λks m es bs new=>JR n (upS (bY (Go.UK.adv T im [] n.n k p)) ks es m bs new) s) j->At P T im n (tn (λs'=>∃i,i < j/\I x (λks m es bs new=>JR n (upS (bY (Go.UK.adv T im [] n.n k p)) ks es m bs new) s') i) (inB (idPt (Go.UK.adv T im [] n.n k p)) (tn (Go.UK.JR n (upS (bY (Go.UK.adv T im [] n.n k p)) ks (t x).1 m (t x).2.1 (t x).2.2)) (kQ P n Q (iM 1 (Go.UK.adv T im [] n.n k p)))))) (.code (aDM (Go.UK.adv T im [] n.n k p)) [] s))
  (hy:∀x,F x=some r->At P T im n Q (Go.UK.oQ (iM 1 (Go.UK.adv T im [] n.n k p)) (upS (bY (Go.UK.adv T im [] n.n k p)) ks (t x).1 m (t x).2.1 (t x).2.2))) (hi:aFf (Go.UK.adv T im [] n.n k p)=true:=by kernel_rfl) (e:Option.bind X F=some r):At P T im n Q p:=by
 obtain⟨x,e1,e2⟩:=vX e;exact At.adv (gl:=[]) k λhT hm=>lp0 (λi s=>I x (λks m es bs new=>JR n (upS (bY (Go.UK.adv T im [] n.n k p)) ks es m bs new) s) i) N hi (h0 x e1) (aFW (At.popN hT hm (hy x e2))) (h x) hT hm
theorem At.LS{α β ρ:Type}{X:Option (Sum α β)}{F:α->Option ρ}{G:β->Option ρ}{r:ρ}(k:Nat)(ks:List Nat)(m:Nat)(t:α->List (Nat×AV)×List (Nat×Box)×List Box)(I:Sum α β->InvJ->Nat->Prop)(N:Nat)(h0:∀o,X=some o->I o (λks m es bs new=>JR n (upS (bY (Go.UK.adv T im [] n.n k p)) ks es m bs new) (bY (Go.UK.adv T im [] n.n k p))) N)
  (h:∀o,qK o F G=some r->∀j s,I o (λks m es bs new=>JR n (upS (bY (Go.UK.adv T im [] n.n k p)) ks es m bs new) s) j->At P T im n (tn (λs'=>∃i,i < j/\I o (λks m es bs new=>JR n (upS (bY (Go.UK.adv T im [] n.n k p)) ks es m bs new) s') i) (inB (idPt (Go.UK.adv T im [] n.n k p)) (tn (Go.UK.JS n (λx=>upS (bY (Go.UK.adv T im [] n.n k p)) ks (t x).1 m (t x).2.1 (t x).2.2) o) (kQ P n Q (iM 1 (Go.UK.adv T im [] n.n k p)))))) (.code (aDM (Go.UK.adv T im [] n.n k p)) [] s))
  (hy:∀x,F x=some r->At P T im n Q (Go.UK.oQ (iM 1 (Go.UK.adv T im [] n.n k p)) (upS (bY (Go.UK.adv T im [] n.n k p)) ks (t x).1 m (t x).2.1 (t x).2.2))) (hi:aFf (Go.UK.adv T im [] n.n k p)=true:=by kernel_rfl) (e:Option.bind X (λo=>qK o F G)=some r):At P T im n Q p:=by
 obtain⟨o,e1,g⟩:=vX e;exact At.adv (gl:=[]) k λhT hm=>lp0 (λi s=>I o (λks m es bs new=>JR n (upS (bY (Go.UK.adv T im [] n.n k p)) ks es m bs new) s) i) N hi (h0 o e1) (aHI g (λx hx=>At.popN hT hm (hy x hx))) (h o g) hT hm
section
variable {l:List Oper} {C:List (List Nat)} {ms:List MI} {B:Env} {H0:List Box} {cs:CS}
theorem dF(i:Nat)(x:AV)(bs:List (Nat×Box))(new:List Box){r:O2}(b:Big P n (iO l i) (cN C ms B i) (zE i H0 cs) x (upB bs new (zE i H0 cs)))(h:or2 P n l C ms cs B H0 r):or2 P n l C ms cs B H0 ((i,λH=>(x,upB bs new H)) :: r):=⟨b,h⟩
theorem zJ{q:List Box->Prop}{β:Type}{f g:List Box->β}(h:∀H,f H=g H->q H):∀{S:List (List Box)},S.map f=S.map g->tU q S
 | [],_=>trivial
 | H :: r,e=>by
  simp only[List.map_cons,List.cons.injEq] at e;exact⟨h H e.1,zJ h e.2⟩
theorem dEL(hT:TOK P T)(i:Nat)(x:AV){α:Type}(g:α->AV)(m:Nat){l':List α}{j:Nat}{e:α}(hx:l'[j]? = some e){r:O1}(h:xH P n l C ms B H0 cs r)(hd:dOK n.n (iO l i).dst=true:=by kernel_rfl)
  (hs:(kC C i H0 cs).map (λH=>(ldE T (iO l i) (cN C ms B i) H m (g e),ldX T (iO l i) (cN C ms B i) H m (g e)))=(kC C i H0 cs).map (λ_=>(some (l'.map g,j,zH (iO l i) (cN C ms B i),x),x)):=by kernel_rfl):xH P n l C ms B H0 cs ((i,x) :: r):=by
 refine⟨zJ (λH hH=>?_) hs,h⟩
 simp only[Prod.mk.injEq] at hH;have:=oA (P:=P) (n:=n) hT g m hx (o:=iO l i) (need:=cN C ms B i) (H:=H) hd (by rw[hH.1,hH.2])
 rwa[hH.2] at this
end
end
theorem aBL{α1 β:Type}{v r:β}{o1:Sum α1 β}{F1:α1->Option β}{p:β->Prop}(g1:qK o1 F1 (λr=>some r)=some r)(e:some (Sum.inr v)=some o1)(h:p v):p r:=by cases e;cases g1;exact h
end Go.UK

namespace Go.UK
open Go
set_option linter.all false
variable [bJ]
section
variable {P:Program} {T:TypeId→Option TI} {n:Fr}
end
end Go.UK

namespace Go.UK
open Go
set_option linter.all false
variable [bJ]
section
variable {P:Program} {T:TypeId→Option TI} {n:Fr}
end
end Go.UK

namespace Go.UK
open Go Go.Proofs Go.Sort Go.RowKit
set_option linter.all false
variable [bJ]
section
variable {P:Program} {ρ:Shelf.Ren}
end
end Go.UK

