/- The own layer: abstract values, their memory, and the steps of the model over them: for any program. -/
import Derived.Test.YtmmabhkichiikaaGreatLib12
namespace Go.UK
open Go
set_option linter.all false
variable [bS]
section
variable {P:Program} {T:TypeId→Option TI} {im:Nat→Bool} {n:Fr} {Q:Exit→ASt→Prop} {p:Pt}
theorem At.of(im:Nat->Bool)(hT:TOK P T)(hm:P.follows .mixedOrders=true){c:Code}{st:ASt}{π:Prop}(e:π)(h:π->At P T im n Q (.code c [] st)):aw P n c Q st:=h e hT hm
def aOU : Pt->Code
 | .code c _ _=>c
 | _ => .skip
theorem aOr{q:Pt}{g:Operand}{a:Array Tmp}{x y:Code}(h:aOU q = .rangeFunc g a x y):∃ks st,q = .code (.rangeFunc g a x y) ks st:=by
 unfold aOU at h;split at h
 ·subst h;exact⟨_,_,rfl⟩
 ·cases h
theorem At.rg{π:Prop}(k:Nat){s:aFp}{env:Env}{Hc Hc':List Box}{args:List AV}{ret:AV}{f:FuncId}(I:ItM P f s env Hc args ret Hc' none)(hf:sC P f)(g:Operand)(σ0:List Nat)(t:ASt)(caps:List AV)
  (h:π->At P T im n Q (Go.UK.aA0 (aL0 (Go.UK.adv T im [] n.n k p)) t))
  (hcode:(aOU (Go.UK.adv T im [] n.n k p),rngE g (uZ (Go.UK.adv T im [] n.n k p)),n.ro,n.rg,n.n)=(.rangeFunc g s.ps.toArray s.assign s.body,some (f,caps),none,true,s.n):=by kernel_rfl)
  (hB:(λr:Loop=>rngB (fF (Go.UK.adv T im [] n.n k p)) σ0 Hc Hc' args env r)=(λ_=>true):=by kernel_rfl)
  (hE:(λr:Loop=>(wkL (.yld (fF (Go.UK.adv T im [] n.n k p)).length :: caps) (renL (rn (σ0++[(fF (Go.UK.adv T im [] n.n k p)).length]) ((fF (Go.UK.adv T im [] n.n k p)).length+1)) args),rC (fF (Go.UK.adv T im [] n.n k p)++[Box.loop r]) (σ0++[(fF (Go.UK.adv T im [] n.n k p)).length]),aKD (uZ (Go.UK.adv T im [] n.n k p)) (swE (rn (σ0++[(fF (Go.UK.adv T im [] n.n k p)).length]) ((fF (Go.UK.adv T im [] n.n k p)).length+1)) env)))
   = (λr=>(renL (rn (σ0++[(fF (Go.UK.adv T im [] n.n k p)).length]) ((fF (Go.UK.adv T im [] n.n k p)).length+1)) args,(Hc++[Box.loop r]).map (iK (rn (σ0++[(fF (Go.UK.adv T im [] n.n k p)).length]) ((fF (Go.UK.adv T im [] n.n k p)).length+1))),swE (rn (σ0++[(fF (Go.UK.adv T im [] n.n k p)).length]) ((fF (Go.UK.adv T im [] n.n k p)).length+1)) env)):=by kernel_rfl)
  (hj:(λr:Loop=>(cOK n ⟨uZ (Go.UK.adv T im [] n.n k p),nW (fF (Go.UK.adv T im [] n.n k p)) σ0 (Hc'.map (iK (rn (σ0++[(fF (Go.UK.adv T im [] n.n k p)).length]) ((fF (Go.UK.adv T im [] n.n k p)).length+1))))++[.loop r]⟩ t,cSt ⟨uZ (Go.UK.adv T im [] n.n k p),nW (fF (Go.UK.adv T im [] n.n k p)) σ0 (Hc'.map (iK (rn (σ0++[(fF (Go.UK.adv T im [] n.n k p)).length]) ((fF (Go.UK.adv T im [] n.n k p)).length+1))))++[.loop r]⟩ t))=(λ_=>(true,t)):=by kernel_rfl) (e0:π):At P T im n Q p:=by
 have h:=h e0;refine At.adv (gl:=[]) k ?_;generalize Go.UK.adv T im [] n.n k p=q at *;simp only[Prod.mk.injEq] at hcode;obtain⟨h1,h2,h3,h4,h5⟩:=hcode;obtain⟨ks,st,rfl⟩:=aOr h1;intro hT hm;exact aTs I hf rfl h3 h4 h5 h2 (λr=>congrFun hB r) (λr=>congrFun hE r) (λr=>Go.UK.jr (congrFun hj r)) (At.popN hT hm h)
theorem At.mid{π:Prop}(k:Nat){m:Nat}{body:Code}{H':List Box}{kk:Option Code}{r:Loop}(hb:∀r2,π->At P T im n (aRw H' kk r2) (.code body [] ⟨uZ (Go.UK.adv T im [] n.n k p),(fF (Go.UK.adv T im [] n.n k p)).set m (.loop r2)⟩))
  (hc:(aI6 (Go.UK.adv T im [] n.n k p),(fF (Go.UK.adv T im [] n.n k p))[m]?)=(true,some (.loop r)):=by kernel_rfl) (e0:π):At P T im n (MidM P n m body H' kk r) p:=by
 refine At.adv (gl:=[]) k ?_;generalize Go.UK.adv T im [] n.n k p=q at *;simp only[Prod.mk.injEq] at hc;rw[zF hc.1]
 exact λhT hm=>mid_n hc.2 (λr2=>hb r2 e0 hT hm)
theorem At.rnd(k:Nat){H':List Box}{kk:Option Code}{r:Loop}
  (hc:(aI6 (Go.UK.adv T im [] n.n k p),aJ9 kk .normal,(aAY (H'.length+1) (H'++[.loop r])&&(Nat.ble (H'.length+1) (fF (Go.UK.adv T im [] n.n k p)).length&&nT (H'++[.loop r]) (H'++[.loop r]))),zG (fF (Go.UK.adv T im [] n.n k p)) (H'++[.loop r]))=(true,true,true,H'++[.loop r]):=by kernel_rfl):At P T im n (aRw H' kk r) p:=by
 refine At.adv (gl:=[]) k ?_;generalize Go.UK.adv T im [] n.n k p=q at *;simp only[Prod.mk.injEq] at hc;obtain⟨h1,h2,h3,h4⟩:=hc;rw[zF h1]
 exact λhT hm=>rnd_n (Prod.ext h2 (Prod.ext h3 h4))
end
end Go.UK

namespace Go.UK
open Go
set_option linter.all false
variable [bS]
def kC(P:Program)(f:FuncId):Bool:=match P.funcs[f]? with | some fn=>(!(fn.name == "runtime.NumGoroutine") && !fn.body.isNone)&&bS.ms.all (aTd P) | none=>false
theorem qT{P:Program}{f:FuncId}(h:kC P f=true):sC P f:=by
 unfold kC at h;split at h
 ·rename_i fn hf;simp only[Bool.and_eq_true,Bool.not_eq_true'] at h;exact⟨⟨fn,hf,h.1.1,h.1.2⟩,λq hq=>aPE (List.all_eq_true.1 h.2 q hq)⟩
 ·cases h
def upB(bs:List (Nat×Box))(new H:List Box):List Box:=(bs.foldl (λH p=>H.set p.1 p.2) H)++new
def upS(s:ASt)(ks:List Nat)(es:List (Nat×AV))(m:Nat)(bs:List (Nat×Box))(new:List Box):ASt:=
 ⟨es.map (λp=>(p.1,some (none,p.2)))++ks.map (λi=>(i,bZ s.env i)),upB bs new (aHU m s.H)⟩
section
variable {P:Program} {T:TypeId→Option TI} {im:Nat→Bool} {n:Fr} {Q:Exit→ASt→Prop} {p:Pt}
theorem tY(σ:List Nat){f:FuncId}{Hc Hc':List Box}{args:List AV}{ret:AV}(C:FnM P f Hc args ret Hc'){o:Oper}{need:Env}{H:List Box}(hf:kC P f=true:=by kernel_rfl)
  (hB:aCN n o H σ Hc args=true:=by kernel_rfl) (hE:aBz o need H σ Hc args=(some (f,renL (rn σ H.length) args),Hc.map (iK (rn σ H.length))):=by kernel_rfl) :
  Big P n o need H (ren (rn σ H.length) ret) (cL H σ Hc'):=aNx σ C (qT hf) hB hE
theorem aTq{f:FuncId}{args:List AV}{ret x:AV}(C:FnM P f [] args ret []){o:Oper}{need:Env}{H:List Box}(hf:kC P f=true:=by kernel_rfl)
  (hB:aCN n o H [] [] args=true:=by kernel_rfl) (hE:aBz o need H [] [] args=(some (f,renL (rn [] H.length) args),([]:List Box).map (iK (rn [] H.length))):=by kernel_rfl) (hx:ren (rn [] H.length) ret=x:=by kernel_rfl) :
  Big P n o need H x H:=aQ7 C (qT hf) hB hE hx
theorem At.f(im:Nat->Bool)(hT:TOK P T)(hmo:P.follows .mixedOrders=true){f:FuncId}{fn:Func}{c:Code}{args:List AV}{ret:AV}{H H':List Box}(hf:P.funcs[f]? = some fn)(hb:fn.body=some c)
  {π:Prop} (e:π) (h:π->At P T im (Fr.f fn.ntmps H.length) (aFK T H.length fn.results.toList ret H') (.code c [] ⟨aCJ 0 args,H⟩)) (hk:Nat.ble args.length fn.ntmps=true:=by kernel_rfl):FnM P f H args ret H':=
 aKu hT hf hb (by simp[hk]) (by simp) (h e hT hmo)
theorem At.fR(im:Nat->Bool)(hT:TOK P T)(hmo:P.follows .mixedOrders=true){f:FuncId}{fn:Func}{c:Code}{args:List AV}{ret:AV}{H H':List Box}(hf:P.funcs[f]? = some fn)(hb:fn.body=some c)
  {π:Prop} (e:π) (h:π->At P T im (Fr.f fn.ntmps H.length true) (aFK T H.length fn.results.toList ret H') (.code c [] ⟨aCJ 0 args,H⟩)) (hk:Nat.ble args.length fn.ntmps=true:=by kernel_rfl):FnM P f H args ret H':=
 aOz hT hf hb (by simp[hk]) (by simp) (h e hT hmo)
theorem At.J{α ρ:Type}{X:Option α}{F:α->Option ρ}{r:ρ}(k d:Nat)(ks:List Nat)(m:Nat)(t:α->List (Nat×AV)×List (Nat×Box)×List Box)(h:∀x,X=some x->At P T im n (tn (Go.UK.JR n (upS (cJ (Go.UK.adv T im [] n.n k p)) ks (t x).1 m (t x).2.1 (t x).2.2)) (kQ P n Q (nX d (Go.UK.adv T im [] n.n k p)))) (aJs d (Go.UK.adv T im [] n.n k p)))
  (hy:∀x,F x=some r->At P T im n Q (Go.UK.aA0 (nX d (Go.UK.adv T im [] n.n k p)) (upS (cJ (Go.UK.adv T im [] n.n k p)) ks (t x).1 m (t x).2.1 (t x).2.2))) (e:Option.bind X F=some r):At P T im n Q p:=At.j k d _ h hy e
theorem At.JS{α β ρ:Type}{X:Option (Sum α β)}{F:α->Option ρ}{G:β->Option ρ}{r:ρ}(k d:Nat)(ks:List Nat)(m:Nat)(t:α->List (Nat×AV)×List (Nat×Box)×List Box)(h:∀o,kG o F G=some r->X=some o->At P T im n (tn (Go.UK.JS n (λx=>upS (cJ (Go.UK.adv T im [] n.n k p)) ks (t x).1 m (t x).2.1 (t x).2.2) o) (kQ P n Q (nX d (Go.UK.adv T im [] n.n k p)))) (aJs d (Go.UK.adv T im [] n.n k p)))
  (hy:∀x,F x=some r->At P T im n Q (Go.UK.aA0 (nX d (Go.UK.adv T im [] n.n k p)) (upS (cJ (Go.UK.adv T im [] n.n k p)) ks (t x).1 m (t x).2.1 (t x).2.2))) (e:Option.bind X (λo=>kG o F G)=some r):At P T im n Q p:=At.js k d _ h hy e
abbrev InvJ:=List Nat->Nat->List (Nat×AV)->List (Nat×Box)->List Box->Prop
theorem At.L{α ρ:Type}{X:Option α}{F:α->Option ρ}{r:ρ}(k:Nat)(ks:List Nat)(m:Nat)(t:α->List (Nat×AV)×List (Nat×Box)×List Box)(I:α->InvJ->Nat->Prop)(N:Nat)(h0:∀x,X=some x->I x (λks m es bs new=>JR n (upS (cJ (Go.UK.adv T im [] n.n k p)) ks es m bs new) (cJ (Go.UK.adv T im [] n.n k p))) N)
  (h:∀x j s,I x (λks m es bs new=>JR n (upS (cJ (Go.UK.adv T im [] n.n k p)) ks es m bs new) s) j->At P T im n (tn (λs'=>∃i,i < j/\I x (λks m es bs new=>JR n (upS (cJ (Go.UK.adv T im [] n.n k p)) ks es m bs new) s') i) (inB (aQ0 (Go.UK.adv T im [] n.n k p)) (tn (Go.UK.JR n (upS (cJ (Go.UK.adv T im [] n.n k p)) ks (t x).1 m (t x).2.1 (t x).2.2)) (kQ P n Q (nX 1 (Go.UK.adv T im [] n.n k p)))))) (.code (aLB (Go.UK.adv T im [] n.n k p)) [] s))
  (hy:∀x,F x=some r->At P T im n Q (Go.UK.aA0 (nX 1 (Go.UK.adv T im [] n.n k p)) (upS (cJ (Go.UK.adv T im [] n.n k p)) ks (t x).1 m (t x).2.1 (t x).2.2))) (hi:aOy (Go.UK.adv T im [] n.n k p)=true:=by kernel_rfl) (e:Option.bind X F=some r):At P T im n Q p:=by
 obtain⟨x,e1,e2⟩:=aDd e;exact At.adv (gl:=[]) k λhT hm=>lp0 (λi s=>I x (λks m es bs new=>JR n (upS (cJ (Go.UK.adv T im [] n.n k p)) ks es m bs new) s) i) N hi (h0 x e1) (aRt (At.popN hT hm (hy x e2))) (h x) hT hm
section
variable {l:List Oper} {C:List (List Nat)} {ms:List MI} {B:Env} {H0:List Box} {cs:CS}
end
end
theorem aBp{α1 β:Type}{v r:β}{o1:Sum α1 β}{F1:α1->Option β}{p:β->Prop}(g1:kG o1 F1 (λr=>some r)=some r)(e:some (Sum.inr v)=some o1)(h:p v):p r:=by cases e;cases g1;exact h
theorem rtS2{α1 α2 β:Type}{v r:β}{o1:Sum α1 β}{o2:Sum α2 β}{F1:α1->Option (Sum α2 β)}{F2:α2->Option β}{p:β->Prop}(g1:kG o1 F1 (λr=>some (Sum.inr r))=some o2)(g2:kG o2 F2 (λr=>some r)=some r)(e:some (Sum.inr v)=some o1)(h:p v):p r:=by cases e;cases g1;cases g2;exact h
end Go.UK

open Bool renaming and_eq_true→am
open List renaming append_assoc→av,drop→kq,drop_of_length_le→fy,eq_nil_of_length_eq_zero→cq,length_append→ar,length_drop→iy,length_map→ai,length_take→bo,mem_append→b9,mem_of_mem_drop→gq,mem_of_mem_take→bw,take_append_drop→dn
open Nat renaming add_mul→dq,beq→au,ble→f8,eq_of_beq_eq_true→ag,le_of_ble_eq_true→bg,le_refl→ay,min_eq_left→db,zero_add→cz
open Go.Sem renaming run_bind→ap,run_pure→bl
namespace Go.UK
open Go
set_option linter.all false
variable [bS]
def aMh(L lo0 n:Nat)(lo hi:Int):Option Unit:=cond (decide (lo0+n<=L)&&(decide (0<=lo)&&(decide (lo<=hi)&&(decide (hi<=(n:Int))&&decide (lo=0\/lo < (n:Int)))))) (some ()) none
theorem aVn{L lo0 n:Nat}{lo hi:Int}{u:Unit}(h:aMh L lo0 n lo hi=some u):lo0+n<=L/\0<=lo/\lo<=hi/\hi<=(n:Int)/\(lo=0\/lo < (n:Int)):=by
 unfold aMh at h;cases hc:(decide (lo0+n<=L)&&(decide (0<=lo)&&(decide (lo<=hi)&&(decide (hi<=(n:Int))&&decide (lo=0\/lo < (n:Int)))))) with
 | true=>simp only[am,decide_eq_true_eq] at hc;exact hc
 | false=>rw[hc] at h;cases h
def aAa(L lo0 n:Nat)(i:Int):Option Unit:=cond (decide (lo0+n<=L)&&(decide (0<=i)&&decide (i < (n:Int)))) (some ()) none
theorem aWt{L lo0 n:Nat}{i:Int}{u:Unit}(h:aAa L lo0 n i=some u):lo0+n<=L/\0<=i/\i < (n:Int):=by
 unfold aAa at h;cases hc:(decide (lo0+n<=L)&&(decide (0<=i)&&decide (i < (n:Int)))) with
 | true=>simp only[am,decide_eq_true_eq] at hc;exact hc
 | false=>rw[hc] at h;cases h
def aS6 : Nat->GJ->Option (Nat×Nat)
 | L,.all=>some (0,L)
 | _,.sub lo n=>some (lo,n)
 | _,_=>none
theorem aQd{a:Option Nat}{k L cap lo0 n:Nat}{j:GJ}(h:aS6 L j=some (lo0,n)):aCq a k L cap j = .slice (a.map λb=>⟨b,lo0*k,none⟩) n (cap - lo0):=by
 cases j <;> simp only[aS6] at h <;> cases h
 ·simp[aCq]
 ·rfl
section
variable {P:Program} {T:TypeId→Option TI} {n:Fr}
def gslE(T:TypeId->Option TI)(o:Oper)(need:Env):Option (Nat×Nat×Nat×Nat×Nat×Int×Int):=
 match o.op with
 | .slice t x lo hi none=>match opd need none x,T t with
  | some (.gro id k L j),some ⟨_,_,_,.sl e⟩=>match aS6 L j,T e with
   | some (lo0,m),some ei=>match au ei.size k,aH0 need 0 lo,aH0 need m hi with
    | true,some l,some h=>some (id,k,L,lo0,m,l,h)
    | _,_,_=>none
   | _,_=>none
  | _,_=>none
 | _=>none
theorem aIN(hT:TOK P T){id k L lo0 m:Nat}{lo hi:Int}{u:Unit}(hx:aMh L lo0 m lo hi=some u){o:Oper}{need:Env}{H:List Box}(hd:dOK n.n o.dst=true:=by kernel_rfl)(h:gslE T o need=some (id,k,L,lo0,m,lo,hi):=by kernel_rfl) :
  Big P n o need H (.gro id k L (.sub (aBC lo0 lo.toNat) (hi.toNat - lo.toNat))) H:=by
 obtain⟨hL,h0,h1,h2,h3⟩:=aVn hx;unfold gslE at h;split at h <;> try cases h
 rename_i t x los his ho;split at h <;> try cases h
 rename_i id' k' L' j sz b1 z e hv ht;split at h <;> try cases h
 rename_i lo1 m1 ei hp he;split at h <;> cases h;rename_i hk hlo hhi;have hk:=ag hk;refine eK hd λa μ ok hH hE=>⟨μ,?_,hH⟩
 obtain⟨w1,ad,cap,g1,⟨g2,g20⟩,g3⟩:=aDA (aV hE noG hv)
 rw[aQd hp] at g1;obtain⟨dd,hdd,hf⟩:=(hT t _ ht).kind;simp only[TK.fits] at hf;subst hf;have hb:=aC2 (P:=P) (b:=true) (cap:=cap - lo0) hE hlo hhi h0 h1 (by omega) (by omega) μ.w;have hrun:(execOp a.eval o).run P μ.w = .ok (.value (.slice (if cap - lo0=lo.toNat then(ad.map λb=>⟨b,lo0*k,none⟩) else(ad.map λb=>(⟨b,lo0*k,none⟩:Addr)).map (·.add (lo.toNat*ei.size))) (hi.toNat - lo.toNat) (cap - lo0 - lo.toNat))) μ.w:=by
  simp only[execOp,ho,Instr.sliceAt,ap,run_underlying hdd,Result.andThen_ok,Instr.slice,g1,hb,lN hT he,bl,Option.map_none]
 refine fO.here ok hrun (aBg ⟨w1,ad,cap,?_,⟨g2,g20⟩,g3⟩)
 simp only[aCq,aAx]
 have e1:cap - lo0 - lo.toNat=cap - (lo0+lo.toNat):=by omega
 rw[e1,hk]
 congr 1;split
 ·rename_i hc;have hz:lo.toNat=0:=by
   rcases h3 with h3 | h3
   ·rw[h3];rfl
   ·omega
  rw[hz];rfl
 ·cases ad with
  | none=>rfl
  | some b=>simp only[Option.map_some,oL,dq]
theorem kT(hT:TOK P T){id k L lo0 m:Nat}{i:Int}{u:Unit}(hx:aAa L lo0 m i=some u){o:Oper}{need:Env}{H:List Box}(hd:dOK n.n o.dst=true)(h:aRA T o need=some (.gro id k L (.sub lo0 m),i,k)) :
  Big P n o need H (.gro id k L (.ptr (aBC lo0 i.toNat) 0)) H:=by
 obtain⟨hL,h0,h1⟩:=aWt hx;unfold aRA at h;split at h <;> try cases h
 rename_i t p ix ho;split at h <;> try cases h
 rename_i q kk i' sz b1 z e' hp hi ht;split at h <;> cases h;rename_i ei he;refine eK hd λa μ ok hH' hE=>⟨μ,?_,hH'⟩
 obtain⟨w1,ad,cap,g1,⟨g2,g3⟩,g4⟩:=aDA (aV hE noG hp)
 have h2:=cC (aV hE noG hi)
 cases ad with
 | none=>have:=g3 rfl;omega
 | some b=>
  refine fO.here (y := .pointer (some ⟨b,lo0*ei.size+i.toNat*ei.size,none⟩)) ok ?_ (aBg ⟨w1,some b,cap,by simp[aCq,aAx,dq],⟨g2,g3⟩,g4⟩)
  simp only[execOp,ho,g1,h2,aCq,Option.map_some,ap,yJ hT ht he h0 h1,Result.andThen_ok,bl]
theorem aCv(hT:TOK P T){o:Oper}{need:Env}{H:List Box}{α:Type}(f:α->AV){k:Nat}(l:List α)(hd:dOK n.n o.dst=true)(h:aND T o need=some (k,l.length,l.map f)):Big P n o need H (.gro H.length k l.length .all) (H++[.gro k (l.map f)]):=by
 refine eK hd λa μ ok hH hE=>?_;obtain⟨t,parts,ys,e,sz,b1,z,ho,ht,hrun,h1,h2,h3⟩:=aFr (P:=P) hT h ok hE;obtain⟨H0,bs,w,F⟩:=μ;dsimp only at hH;subst hH;have hbl:bs.length=H0.length:=ok.len;have hlat:=dG.alloc w ys.toArray e;have hnew:(w.alloc (.cells ys.toArray e)).heap[w.heap.size]? = some (.cells ys.toArray e (0,0)):=kP;have ext:=Ext.snoc (F:=F) ok.len hlat (.gro k (l.map f)) (some w.heap.size) (by intro b e;cases e;exact ay _)
 have hys:ys.length=l.length*k:=by rw[RdL.length h1,nV h2,ai]
 have ok':=OK.snoc ok hlat (x := .gro k (l.map f)) (o:=some w.heap.size) (by intro b e;cases e;exact ay _)
  ⟨h2,.inr ⟨_,_,e,rfl,hnew,ys,[],by simp,RdL.mono ext.keeps _ _ h1⟩⟩
 refine⟨_,⟨_,hrun,aBg ⟨by simp,some w.heap.size,l.length,rfl,⟨ay _,λe=>by cases e⟩,λk' es' hm=>?_⟩,ext,ok'⟩,rfl⟩
 have hm:(H0++[Box.gro k (l.map f)])[H0.length]? = some (.gro k' es'):=hm;simp at hm;obtain⟨rfl,rfl⟩:=hm;refine⟨by simp,λ_=>⟨rfl,?_,.inl ⟨_,rfl,_,e,hnew,by simpa using hys⟩⟩⟩
 show(bs++[some w.heap.size])[H0.length]? = _;rw[<- hbl];simp
def vT{α:Type}(l:List α)(m:Nat)(r:List α):List α:=l.take m++r++l.drop (m+r.length)
theorem aNT{α:Type}{l r:List α}{m:Nat}(hm:m<=l.length):(vT l m r).length=m+r.length+(l.length - (m+r.length)):=by
 unfold vT;simp only[ar,bo,iy];omega
theorem aOK(hT:TOK P T){o:Oper}{t xt e:TypeId}{sz b1:Nat}{z:AV}{ei xi:TI}{p q:Operand}{id k m:Nat}{es ys:List AV}{v:AV}{a:Act}{H:List Box}{bs:List (Option Nat)}{w:World}{F:Nat->Nat->Prop}
  (ho:o.op = .call { callee := .builtin .append,args:=#[p,q],argTypes:=#[t,xt] }) (ht:T t=some ⟨sz,b1,z,.sl e⟩) (he:T e=some ei) (hek:ei.size=k) (hxt:T xt=some xi) (hxk:xi.kind.noInt=true)
  (hmok:(⟨H,bs,w,F⟩:Mem).OK) (hv1:Rv ⟨H,bs,w,F⟩ (.gro id k es.length (.sub 0 m)) (a.eval p)) (hv2:Rv ⟨H,bs,w,F⟩ v (a.eval q)) (hv:aHK v=some (k,ys)) (hH:H[id]? = some (.gro k es)) (hk0:0 < k) (hb0:ei.bytes≠0) (hm:m<=es.length)
  (hbound:(m+ys.length)*ei.bytes<=140737488355328):∃bs' w',fO P o a ⟨H,bs,w,F⟩ (.gro id k (vT es m ys).length (.sub 0 (m+ys.length))) ⟨H.set id (.gro k (vT es m ys)),bs',w',F⟩:=by
 obtain⟨hall0,ad,cap,g1,g2,g3,g4⟩:=aL9 hmok (aDA hv1) hH;have g1:a.eval p = .slice (ad.map λb=>⟨b,0,none⟩) m cap:=by rw[g1];simp[aCq]
 obtain⟨zs,k1,k2,k3,k4⟩:=aJE (P:=P) hv rfl hv2;obtain⟨cs,hexec⟩:=kF ho a.eval;have hbl:bs.length=H.length:=hmok.len;have hidlt:=aZ hH;have hplen:=aNT (r:=ys) hm;have hall:∀e∈vT es m ys,e.n=k:=by
  intro e he;unfold vT at he;rcases b9.1 he with h' | h'
  ·rcases b9.1 h' with h' | h'
   ·exact hall0 e (bw h')
   ·exact k3 e h'
  ·exact hall0 e (gq h')
 have hcase:∃v' bs' w',(Builtin.append_ #[t,xt] o.type #[a.eval p,a.eval q]).run P w = .ok v' w'/\Ext ⟨H,bs,w,F⟩ ⟨H.set id (.gro k (vT es m ys)),bs',w',F⟩ /\
   (⟨H.set id (.gro k (vT es m ys)),bs',w',F⟩:Mem).OK/\Rv ⟨H.set id (.gro k (vT es m ys)),bs',w',F⟩ (.gro id k (vT es m ys).length (.sub 0 (m+ys.length))) v':=by
  by_cases hroom:m+ys.length<=cap
  ·rcases g4 with ⟨b,cells,U,y1,y2,rfl,q1,q2,q3,q4⟩ | ⟨rfl,q1,rfl⟩
   ·-- at its place
    have hq4:=q4;rw[<- dn m es] at hq4;obtain⟨ya,yb,s1,s2,s3⟩:=PL.split (mH.1 hq4)
    rw[<- dn ys.length (es.drop m),List.drop_drop] at s3;obtain⟨yb1,yb2,t1,t2,t3⟩:=PL.split s3;have lya:ya.length=m*k:=by
     rw[RdL.length (mH.2 s2),nV (λe he=>hall0 e (bw he)),bo,db hm]
    have lyb1:yb1.length=(min ys.length (es.length - m))*k:=by
     rw[RdL.length (mH.2 t2),nV (λe he=>hall0 e (gq (bw he))),bo,iy]
    have hlk:m*k+zs.length<=cap*k:=by
     rw[k2,<- dq];exact Nat.mul_le_mul_right _ hroom
    have hsz:m*k+zs.length<=cells.size:=by rw[q2];exact hlk
    have hstore:(storeCells ⟨b,m*k,none⟩ zs).run P w = .ok () (bK w b (.cells (hK cells (m*k) zs) U (0,0))):=by
     have:=kN (P:=P) zs (m*k) 0 w cells q1 (by omega) (RcL.oneCell _ _ (RdL.rc (μ:=⟨H,bs,w,F⟩) _ _ k1))
     simpa using this
    have hle:es.length<=(vT es m ys).length:=by omega
    have hto:∃rest,(hK cells (m*k) zs).toList=(ya++zs++yb2)++rest:=by
     rw[mI _ _ _ hsz,q3,s1,t1]
     have e1:List.take (m*k) (ya++(yb1++yb2)++y2)=ya:=by rw[av];exact List.take_left' lya
     rw[e1]
     by_cases hB:ys.length<=es.length - m
     ·refine⟨y2,?_⟩
      have e2:kq (m*k+zs.length) (ya++(yb1++yb2)++y2)=yb2++y2:=by
       rw[show ya++(yb1++yb2)++y2=(ya++yb1)++(yb2++y2) by simp[av]]
       exact List.drop_left' (by rw[ar,lya,lyb1,db hB,k2])
      rw[e2];simp[av]
     ·have e3:yb2=[]:=by
       have:es.drop (m+ys.length)=[]:=fy (by omega)
       rw[this] at t3;exact t3
      rw[e3]
      exact⟨kq (m*k+zs.length) (ya++(yb1++[])++y2),by simp[av]⟩
    obtain⟨rest,hto⟩:=hto;have hrd:RdL w (⟨H,bs,w,F⟩:Mem).M (vT es m ys) (ya++zs++yb2):=RdL.append (RdL.append (mH.2 s2) k1) (mH.2 t3)
    have ext:=Ext.gput (es':=vT es m ys) (ys':=hK cells (m*k) zs) g3 hH q1 hmok hle (kD zs cells _)
    have ok:=OK.gput (es':=vT es m ys) (ys':=hK cells (m*k) zs) g3 hH q1 hmok hle (kD zs cells _) hall hto hrd;refine⟨.slice (some ⟨b,0,none⟩) (m+ys.length) cap,bs,_,?_,ext,ok,aBg ?_⟩
    ·rw[g1]
     refine pI hT ht he hxt hxk (zs:=zs) (by rw[hek];exact k4 w rfl) hroom ?_ (by intro h;cases h)
     intro a' e';cases e';rw[oL,hek,cz]
     exact hstore
    ·refine⟨by simpa using hidlt,some b,cap,by simp[aCq],⟨by omega,λe=>by cases e⟩,λk' es' hm=>?_⟩
     dsimp only at hm;rw[cE hH] at hm;cases hm;exact⟨ay _,λ_=>⟨rfl,g3,.inl ⟨b,rfl,_,U,cH (fE q1),by rw[kD];exact q2⟩⟩⟩
   ·-- no room but for nothing
    have hys:ys=[]:=cq (by simp at q1 hroom;omega)
    have hm0:m=0:=by simpa using hm
    subst hys hm0;have hzs:zs=[]:=cq (by simpa using k2)
    subst hzs;have hset:H.set id (.gro k (vT [] 0 []))=H:=by
     apply List.ext_getElem?;intro i;by_cases hi:id=i
     ·subst hi;rw[cE hH,hH];rfl
     ·rw[bA hi]
    rw[hset]
    refine⟨a.eval p,bs,w,?_,Ext.refl _,hmok,hv1⟩
    rw[g1]
    have:=pI (P:=P) (w:=w) (w':=w) (base:=none) (sl:=0) (sc:=cap) (ty:=o.type) hT ht he hxt hxk (zs:=[]) (by rw[hek];exact k4 w rfl) hroom (by intro a' _;simp[storeCells]) (λ_=>rfl)
    simpa[aCq] using this
  ·-- to a new block
   have hnil:es.drop (m+ys.length)=[]:=fy (by omega)
   have hput:vT es m ys=es.take m++ys:=by unfold vT;rw[hnil,List.append_nil]
   have hold:∃old:List Value,RdL w (⟨H,bs,w,F⟩:Mem).M (es.take m) old/\old.length=m*k/\((Builtin.firstCells k m (.slice (ad.map λb=>⟨b,0,none⟩) m cap)).run P w.drew = .ok old.toArray w.drew):=by
    rcases g4 with ⟨b,cells,U,y1,y2,rfl,q1,q2,q3,q4⟩ | ⟨rfl,q1,rfl⟩
    ·rw[<- dn m es] at q4;obtain⟨ya,yb,s1,s2,s3⟩:=PL.split (mH.1 q4)
     have lya:ya.length=m*k:=by
      rw[RdL.length (mH.2 s2),nV (λe he=>hall0 e (bw he)),bo,db hm]
     refine⟨ya,mH.2 s2,lya,?_⟩
     simp only[Builtin.firstCells,Option.map_some]
     rw[<- lya]
     refine vK λj y hy=>?_;have:w.drew.heap=w.heap:=rfl;simp only[World.cell?,this,q1,cz]
     have h2:cells.toList[j]? = some y:=by rw[q3,s1,av,List.getElem?_append_left (aZ hy)];exact hy
     simpa using h2
    ·have hm0:m=0:=by simpa using hm
     subst hm0;exact⟨[],by simp[RdL],by simp,by simp[Builtin.firstCells]⟩
   obtain⟨old,o1,o2,o3⟩:=hold;obtain⟨cap',more,c1,c2,c3⟩:=aAV (P:=P) (w:=w) (base:=ad.map λb=>⟨b,0,none⟩) (sl:=m) (sc:=cap) (m:=ys.length) (x:=a.eval q) (zs:=zs) (old:=old) (ty:=o.type) hT ht he hxt hxk (by rw[hek];exact k4 w rfl) (by rw[hek];exact k4 w.drew rfl) (by rw[hek];exact o3) hroom hb0 (aRm hbound)
   have hlt:es.length < (vT es m ys).length:=by omega
   have hlater:dG w (w.drew.alloc (.cells (old++zs++more).toArray e)):=(dG.drew w).trans (dG.alloc _ _ _)
   have hrowlen:(old++zs++more).length=cap'*k:=by
    simp only[ar,o2,c2,hek]
    rw[k2,<- dq,<- dq]
    congr 1;omega
   have hnewb:(w.drew.alloc (.cells (old++zs++more).toArray e)).heap[w.heap.size]? = some (.cells (old++zs++more).toArray e (0,0)):=kP (w:=w.drew)
   have ext:=Ext.gmove (F:=F) (es':=vT es m ys) g3 hH hlater (ay _) hlt;have ok:=OK.gmove (es':=vT es m ys) g3 hH hmok hlater (ay _) hlt hall hnewb (y1:=old++zs) (y2:=more) (by simp) (by rw[hput];exact RdL.append o1 k1)
   refine⟨.slice (some ⟨w.heap.size,0,none⟩) (m+ys.length) cap',_,_,by rw[g1];exact c3,ext,ok,aBg ?_⟩
   refine⟨by simpa using hidlt,some w.heap.size,cap',by simp[aCq],⟨by rw[hput,ar,bo,db hm];exact c1,λe=>by cases e⟩,λk' es' hm=>?_⟩
   dsimp only at hm;rw[cE hH] at hm;cases hm;exact⟨ay _,λ_=>⟨rfl,cE g3,.inl ⟨w.heap.size,rfl,_,e,hnewb,by simpa using hrowlen⟩⟩⟩
 obtain⟨v',bs',w',c1,c2,c3,c4⟩:=hcase;have hargs:(#[p,q]:Array Operand).map a.eval=#[a.eval p,a.eval q]:=by simp
 refine⟨bs',w',v',?_,c4,c2,c3⟩
 rw[hexec,hargs]
 simp only[builtin,ap,c1,Result.andThen_ok,bl]
def aVN(T:TypeId->Option TI)(o:Oper)(need:Env)(H:List Box):Option (App×Nat×Nat):=
 match o.op with
 | .call { callee := .builtin .append,args,argTypes }=>match args.toList,argTypes.toList with
  | [p,q],[t,xt]=>match opd need none p,opd need none q,T t,T xt with
   | some (.gro id k l (.sub 0 m)),some v,some ⟨_,_,_,.sl e⟩,some xi=>match T e,aHK v,H[id]? with
    | some ei,some (k',ys),some (.gro k2 es)=>match xi.kind.noInt,au ei.size k&&(au k' k&&(au k2 k&&(Nat.blt 0 k && !(au ei.bytes 0)))) with
     | true,true=>some (⟨id,k,es,ys,ei.bytes⟩,l,m)
     | _,_=>none
    | _,_,_=>none
   | _,_,_,_=>none
  | _,_=>none
 | _=>none
def aOC{α:Type}(b:Nat)(l:List α)(m:Nat)(r:List α):Option (List α):=cond (decide (m<=l.length)&&f8 ((m+r.length)*b) 140737488355328) (some (vT l m r)) none
theorem aWp{α:Type}{b m:Nat}{l r x:List α}(h:aOC b l m r=some x):m<=l.length/\(m+r.length)*b<=140737488355328/\x=vT l m r:=by
 unfold aOC at h;cases hc:(decide (m<=l.length)&&f8 ((m+r.length)*b) 140737488355328) with
 | true=>rw[hc] at h;cases h;simp only[am,decide_eq_true_eq] at hc;exact⟨hc.1,bg hc.2,rfl⟩
 | false=>rw[hc] at h;cases h
theorem aR8{α β:Type}(f:α->β)(l r:List α)(m:Nat):vT (l.map f) m (r.map f)=(vT l m r).map f:=by simp[vT]
theorem aHA(hT:TOK P T){o:Oper}{need:Env}{H H':List Box}{α:Type}(f:α->AV){id k b m:Nat}{l r x:List α}(hx:aOC b l m r=some x)(hd:dOK n.n o.dst=true)
  (h:aVN T o need H=some (⟨id,k,l.map f,r.map f,b⟩,l.length,m)) (hH':H.set id (.gro k (x.map f))=H'):Big P n o need H (.gro id k x.length (.sub 0 (m+r.length))) H':=by
 subst hH';obtain⟨hm,hxb,rfl⟩:=aWp hx;clear hx;unfold aVN at h;split at h <;> try cases h
 rename_i args tys ho;split at h <;> try cases h
 rename_i p q t xt hargs htys;split at h <;> try cases h
 rename_i id' k' l' m' v sz b1 z e xi hp hq ht hxt;split at h <;> try cases h
 rename_i ei k'' ys k2 es he hv hHm;split at h <;> cases h;rename_i hni hc;simp only[am,Bool.not_eq_true'] at hc;obtain⟨c1,c2,c4,c3,c6⟩:=hc;have c1:=ag c1;have c2:=ag c2;have c4:=ag c4;have hk0:0 < k:=by have h':f8 (0+1) k=true:=c3;have:=bg h';omega
 have hb0:ei.bytes≠0:=by intro e0;rw[e0] at c6;cases c6
 subst c2 c4;refine eK hd λa μ ok hH hE=>?_;obtain⟨H0,bs,w,F⟩:=μ;dsimp only at hH;subst hH;have hv1:=aV hE noG hp;have hv2:=aV hE noG hq;rw[aRG hargs,aRG htys] at ho;obtain⟨bs',w',hr⟩:=aOK (P:=P) (a:=a) hT ho ht he c1 hxt hni ok (by rw[ai];exact hv1) hv2 hv hHm hk0 hb0 (by rw[ai];exact hm) (by rw[ai];exact hxb)
 rw[aR8,ai,ai] at hr;exact⟨_,hr,rfl⟩
end
end Go.UK

open List renaming length→l9,length_append→ar,length_map→ai,length_take→bo,map_append→d9,map_drop→jy,map_take→f9,mem_map→cj,mem_of_mem_take→bw,take_append_drop→dn,toArray→ko
open Nat renaming beq→au,eq_of_beq_eq_true→ag,min_eq_left→db
open Go.Result renaming andThen→kt,andThen_ok→aj
open Go.Sem renaming run_bind→ap,run_pure→bl
namespace Go.UK
open Go
set_option linter.all false
variable [bS]
section
variable {P:Program} {T:TypeId→Option TI} {n:Fr}
def mkiE(T:TypeId->Option TI)(o:Oper)(need:Env):Option (Nat×AV):=
 match o.op with
 | .makeInterface t x=>match opd need none x,T t with
  | some v,some i=>match fP v,i.kind with
   | false,_=>none
   | _,.other=>none
   | _,_=>some (t,v)
  | _,_=>none
 | _=>none
theorem aEd(hT:TOK P T){t:Nat}{x:AV}{o:Oper}{need:Env}{H:List Box}(hd:dOK n.n o.dst=true)(h:mkiE T o need=some (t,x)):Big P n o need H (.ifc t x) H:=by
 unfold mkiE at h;split at h <;> try cases h
 rename_i t' p ho;split at h <;> try cases h
 rename_i v i hp ht;refine eK hd λa μ ok hH hE=>⟨μ,?_,hH⟩
 obtain⟨d,hd',hf⟩:=(hT _ _ ht).kind;have hv:=aV hE noG hp;split at h <;> try cases h
 rename_i hn2 hn1;have hnt:fP x=true:=by
  cases hh:fP x with
  | true=>rfl
  | false=>exact absurd hh hn1
 refine fO.here (y := .iface t (a.eval p)) ok ?_ ?_
 ·have hne:∀z,d ≠ .interface z:=by
   intro z e;subst e;cases hk:i.kind <;> rw[hk] at hf <;> simp[TK.fits] at hf;exact hn2 hk
  simp only[execOp,ho,Instr.makeInterface,ap,run_underlying hd',aj]
  cases d <;> first | (exact absurd rfl (hne _)) | simp
 ·show Rv0 _ _ _;simp only[Rv0,AV.isAgg,Rc,Bool.false_eq_true,if_false]
  refine⟨_,rfl,?_⟩
  have h4:Rv0 μ x (a.eval p):=by cases x <;> first | exact hv | simp[fP] at hnt
  exact h4
def ifnE(o:Oper)(need:Env)(op:BinOp):Option (TypeId×Nat×AV):=
 match o.op with
 | .binOp op' t x y _=>match decide (op'=op)&&aTh y,opd need none x with
  | true,some (.ifc u v)=>some (t,u,v)
  | _,_=>none
 | _=>none
theorem aRT{o:Oper}{need:Env}{op:BinOp}{t:TypeId}{u:Nat}{v:AV}(h:ifnE o need op=some (t,u,v)):∃x t',o.op = .binOp op t x (.const .nilIface) t'/\opd need none x=some (.ifc u v):=by
 unfold ifnE at h;split at h <;> try cases h
 rename_i op' t' x y t2 ho;split at h <;> cases h;rename_i hc hx;simp only[Bool.and_eq_true,decide_eq_true_eq] at hc;obtain⟨rfl,hc⟩:=hc;unfold aTh at hc;split at hc
 ·exact⟨x,t2,ho,hx⟩
 ·cases hc
theorem aNs{t u:TypeId}{y:Value}{d:TypeDesc}(w:World)(hd:P.underlying t=some d)(hk:aVA d=true):(Op.equal t (.iface u y) .nilIface).run P w = .ok false w:=by
 have:(Op.equalIn (9999+1) t (.iface u y) .nilIface).run P w = .ok false w:=by
  unfold Op.equalIn;rw[ap,run_underlying hd]
  cases d <;> first | (cases hk;done) | rfl
 exact this
theorem aSS{μ:Mem}{u:Nat}{v:AV}{y:Value}(h:Rv μ (.ifc u v) y):∃z,y = .iface u z/\vOf v (λzs=>Rc μ v zs) z:=by
 simpa[Rv,Rv0,AV.isAgg,Rc] using h
theorem aIL{o:Oper}{need:Env}{H:List Box}{t:TypeId}{u:Nat}{x:AV}{d:TypeDesc}(hdst:dOK n.n o.dst=true)(hd:P.underlying t=some d)(hk:aVA d=true)(op:BinOp)(b:Bool)(hb:(decide (op = .eql/\b=false)||decide (op = .neq/\b=true))=true)
  (h:ifnE o need op=some (t,u,x)):Big P n o need H (.v (.bool b)) H:=by
 obtain⟨q,t',ho,hx⟩:=aRT h;refine eK hdst λa μ ok hH hE=>?_;obtain⟨z,v1,_⟩:=aSS (aV hE noG hx)
 have v2:a.eval (.const .nilIface) = .nilIface:=rfl;refine⟨μ,fO.here (y := .bool b) ok ?_ (aBd rfl),hH⟩
 have he:=aNs (P:=P) (u:=u) (y:=z) μ.w hd hk;simp only[Bool.or_eq_true,decide_eq_true_eq] at hb;rcases hb with ⟨rfl,rfl⟩ | ⟨rfl,rfl⟩
 ·simp[execOp,ho,v1,v2,eqGuard,binOp,he,kt]
 ·simp[execOp,ho,v1,v2,eqGuard,binOp,he,kt]
def tasE(T:TypeId->Option TI)(o:Oper)(need:Env):Option (Nat×Nat×AV×AV):=
 match o.op with
 | .typeAssert x _ u ok=>match opd need none x,T u with
  | some (.ifc t v),some i=>match fP v,i.kind with
   | false,_=>none
   | _,.other=>none
   | _,_=>match au t u,ok with
    | true,true=>some (t,u,v,.tup [v,.v (.bool true)])
    | true,false=>some (t,u,v,v)
    | false,true=>some (t,u,v,.tup [i.zero,.v (.bool false)])
    | false,false=>none
  | _,_=>none
 | _=>none
theorem aPh(hT:TOK P T){t u:Nat}{x y:AV}{o:Oper}{need:Env}{H:List Box}(hd:dOK n.n o.dst=true)(h:tasE T o need=some (t,u,x,y)):Big P n o need H y H:=by
 unfold tasE at h;split at h <;> try cases h
 rename_i p xt u' ok ho;split at h <;> try cases h
 rename_i t' v i hp ht;split at h <;> try cases h
 rename_i hn1 hn2;have hnt:fP v=true:=by
  cases hh:fP v with
  | true=>rfl
  | false=>exact absurd hh hn1
 refine eK hd λa μ okμ hH hE=>⟨μ,?_,hH⟩
 obtain⟨d,hd',hf⟩:=(hT _ _ ht).kind;obtain⟨z,v1,hz⟩:=aSS (aV hE noG hp)
 have hz0:Rv0 μ v z:=hz;have hzv:Rv μ v z:=aLu hz0;have hne:∀q,d ≠ .interface q:=by
  intro q e;subst e;cases hk:i.kind <;> rw[hk] at hf <;> simp[TK.fits] at hf;exact hn2 hk
 obtain⟨zy,ys,q1,q2,q3,q4,q5⟩:=aAM hT ht μ.w;have key:∀(r:Value),(Instr.typeAssert (.iface t' z) xt u' ok).run P μ.w = .ok r μ.w->Rv μ y r->fO P o a μ y μ:=by
  intro r hr hv;refine fO.here okμ ?_ hv;simp only[execOp,ho,v1,ap,hr,aj,bl]
 have hu:(underlying u').run P μ.w = .ok d μ.w:=run_underlying hd' μ.w;split at h
 ·rename_i ht1;have ht1:=ag ht1;cases h;subst ht1;refine key (.tuple #[z,.bool true]) ?_ ⟨_,rfl,z,_,rfl,hz0,_,_,rfl,aVL rfl,rfl⟩
  simp only[Instr.typeAssert,ap,hu,aj]
  cases d <;> first | (exact absurd rfl (hne _)) | simp
 ·rename_i ht1;have ht1:=ag ht1;cases h;subst ht1;refine key z ?_ hzv;simp only[Instr.typeAssert,ap,hu,aj]
  cases d <;> first | (exact absurd rfl (hne _)) | simp
 ·rename_i ht1;have ht1:¬t'=u':=λe=>by rw[e] at ht1;simp at ht1
  cases h;refine key (.tuple #[zy,.bool false]) ?_ ⟨_,rfl,zy,_,rfl,q5 μ,_,_,rfl,aVL rfl,rfl⟩
  simp only[Instr.typeAssert,ap,hu,aj]
  cases d <;> first | (exact absurd rfl (hne _)) | simp[ht1,q1]
 ·cases h
def aST(d:Nat)(st:ASt):ASt:=
 match get st.env d with
 | some (.gro id k ln .all)=>⟨(d,some (none,.gro id k ln (.sub 0 ln))) :: st.env,st.H⟩
 | _=>st
theorem aTQ{st:ASt}{d:Nat}{ctx:Mem}{a:Act}{w:World}(h:Sat n ctx st a w):Sat n ctx (aST d st) a w:=by
 unfold aST;split
 ·rename_i id k ln hx;obtain⟨bs,hm⟩:=h;obtain⟨v,h1,h2⟩:=hm.env.get hx;refine⟨bs,{ h:=rfl,ok:=hm.ok,ext:=hm.ext,env := ?_,size:=hm.size,low:=hm.low,defers:=hm.defers,nod:=hm.nod,outs:=hm.outs }⟩
  intro i e hl;simp only[bZ] at hl;split at hl
  ·rename_i hi;have hi:=ag hi;subst hi;cases hl;refine⟨v,h1,?_⟩
   obtain⟨w1,ad,cap,g1,g2,g3⟩:=aDA h2;exact aBg ⟨w1,ad,cap,by rw[g1];simp[aCq],g2,g3⟩
  ·exact hm.env i e hl
 ·exact h
theorem At.gsub{im:Nat->Bool}{Q:Exit->ASt->Prop}{p:Pt}{π:Prop}(k d:Nat)(h:π->At P T im n Q (yU (Go.UK.adv T im [] n.n k p) (aST d (cJ (Go.UK.adv T im [] n.n k p)))))(e0:π):At P T im n Q p:=At.t k (λhx=>aTQ hx) h e0
def cpEk(T:TypeId->Option TI)(o:Oper)(need:Env)(H:List Box):Option (Nat×Nat×Nat×Nat×List AV×List AV):=
 match o.op with
 | .call { callee := .builtin .copy,args,argTypes }=>match args.toList,argTypes.toList with
  | [d,s],[dT,_]=>match opd need none d,opd need none s,T dT with
   | some (.bsl id [] 0 k 0 len),some v,some ⟨_,_,_,.sl e⟩=>match wH v,T e,H[id]? with
    | some (k',ss),some ei,some (.var (.arr N k2 es))=>match au k' k&&(au ei.size k&&au k2 k) with
     | true=>some (id,k,len,N,es,ss)
     | false=>none
    | _,_,_=>none
   | _,_,_=>none
  | _,_=>none
 | _=>none
theorem aTH(hT:TOK P T){α:Type}(f:α->AV){l s:List α}{id k len N:Nat}(hb:len<=l.length){o:Oper}{need:Env}{H H':List Box}(hd:dOK n.n o.dst=true)
  (h:cpEk T o need H=some (id,k,len,N,l.map f,s.map f)) (hH':H.set id (.var (.arr N k ((cpy l s 0 len).map f)))=H'):Big P n o need H (.v (.int .i64 ((min s.length len:Nat):Int))) H':=by
 subst hH';unfold cpEk at h;split at h <;> try cases h
 rename_i args tys ho;split at h <;> try cases h
 rename_i d sx dT sT hargs htys;split at h <;> try cases h
 rename_i id' k len' v sz b1 z e hdv hsv hdT;split at h <;> try cases h
 rename_i k' ss ei N' k2 es hes he hc;split at h <;> cases h;rename_i hk;simp only[Bool.and_eq_true] at hk;obtain⟨c2,c3,c4⟩:=hk;have c2:=(ag c2).symm;have c3:=ag c3;have c4:=(ag c4).symm;subst c2 c4;refine eK hd λa μ ok hH hE=>?_;obtain⟨H0,bs,w,F⟩:=μ;dsimp only at hH;subst hH;have hrd:=aV hE noG hdv;simp only[Rv,Rv0,AV.isAgg,Rc,Bool.false_eq_true,if_false] at hrd;obtain⟨b,c0,cap,h1,h2,h3,h4⟩:=hrd;simp only[List.cons.injEq,and_true] at h4;obtain⟨b',ys,U,g1,g2,g3⟩:=ok.box _ _ _ h1 hc;cases g1;simp only[Rc] at g3;obtain⟨m1,m2,m3⟩:=g3;obtain⟨ad,cap2,e1,e2,e3,e4⟩:=aIk (zW hes (aV hE noG hsv))
 rw[ai] at e1;obtain⟨dd,hdd,hf⟩:=(hT dT _ hdT).kind;simp only[TK.fits] at hf;subst hf;generalize hcn:min s.length len=c at *;have hcs:c<=s.length:=by omega
 have hcl:c<=l.length:=by omega
 have hsp:=m3;rw[<- dn c (l.map f)] at hsp;obtain⟨y1,y2,q1,q2,q3⟩:=PL.split (mH.1 hsp)
 have l1:y1.length=c*k:=by
  rw[RdL.length (μ:=⟨H0,bs,w,F⟩) (mH.2 q2),nV (λe he=>m2 e (bw he)),bo,ai,db hcl]
 -- the cells that come
 have hz:∃zs:List Value,RdL w (⟨H0,bs,w,F⟩:Mem).M ((s.take c).map f) zs/\zs.length=c*k /\
   (Builtin.firstCells k c (a.eval sx)).run P w = .ok zs.toArray w:=by
  rcases e4 with e4 | ⟨b2,off2,zs,e5,e6,e7⟩
  ·have hs0:s=[]:=List.map_eq_nil_iff.1 e4;subst hs0;have hc0:c=0:=by simpa using hcs
   subst hc0;refine⟨[],by simp[RdL],by simp,?_⟩
   rw[e1]
   cases ad with
   | none=>simp[Builtin.firstCells]
   | some q=>
    have:=run_loadCells_list (P:=P) w q [] (by simp)
    simpa[Builtin.firstCells] using this
  ·rw[<- dn c (s.map f)] at e6;obtain⟨z1,z2,r1,r2,r3⟩:=PL.split (mH.1 e6)
   have lz:z1.length=c*k:=by
    rw[RdL.length (μ:=⟨H0,bs,w,F⟩) (mH.2 r2),nV (λe he=>e3 e (bw he)),bo,ai,db hcs]
   refine⟨z1,by rw[f9];exact mH.2 r2,lz,?_⟩
   rw[e1,e5]
   have:=run_loadCells_list (P:=P) w ⟨b2,off2,none⟩ z1 (λj v hv=>by
    rw[oL]
    exact(e7 j v (by rw[r1,List.getElem?_append_left (aZ hv)];exact hv)).1)
   rw[lz] at this;simpa[Builtin.firstCells] using this
 obtain⟨zs,z1,z2,z3⟩:=hz;have hsz:0+0+zs.length<=ys.size:=by
  have:=congrArg l9 q1;rw[ar,l1] at this;simp at this;omega
 have hst:=kN (P:=P) (T:=U) (b:=b) zs 0 0 w ys g2 hsz (λv hv=>by
  have:=Rc.oneCell (μ:=⟨H0,bs,w,F⟩) (.arr zs.length k ((s.take c).map f)) zs (by
   simp only[Rc]
   exact⟨trivial,λe he=>e3 e (by obtain⟨q,hq,rfl⟩:=cj.1 he;exact cj.2 ⟨q,bw hq,rfl⟩),z1⟩)
  exact this v hv)
 have hcpy:cpy l s 0 len=s.take c++l.drop c:=by unfold cpy;rw[hcn];simp
 have hnew:Rc ⟨H0,bs,w,F⟩ (.arr N k ((cpy l s 0 len).map f)) (zs++y2):=by
  simp only[Rc]
  refine⟨?_,λe he=>?_,?_⟩
  ·have:=congrArg l9 q1;rw[ar,l1] at this;rw[ar,z2]
   omega
  ·rw[hcpy,d9] at he;rcases List.mem_append.1 he with he | he
   ·exact e3 e (by rw[f9] at he;exact bw he)
   ·exact m2 e (by rw[jy] at he;exact List.mem_of_mem_drop he)
  ·rw[hcpy,d9,jy]
   exact aIO z1 (mH.2 q3)
 refine⟨⟨H0.set _ (.var (.arr N k ((cpy l s 0 len).map f))),bs,bK w b (.cells (hK ys (0+0) zs) U (0,0)),F⟩,⟨.int .i64 ((c:Nat):Int),?_,aBd rfl,Ext.store h1 hc g2 ok,OK.store h1 hc g2 ok ?_⟩,rfl⟩
 ·have hA:args=#[d,sx]:=by have:=congrArg ko hargs;simpa using this
  have hB:tys=#[dT,sT]:=by have:=congrArg ko htys;simpa using this
  subst hA hB;have hsize:=lN (P:=P) hT he w;rw[c3] at hsize;have hlo:(Builtin.lenOf (a.eval sx)).run P w = .ok s.length w:=by rw[e1];rfl
  have h4':a.eval d = .slice (some ⟨b,0,none⟩) len cap:=by rw[h4];simp
  have hcp:(Builtin.copy_ #[dT,sT] o.type #[a.eval d,a.eval sx]).run P w = .ok (.int .i64 ((c:Nat):Int)) (bK w b (.cells (hK ys (0+0) zs) U (0,0))):=by
   rw[h4']
   have hcn':Nat.min s.length len=c:=hcn;simp only[Builtin.copy_,List.getElem?_toArray,List.getElem?_cons_zero,List.getElem?_cons_succ,ap,run_underlying hdd,aj,hlo,hsize,hcn',hcn,z3,hst,bl]
   rfl
  obtain⟨cs,hex⟩:=kF ho a.eval;rw[hex]
  rw[show Array.map a.eval #[d,sx]=#[a.eval d,a.eval sx] by simp]
  dsimp only;simp only[builtin,ap,hcp,aj,bl]
 ·rw[mI _ _ _ hsz,q1]
  have e2:List.drop (0+0+zs.length) (y1++y2)=y2:=List.drop_left' (by rw[l1,z2];omega)
  rw[e2]
  exact hnew
def cpD{α:Type}(l s:List α)(len:Nat):Option (List α):=cond (decide (len<=l.length)) (some (cpy l s 0 len)) none
theorem cpD_t{α:Type}{l s r:List α}{len:Nat}(h:cpD l s len=some r):len<=l.length/\r=cpy l s 0 len:=by
 unfold cpD at h;cases hc:decide (len<=l.length) with
 | true=>rw[hc] at h;cases h;exact⟨by simpa using hc,rfl⟩
 | false=>rw[hc] at h;cases h
theorem aRz(hT:TOK P T){α:Type}(f:α->AV){l s r:List α}{id k len N:Nat}(hx:cpD l s len=some r){o:Oper}{need:Env}{H H':List Box}(hd:dOK n.n o.dst=true)
  (h:cpEk T o need H=some (id,k,len,N,l.map f,s.map f)) (hH':H.set id (.var (.arr N k (r.map f)))=H'):Big P n o need H (.v (.int .i64 ((min s.length len:Nat):Int))) H':=by
 obtain⟨h1,rfl⟩:=cpD_t hx;exact aTH hT f h1 hd h hH'
def mm4E(o:Oper)(need:Env):Option (Builtin×IntKind×Int×Int×Int×Int):=
 match o.op with
 | .call { callee := .builtin b,args,.. }=>match args.toList with
  | [x,y,z,u]=>match opd need none x,opd need none y,opd need none z,opd need none u with
   | some (.v (.int k i)),some (.v (.int _ j)),some (.v (.int _ l)),some (.v (.int _ m))=>some (b,k,i,j,l,m)
   | _,_,_,_=>none
  | _=>none
 | _=>none
theorem aRK{o:Oper}{need:Env}{b:Builtin}{k:IntKind}{i j l m:Int}(h:mm4E o need=some (b,k,i,j,l,m)):∃x y z u tys k1 k2 k3,o.op = .call { callee := .builtin b,args:=#[x,y,z,u],argTypes:=tys }/\opd need none x=some (.v (.int k i))/\opd need none y=some (.v (.int k1 j))/\opd need none z=some (.v (.int k2 l))/\opd need none u=some (.v (.int k3 m)):=by
 unfold mm4E at h;split at h <;> try cases h
 rename_i b' args tys ho;split at h <;> try cases h
 rename_i x y z u ha;split at h <;> cases h;rename_i k1 k2 k3 hx hy hz hu;have:args=#[x,y,z,u]:=by cases args;simp at ha;rw[ha]
 subst this;exact⟨x,y,z,u,tys,_,_,_,ho,hx,hy,hz,hu⟩
theorem aTZ{o:Oper}{need:Env}{H:List Box}{k:IntKind}{i j l m:Int}(hd:dOK n.n o.dst=true)(h:mm4E o need=some (.max,k,i,j,l,m)):Big P n o need H (.v (.int k (jB (jB (jB i j) l) m))) H:=by
 obtain⟨x,y,z,u,tys,k1,k2,k3,ho,hx,hy,hz,hu⟩:=aRK h;refine eK hd λa μ ok hH hE=>⟨μ,?_,hH⟩
 obtain⟨cs,he⟩:=kF ho a.eval;have e1:=cC (aV hE noG hx)
 have e2:=cC (aV hE noG hy)
 have e3:=cC (aV hE noG hz)
 have e4:=cC (aV hE noG hu)
 refine fO.here (y := .int k (jB (jB (jB i j) l) m)) ok ?_ (aBd rfl)
 simp only[he,builtin,ap]
 simp[Builtin.max_,Builtin.max2,e1,e2,e3,e4,jB]
end
end Go.UK

namespace Go.UK
open Go Go.Proofs Go.Sort Go.RowKit
set_option linter.all false
variable [bS]
section
variable {P:Program} {ρ:Shelf.Ren}
end
end Go.UK

