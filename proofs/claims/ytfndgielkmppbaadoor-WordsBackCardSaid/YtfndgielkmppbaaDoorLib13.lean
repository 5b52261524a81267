/- The own layer: abstract values, their memory, and the steps of the model over them: for any program. -/
import Derived.Test.YtfndgielkmppbaaDoorLib12
namespace Go.UK
open Go
set_option linter.all false
variable [bA]
section
variable {P:Program} {T:TypeId→Option TI} {im:Nat→Bool} {n:Fr} {Q:Exit→ASt→Prop} {p:Pt}
theorem At.of(im:Nat->Bool)(hT:TOK P T)(hm:P.follows .mixedOrders=true){c:Code}{st:ASt}{π:Prop}(e:π)(h:π->At P T im n Q (.code c [] st)):aw P n c Q st:=h e hT hm
def aAd : Pt->Code
 | .code c _ _=>c
 | _ => .skip
theorem aAn{q:Pt}{g:Operand}{a:Array Tmp}{x y:Code}(h:aAd q = .rangeFunc g a x y):∃ks st,q = .code (.rangeFunc g a x y) ks st:=by
 unfold aAd at h;split at h
 ·subst h;exact⟨_,_,rfl⟩
 ·cases h
theorem At.rg{π:Prop}(k:Nat){s:aCQ}{env:Env}{Hc Hc':List Box}{args:List AV}{ret:AV}{f:FuncId}(I:ItM P f s env Hc args ret Hc' none)(hf:fH P f)(g:Operand)(σ0:List Nat)(t:ASt)(caps:List AV)
  (h:π->At P T im n Q (Go.UK.lJ (xO (Go.UK.adv T im [] n.n k p)) t))
  (hcode:(aAd (Go.UK.adv T im [] n.n k p),rngE g (fE (Go.UK.adv T im [] n.n k p)),n.ro,n.rg,n.n)=(.rangeFunc g s.ps.toArray s.assign s.body,some (f,caps),none,true,s.n):=by kernel_rfl)
  (hB:(λr:Loop=>rngB (cN (Go.UK.adv T im [] n.n k p)) σ0 Hc Hc' args env r)=(λ_=>true):=by kernel_rfl)
  (hE:(λr:Loop=>(wkL (.yld (cN (Go.UK.adv T im [] n.n k p)).length :: caps) (renL (rn (σ0++[(cN (Go.UK.adv T im [] n.n k p)).length]) ((cN (Go.UK.adv T im [] n.n k p)).length+1)) args),iH (cN (Go.UK.adv T im [] n.n k p)++[Box.loop r]) (σ0++[(cN (Go.UK.adv T im [] n.n k p)).length]),uP (fE (Go.UK.adv T im [] n.n k p)) (swE (rn (σ0++[(cN (Go.UK.adv T im [] n.n k p)).length]) ((cN (Go.UK.adv T im [] n.n k p)).length+1)) env)))
   = (λr=>(renL (rn (σ0++[(cN (Go.UK.adv T im [] n.n k p)).length]) ((cN (Go.UK.adv T im [] n.n k p)).length+1)) args,(Hc++[Box.loop r]).map (cY (rn (σ0++[(cN (Go.UK.adv T im [] n.n k p)).length]) ((cN (Go.UK.adv T im [] n.n k p)).length+1))),swE (rn (σ0++[(cN (Go.UK.adv T im [] n.n k p)).length]) ((cN (Go.UK.adv T im [] n.n k p)).length+1)) env)):=by kernel_rfl)
  (hj:(λr:Loop=>(cOK n ⟨fE (Go.UK.adv T im [] n.n k p),eH (cN (Go.UK.adv T im [] n.n k p)) σ0 (Hc'.map (cY (rn (σ0++[(cN (Go.UK.adv T im [] n.n k p)).length]) ((cN (Go.UK.adv T im [] n.n k p)).length+1))))++[.loop r]⟩ t,cSt ⟨fE (Go.UK.adv T im [] n.n k p),eH (cN (Go.UK.adv T im [] n.n k p)) σ0 (Hc'.map (cY (rn (σ0++[(cN (Go.UK.adv T im [] n.n k p)).length]) ((cN (Go.UK.adv T im [] n.n k p)).length+1))))++[.loop r]⟩ t))=(λ_=>(true,t)):=by kernel_rfl) (e0:π):At P T im n Q p:=by
 have h:=h e0;refine At.adv (gl:=[]) k ?_;generalize Go.UK.adv T im [] n.n k p=q at *;simp only[Prod.mk.injEq] at hcode;obtain⟨h1,h2,h3,h4,h5⟩:=hcode;obtain⟨ks,st,rfl⟩:=aAn h1;intro hT hm;exact aEC I hf rfl h3 h4 h5 h2 (λr=>congrFun hB r) (λr=>congrFun hE r) (λr=>Go.UK.jr (congrFun hj r)) (At.popN hT hm h)
end
end Go.UK

namespace Go.UK
open Go
set_option linter.all false
variable [bA]
def nS(P:Program)(f:FuncId):Bool:=match P.funcs[f]? with | some fn=>(!(fn.name == "runtime.NumGoroutine") && !fn.body.isNone)&&bA.ms.all (aCc P) | none=>false
theorem fB{P:Program}{f:FuncId}(h:nS P f=true):fH P f:=by
 unfold nS at h;split at h
 ·rename_i fn hf;simp only[Bool.and_eq_true,Bool.not_eq_true'] at h;exact⟨⟨fn,hf,h.1.1,h.1.2⟩,λq hq=>zZ (List.all_eq_true.1 h.2 q hq)⟩
 ·cases h
def upB(bs:List (Nat×Box))(new H:List Box):List Box:=(bs.foldl (λH p=>H.set p.1 p.2) H)++new
def upS(s:ASt)(ks:List Nat)(es:List (Nat×AV))(m:Nat)(bs:List (Nat×Box))(new:List Box):ASt:=
 ⟨es.map (λp=>(p.1,some (none,p.2)))++ks.map (λi=>(i,bI s.env i)),upB bs new (rF m s.H)⟩
section
variable {P:Program} {T:TypeId→Option TI} {im:Nat→Bool} {n:Fr} {Q:Exit→ASt→Prop} {p:Pt}
theorem aZ(σ:List Nat){f:FuncId}{Hc Hc':List Box}{args:List AV}{ret:AV}(C:FnM P f Hc args ret Hc'){o:Oper}{need:Env}{H:List Box}(hf:nS P f=true:=by kernel_rfl)
  (hB:xP n o H σ Hc args=true:=by kernel_rfl) (hE:zE o need H σ Hc args=(some (f,renL (rn σ H.length) args),Hc.map (cY (rn σ H.length))):=by kernel_rfl) :
  Big P n o need H (ren (rn σ H.length) ret) (bU H σ Hc'):=eK σ C (fB hf) hB hE
theorem wX{f:FuncId}{args:List AV}{ret x:AV}(C:FnM P f [] args ret []){o:Oper}{need:Env}{H:List Box}(hf:nS P f=true:=by kernel_rfl)
  (hB:xP n o H [] [] args=true:=by kernel_rfl) (hE:zE o need H [] [] args=(some (f,renL (rn [] H.length) args),([]:List Box).map (cY (rn [] H.length))):=by kernel_rfl) (hx:ren (rn [] H.length) ret=x:=by kernel_rfl) :
  Big P n o need H x H:=nU C (fB hf) hB hE hx
theorem At.f(im:Nat->Bool)(hT:TOK P T)(hmo:P.follows .mixedOrders=true){f:FuncId}{fn:Func}{c:Code}{args:List AV}{ret:AV}{H H':List Box}(hf:P.funcs[f]? = some fn)(hb:fn.body=some c)
  {π:Prop} (e:π) (h:π->At P T im (Fr.f fn.ntmps H.length) (tB T H.length fn.results.toList ret H') (.code c [] ⟨pJ 0 args,H⟩)) (hk:Nat.ble args.length fn.ntmps=true:=by kernel_rfl):FnM P f H args ret H':=
 vP hT hf hb (by simp[hk]) (by simp) (h e hT hmo)
theorem At.J{α ρ:Type}{X:Option α}{F:α->Option ρ}{r:ρ}(k d:Nat)(ks:List Nat)(m:Nat)(t:α->List (Nat×AV)×List (Nat×Box)×List Box)(h:∀x,X=some x->At P T im n (tn (Go.UK.JR n (upS (bS (Go.UK.adv T im [] n.n k p)) ks (t x).1 m (t x).2.1 (t x).2.2)) (kQ P n Q (eY d (Go.UK.adv T im [] n.n k p)))) (sH d (Go.UK.adv T im [] n.n k p)))
  (hy:∀x,F x=some r->At P T im n Q (Go.UK.lJ (eY d (Go.UK.adv T im [] n.n k p)) (upS (bS (Go.UK.adv T im [] n.n k p)) ks (t x).1 m (t x).2.1 (t x).2.2))) (e:Option.bind X F=some r):At P T im n Q p:=At.j k d _ h hy e
theorem At.JS{α β ρ:Type}{X:Option (Sum α β)}{F:α->Option ρ}{G:β->Option ρ}{r:ρ}(k d:Nat)(ks:List Nat)(m:Nat)(t:α->List (Nat×AV)×List (Nat×Box)×List Box)(h:∀o,lM o F G=some r->X=some o->At P T im n (tn (Go.UK.JS n (λx=>upS (bS (Go.UK.adv T im [] n.n k p)) ks (t x).1 m (t x).2.1 (t x).2.2) o) (kQ P n Q (eY d (Go.UK.adv T im [] n.n k p)))) (sH d (Go.UK.adv T im [] n.n k p)))
  (hy:∀x,F x=some r->At P T im n Q (Go.UK.lJ (eY d (Go.UK.adv T im [] n.n k p)) (upS (bS (Go.UK.adv T im [] n.n k p)) ks (t x).1 m (t x).2.1 (t x).2.2))) (e:Option.bind X (λo=>lM o F G)=some r):At P T im n Q p:=At.js k d _ h hy e
abbrev InvJ:=List Nat->Nat->List (Nat×AV)->List (Nat×Box)->List Box->Prop
theorem At.L{α ρ:Type}{X:Option α}{F:α->Option ρ}{r:ρ}(k:Nat)(ks:List Nat)(m:Nat)(t:α->List (Nat×AV)×List (Nat×Box)×List Box)(I:α->InvJ->Nat->Prop)(N:Nat)(h0:∀x,X=some x->I x (λks m es bs new=>JR n (upS (bS (Go.UK.adv T im [] n.n k p)) ks es m bs new) (bS (Go.UK.adv T im [] n.n k p))) N)
  (h:∀x j s,I x (λks m es bs new=>JR n (upS (bS (Go.UK.adv T im [] n.n k p)) ks es m bs new) s) j->At P T im n (tn (λs'=>∃i,i < j/\I x (λks m es bs new=>JR n (upS (bS (Go.UK.adv T im [] n.n k p)) ks es m bs new) s') i) (inB (idPt (Go.UK.adv T im [] n.n k p)) (tn (Go.UK.JR n (upS (bS (Go.UK.adv T im [] n.n k p)) ks (t x).1 m (t x).2.1 (t x).2.2)) (kQ P n Q (eY 1 (Go.UK.adv T im [] n.n k p)))))) (.code (aA0 (Go.UK.adv T im [] n.n k p)) [] s))
  (hy:∀x,F x=some r->At P T im n Q (Go.UK.lJ (eY 1 (Go.UK.adv T im [] n.n k p)) (upS (bS (Go.UK.adv T im [] n.n k p)) ks (t x).1 m (t x).2.1 (t x).2.2))) (hi:aCx (Go.UK.adv T im [] n.n k p)=true:=by kernel_rfl) (e:Option.bind X F=some r):At P T im n Q p:=by
 obtain⟨x,e1,e2⟩:=rD e;exact At.adv (gl:=[]) k λhT hm=>lp0 (λi s=>I x (λks m es bs new=>JR n (upS (bS (Go.UK.adv T im [] n.n k p)) ks es m bs new) s) i) N hi (h0 x e1) (aCv (At.popN hT hm (hy x e2))) (h x) hT hm
theorem At.LS{α β ρ:Type}{X:Option (Sum α β)}{F:α->Option ρ}{G:β->Option ρ}{r:ρ}(k:Nat)(ks:List Nat)(m:Nat)(t:α->List (Nat×AV)×List (Nat×Box)×List Box)(I:Sum α β->InvJ->Nat->Prop)(N:Nat)(h0:∀o,X=some o->I o (λks m es bs new=>JR n (upS (bS (Go.UK.adv T im [] n.n k p)) ks es m bs new) (bS (Go.UK.adv T im [] n.n k p))) N)
  (h:∀o,lM o F G=some r->∀j s,I o (λks m es bs new=>JR n (upS (bS (Go.UK.adv T im [] n.n k p)) ks es m bs new) s) j->At P T im n (tn (λs'=>∃i,i < j/\I o (λks m es bs new=>JR n (upS (bS (Go.UK.adv T im [] n.n k p)) ks es m bs new) s') i) (inB (idPt (Go.UK.adv T im [] n.n k p)) (tn (Go.UK.JS n (λx=>upS (bS (Go.UK.adv T im [] n.n k p)) ks (t x).1 m (t x).2.1 (t x).2.2) o) (kQ P n Q (eY 1 (Go.UK.adv T im [] n.n k p)))))) (.code (aA0 (Go.UK.adv T im [] n.n k p)) [] s))
  (hy:∀x,F x=some r->At P T im n Q (Go.UK.lJ (eY 1 (Go.UK.adv T im [] n.n k p)) (upS (bS (Go.UK.adv T im [] n.n k p)) ks (t x).1 m (t x).2.1 (t x).2.2))) (hi:aCx (Go.UK.adv T im [] n.n k p)=true:=by kernel_rfl) (e:Option.bind X (λo=>lM o F G)=some r):At P T im n Q p:=by
 obtain⟨o,e1,g⟩:=rD e;exact At.adv (gl:=[]) k λhT hm=>lp0 (λi s=>I o (λks m es bs new=>JR n (upS (bS (Go.UK.adv T im [] n.n k p)) ks es m bs new) s) i) N hi (h0 o e1) (aFh g (λx hx=>At.popN hT hm (hy x hx))) (h o g) hT hm
section
variable {l:List Oper} {C:List (List Nat)} {ms:List MI} {B:Env} {H0:List Box} {cs:CS}
theorem dF(i:Nat)(x:AV)(bs:List (Nat×Box))(new:List Box){r:O2}(b:Big P n (fN l i) (cF C ms B i) (uM i H0 cs) x (upB bs new (uM i H0 cs)))(h:or2 P n l C ms cs B H0 r):or2 P n l C ms cs B H0 ((i,λH=>(x,upB bs new H)) :: r):=⟨b,h⟩
end
end
theorem aAN{α1 β:Type}{v r:β}{o1:Sum α1 β}{F1:α1->Option β}{p:β->Prop}(g1:lM o1 F1 (λr=>some r)=some r)(e:some (Sum.inr v)=some o1)(h:p v):p r:=by cases e;cases g1;exact h
end Go.UK

namespace Go.UK
open Go
set_option linter.all false
variable [bA]
section
variable {P:Program} {T:TypeId→Option TI} {n:Fr}
end
end Go.UK

namespace Go.UK
open Go
set_option linter.all false
variable [bA]
section
variable {P:Program} {T:TypeId→Option TI} {n:Fr}
def ifnE(o:Oper)(need:Env)(op:BinOp):Option (TypeId×Nat×AV):=
 match o.op with
 | .binOp op' t x y _=>match decide (op'=op)&&vX y,opd need none x with
  | true,some (.ifc u v)=>some (t,u,v)
  | _,_=>none
 | _=>none
theorem aB9{o:Oper}{need:Env}{op:BinOp}{t:TypeId}{u:Nat}{v:AV}(h:ifnE o need op=some (t,u,v)):∃x t',o.op = .binOp op t x (.const .nilIface) t'/\opd need none x=some (.ifc u v):=by
 unfold ifnE at h;split at h <;> try cases h
 rename_i op' t' x y t2 ho;split at h <;> cases h;rename_i hc hx;simp only[Bool.and_eq_true,decide_eq_true_eq] at hc;obtain⟨rfl,hc⟩:=hc;unfold vX at hc;split at hc
 ·exact⟨x,t2,ho,hx⟩
 ·cases hc
theorem zR{t u:TypeId}{y:Value}{d:TypeDesc}(w:World)(hd:P.underlying t=some d)(hk:yY d=true):(Op.equal t (.iface u y) .nilIface).run P w = .ok false w:=by
 have:(Op.equalIn (9999+1) t (.iface u y) .nilIface).run P w = .ok false w:=by
  unfold Op.equalIn;rw[Sem.run_bind,run_underlying hd]
  cases d <;> first | (cases hk;done) | rfl
 exact this
theorem aGA{μ:Mem}{u:Nat}{v:AV}{y:Value}(h:Rv μ (.ifc u v) y):∃z,y = .iface u z/\vOf v (λzs=>Rc μ v zs) z:=by
 simpa[Rv,Rv0,AV.isAgg,Rc] using h
theorem aEs{o:Oper}{need:Env}{H:List Box}{t:TypeId}{u:Nat}{x:AV}{d:TypeDesc}(hdst:dOK n.n o.dst=true)(hd:P.underlying t=some d)(hk:yY d=true)(op:BinOp)(b:Bool)(hb:(decide (op = .eql/\b=false)||decide (op = .neq/\b=true))=true)
  (h:ifnE o need op=some (t,u,x)):Big P n o need H (.v (.bool b)) H:=by
 obtain⟨q,t',ho,hx⟩:=aB9 h;refine eQ hdst λa μ ok hH hE=>?_;obtain⟨z,v1,_⟩:=aGA (aY hE noG hx)
 have v2:a.eval (.const .nilIface) = .nilIface:=rfl;refine⟨μ,cX.here (y := .bool b) ok ?_ (lN rfl),hH⟩
 have he:=zR (P:=P) (u:=u) (y:=z) μ.w hd hk;simp only[Bool.or_eq_true,decide_eq_true_eq] at hb;rcases hb with ⟨rfl,rfl⟩ | ⟨rfl,rfl⟩
 ·simp[execOp,ho,v1,v2,eqGuard,binOp,he,Result.andThen]
 ·simp[execOp,ho,v1,v2,eqGuard,binOp,he,Result.andThen]
end
end Go.UK

namespace Go.UK
open Go Go.Proofs Go.Sort Go.RowKit
set_option linter.all false
variable [bA]
def nJ(s:ByteArray):Option Int:=cond (decide (s.size<=281474976710656)) (match Lib.parseIntB 64 s.data.toList with
 | .ok _=>none
 | .range=>some (Lib.intSat 64 s.data.toList)
 | _=>some 0) none
def synE : Lib.NumEnd Int:=Lib.parseIntB 64 []
def kL(s:ByteArray):Option (Sum Int Int):=match lC s with
 | some v=>some (.inl v)
 | none=>(nJ s).map .inr
theorem aDY{s:ByteArray}{v:Int}(h:kL s=some (.inl v)):lC s=some v:=by
 unfold kL at h;cases hp:lC s with
 | some u=>rw[hp] at h;simpa using h
 | none=>rw[hp] at h;cases he:nJ s <;> rw[he] at h <;> simp at h
theorem aC7{s:ByteArray}{v:Int}(h:kL s=some (.inr v)):nJ s=some v:=by
 unfold kL at h;cases hp:lC s with
 | some u=>rw[hp] at h;simp at h
 | none=>rw[hp] at h;cases he:nJ s <;> rw[he] at h <;> simp at h;rw[h]
def qC : ByteArray:=⟨#[80,97,114,115,101,73,110,116]⟩
theorem aDT{s:ByteArray}{v:Int}(h:nJ s=some v):s.size<=281474976710656/\((Lib.parseIntB 64 s.data.toList=synE/\v=0)\/(Lib.parseIntB 64 s.data.toList = .range/\v=Lib.intSat 64 s.data.toList)):=by
 unfold nJ at h;cases hc:decide (s.size<=281474976710656) with
 | false=>rw[hc] at h;cases h
 | true=>
  rw[hc,cond_true] at h;refine⟨of_decide_eq_true hc,?_⟩
  rcases hp:Lib.parseIntB 64 s.data.toList with v' | _ | _
  ·rw[hp] at h;cases h
  ·first | (rw[hp] at h;exact .inl ⟨rfl,by simpa using h.symm⟩) | (rw[hp] at h;exact .inr ⟨rfl,by simpa using h.symm⟩)
  ·first | (rw[hp] at h;exact .inr ⟨rfl,by simpa using h.symm⟩) | (rw[hp] at h;exact .inl ⟨rfl,by simpa using h.symm⟩)
theorem zG{w w':World}(h:Below w.heap.size w w'):bV w w':=⟨h.size,h.block,h.os,h.tape,h.output⟩
section
variable {P:Program} {ρ:Shelf.Ren}
theorem aCI(L:LaysC.n174 P ρ){f t:Nat}(hf:ρ.f 174=f)(ht:ρ.t 168=t){g15 g16:Nat}(h15:ρ.g 15=g15)(h16:ρ.g 16=g16)(m15:(g15,[])∈bA.l)(m16:(g16,[])∈bA.l){s:ByteArray}{v:Int}(h:nJ s=some v) :
  FnM P f [] [eS s,.v (.int .i64 10),.v (.int .i64 64)] (.tup [.v (.int .i64 v),.ifc t (.im (.v (.string qC)))]) []:=by
 subst hf ht h15 h16;obtain⟨h0,h1⟩:=aDT h;rintro w G bs vs ok ⟨y0,r0,rfl,g0,y1,r1,rfl,g1,y2,r2,rfl,g2,rfl⟩
 have e0:=bH (iE g0)
 have e1:=bH (iE g1)
 have e2:=bH (iE g2)
 subst e0 e1 e2;obtain⟨⟨_,T15,fr15,c15,t15,p15,rfl⟩,_⟩:=ok.glob _ m15;obtain⟨⟨_,T16,fr16,c16,t16,p16,rfl⟩,_⟩:=ok.glob _ m16;dsimp only at c15 c16;have fin:∀(x:Int) (w':World) (N:Nat) (ev:Value),w.heap.size<=N->w'.heap[N]? = some (.cells #[.string ⟨#[80,97,114,115,101,73,110,116]⟩,.string s,ev] (ρ.t 210) (0,0))->Below w.heap.size w w' ->
   ∃ys bs',ys = .tuple #[.int .i64 x,.iface (ρ.t 168) (.pointer (some ⟨N,0,none⟩))]/\Ext ⟨[],bs,w,G⟩ ⟨[],bs',w',G⟩/\Mem.OK ⟨[],bs',w',G⟩/\Rv ⟨[],bs',w',G⟩ (.tup [.v (.int .i64 x),.ifc (ρ.t 168) (.im (.v (.string qC)))]) ys:=by
  intro x w' N ev hN hc hb;have later:=zG hb;refine⟨_,bs,rfl,Ext.later later,OK.later later ok,⟨_,rfl,_,_,rfl,sU rfl,_,_,rfl,?_,rfl⟩⟩
  show Rv0 _ (.ifc _ _) _;simp only[Rv0,AV.isAgg,Rc,Bool.false_eq_true,if_false,vOf]
  refine⟨_,rfl,N,0,[.string qC],rfl,⟨rfl,rfl⟩,?_⟩
  intro j y hj;obtain rfl:j=0:=by
   rcases j with _ | j
   ·rfl
   ·simp at hj
  refine⟨?_,?_⟩
  ·simp only[Nat.zero_add,World.cell?,hc]
   unfold qC at hj;simpa using hj
  ·rintro(hF | hO)
   ·have:=ok.foreign _ _ hF;dsimp only at this;omega
   ·have:=aDe ok (show(⟨_,bs,w,G⟩:Mem).own N (0+0) from hO)
    dsimp only at this;omega
 rcases h1 with ⟨hp,rfl⟩ | ⟨hp,rfl⟩
 ·refine Calls.mono (Any.strconv_ParseInt_10_at64_syntax L s h0 hp (.iface t15 p15) w (by simp[World.cell?,c15]) (.inr ⟨_,_,rfl⟩)) ?_;rintro e w' ⟨N,rfl,hN,hc,hb⟩
  obtain⟨ys,bs',rfl,h⟩:=fin _ w' N (.iface t15 p15) hN hc hb;exact⟨_,bs',rfl,h⟩
 ·refine Calls.mono (Any.strconv_ParseInt_10_at64_range L s h0 hp (.iface t16 p16) w (by simp[World.cell?,c16]) (.inr ⟨_,_,rfl⟩)) ?_;rintro e w' ⟨N,rfl,hN,hc,hb⟩
  obtain⟨ys,bs',rfl,h⟩:=fin _ w' N (.iface t16 p16) hN hc hb;exact⟨_,bs',rfl,h⟩
end
end Go.UK

