/- The own layer: abstract values, their memory, and the steps of the model over them: for any program. -/
import Derived.Test.YtbfieohdmihfpaaGreatDoorLib3
import Derived.Laws.Externs
open BitVec renaming ofInt→bz
open Bool renaming and_eq_true→b9,false_eq_true→au
open List renaming append_assoc→an,getElem?_append_left→bx,getElem?_append_right→cf,getElem?_map→ci,length_append→ai
open Nat renaming add_assoc→jl,beq→bp,eq_of_beq_eq_true→ak
namespace Go.UK
open Go
set_option linter.all false
variable [bL]
def eI(k:IntKind)(x:Int):AV := .v (.int k x)
def eB(b:Bool):AV := .v (.bool b)
def eS(s:ByteArray):AV := .v (.string s)
def eL{α:Type}(k:Nat)(f:α->AV)(l:List α):AV := .sl k l.length (l.map f)
def eA{α:Type}{m:Nat}(n k:Nat)(f:α->AV)(v:Vector α m):AV := .arr n k (v.toList.map f)
def eO{α:Type}(id k:Nat)(f:α->AV)(l:List α):AV := .own id k l.length (l.map f)
abbrev I64(x:Int):Int:=IntKind.wrap .i64 x
abbrev U64(x:Int):Int:=IntKind.wrap .u64 x
abbrev U32(x:Int):Int:=IntKind.wrap .u32 x
abbrev U8(x:Int):Int:=IntKind.wrap .u8 x
def cF(k:IntKind)(a b:Int):Int:=k.wrap (bz k.bits a &&& bz k.bits b).toNat
def bor(k:IntKind)(a b:Int):Int:=k.wrap (bz k.bits a ||| bz k.bits b).toNat
def fG(k:IntKind)(a b:Int):Int:=k.wrap (bz k.bits a ^^^ bz k.bits b).toNat
def aGl(k:IntKind)(a b:Int):Int:=k.wrap (bz k.bits a &&& ~~~ (bz k.bits b)).toNat
def bnot(k:IntKind)(a:Int):Int:=k.wrap (bz k.bits (if k.signed then -1 else k.max) ^^^ bz k.bits a).toNat
def shl(k:IntKind)(a b:Int):Int:=k.wrap (a*2 ^ (min b.toNat k.bits))
def shr(k:IntKind)(a b:Int):Int:=a.fdiv (2 ^ (min b.toNat k.bits))
def lH(a b:Int):Int:=if b < a then b else a
def tA(a b:Int):Int:=if b > a then b else a
def aF1(k:IntKind)(a b:Int):Option Int:=cond (decide (b < 0)) none (some (shl k a b))
def wY(k:IntKind)(a b:Int):Option Int:=cond (decide (b < 0)) none (some (shr k a b))
def idx{α:Type}(l:List α)(i:Int):Option α:=cond (decide (0<=i)) l[i.toNat]? none
theorem aIv{α:Type}{l:List α}{i:Int}{x:α}(h:idx l i=some x):0<=i:=by
 unfold idx at h;by_cases h0:0<=i
 ·exact h0
 ·simp[h0] at h
theorem aKI{α:Type}{l:List α}{i:Int}{x:α}(h:idx l i=some x):l[i.toNat]? = some x:=by
 have h0:=aIv h;unfold idx at h;simpa[h0] using h
theorem aQU{α:Type}{l:List α}{i:Int}{x:α}(f:α->AV)(h:idx l i=some x):(l.map f)[i.toNat]? = some (f x):=by
 rw[ci,aKI h];rfl
theorem aRZ{α:Type}{l:List α}{i:Int}{x:α}(h:idx l i=some x):i < (l.length:Int):=by
 have h1:=aKI h;have h2:=aX h1;have:=aIv h;omega
def aN{α β:Type}(x:α)(f:α->β):β:=f x
def mW{α β γ:Type}(s:Sum α β)(f:α->γ)(g:β->γ):γ:=match s with | .inl a=>f a | .inr b=>g b
section
variable {P:Program} {T:TypeId→Option TI} {n:Fr}
def aO5(need:Env)(o:Oper):Option (BinOp×IntKind×Int×IntKind×Int):=
 match o.op with
 | .binOp op _ x y _=>match opd need none x,opd need none y with
  | some (.v (.int k a)),some (.v (.int k' b))=>some (op,k,a,k',b)
  | _,_=>none
 | _=>none
theorem aLL(hT:TOK P T){o:Oper}{need:Env}{H:List Box}{op:BinOp}{k k':IntKind}{a b z:Int}(hd:dOK n.n o.dst=true)(h:aO5 need o=some (op,k,a,k',b))
  (hz:(match aGL op with | true=>aCB op k a b | false=>match decide (k=k') with | true=>aM8 op k a b | false=>none)=some (.int k z)):Big P n o need H (.v (.int k z)) H:=by
 unfold aO5 at h;split at h <;> try cases h
 rename_i op' t x y t' ho;split at h <;> cases h;rename_i hx hy;refine cY hd λac μ ok hH hE=>⟨μ,?_,hH⟩
 exact aKU hT ho ok (aR hE noG hx) (aR hE noG hy) hz
theorem aN4{α:Type}{c:Bool}{x r:α}(h:cond c none (some x)=some r):c=false/\x=r:=by cases c with | true=>cases h | false=>exact⟨rfl,Option.some.inj h⟩
theorem aSF(hT:TOK P T){o:Oper}{need:Env}{H:List Box}{k k':IntKind}{a b z:Int}(hz:aF1 k a b=some z)(hd:dOK n.n o.dst=true)(h:aO5 need o=some (.shl,k,a,k',b)):Big P n o need H (eI k z) H:=by
 obtain⟨h1,rfl⟩:=aN4 hz;exact aLL hT hd h (by simp[aGL,aCB,h1,shl])
theorem aTM(hT:TOK P T){o:Oper}{need:Env}{H:List Box}{k k':IntKind}{a b z:Int}(hz:wY k a b=some z)(hd:dOK n.n o.dst=true)(h:aO5 need o=some (.shr,k,a,k',b)):Big P n o need H (eI k z) H:=by
 obtain⟨h1,rfl⟩:=aN4 hz;exact aLL hT hd h (by simp[aGL,aCB,h1,shr])
def rE : AV->Option (Nat×List AV)
 | .sl k _ es=>some (k,es)
 | .own _ k _ es=>some (k,es)
 | _=>none
theorem aCi{μ:Mem}{k ln:Nat}{es:List AV}{y:Value}(h:Rv μ (.sl k ln es) y):∃a cap,y = .slice a es.length cap/\es.length<=cap/\(∀e∈es,e.n=k) /\
   (es=[]\/∃b off zs,a=some ⟨b,off,none⟩/\RdL μ.w μ.M es zs/\μ.at b off zs):=by
 simp only[Rv,Rv0,AV.isAgg,Rc,au,if_false,List.cons.injEq,and_true] at h;exact h.2
theorem sB{μ:Mem}{v:AV}{k:Nat}{es:List AV}{y:Value}(h:rE v=some (k,es))(hr:Rv μ v y):Rv μ (.sl k es.length es) y:=by
 cases v <;> simp only[rE] at h <;> try cases h
 ·simp only[Rv,Rv0,AV.isAgg,Rc,au,if_false] at hr ⊢;exact⟨trivial,hr.2⟩
 ·simp only[Rv,Rv0,AV.isAgg,Rc,au,if_false] at hr ⊢;obtain⟨_,a,cap,h1,h2,h3,h4,_⟩:=hr;exact⟨trivial,a,cap,h1,h2,h3,h4⟩
theorem aSJ{w:World}{M:Nat->Nat->Prop}{es:List AV}{zs:List Value}{b off i k:Nat}{x:AV}(hk:∀e∈es,e.n=k)(h:RdL w M es zs)(hat:atD w M b off zs)(hx:es[i]? = some x) :
  ∃y2,Rd w M x y2/\atD w M b (off+i*k) y2:=by
 obtain⟨y1,y2,y3,g1,g2,g3,g4⟩:=h.pick hx;have l1:y1.length=xD (es.take i):=by
  have:RdL (⟨[],[],w,M⟩:Mem).w (⟨[],[],w,M⟩:Mem).M (es.take i) y1:=by
   refine RdL.mono (λb o y h1 h2=>⟨h1,λh3=>h2 ?_⟩) _ _ g2;rcases h3 with h3 | ⟨id,h3,_⟩
   ·exact h3
   ·simp at h3
  exact this.length
 rw[tL (k:=k) (λe he=>hk e (List.mem_of_mem_take he)),List.length_take,Nat.min_eq_left (Nat.le_of_lt (aX hx))] at l1;refine⟨y2,g3,λq v hv=>?_⟩
 have:=hat (y1.length+q) v (by rw[g1,an,cf (by omega),Nat.add_sub_cancel_left,bx (aX hv)];exact hv)
 rw[<- l1,jl]
 exact this
theorem yU(hT:TOK P T){t e:TypeId}{n b1:Nat}{z:AV}(hs:T t=some ⟨n,b1,z,.sl e⟩){ei:TI}(he:T e=some ei){k:IntKind}{i:Int}{len cap b o:Nat}(h0:0<=i)(h1:i < len)
  (w:World):(Instr.indexAt t (.slice (some ⟨b,o,none⟩) len cap) (.int k i)).run P w = .ok (.pointer (some ⟨b,o+i.toNat*ei.size,none⟩)) w:=by
 obtain⟨d,hd,hk⟩:=(hT t _ hs).kind;simp only[TK.fits] at hk;subst hk;simp[Instr.indexAt,asIntOf,run_underlying hd,h0,h1,lU hT he,pV]
def idxE(T:TypeId->Option TI)(o:Oper)(need:Env):Option (List AV×Int):=
 match o.op with
 | .indexAddr t p ix=>match opd need none p,opd need none ix,T t with
  | some v,some (.v (.int _ i)),some ⟨_,_,_,.sl e⟩=>match rE v,T e with
   | some (k,es),some ei=>match bp ei.size k with | true=>some (es,i) | false=>none
   | _,_=>none
  | _,_,_=>none
 | _=>none
theorem aOG(hT:TOK P T){α:Type}(f:α->AV){l:List α}{i:Int}{e:α}(hx:idx l i=some e){o:Oper}{need:Env}{H:List Box}(hd:dOK n.n o.dst=true:=by kernel_rfl)(h:idxE T o need=some (l.map f,i):=by kernel_rfl) :
  Big P n o need H (.im (f e)) H:=by
 unfold idxE at h;split at h <;> try cases h
 rename_i t p ix ho;have h0:=aIv hx;have hxe:=aQU f hx;split at h <;> try cases h
 rename_i v k i' sz b1 z e' hp hi ht;split at h <;> try cases h
 rename_i k' es ei hv he;split at h <;> cases h;rename_i hk;have hk:=ak hk;refine cY hd λa μ ok hH hE=>⟨μ,?_,hH⟩
 have h1:=sB hv (aR hE noG hp)
 have h2:=bH (aR hE noG hi)
 obtain⟨ad,cap,g1,g2,g3,g4⟩:=aCi h1;have hlt:=aX hxe;rcases g4 with g4 | ⟨b,off,zs,g5,g6,g7⟩
 ·rw[g4] at hlt;simp at hlt
 ·obtain⟨y2,k1,k2⟩:=aSJ g3 g6 g7 hxe;refine eQ.here (y := .pointer (some ⟨b,off+i.toNat*k',none⟩)) ok ?_ ?_
  ·subst g5 hk;have hrun:=yU (P:=P) (cap:=cap) (b:=b) (o:=off) (k:=k) hT ht he h0 (show i < ((l.map f).length:Int) by omega) μ.w;simp only[execOp,ho,g1,h2,Sem.run_bind,hrun,Result.andThen_ok,Sem.run_pure]
  ·show Rv0 _ _ _;simp only[Rv0,AV.isAgg,Rc,au,if_false]
   exact⟨b,_,y2,rfl,k1,k2⟩
def aO(i:Int)(len:Nat):Option Unit:=cond (inR i len) (some ()) none
theorem aMe{i:Int}{len:Nat}{u:Unit}(h:aO i len=some u):0<=i/\i < (len:Int):=by
 unfold aO at h;cases hc:inR i len with
 | true=>simpa[inR] using hc
 | false=>rw[hc] at h;cases h
def aLg(T:TypeId->Option TI)(o:Oper)(need:Env):Option (AV×Int×Nat×Nat):=
 match o.op with
 | .indexAddr t p ix=>match opd need none p,opd need none ix,T t with
  | some q,some (.v (.int _ i)),some ⟨_,_,_,.arr len e⟩=>match T e with | some ei=>some (q,i,len,ei.size) | none=>none
  | _,_,_=>none
 | _=>none
def adrS(T:TypeId->Option TI)(o:Oper)(need:Env):Option (AV×Int×Nat):=
 match o.op with
 | .indexAddr t p ix=>match opd need none p,opd need none ix,T t with
  | some q,some (.v (.int _ i)),some ⟨_,_,_,.sl e⟩=>match T e with | some ei=>some (q,i,ei.size) | none=>none
  | _,_,_=>none
 | _=>none
theorem aTJ(hT:TOK P T){α:Type}(f:α->AV){m N k:Nat}(v:Vector α m){i:Int}{e:α}(hx:idx v.toList i=some e){o:Oper}{need:Env}{H:List Box}(hd:dOK n.n o.dst=true:=by kernel_rfl)(h:aLg T o need=some (.im (.arr N k (v.toList.map f)),i,m,k):=by kernel_rfl) :
  Big P n o need H (.im (f e)) H:=by
 have h0:=aIv hx;have h1:=aRZ hx;have hxe:=aQU f hx;simp only[Vector.length_toList] at h1;unfold aLg at h;split at h <;> try cases h
 rename_i t p ix ho;split at h <;> try cases h
 rename_i q kk i' sz b1 z len e' hp hi ht;split at h <;> cases h;rename_i ei he;refine cY hd λa μ ok hH hE=>⟨μ,?_,hH⟩
 refine aAB hT ho ok (aR hE noG hp) (aR hE noG hi) h0 (by simp only[aEz,ht];exact h1) ?_;simp only[wH,ht,he,Nat.beq_refl,hxe]
theorem aTb(hT:TOK P T)(id:Nat)(path:List Nat)(of:Nat){m k:Nat}{i:Int}{u:Unit}(hx:aO i m=some u){o:Oper}{need:Env}{H:List Box}(hd:dOK n.n o.dst=true:=by kernel_rfl)(h:aLg T o need=some (.ref id path of,i,m,k):=by kernel_rfl) :
  Big P n o need H (.ref id (path++[i.toNat]) (of+i.toNat*k)) H:=by
 obtain⟨h0,h1⟩:=aMe hx;unfold aLg at h;split at h <;> try cases h
 rename_i t p ix ho;split at h <;> try cases h
 rename_i q kk i' sz b1 z len e' hp hi ht;split at h <;> cases h;rename_i ei he;refine cY hd λa μ ok hH hE=>⟨μ,?_,hH⟩
 refine aAB hT ho ok (aR hE noG hp) (aR hE noG hi) h0 (by simp only[aEz,ht];exact h1) ?_;simp only[wH,ht,he]
def aR3(lo j:Nat):Nat:=match lo with | 0=>j | lo+1=>lo+1+j
theorem aTX(lo j:Nat):aR3 lo j=lo+j:=by cases lo <;> simp[aR3]
theorem aJn(hT:TOK P T)(id:Nat)(path:List Nat)(of lo len:Nat){k:Nat}{i:Int}{u:Unit}(hx:aO i len=some u){o:Oper}{need:Env}{H:List Box}(hd:dOK n.n o.dst=true)(h:adrS T o need=some (.bsl id path of k lo len,i,k)) :
  Big P n o need H (.ref id (path++[aR3 lo i.toNat]) (of+aR3 lo i.toNat*k)) H:=by
 obtain⟨h0,h1⟩:=aMe hx;unfold adrS at h;split at h <;> try cases h
 rename_i t p ix ho;split at h <;> try cases h
 rename_i q kk i' sz b1 z e' hp hi ht;split at h <;> cases h;rename_i ei he;refine cY hd λa μ ok hH hE=>⟨μ,?_,hH⟩
 have hv:=aR hE noG hp;simp only[Rv,Rv0,AV.isAgg,Rc,au,if_false,List.cons.injEq,and_true] at hv;obtain⟨b,c,cap,g1,g2,g3,g4⟩:=hv;have h2:=bH (aR hE noG hi)
 refine eQ.here (y := .pointer (some ⟨b,of+aR3 lo i.toNat*ei.size,none⟩)) ok ?_ ?_
 ·simp[execOp,ho,g4,h2,yU hT ht he h0 h1,aTX,Nat.add_mul,jl]
 ·show Rv0 _ _ _;simp only[Rv0,AV.isAgg,Rc,au,if_false]
  exact⟨b,c,g1,g2,rfl⟩
def aEi(o:Oper)(need:Env):Nat:=
 match o.op with
 | .load _ p=>match opd need none p with | some (.ref _ _ off)=>off | _=>0
 | .store _ p _=>match opd need none p with | some (.ref _ _ off)=>off | _=>0
 | _=>0
def ldE(T:TypeId->Option TI)(o:Oper)(need:Env)(H:List Box)(m:Nat)(ge:AV):Option (List AV×Nat×Nat×AV):=
 match o.op with
 | .load t p=>match opd need none p,T t with
  | some (.ref id path _),some ti=>match H[id]? with
   | some (.var c)=>match loc c 0 (path.take m),path.drop m with
    | some (.arr _ k es,o1),j :: p2=>match loc ge (o1+j*k) p2 with
     | some (x,off')=>match bp x.n ti.size&&(x.isAgg==ti.kind.agg) with
      | true=>some (es,j,off',x)
      | false=>none
     | none=>none
    | _,_=>none
   | _=>none
  | _,_=>none
 | _=>none
def ldX(T:TypeId->Option TI)(o:Oper)(need:Env)(H:List Box)(m:Nat)(ge:AV):AV:=match ldE T o need H m ge with | some (_,_,_,x)=>x | none=>default
theorem aNg(hT:TOK P T){α:Type}(g:α->AV)(m:Nat){l:List α}{j:Nat}{e:α}(hx:l[j]? = some e){o:Oper}{need:Env}{H:List Box}(hd:dOK n.n o.dst=true:=by kernel_rfl)
  (h:ldE T o need H m (g e)=some (l.map g,j,aEi o need,ldX T o need H m (g e)):=by kernel_rfl):Big P n o need H (ldX T o need H m (g e)) H:=by
 generalize ldX T o need H m (g e)=X at *;have hge:(l.map g)[j]? = some (g e):=by rw[ci,hx];rfl
 unfold ldE at h;split at h <;> try cases h
 rename_i t p ho;split at h <;> try cases h
 rename_i id path off ti hp ht;split at h <;> try cases h
 rename_i c hc;split at h <;> try cases h
 rename_i N k es o1 j' p2 hl1 hl2;split at h <;> try cases h
 rename_i x off' hl3;split at h <;> try cases h
 rename_i hb;simp only[b9,beq_iff_eq] at hb;have hoff:aEi o need=off:=by unfold aEi;rw[ho];simp only;rw[hp]
 refine cY hd λa μ ok hH hE=>⟨μ,?_,hH⟩
 subst hH;obtain⟨b,c',h1,h2,h3⟩:=aBW (aR hE noG hp)
 rw[hc] at h2;cases h2;obtain⟨b',ys,U,g1,g2,g3⟩:=ok.box id _ _ h1 hc;cases g1;obtain⟨pre,mid,post,k1,k2,k3,_⟩:=rR _ c 0 _ _ ys.toList hl1 g3;have hl4:loc (.arr N k (l.map g)) o1 (j :: p2)=some (X,aEi o need):=by simp only[loc,hge];exact hl3
 obtain⟨pre2,mid2,post2,q1,q2,q3,_⟩:=rR _ _ _ _ _ mid hl4 k3;have hz:∀(q:Nat) v,mid2[q]? = some v->μ.w.cell? ⟨b,off+q,none⟩=some v:=by
  intro q v hv;have hq:=aX hv;simp only[World.cell?,g2]
  have:ys[off+q]? = some v:=by
   rw[<- Array.getElem?_toList,k1,q1,<- hoff,<- q2,<- k2]
   have e:pre++(pre2++mid2++post2)++post=(pre++pre2)++(mid2++(post2++post)):=by simp[an]
   rw[e,cf (by simp <;> omega),bx (by simp <;> omega)]
   rw[show 0+pre.length+pre2.length+q - (pre++pre2).length=q by simp <;> omega]
   exact hv
  simpa using this
 obtain⟨y,h4,h5⟩:=zO hT ht q3 hb.2 (ak hb.1) hz;refine eQ.here ok ?_ h5;simp[execOp,ho,Instr.loadAt,h3,Instr.sureAddr,h4]
def stE(T:TypeId->Option TI)(o:Oper)(need:Env)(H:List Box)(m:Nat)(ge:AV):Option (List AV×Nat×Nat×AV):=
 match o.op with
 | .store t p v=>match opd need none p,opd need none v,T t with
  | some (.ref id path _),some x,some ti=>match H[id]? with
   | some (.var c)=>match loc c 0 (path.take m),path.drop m with
    | some (.arr _ k es,o1),j :: p2=>match loc ge (o1+j*k) p2 with
     | some (x0,off')=>match bp x.n ti.size&&(fK x&&bp x0.n x.n) with
      | true=>match aAP ge p2 (wk x x0) with
       | some ge1=>match data ge1 with
        | true=>some (es,j,off',ge1)
        | false=>none
       | none=>none
      | false=>none
     | none=>none
    | _,_=>none
   | _=>none
  | _,_,_=>none
 | _=>none
def stH(o:Oper)(need:Env)(H:List Box)(m:Nat)(es:List AV):Option (List Box):=
 match o.op with
 | .store _ p _=>match opd need none p with
  | some (.ref id path _)=>match H[id]? with
   | some (.var c)=>match loc c 0 (path.take m) with
    | some (.arr N k _,_)=>match aAP c (path.take m) (.arr N k es) with
     | some c'=>some (H.set id (.var c'))
     | none=>none
    | _=>none
   | _=>none
  | _=>none
 | _=>none
def stH'(o:Oper)(need:Env)(H:List Box)(m:Nat)(es:List AV):List Box:=match stH o need H m es with | some H'=>H' | none=>H
theorem aGP(hT:TOK P T){α:Type}(g:α->AV)(m:Nat){l:List α}{j:Nat}{e:α}(hx:l[j]? = some e)(e':α){o:Oper}{need:Env}{H:List Box}(hd:aBR o.dst=true)
  (h:stE T o need H m (g e)=some (l.map g,j,aEi o need,g e')) (hs:aJp (stH o need H m ((l.set j e').map g))=true):Big P n o need H (.v (.bool false)) (stH' o need H m ((l.set j e').map g)):=by
 have hge:(l.map g)[j]? = some (g e):=by rw[ci,hx];rfl
 unfold stH';have hdst:o.dst=none:=by cases hq:o.dst with | none=>rfl | some _=>rw[hq] at hd;cases hd
 unfold stE at h;split at h <;> try cases h
 rename_i t p v ho;split at h <;> try cases h
 rename_i id path off x ti hp hv ht;split at h <;> try cases h
 rename_i c hc;split at h <;> try cases h
 rename_i N k es o1 j' p2 hl1 hl2;split at h <;> try cases h
 rename_i x0 off' hl3;split at h <;> try cases h
 rename_i hb;split at h <;> try cases h
 rename_i ge1 hset;split at h <;> try cases h
 rename_i hdat;simp only[b9] at hb;have hoff:aEi o need=off:=by unfold aEi;rw[ho];simp only;rw[hp]
 have hes:(l.set j e').map g=(l.map g).set j (g e'):=by rw[List.map_set]
 cases hst:stH o need H m ((l.set j e').map g) with
 | none=>rw[hst] at hs;cases hs
 | some H'=>
 simp only;unfold stH at hst;rw[ho] at hst;simp only[hp,hc,hl1] at hst;split at hst <;> cases hst;rename_i c' hc';intro env hsub;refine vV λctx a w hsat=>?_;obtain⟨bs,hm⟩:=hsat;have hE:=zL hsub hm.env;have hok:=hm.ok;dsimp only at hE hok;obtain⟨b,c1,h1,h2,h3⟩:=aBW (aR hE noG hp)
 simp only at h1 h2;rw[hc] at h2;cases h2;obtain⟨b',ys,U,g1,g2,g3⟩:=hok.box id _ _ h1 hc;cases g1;obtain⟨pre,mid,post,k1,k2,k3,k4⟩:=rR _ c 0 _ _ ys.toList hl1 g3;have hl4:loc (.arr N k (l.map g)) o1 (j :: p2)=some (x0,aEi o need):=by simp only[loc,hge];exact hl3
 obtain⟨pre2,mid2,post2,q1,q2,q3,q4⟩:=rR _ _ _ _ _ mid hl4 k3;have hvc:=(aR hE noG hv).cells (mX hb.2.1)
 have hwk:=aFR x x0 _ hvc;have hn0:(wk x x0).n=x0.n:=by rw[(aQR x x0).1];exact(ak hb.2.2).symm
 have hset2:aAP (.arr N k (l.map g)) (j :: p2) (wk x x0)=some (.arr N k ((l.map g).set j (g e'))):=by
  simp only[aAP,hge,hset,hdat]
 obtain⟨r1,r2⟩:=q4 _ _ _ hset2 hn0 hwk;rw[<- hes] at r1 r2;obtain⟨r3,r4⟩:=k4 _ _ _ hc' r2 r1;have l1:=Rc.length _ _ q3;have l2:=Rc.length _ _ hvc;have hnn:=ak hb.2.2;have l3:ys.size=pre.length+(pre2.length+mid2.length+post2.length)+post.length:=by
  have:=congrArg List.length k1;rw[q1] at this;simp at this;omega
 have hsz:off+0+(a.eval v).cells.toList.length<=ys.size:=by omega
 have hrun:=nU (P:=P) (T:=U) (b:=b) (a.eval v).cells.toList off 0 w ys g2 hsz (Rc.oneCell _ _ hvc)
 have hsv:=aAs (P:=P) hT ht (v:=a.eval v) (ad:=⟨b,off,none⟩) (by have:=ak hb.1;simp at l2;omega) hrun;refine⟨aZ w b (.cells (jM ys (off+0) (a.eval v).cells.toList) U (0,0)),?_,bs,?_⟩
 ·simp[execOp,ho,Instr.storeAt,h3,Instr.sureAddr,hsv]
 ·rw[hdst]
  show aDh n ctx ⟨env,H.set id (.var c')⟩ (a.put none undef) _;refine hm.putn (μ':=⟨H.set id (.var c'),bs,aZ w b (.cells (jM ys (off+0) (a.eval v).cells.toList) U (0,0)),ctx.F⟩) (Ext.store h1 hc g2 hok) (OK.store h1 hc g2 hok ?_)
  rw[oN _ _ _ hsz,k1,q1]
  have e1:List.take (off+0) (pre++(pre2++mid2++post2)++post)=pre++pre2:=by
   rw[show pre++(pre2++mid2++post2)++post=(pre++pre2)++(mid2++(post2++post)) by simp[an]]
   exact List.take_left' (by rw[ai];omega)
  have e2:List.drop (off+0+(a.eval v).cells.toList.length) (pre++(pre2++mid2++post2)++post)=post2++post:=by
   rw[show pre++(pre2++mid2++post2)++post=(pre++pre2++mid2)++(post2++post) by simp[an]]
   exact List.drop_left' (by rw[ai,ai];omega)
  rw[e1,e2]
  have e3:pre++pre2++(a.eval v).cells.toList++(post2++post)=pre++(pre2++(a.eval v).cells.toList++post2)++post:=by simp[an]
  rw[e3]
  exact r3
end
end Go.UK

namespace Go.UK
open Go
set_option linter.all false
variable [bL]
abbrev j64(x:Int):AV:=eI .i64 x
abbrev k64(x:Int):AV:=eI .u64 x
abbrev k32(x:Int):AV:=eI .u32 x
abbrev k8(x:Int):AV:=eI .u8 x
abbrev en(i:Nat)(x:AV):Nat×Option EV:=(i,some (none,x))
def imL(l:List Nat)(d:Nat):Bool:=l.any (Nat.beq d)
def dK : Nat->Bool:=λ_=>false
theorem boolH{α:Type}{b:Bool}{px py:Option α}{r:α}{p:Prop}(h:cond b px py=some r)(h1:b=true->px=some r->p)(h2:b=false->py=some r->p):p:=by
 cases b with
 | true=>exact h1 rfl h
 | false=>exact h2 rfl h
section
variable {P:Program} {T:TypeId→Option TI} {n:Fr}
def JR(n:Fr)(t s:ASt):Prop:=∀(ctx:Mem) (a:Act) (w:World),Sat n ctx s a w->Sat n ctx t a w
theorem jr{t s:ASt}(h:(cOK n s t,cSt s t)=(true,t):=by kernel_rfl):JR n t s:=λctx a w hs=>by
 simp only[Prod.mk.injEq] at h;exact sat_c h.1 h.2 hs
theorem aQI{t s:ASt}(h:JR n t s){ctx:Mem}{a:Act}{w:World}(hs:Sat n ctx s a w):Sat n ctx t a w:=h ctx a w hs
theorem aw_jr{c:Code}{Q:Exit->ASt->Prop}{t s:ASt}(h:JR n t s)(hk:aw P n c Q t):aw P n c Q s:=λctx a w hs=>hk ctx a w (h ctx a w hs)
theorem aSe(hT:TOK P T){α:Type}(g:α->AV)(m:Nat){N:Nat}(v:Vector α N){j:Nat}{e:α}(hx:v.toList[j]? = some e)(e':α){o:Oper}{need:Env}{H:List Box}(hd:aBR o.dst=true)
  (h:stE T o need H m (g e)=some (v.toList.map g,j,aEi o need,g e')) {H':List Box} (hs:stH o need H m ((v.setIfInBounds j e').toList.map g)=some H':=by kernel_rfl):Big P n o need H (.v (.bool false)) H':=by
 have e1:(v.setIfInBounds j e').toList=v.toList.set j e':=by simp
 rw[e1] at hs;have:=aGP (n:=n) hT g m hx e' (H:=H) hd h (by rw[hs];rfl)
 unfold stH' at this;rw[hs] at this;exact this
def aIl(P:Program)(f:FuncId)(xs:List Value)(y:Value):Prop:=∀w,(callFunc f xs.toArray).run P w = .ok (.value y) w
def natE(o:Oper)(need:Env):Option (FuncId×List AV):=
 match o.op with
 | .call { callee := .value (.func f),args,.. }=>match aJL (opd need none) args.toList with
  | some avs=>some (f,avs)
  | none=>none
 | _=>none
theorem aTy{μ:Mem}:∀{xs vs:List Value},RvL μ (xs.map AV.v) vs->vs=xs
 | [],vs,h=>h
 | x :: xs,vs,h=>by
  obtain⟨y,r,e,h1,h2⟩:=h;rw[e,aTy h2,bH (μ:=μ) (x:=x) (y:=y) h1]
theorem aTN{f:FuncId}{xs:List Value}{y:Value}{ret:AV}(h:aIl P f xs y)(hr:∀μ,Rv μ ret y){o:Oper}{need:Env}{H:List Box}(hd:dOK n.n o.dst=true:=by kernel_rfl)(hE:natE o need=some (f,xs.map AV.v):=by kernel_rfl):Big P n o need H ret H:=by
 unfold natE at hE;split at hE <;> try cases hE
 rename_i f' args tys ho;split at hE <;> cases hE;rename_i hargs;refine cY hd λa μ ok hH hEnv=>⟨μ,?_,hH⟩
 have hv:=aTy (yD (λy v hv=>aR hEnv noG hv) _ _ hargs)
 refine eQ.here (y:=y) ok ?_ (hr μ)
 have h1:=h μ.w;rw[<- hv] at h1;have e:(args.toList.map a.eval).toArray=args.map a.eval:=by rw[<- Array.toList_inj];simp
 rw[e] at h1;have h2:execOp a.eval o=callFunc f (args.map a.eval):=by
  simp[execOp,ho,resolve,Deferred.ofValue,Act.eval,invoke]
 rw[h2]
 exact h1
end
end Go.UK

open Bool renaming and_eq_true→b9
open List renaming append_nil→dp,eq_nil_of_length_eq_zero→dx,flatten_cons→ip,getElem?_eq_none→ar,getElem?_map→ci,replicate→aj,replicate_succ→j5
open Nat renaming beq→bp,eq_of_beq_eq_true→ak
open Go.Result renaming andThen_ok→am
open Go.Sem renaming run_bind→bf,run_pure→ck
namespace Go.UK
open Go
set_option linter.all false
variable [bL]
section
variable {P:Program} {T:TypeId→Option TI} {n:Fr}
def aFC : Env->Env
 | []=>[]
 | (k,e) :: r=>(k,match e with | some (some _,_)=>none | e=>e) :: aFC r
def dB0(_:List Oper)(st:ASt):ASt:=⟨aFC st.env,st.H⟩
theorem aHA : ∀{env:Env} {i:Nat} {e:EV},bY (aFC env) i=some e->bY env i=some e
 | [],i,e,h=>by simp[aFC,bY] at h
 | (k,e0) :: r,i,e,h=>by
  unfold aFC at h;unfold bY at h ⊢;cases hb:bp k i with
  | false=>rw[hb] at h;exact aHA h
  | true=>
   rw[hb] at h;dsimp only at h ⊢;split at h
   ·cases h
   ·exact h
theorem aTR{l:List Oper}{st:ASt}{ctx:Mem}{a:Act}{w:World}(hs:Sat n ctx st a w):Sat n ctx (dB0 l st) a w:=aJD (λ_ _=>aHA) hs
end
theorem aB1{k:Nat}{zs:List Value}(hk:zs.length=k):∀(len:Nat),(List.range (len*k)).map (λi=>zs.toArray[i % zs.toArray.size]!)=(aj len zs).flatten
 | 0=>by simp
 | len+1=>by
  rcases Nat.eq_zero_or_pos k with h0 | h0
  ·subst h0;have:zs=[]:=dx hk;subst this;simp
  ·rw[Nat.add_mul,Nat.one_mul,List.range_add,List.map_append,aB1 hk len,List.replicate_succ',List.flatten_append,List.map_map]
   congr 1;simp only[ip,List.flatten_nil,dp]
   apply List.ext_getElem?;intro i;rw[ci]
   rcases Nat.lt_or_ge i k with hi | hi
   ·rw[List.getElem?_range hi]
    have:(len*k+i) % k=i:=by rw[Nat.mul_comm,Nat.mul_add_mod];exact Nat.mod_eq_of_lt hi
    simp[hk,this,hi]
   ·rw[ar (by simp;omega),ar (by omega)];rfl
theorem aGI{w:World}{M:Nat->Nat->Prop}{z:AV}{zs:List Value}(h:Rd w M z zs):∀(len:Nat),RdL w M (aj len z) (aj len zs).flatten
 | 0=>by simp[RdL]
 | len+1=>by
  rw[j5,j5,ip]
  simp only[RdL]
  exact⟨zs,_,rfl,h,aGI h len⟩
theorem oB(len:Nat)(zs:List Value):(aj len zs).flatten.length=len*zs.length:=by simp
section
variable {P:Program} {T:TypeId→Option TI} {n:Fr} {μ:Mem} {a:Act}
theorem aSj{w:World}{H:List Box}{bs:List (Option Nat)}{F:Nat->Nat->Prop}(ok:(⟨H,bs,w,F⟩:Mem).OK){es:List AV}{k:Nat}{ys:List Value}(hk:∀e∈es,e.n=k)(hd:dataL es=true)(hc:RcL ⟨H,bs,w,F⟩ es ys)(T:TypeId)(cap:Nat)(hcap:es.length<=cap)(more:List Value) :
  Rv ⟨H,bs,w.alloc (.cells (ys++more).toArray T),F⟩ (.sl k es.length es) (.slice (some ⟨w.heap.size,0,none⟩) es.length cap):=by
 have ext:Ext ⟨H,bs,w,F⟩ ⟨H,bs,w.alloc (.cells (ys++more).toArray T),F⟩:=Ext.later (cL.alloc _ _ _)
 show Rv0 _ _ _;simp only[Rv0,AV.isAgg,Rc,Bool.false_eq_true,if_false]
 refine⟨trivial,some ⟨w.heap.size,0,none⟩,cap,rfl,hcap,hk,.inr ⟨w.heap.size,0,ys,rfl,RcL.rd _ _ hd (RcL.ext ext _ _ hc),?_⟩⟩
 intro j y hy;refine⟨?_,?_⟩
 ·simp only[World.cell?,eV]
  have:=aX hy;simp[List.getElem?_append_left this]
  simpa using hy
 ·rintro(hf | ⟨id,h1,h2⟩)
  ·exact Nat.lt_irrefl _ (ok.foreign _ _ hf)
  ·have:w.heap.size < w.heap.size:=by
    rcases h2 with ⟨c,h2,hw⟩ | ⟨m,h2,_⟩
    ·exact bU ok (b:=w.heap.size) h1 h2 (Box.whole_live hw)
    ·exact bU ok (b:=w.heap.size) h1 h2 (by simp)
   omega
def aHY : AV->Option (List AV)
 | .arr _ _ es=>some es
 | _=>none
def allN(k:Nat):List AV->Bool
 | []=>true
 | e :: r=>bp e.n k&&allN k r
theorem aEw{k:Nat}:∀{es:List AV},allN k es=true->∀e∈es,e.n=k
 | [],_,e,he=>by cases he
 | x :: r,h,e,he=>by
  simp only[allN,b9] at h;rcases List.mem_cons.1 he with h' | h'
  ·subst h';exact ak h.1
  ·exact aEw h.2 e h'
def aI0(T:TypeId->Option TI)(t:TypeId)(len:Nat)(l:List (Nat×AV)):Option (Nat×List AV):=
 match T t with
 | some { kind := .sl e,.. }=>match T e with
  | some ie=>match Nat.ble (len*ie.size) 16777216 with
   | true=>match aBn (λi=>some (i*ie.size,ie.size)) (.arr (len*ie.size) ie.size (aj len ie.zero)) l with
    | some x=>match aHY x with
     | some es=>match bp es.length len&&(allN ie.size es&&dataL es) with
      | true=>some (ie.size,es)
      | false=>none
     | none=>none
    | none=>none
   | false=>none
  | none=>none
 | _=>none
theorem aFy(hT:TOK P T){o:Oper}{t:TypeId}{len k:Nat}{parts:Array (Nat×Operand)}{l:List (Nat×AV)}{es:List AV}(ho:o.op = .buildSlice t len parts)(ok:μ.OK)
  (hf:l.map Prod.fst=parts.toList.map Prod.fst) (hl:∀(i:Nat) q p,l[i]? = some q->parts.toList[i]? = some p->Rv μ q.2 (a.eval p.2)/\fK q.2=true) (h:aI0 T t len l=some (k,es)) :
  ∃w',eQ P o a μ (.sl k len es) ⟨μ.H,μ.bs,w',μ.F⟩:=by
 have hvs:l.map Prod.fst=((parts.map λ(i,x)=>(i,a.eval x)).toList).map Prod.fst:=by rw[hf];simp
 have hv:∀(i:Nat) (q:Nat×AV) (v:Nat×Value),l[i]? = some q->(parts.map λ(i,x)=>(i,a.eval x)).toList[i]? = some v->Rc μ q.2 v.2.cells.toList:=by
  intro i q v hq hv;rw[Array.toList_map,ci] at hv;cases hp:parts.toList[i]? with
  | none=>rw[hp] at hv;cases hv
  | some p=>
   rw[hp] at hv;simp only[Option.map_some,Option.some.injEq] at hv;subst hv;obtain⟨h1,h2⟩:=hl i q p hq hp;exact h1.cells (mX h2)
 unfold aI0 at h;split at h <;> try cases h
 rename_i sz b1 z e ht;split at h <;> try cases h
 rename_i ie he;split at h <;> try cases h
 rename_i hle;split at h <;> try cases h
 rename_i x hx;split at h <;> try cases h
 rename_i es' hes;split at h <;> cases h;rename_i hb;simp only[b9] at hb;obtain⟨d,hd,hk⟩:=(hT t _ ht).kind;simp only[TK.fits] at hk;subst hk;obtain⟨zv,zs,g1,g2,g3,g4,g5⟩:=uL hT he μ.w;have hz:Rc μ ie.zero zs:=aBs _ _ g2;have hrow:Rc μ (.arr (len*ie.size) ie.size (aj len ie.zero)) (aj len zs).flatten:=by
  simp only[Rc]
  refine⟨by rw[oB,g4],?_,aGI (aEh _ _ g2) len⟩
  intro e' he';rw[List.eq_of_mem_replicate he',<- Rc.length _ _ hz,g4]
 obtain⟨ys',k1,k2,k3,k4⟩:=zI l _ _ x (aj len zs).flatten.toArray hvs hv hx (by simpa using hrow)
 cases x <;> simp only[aHY] at hes <;> try cases hes
 rename_i m k';simp only[Rc] at k2;obtain⟨H,bs,w,F⟩:=μ;have hrow':=aSj ok (aEw hb.2.1) hb.2.2 (RdL.rc _ _ k2.2.2) e es.length (Nat.le_refl _) []
 simp only[dp] at hrow';have hlen0:=ak hb.1;refine⟨w.alloc (.cells ys' e),.slice (some ⟨w.heap.size,0,none⟩) es.length es.length,?_,by rw[<- hlen0];simpa using hrow',Ext.later (cL.alloc _ _ _),OK.later (cL.alloc _ _ _) ok⟩
 have hlen:=ak hb.1;have hble:¬len*ie.size > 2 ^ 24:=by have:=Nat.le_of_ble_eq_true hle;omega
 have hpm:(parts.map λ(i,x)=>(i,a.eval x))=(parts.map λx=>(x.fst,a.eval x.snd)):=rfl;simp only[execOp,ho,Instr.buildSlice,bf,run_underlying hd,am,lU hT he,Sem.run_ite,if_neg hble]
 by_cases h0:len*ie.size=0
 ·have hfl:(aj len zs).flatten=[]:=dx (by rw[oB,g4];exact h0)
  rw[hfl] at k1;rw[if_pos h0,h0]
  simp only[ck,am]
  rw[show(Array.map (λx:Nat=>(#[]:Array Value)[x % (#[]:Array Value).size]!) (Array.range 0))=[].toArray from by simp]
  rw[hpm] at k1;simp only[k1,newRow,bf,run_newObj,am,ck,World.alloc_eq,hlen]
 ·have hinit:(Array.range (len*ie.size)).map (λi=>zs.toArray[i % zs.toArray.size]!)=(aj len zs).flatten.toArray:=by
   rw[<- Array.toList_inj,Array.toList_map,Array.toList_range]
   exact aB1 g4 len
  rw[if_neg h0]
  simp only[g1,am,g3,ck]
  rw[hinit]
  rw[hpm] at k1;simp only[k1,newRow,bf,run_newObj,am,ck,World.alloc_eq,hlen]
def aR2(T:TypeId->Option TI)(o:Oper)(need:Env):Option AV:=
 match o.op with
 | .buildSlice t len parts=>match aL2 (opd need none) parts.toList with
  | some l=>match aI0 T t len l with
   | some (k,es)=>some (.sl k len es)
   | none=>none
  | none=>none
 | _=>none
def rowX(T:TypeId->Option TI)(o:Oper)(need:Env):AV:=match aR2 T o need with | some x=>x | none=>default
theorem aSy(hT:TOK P T){n:Fr}{o:Oper}{need:Env}{H:List Box}{x:AV}(hd:dOK n.n o.dst=true:=by kernel_rfl)(h:aR2 T o need=some x:=by kernel_rfl):Big P n o need H x H:=by
 unfold aR2 at h;split at h <;> try cases h
 rename_i t len parts ho;split at h <;> try cases h
 rename_i l hl;split at h <;> cases h;rename_i k es hr;refine cY hd λa μ ok hH hE=>?_;obtain⟨h1,h2⟩:=aB0 _ _ hl;obtain⟨w',hrun⟩:=aFy (P:=P) (a:=a) hT ho ok h1 (λi q p hq hp=>⟨aR hE noG (h2 i q p hq hp).1,(h2 i q p hq hp).2⟩) hr;exact⟨_,hrun,hH⟩
end
theorem aTj{μ:Mem}{k k':IntKind}{a b:Int}:Rv μ (.tup [eI k a,eI k' b]) (.tuple #[.int k a,.int k' b]):=by
 refine⟨_,rfl,?_⟩
 refine⟨_,_,rfl,?_,_,_,rfl,?_,rfl⟩ <;> simp[Rv0,eI,AV.isAgg,Rc,Value.oneCell']
def cK(x y c:Int):Option (Int×Int):=cond (decide (0<=x)&&decide (0<=y)&&decide (0<=c)&&decide (c<=1)) (some ((x+y+c) % 18446744073709551616,(x+y+c) / 18446744073709551616)) none
theorem aW5{α:Type}{c:Bool}{x r:α}(h:cond c (some x) none=some r):c=true/\x=r:=by cases c with | true=>exact⟨rfl,Option.some.inj h⟩ | false=>cases h
theorem aPU{P:Program}{f:FuncId}{fn:Func}(hf:P.funcs[f]? = some fn)(hname:(fn.name == "runtime.NumGoroutine")=false)(hb:fn.body.isNone=true)(hn:Extern.findNext fn=none)(he:Extern.find fn=some add64Entry)
  {x y c:Int} {r:Int×Int} (h:cK x y c=some r):aIl P f [.int .u64 x,.int .u64 y,.int .u64 c] (.tuple #[.int .u64 r.1,.int .u64 r.2]):=by
 obtain⟨h1,rfl⟩:=aW5 h;simp only[b9,decide_eq_true_eq] at h1;intro w;rw[run_callFunc_extern hf hname hb hn he]
 rw[show [Value.int .u64 x,.int .u64 y,.int .u64 c].toArray=#[.int .u64 x,.int .u64 y,.int .u64 c] from rfl,run_add64 x y c (by omega) (by omega) (by omega) (by omega)]
 rfl
end Go.UK

namespace Go.UK
open Go
set_option linter.all false
variable [bL]
section
variable {P:Program} {T:TypeId→Option TI} {n:Fr}
def ixS(T:TypeId->Option TI)(o:Oper)(need:Env):Option (ByteArray×Int):=
 match o.op with
 | .index t p ix=>match opd need none p,opd need none ix,T t with
  | some (.v (.string s)),some (.v (.int _ i)),some ⟨_,_,_,.str⟩=>some (s,i)
  | _,_,_=>none
 | _=>none
theorem aGM(hT:TOK P T){s:ByteArray}{i:Int}{b:UInt8}(hx:idx s.data.toList i=some b){o:Oper}{need:Env}{H:List Box}(hd:dOK n.n o.dst=true)(h:ixS T o need=some (s,i)) :
  Big P n o need H (.v (.int .u8 b.toNat)) H:=by
 unfold ixS at h;split at h <;> try cases h
 rename_i t p ix ho;split at h <;> cases h;rename_i kk sz b1 z ht hp hi;have h0:=aIv hx;have hx:=aKI hx;refine cY hd λa μ ok hH hE=>⟨μ,?_,hH⟩
 have e1:=bH (aR hE noG hp)
 have e2:=bH (aR hE noG hi)
 obtain⟨dd,hdd,hf⟩:=(hT t _ ht).kind;simp only[TK.fits] at hf;subst hf;have hs:s[i.toNat]? = some b:=by
  have h1:i.toNat < s.size:=by
   have hlt:=aX hx;have:s.data.toList.length=s.size:=by simp
   omega
  rw[getElem?_pos s i.toNat h1]
  have h2:i.toNat < s.data.size:=h1;have h3:s.data[i.toNat]? = some b:=by rw[<- Array.getElem?_toList];exact hx
  rw[Array.getElem?_eq_getElem h2] at h3;exact h3
 refine eQ.here (y := .int .u8 b.toNat) ok ?_ (tQ rfl)
 simp[execOp,ho,Instr.index,e1,e2,asIntOf,run_underlying hdd,h0,hs]
def ixA(T:TypeId->Option TI)(o:Oper)(need:Env):Option (List AV×Int×Nat):=
 match o.op with
 | .index t p ix=>match opd need none p,opd need none ix,T t with
  | some (.arr _ k es),some (.v (.int _ i)),some ⟨_,_,_,.arr len e⟩=>match T e with
   | some ei=>match Nat.beq ei.size k&&dataL (es.take 0) with | true=>some (es,i,len) | false=>none
   | none=>none
  | _,_,_=>none
 | _=>none
def ixAg(T:TypeId->Option TI)(o:Oper):Option (Bool×Nat):=
 match o.op with
 | .index t _ _=>match T t with
  | some ⟨_,_,_,.arr _ e⟩=>match T e with | some ei=>some (ei.kind.agg,ei.size) | none=>none
  | _=>none
 | _=>none
theorem aGN(hT:TOK P T){α:Type}(f:α->AV){m:Nat}(v:Vector α m){i:Int}{e:α}(hx:idx v.toList i=some e){o:Oper}{need:Env}{H:List Box}(hd:dOK n.n o.dst=true)
  (h:(ixA T o need,ixAg T o)=(some (v.toList.map f,i,m),some ((f e).isAgg,(f e).n))):Big P n o need H (f e) H:=by
 simp only[Prod.mk.injEq] at h;obtain⟨h,hg⟩:=h;have h0:=aIv hx;have h1:=aRZ hx;have hxe:=aQU f hx;simp only[Vector.length_toList] at h1;unfold ixA at h;split at h <;> try cases h
 rename_i t p ix ho;split at h <;> try cases h
 rename_i N k es kk i' sz b1 z len e' hp hi ht;split at h <;> try cases h
 rename_i ei he;split at h <;> cases h;rename_i hb;simp only[Bool.and_eq_true] at hb;have hk:=Nat.eq_of_beq_eq_true hb.1;unfold ixAg at hg;rw[ho] at hg;simp only[ht,he,Option.some.injEq,Prod.mk.injEq] at hg;refine cY hd λa μ ok hH hE=>⟨μ,?_,hH⟩
 obtain⟨ys,e1,hr⟩:=(aR hE noG hp).agg rfl;have e2:=bH (aR hE noG hi)
 simp only[Rc] at hr;obtain⟨y1,y2,y3,g1,g2,g3,g4⟩:=hr.2.2.pick hxe;have l1:=RdL.length g2;rw[tL (k:=k) (λe he=>hr.2.1 e (List.mem_of_mem_take he)),List.length_take,Nat.min_eq_left (Nat.le_of_lt (aX hxe))] at l1;obtain⟨y,k1,k2⟩:=aAC (P:=P) hT he (cs:=ys) g1 (Rd.rc _ _ g3) hg.1.symm hg.2.symm μ.w;obtain⟨dd,hdd,hf⟩:=(hT t _ ht).kind;simp only[TK.fits] at hf;subst hf;refine eQ.here ok ?_ k2;rw[l1,<- hk] at k1;simp[execOp,ho,Instr.index,e1,e2,asIntOf,asAgg,run_underlying hdd,h0,h1,lU hT he,k1]
end
end Go.UK

open Bool renaming and_eq_true→b9,false_eq_true→au
open List renaming eq_nil_of_length_eq_zero→dx,length_map→cg,map_drop→ni,map_take→gr,mem_of_mem_drop→ct,mem_of_mem_take→ce,take_append_drop→iu
open Go.Result renaming andThen_ok→am
open Go.Sem renaming run_bind→bf,run_pure→ck
namespace Go.UK
open Go
set_option linter.all false
variable [bL]
def dM{α:Type}(l:List α)(lo hi:Int):Option (List α):=cond (decide (0<=lo)&&(decide (lo<=hi)&&decide (hi<=(l.length:Int)))) (some ((l.take hi.toNat).drop lo.toNat)) none
def aRJ(s:ByteArray)(lo hi:Int):Option ByteArray:=cond (decide (0<=lo)&&(decide (lo<=hi)&&decide (hi<=(s.size:Int)))) (some (s.extract lo.toNat hi.toNat)) none
def aE7(len:Nat)(lo hi:Int):Option Unit:=cond (decide (0<=lo)&&(decide (lo<=hi)&&decide (hi<=(len:Int)))) (some ()) none
theorem aP3{α:Type}{l r:List α}{lo hi:Int}(h:dM l lo hi=some r):0<=lo/\lo<=hi/\hi<=(l.length:Int)/\r=(l.take hi.toNat).drop lo.toNat:=by
 unfold dM at h;cases hc:(decide (0<=lo)&&(decide (lo<=hi)&&decide (hi<=(l.length:Int)))) with
 | true=>rw[hc] at h;simp only[b9,decide_eq_true_eq] at hc;exact⟨hc.1,hc.2.1,hc.2.2,(Option.some.inj h).symm⟩
 | false=>rw[hc] at h;cases h
theorem aWb{s r:ByteArray}{lo hi:Int}(h:aRJ s lo hi=some r):0<=lo/\lo<=hi/\hi<=(s.size:Int)/\r=s.extract lo.toNat hi.toNat:=by
 unfold aRJ at h;cases hc:(decide (0<=lo)&&(decide (lo<=hi)&&decide (hi<=(s.size:Int)))) with
 | true=>rw[hc] at h;simp only[b9,decide_eq_true_eq] at hc;exact⟨hc.1,hc.2.1,hc.2.2,(Option.some.inj h).symm⟩
 | false=>rw[hc] at h;cases h
theorem aWr{n:Nat}{u:Unit}{lo hi:Int}(h:aE7 n lo hi=some u):0<=lo/\lo<=hi/\hi<=(n:Int):=by
 unfold aE7 at h;cases hc:(decide (0<=lo)&&(decide (lo<=hi)&&decide (hi<=(n:Int)))) with
 | true=>rw[hc] at h;simp only[b9,decide_eq_true_eq] at hc;exact⟨hc.1,hc.2.1,hc.2.2⟩
 | false=>rw[hc] at h;cases h
def zV(need:Env)(d:Int):Option Operand->Option Int
 | none=>some d
 | some x=>match opd need none x with
  | some (.v (.int _ i))=>some i
  | _=>none
section
variable {P:Program} {T:TypeId→Option TI} {n:Fr}
theorem aAv(k:IntKind)(i:Int)(y:Nat)(code:BoundsCode)(w:World)(h0:0<=i)(h1:i<=y):(Instr.sliceBound (.int k i) y code).run P w = .ok i.toNat w:=by
 simp[Instr.sliceBound,asIntOf,h0,h1]
theorem aAk{b:Bool}{len cap:Nat}{lo hi:Option Operand}{need:Env}{μ:Mem}{a:Act}(hE:eY μ need a.tmps){l h:Int}(hl:zV need 0 lo=some l)(hh:zV need len hi=some h)(h0:0<=l)(h1:l<=h)(h2:h<=cap)(hlen:len<=cap)(w:World) :
  (Instr.sliceBounds b len cap (lo.map a.eval) (hi.map a.eval) none).run P w = .ok (l.toNat,h.toNat,cap) w:=by
 have ev:∀{x:Operand} {k:IntKind} {i:Int},opd need none x=some (.v (.int k i))->a.eval x = .int k i:=λhx=>bH (aR hE noG hx)
 have hi':∃k,(match hi.map a.eval with | some v=>v = .int k h | none=>h=len):=by
  cases hi with
  | none=>simp only[zV,Option.some.injEq] at hh;exact⟨.i64,hh.symm⟩
  | some x=>
   simp only[zV] at hh;split at hh <;> cases hh;rename_i k hx;exact⟨k,ev hx⟩
 have lo':∃k,(match lo.map a.eval with | some v=>v = .int k l | none=>l=0):=by
  cases lo with
  | none=>simp only[zV,Option.some.injEq] at hl;exact⟨.i64,hl.symm⟩
  | some x=>
   simp only[zV] at hl;split at hl <;> cases hl;rename_i k hx;exact⟨k,ev hx⟩
 obtain⟨kh,hi'⟩:=hi';obtain⟨kl,lo'⟩:=lo';have hhn:((h.toNat:Nat):Int)=h:=by omega
 cases hhv:hi.map a.eval <;> cases hlv:lo.map a.eval <;> rw[hhv] at hi' <;> rw[hlv] at lo' <;> simp only at hi' lo' <;> subst hi' <;> subst lo'
 ·simp[Instr.sliceBounds]
 ·simp only[Instr.sliceBounds,bf,ck,am]
  rw[aAv _ _ _ _ _ h0 (by omega)]
  simp
 ·simp only[Instr.sliceBounds,bf,ck,am]
  rw[aAv _ _ _ _ _ (by omega) (by omega)]
  simp
 ·simp only[Instr.sliceBounds,bf,ck,am]
  rw[aAv _ _ _ _ _ (by omega) (by omega)]
  simp only[am]
  rw[aAv _ _ _ _ _ h0 (by omega)]
  simp
theorem aJv{w:World}{M:Nat->Nat->Prop}{es:List AV}{zs:List Value}{b off k lo hi:Nat}(hk:∀e∈es,e.n=k)(h:RdL w M es zs)(hat:atD w M b off zs)(h1:lo<=hi)(h2:hi<=es.length) :
  ∃ys,RdL w M ((es.take hi).drop lo) ys/\atD w M b (off+lo*k) ys:=by
 have e:es=es.take lo++(((es.take hi).drop lo)++es.drop hi):=by
  rw[<- List.append_assoc]
  have:es.take lo++(es.take hi).drop lo=es.take hi:=by
   have h3:es.take lo=(es.take hi).take lo:=by rw[List.take_take,Nat.min_eq_left h1]
   rw[h3,iu]
  rw[this,iu]
 rw[e] at h;obtain⟨y1,y2,g1,g2,g3⟩:=PL.split (wW.1 h)
 obtain⟨z1,z2,k1,k2,k3⟩:=PL.split g3;refine⟨z1,wW.2 k2,λq v hv=>?_⟩
 have l1:y1.length=lo*k:=by
  have hc:RdL (⟨[],[],w,M⟩:Mem).w (⟨[],[],w,M⟩:Mem).M (es.take lo) y1:=by
   refine RdL.mono (λb o y h1 h2=>⟨h1,λh3=>h2 ?_⟩) _ _ (wW.2 g2)
   rcases h3 with h3 | ⟨id,h3,_⟩
   ·exact h3
   ·simp at h3
  rw[hc.length,tL (k:=k) (λe he=>hk e (ce he)),List.length_take,Nat.min_eq_left (by omega)]
 have:=hat (y1.length+q) v (by rw[g1,k1,List.getElem?_append_right (by omega),Nat.add_sub_cancel_left,List.getElem?_append_left (aX hv)];exact hv)
 rw[<- l1,Nat.add_assoc]
 exact this
def slE(T:TypeId->Option TI)(o:Oper)(need:Env):Option (Nat×List AV×Int×Int):=
 match o.op with
 | .slice t x lo hi none=>match opd need none x,T t with
  | some v,some ⟨_,_,_,.sl e⟩=>match rE v,aAL v,T e with
   | some (k,es),some ln,some ei=>match Nat.beq ei.size k with
    | true=>match zV need 0 lo,zV need ln hi with
     | some l,some h=>some (k,es,l,h)
     | _,_=>none
    | false=>none
   | _,_,_=>none
  | _,_=>none
 | _=>none
theorem aFo{v:AV}{k ln:Nat}{es:List AV}{μ:Mem}{y:Value}(h:rE v=some (k,es))(hl:aAL v=some ln)(hr:Rv μ v y):es.length=ln:=by
 cases v <;> simp only[rE] at h <;> try cases h
 ·simp only[aAL,Option.some.injEq] at hl;simp only[Rv,Rv0,AV.isAgg,Rc,au,if_false] at hr;rw[hr.1,hl]
 ·simp only[aAL,Option.some.injEq] at hl;simp only[Rv,Rv0,AV.isAgg,Rc,au,if_false] at hr;rw[hr.1,hl]
theorem aS2(hT:TOK P T){α:Type}(f:α->AV){l r:List α}{lo hi:Int}(hx:dM l lo hi=some r){k:Nat}{o:Oper}{need:Env}{H:List Box}(hd:dOK n.n o.dst=true:=by kernel_rfl)(h:slE T o need=some (k,l.map f,lo,hi):=by kernel_rfl) :
  Big P n o need H (eL k f r) H:=by
 obtain⟨h0,h1,h2,rfl⟩:=aP3 hx;unfold slE at h;split at h <;> try cases h
 rename_i t x los his ho;split at h <;> try cases h
 rename_i v sz b1 z e hv ht;split at h <;> try cases h
 rename_i k' es ln ei hes hln he;split at h <;> try cases h
 rename_i hk;have hk:=Nat.eq_of_beq_eq_true hk;split at h <;> cases h;rename_i hlo hhi;refine cY hd λa μ ok hH hE=>⟨μ,?_,hH⟩
 have hrv:=aR hE noG hv;have hlen:=aFo hes hln hrv;obtain⟨ad,cap,g1,g2,g3,g4⟩:=aCi (sB hes hrv)
 obtain⟨dd,hdd,hf⟩:=(hT t _ ht).kind;simp only[TK.fits] at hf;subst hf;rw[<- hlen] at hhi;have hb:=aAk (P:=P) (b:=true) (cap:=cap) hE hlo hhi h0 h1 (by simp at g2;omega) g2 μ.w;have hrun:(execOp a.eval o).run P μ.w = .ok (.value (.slice (if cap=lo.toNat then ad else ad.map (·.add (lo.toNat*ei.size))) (hi.toNat - lo.toNat) (cap - lo.toNat))) μ.w:=by
  simp only[execOp,ho,Instr.sliceAt,bf,run_underlying hdd,am,Instr.slice,g1,hb,lU hT he,ck,Option.map_none]
 refine eQ.here ok hrun ?_;have hll:((l.take hi.toNat).drop lo.toNat).length=hi.toNat - lo.toNat:=by simp;omega
 have hmap:((l.take hi.toNat).drop lo.toNat).map f=((l.map f).take hi.toNat).drop lo.toNat:=by rw[ni,gr]
 show Rv0 _ _ _;simp only[Rv0,eL,AV.isAgg,Rc,au,if_false]
 refine⟨by simp,_,cap - lo.toNat,by rw[cg,hll],by rw[cg,hll];simp at g2;omega,?_,?_⟩
 ·intro e' he';rw[hmap] at he';exact g3 e' (ce (ct he'))
 ·rcases g4 with g4 | ⟨b,off,zs,g5,g6,g7⟩
  ·left;rw[hmap,g4];simp
  ·by_cases hc:cap=lo.toNat
   ·left;rw[hmap]
    have:hi.toNat - lo.toNat=0:=by simp at g2;omega
    apply dx;rw[<- hmap,cg,hll]
    exact this
   ·right;obtain⟨ys,q1,q2⟩:=aJv g3 g6 g7 (show lo.toNat<=hi.toNat by omega) (show hi.toNat<=(l.map f).length by simp;omega)
    rw[if_neg hc,g5,hmap]
    exact⟨b,off+lo.toNat*ei.size,ys,by simp[pV],q1,by rw[hk];exact q2⟩
def slS(T:TypeId->Option TI)(o:Oper)(need:Env):Option (ByteArray×Int×Int):=
 match o.op with
 | .slice t x lo hi none=>match opd need none x,T t with
  | some (.v (.string s)),some ⟨_,_,_,.str⟩=>match zV need 0 lo,zV need s.size hi with
   | some l,some h=>some (s,l,h)
   | _,_=>none
  | _,_=>none
 | _=>none
theorem aNJ(hT:TOK P T){s r:ByteArray}{lo hi:Int}(hx:aRJ s lo hi=some r){o:Oper}{need:Env}{H:List Box}(hd:dOK n.n o.dst=true)(h:slS T o need=some (s,lo,hi)) :
  Big P n o need H (eS r) H:=by
 obtain⟨h0,h1,h2,rfl⟩:=aWb hx;unfold slS at h;split at h <;> try cases h
 rename_i t x los his ho;split at h <;> try cases h
 rename_i s' sz b1 z hv ht;split at h <;> cases h;rename_i hlo hhi;refine cY hd λa μ ok hH hE=>⟨μ,?_,hH⟩
 have hrv:=bH (aR hE noG hv)
 obtain⟨dd,hdd,hf⟩:=(hT t _ ht).kind;simp only[TK.fits] at hf;subst hf;have hb:=aAk (P:=P) (b:=false) (cap:=s.size) hE hlo hhi h0 h1 h2 (Nat.le_refl _) μ.w;refine eQ.here (y := .string (s.extract lo.toNat hi.toNat)) ok ?_ (tQ rfl)
 simp only[execOp,ho,Instr.sliceAt,bf,run_underlying hdd,am,Instr.slice,hrv,hb,ck,Option.map_none,Option.isSome_none,au,if_false]
def slA(T:TypeId->Option TI)(o:Oper)(need:Env):Option (AV×Int×Int×Nat×Nat):=
 match o.op with
 | .slice t x lo hi none=>match opd need none x,T t with
  | some q,some ⟨_,_,_,.arr len e⟩=>match T e with
   | some ei=>match zV need 0 lo,zV need len hi with
    | some l,some h=>some (q,l,h,len,ei.size)
    | _,_=>none
   | none=>none
  | _,_=>none
 | _=>none
theorem aNy(hT:TOK P T){t e:TypeId}{sz b1 len:Nat}{z:AV}{ei:TI}(ht:T t=some ⟨sz,b1,z,.arr len e⟩)(he:T e=some ei){o:Oper}{x:Operand}{los his:Option Operand}(ho:o.op = .slice t x los his none)
  {a:Act} {b off:Nat} (hp:a.eval x = .pointer (some ⟨b,off,none⟩)) {lo hi:Int} {w:World} (hb:(Instr.sliceBounds false len len (los.map a.eval) (his.map a.eval) none).run P w = .ok (lo.toNat,hi.toNat,len) w) :
  (execOp a.eval o).run P w = .ok (.value (.slice (some (if len=lo.toNat then⟨b,off,none⟩ else⟨b,off+lo.toNat*ei.size,none⟩)) (hi.toNat - lo.toNat) (len - lo.toNat))) w:=by
 obtain⟨dd,hdd,hf⟩:=(hT t _ ht).kind;simp only[TK.fits] at hf;subst hf;simp only[execOp,ho,Instr.sliceAt,bf,run_underlying hdd,am,hp,Instr.sureAddr,hb,lU hT he,ck,Option.map_none,pV]
theorem aTt(hT:TOK P T){α:Type}(f:α->AV){m N k:Nat}(v:Vector α m){r:List α}{lo hi:Int}(hx:dM v.toList lo hi=some r){o:Oper}{need:Env}{H:List Box}(hd:dOK n.n o.dst=true:=by kernel_rfl)
  (h:slA T o need=some (.im (.arr N k (v.toList.map f)),lo,hi,m,k):=by kernel_rfl):Big P n o need H (eL k f r) H:=by
 obtain⟨h0,h1,h2,rfl⟩:=aP3 hx;simp only[Vector.length_toList] at h2;unfold slA at h;split at h <;> try cases h
 rename_i t x los his ho;split at h <;> try cases h
 rename_i q sz b1 z len e hv ht;split at h <;> try cases h
 rename_i ei he;split at h <;> cases h;rename_i hlo hhi;refine cY hd λa μ ok hH hE=>⟨μ,?_,hH⟩
 obtain⟨b,off,zs,g1,g2,g3⟩:=aKZ (aR hE noG hv)
 simp only[Rd] at g2;have hb:=aAk (P:=P) (b:=false) (len:=m) (cap:=m) hE hlo hhi h0 h1 (by omega) (Nat.le_refl _) μ.w;have hrun:=aNy hT ht he ho g1 hb;refine eQ.here ok hrun ?_;have hll:((v.toList.take hi.toNat).drop lo.toNat).length=hi.toNat - lo.toNat:=by simp;omega
 have hmap:((v.toList.take hi.toNat).drop lo.toNat).map f=((v.toList.map f).take hi.toNat).drop lo.toNat:=by rw[ni,gr]
 show Rv0 _ _ _;simp only[Rv0,eL,AV.isAgg,Rc,au,if_false]
 refine⟨by simp,_,m - lo.toNat,by rw[cg,hll],by rw[cg,hll];omega,?_,?_⟩
 ·intro e' he';rw[hmap] at he';exact g2.2.1 e' (ce (ct he'))
 ·by_cases hc:m=lo.toNat
  ·left;apply dx;rw[cg,hll]
   omega
  ·right;obtain⟨ys,q1,q2⟩:=aJv g2.2.1 g2.2.2 g3 (show lo.toNat<=hi.toNat by omega) (show hi.toNat<=(v.toList.map f).length by simp;omega)
   rw[if_neg hc,hmap]
   exact⟨b,_,ys,rfl,q1,q2⟩
theorem aGJ(hT:TOK P T)(id:Nat)(path:List Nat)(of:Nat){m k:Nat}{lo hi:Int}{u:Unit}(hx:aE7 m lo hi=some u){o:Oper}{need:Env}{H:List Box}(hd:dOK n.n o.dst=true)
  (h:slA T o need=some (.ref id path of,lo,hi,m,k)) (hlt:Nat.beq m lo.toNat=false):Big P n o need H (.bsl id path of k lo.toNat (hi.toNat - lo.toNat)) H:=by
 obtain⟨h0,h1,h2⟩:=aWr hx;unfold slA at h;split at h <;> try cases h
 rename_i t x los his ho;split at h <;> try cases h
 rename_i q sz b1 z len e hv ht;split at h <;> try cases h
 rename_i ei he;split at h <;> cases h;rename_i hlo hhi;refine cY hd λa μ ok hH hE=>⟨μ,?_,hH⟩
 obtain⟨b,c,g1,g2,g3⟩:=aBW (aR hE noG hv)
 have hb:=aAk (P:=P) (b:=false) (len:=m) (cap:=m) hE hlo hhi h0 h1 (by omega) (Nat.le_refl _) μ.w;have hrun:=aNy hT ht he ho g3 hb;refine eQ.here ok hrun ?_;have hne:¬m=lo.toNat:=by intro e;rw[<- e] at hlt;simp at hlt
 rw[if_neg hne]
 show Rv0 _ _ _;simp only[Rv0,AV.isAgg,Rc,au,if_false]
 exact⟨b,c,m - lo.toNat,g1,g2,by omega,rfl⟩
end
end Go.UK

