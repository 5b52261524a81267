/- The own layer: abstract values, their memory, and the steps of the model over them: for any program. -/
import Derived.Test.YtbfieohdmihfpaaGreatDoorLib7
import Derived.Laws.CopyRow
open Go.Sem renaming run_bind→bf,run_pure→ck
namespace Go.UK
open Go
set_option linter.all false
variable [bL]
section
variable {P:Program} {T:TypeId→Option TI} {n:Fr}
theorem aMS(hT:TOK P T){t e:TypeId}{sz b1:Nat}{z:AV}(ht:T t=some ⟨sz,b1,z,.sl e⟩)(ad:Option Addr)(ln cap:Nat)(w:World)(d:Nat) :
  (Op.equalIn (d+1) t (.slice ad ln cap) (.slice none 0 0)).run P w = .ok ad.isNone w:=by
 obtain⟨d,hd,hk⟩:=(hT t _ ht).kind;simp only[TK.fits] at hk;subst hk;unfold Op.equalIn;rw[bf,run_underlying hd]
 cases ad <;> rfl
theorem aOc(hT:TOK P T){t e:TypeId}{sz b1:Nat}{z:AV}(ht:T t=some ⟨sz,b1,z,.sl e⟩){x y:Operand}(ad:Option Addr)(ln cap:Nat)(w:World) :
  (do eqGuard .eql t x y (.slice ad ln cap) (.slice none 0 0);binOp .eql t (.slice ad ln cap) (.slice none 0 0):Sem Value).run P w = .ok (.bool ad.isNone) w:=by
 have he:(Op.equal t (.slice ad ln cap) (.slice none 0 0)).run P w = .ok ad.isNone w:=aMS hT ht ad ln cap w 9999;have e1:(if (!true)=true then pure () else pure ():Sem Unit).run P w = .ok () w:=rfl;simp only[eqGuard,binOp,bf]
 rw[show(Sem.run P (if (!true)=true then pure () else pure ()) w)=Result.ok () w from rfl]
 simp only[Result.andThen_ok,he,ck]
theorem aTE(hT:TOK P T){ops:Array Oper}{o:Oper}{l:List Oper}{st:ASt}{K:ASt->Prop}{d t e k sz b1:Nat}{z x:AV}{es:List AV}
  (g1:o.guard=none) (hd1:o.dst=some d) (hn:Nat.ble n.n d=false) (ht:T t=some ⟨sz,b1,z,.sl e⟩) (h:eqE o st.env .eql=some (t,x,.v (.slice none 0 0))) (he:rE x=some (k,es))
  (h1:awl P n ops l K ⟨st.env.set d (none,.v (.bool false)),st.H⟩) (h2:es=[]->awl P n ops l K ⟨st.env.set d (none,.v (.bool true)),st.H⟩):awl P n ops (o :: l) K st:=by
 intro ctx a w hs;obtain⟨bs,hm⟩:=hs;obtain⟨xo,yo,t',ho,hx,hy⟩:=aBc h;have v1:=sB he (aR hm.env noG hx)
 have v2:=bH (aR hm.env noG hy)
 obtain⟨ad,cap,e1,e2,e3,e4⟩:=aCi v1;have hrun:(execOp a.eval o).run P w = .ok (.value (.bool ad.isNone)) w:=by
  have:=aOc (P:=P) hT ht (x:=xo) (y:=yo) ad es.length cap w;rw[bf] at this;simp only[execOp,ho,e1,v2,bf,this,Result.andThen_ok,ck]
 have key:awl P n ops l K ⟨st.env.set d (none,.v (.bool ad.isNone)),st.H⟩:=by
  cases ad with
  | none=>
   refine h2 ?_;rcases e4 with e | ⟨b,off,zs,e,_⟩
   ·exact e
   ·cases e
  | some q=>exact h1
 refine wpListIn_step λK' hK'=>?_;rw[if_pos (by simp[Region.wanted,g1])]
 refine aAo rfl (aAd hrun) ?_;unfold Oper.wp;rw[hrun]
 simp only[Oper.upon]
 refine hK' _ _ (key ctx _ _ ?_)
 rw[hd1]
 exact(hm.put (Ext.refl _) hm.ok (yK hn) (tQ rfl)).sat
end
end Go.UK

open Go.Sem renaming run_bind→bf,run_pure→ck
namespace Go.UK
open Go
set_option linter.all false
variable [bL]
section
variable {P:Program} {T:TypeId→Option TI} {n:Fr}
def ptrK : AV->Option Bool
 | .ref .. => some true
 | .im _=>some true
 | .v (.pointer none)=>some false
 | _=>none
theorem aVG{μ:Mem}{x:AV}{y:Value}{b:Bool}(h:ptrK x=some b)(hr:Rv μ x y):∃p:Option Addr,y = .pointer p/\p.isSome=b:=by
 unfold ptrK at h;split at h <;> cases h
 ·simp only[Rv,Rv0,AV.isAgg,Rc,Bool.false_eq_true,if_false] at hr;obtain⟨b,c,_,_,e⟩:=hr;cases e;exact⟨_,rfl,rfl⟩
 ·simp only[Rv,Rv0,AV.isAgg,Rc,Bool.false_eq_true,if_false] at hr;obtain⟨b,off,zs,e,_⟩:=hr;cases e;exact⟨_,rfl,rfl⟩
 ·exact⟨none,bH hr,rfl⟩
theorem aMF(hT:TOK P T){t e:TypeId}{sz b1:Nat}{z:AV}(ht:T t=some ⟨sz,b1,z,.ptr e⟩)(p:Option Addr)(w:World)(d:Nat) :
  (Op.equalIn (d+1) t (.pointer p) (.pointer none)).run P w = .ok p.isNone w:=by
 obtain⟨d,hd,hk⟩:=(hT t _ ht).kind;simp only[TK.fits] at hk;subst hk;unfold Op.equalIn;rw[bf,run_underlying hd]
 cases p <;> rfl
theorem aOn(hT:TOK P T){t e:TypeId}{sz b1:Nat}{z:AV}(ht:T t=some ⟨sz,b1,z,.ptr e⟩){x y:Operand}(p:Option Addr)(w:World) :
  (do eqGuard .eql t x y (.pointer p) (.pointer none);binOp .eql t (.pointer p) (.pointer none):Sem Value).run P w = .ok (.bool p.isNone) w /\
  (do eqGuard .neq t x y (.pointer p) (.pointer none);binOp .neq t (.pointer p) (.pointer none):Sem Value).run P w = .ok (.bool !p.isNone) w:=by
 have he:(Op.equal t (.pointer p) (.pointer none)).run P w = .ok p.isNone w:=aMF hT ht p w 9999;constructor <;>
 ·simp only[eqGuard,binOp,bf]
  rw[show(Sem.run P (if (!true)=true then pure () else pure ()) w)=Result.ok () w from rfl]
  simp only[Result.andThen_ok,he,ck]
theorem aB6(hT:TOK P T){o:Oper}{need:Env}{H:List Box}{t e sz b1:Nat}{z x:AV}{b:Bool}(hd:dOK n.n o.dst=true)(ht:T t=some ⟨sz,b1,z,.ptr e⟩)(hx:ptrK x=some b)(h:eqE o need .eql=some (t,x,.v (.pointer none))):Big P n o need H (eB !b) H:=by
 obtain⟨xo,yo,t',ho,h1,h2⟩:=aBc h;refine cY hd λa μ ok hH hE=>?_;have v2:=bH (aR hE noG h2)
 obtain⟨p,v1,hp⟩:=aVG hx (aR hE noG h1)
 have:=(aOn (P:=P) hT ht (x:=xo) (y:=yo) p μ.w).1;rw[bf] at this;refine⟨μ,eQ.here (y := .bool !b) ok ?_ (tQ rfl),hH⟩
 simp only[execOp,ho,v1,v2,bf,this,Result.andThen_ok,ck]
 subst hp;cases p <;> rfl
end
end Go.UK

open Go.Result renaming andThen_ok→am
open Go.Sem renaming run_bind→bf,run_pure→ck
namespace Go.UK
open Go
set_option linter.all false
variable [bL]
def aIq{α:Type}(l:List α)(lo hi mx:Int):Option (List α):=cond (decide (0<=lo)&&(decide (lo<=hi)&&(decide (hi<=mx)&&decide (mx<=(l.length:Int))))) (some ((l.take hi.toNat).drop lo.toNat)) none
theorem aTD{α:Type}{l r:List α}{lo hi mx:Int}(h:aIq l lo hi mx=some r):0<=lo/\lo<=hi/\hi<=mx/\mx<=(l.length:Int)/\r=(l.take hi.toNat).drop lo.toNat:=by
 unfold aIq at h;cases hc:(decide (0<=lo)&&(decide (lo<=hi)&&(decide (hi<=mx)&&decide (mx<=(l.length:Int))))) with
 | true=>rw[hc] at h;simp only[Bool.and_eq_true,decide_eq_true_eq] at hc;exact⟨hc.1,hc.2.1,hc.2.2.1,hc.2.2.2,(Option.some.inj h).symm⟩
 | false=>rw[hc] at h;cases h
section
variable {P:Program} {T:TypeId→Option TI} {n:Fr}
theorem aLN{b:Bool}{len cap:Nat}{lo:Option Operand}{hi mx:Operand}{need:Env}{μ:Mem}{a:Act}(hE:eY μ need a.tmps){l h m:Int}(hl:zV need 0 lo=some l)(hh:zV need 0 (some hi)=some h)(hm:zV need 0 (some mx)=some m)(h0:0<=l)(h1:l<=h)(h2:h<=m)(h3:m<=cap)(w:World) :
  (Instr.sliceBounds b len cap (lo.map a.eval) (some (a.eval hi)) (some (a.eval mx))).run P w = .ok (l.toNat,h.toNat,m.toNat) w:=by
 have ev:∀{x:Operand} {k:IntKind} {i:Int},opd need none x=some (.v (.int k i))->a.eval x = .int k i:=λhx=>bH (aR hE noG hx)
 have get:∀{x:Operand} {i:Int},zV need 0 (some x)=some i->∃k,a.eval x = .int k i:=by
  intro x i hx;simp only[zV] at hx;split at hx <;> cases hx;rename_i k hx;exact⟨k,ev hx⟩
 obtain⟨kh,eh⟩:=get hh;obtain⟨km,em⟩:=get hm;rw[eh,em]
 cases lo with
 | none=>
  simp only[zV,Option.some.injEq] at hl;subst hl;simp only[Instr.sliceBounds,Option.map_none,bf,ck,am]
  rw[aAv _ _ _ _ _ (by omega) (by omega)]
  simp only[am]
  rw[aAv _ _ _ _ _ (by omega) (by omega)]
  simp
 | some x=>
  obtain⟨kl,el⟩:=get hl;simp only[Instr.sliceBounds,Option.map_some,el,bf,ck,am]
  rw[aAv _ _ _ _ _ (by omega) (by omega)]
  simp only[am]
  rw[aAv _ _ _ _ _ (by omega) (by omega)]
  simp only[am]
  rw[aAv _ _ _ _ _ h0 (by omega)]
  simp
def sl3E(T:TypeId->Option TI)(o:Oper)(need:Env):Option (Nat×List AV×Int×Int×Int):=
 match o.op with
 | .slice t x lo (some hi) (some mx)=>match opd need none x,T t with
  | some v,some ⟨_,_,_,.sl e⟩=>match rE v,aAL v,T e with
   | some (k,es),some ln,some ei=>match Nat.beq ei.size k with
    | true=>match zV need 0 lo,zV need 0 (some hi),zV need 0 (some mx) with
     | some l,some h,some m=>some (k,es,l,h,m)
     | _,_,_=>none
    | false=>none
   | _,_,_=>none
  | _,_=>none
 | _=>none
theorem aPy(hT:TOK P T){α:Type}(f:α->AV){l r:List α}{lo hi mx:Int}(hx:aIq l lo hi mx=some r){k:Nat}{o:Oper}{need:Env}{H:List Box}(hd:dOK n.n o.dst=true)(h:sl3E T o need=some (k,l.map f,lo,hi,mx)) :
  Big P n o need H (eL k f r) H:=by
 obtain⟨h0,h1,h2,h3,rfl⟩:=aTD hx;unfold sl3E at h;split at h <;> try cases h
 rename_i t x los his mxs ho;split at h <;> try cases h
 rename_i v sz b1 z e hv ht;split at h <;> try cases h
 rename_i k' es ln ei hes hln he;split at h <;> try cases h
 rename_i hk;have hk:=Nat.eq_of_beq_eq_true hk;split at h <;> cases h;rename_i hlo hhi hmx;refine cY hd λa μ ok hH hE=>⟨μ,?_,hH⟩
 have hrv:=aR hE noG hv;have hlen:=aFo hes hln hrv;obtain⟨ad,cap,g1,g2,g3,g4⟩:=aCi (sB hes hrv)
 obtain⟨dd,hdd,hf⟩:=(hT t _ ht).kind;simp only[TK.fits] at hf;subst hf;have hb:=aLN (P:=P) (b:=true) (len:=(l.map f).length) (cap:=cap) hE hlo hhi hmx h0 h1 h2 (by simp at g2;omega) μ.w;have hrun:(execOp a.eval o).run P μ.w = .ok (.value (.slice (if mx.toNat=lo.toNat then ad else ad.map (·.add (lo.toNat*ei.size))) (hi.toNat - lo.toNat) (mx.toNat - lo.toNat))) μ.w:=by
  simp only[execOp,ho,Instr.sliceAt,bf,run_underlying hdd,am,Instr.slice,g1,hb,lU hT he,ck,Option.map_some]
 refine eQ.here ok hrun ?_;have hll:((l.take hi.toNat).drop lo.toNat).length=hi.toNat - lo.toNat:=by simp;omega
 have hmap:((l.take hi.toNat).drop lo.toNat).map f=((l.map f).take hi.toNat).drop lo.toNat:=by rw[List.map_drop,List.map_take]
 show Rv0 _ _ _;simp only[Rv0,eL,AV.isAgg,Rc,Bool.false_eq_true,if_false]
 refine⟨by simp,_,mx.toNat - lo.toNat,by rw[List.length_map,hll],by rw[List.length_map,hll];simp at g2;omega,?_,?_⟩
 ·intro e' he';rw[hmap] at he';exact g3 e' (List.mem_of_mem_take (List.mem_of_mem_drop he'))
 ·rcases g4 with g4 | ⟨b,off,zs,g5,g6,g7⟩
  ·left;rw[hmap,g4];simp
  ·by_cases hc:mx.toNat=lo.toNat
   ·left;rw[hmap]
    have:hi.toNat - lo.toNat=0:=by simp at g2;omega
    apply List.eq_nil_of_length_eq_zero;rw[<- hmap,List.length_map,hll]
    exact this
   ·right;obtain⟨ys,q1,q2⟩:=aJv g3 g6 g7 (show lo.toNat<=hi.toNat by omega) (show hi.toNat<=(l.map f).length by simp;omega)
    rw[if_neg hc,g5,hmap]
    exact⟨b,off+lo.toNat*ei.size,ys,by simp[pV],q1,by rw[hk];exact q2⟩
end
end Go.UK

open List renaming append_assoc→an,drop→n5,drop_append→mn,length→md,length_append→ai,length_map→cg,length_take→bj,map_append→j8,map_take→gr,mem_append→d9,mem_map→dh,mem_of_mem_take→ce,take→mh,take_append→mj,toArray→nj
open Nat renaming beq→bp,eq_of_beq_eq_true→ak
namespace Go.UK
open Go
set_option linter.all false
variable [bL]
theorem aQr{w:World}{M:Nat->Nat->Prop}:∀(es:List AV) (zs:List Value) (j:Nat),(∀e∈es,e.n=1)->RdL w M es zs->RdL w M (es.take j) (zs.take j)/\RdL w M (es.drop j) (zs.drop j)/\zs.length=es.length
 | [],zs,j,_,h=>by
  simp only[RdL] at h;subst h;simp[RdL]
 | p :: ps,zs,j,hn,h=>by
  simp only[RdL] at h;obtain⟨y1,y2,e,h1,h2⟩:=h;have hl:y1.length=1:=by
   have:=Rc.length (μ:=⟨[],[],w,M⟩) p y1 (Rd.rc _ _ (Rd.mono (λb o y h1 h2=>⟨h1,λh3=>h2 (by
    rcases h3 with h3 | ⟨id,h3,_⟩
    ·exact h3
    ·simp at h3)⟩) _ _ h1))
   rw[this,hn p (by simp)]
  match y1,hl with
  | [y],_=>
   subst e;obtain⟨g1,g2,g3⟩:=aQr ps y2 (j - 1) (λe he=>hn e (by simp[he])) h2;cases j with
   | zero=>
    refine⟨by simp[RdL],?_,by simp[g3]⟩
    simp only[List.drop_zero,RdL]
    exact⟨[y],y2,rfl,h1,h2⟩
   | succ j=>
    simp only[Nat.add_sub_cancel] at g1 g2;refine⟨?_,g2,by simp[g3]⟩
    simp only[List.take_succ_cons,List.singleton_append,RdL]
    exact⟨[y],y2.take j,rfl,h1,g1⟩
theorem aJN{w:World}{M:Nat->Nat->Prop}:∀{es es':List AV} {zs zs':List Value},RdL w M es zs->RdL w M es' zs'->RdL w M (es++es') (zs++zs')
 | [],_,_,_,h,h'=>by simp only[RdL] at h;subst h;exact h'
 | p :: ps,_,_,_,h,h'=>by
  simp only[RdL] at h;obtain⟨y1,y2,e,h1,h2⟩:=h;subst e;simp only[List.cons_append,RdL]
  exact⟨y1,y2++_,by rw[an],h1,aJN h2 h'⟩
def cpy{α:Type}(l s:List α)(lo len:Nat):List α:=l.take lo++s.take (min s.length len)++l.drop (lo+min s.length len)
def srcC : AV->Option (Nat×List AV)
 | .v (.string t)=>some (1,(tB t).map k8)
 | v=>rE v
section
variable {P:Program} {T:TypeId→Option TI} {n:Fr}
theorem aOh{μ:Mem}{v:AV}{y:Value}{α:Type}{f:α->AV}{s:List α}(h:srcC v=some (1,s.map f))(hv:Rv μ v y) :
  (∀e∈s.map f,e.n=1)/\(Builtin.lenOf y).run P μ.w = .ok s.length μ.w/\∀c,c<=s.length->∃zs:List Value,RdL μ.w μ.M ((s.take c).map f) zs/\zs.length=c/\(Builtin.firstCells 1 c y).run P μ.w = .ok zs.toArray μ.w:=by
 unfold srcC at h;split at h
 ·rename_i t;simp only[Option.some.injEq,Prod.mk.injEq,true_and] at h;rw[tB,List.map_map] at h;have e:=bH hv;subst e;have hl:s.length=t.size:=by
   have:=congrArg md h;simpa using this.symm
  refine⟨?_,?_,?_⟩
  ·rw[<- h]
   intro e he;obtain⟨b,_,rfl⟩:=dh.1 he;rfl
  ·rw[hl];rfl
  ·intro c hc;refine⟨(t.data.toList.take c).map λb=>Value.int .u8 (b.toNat:Int),?_,?_,?_⟩
   ·rw[gr,<- h,<- gr]
    exact aB3 _
   ·rw[cg,bj]
    have:t.data.toList.length=t.size:=by simp
    omega
   ·simp only[Builtin.firstCells,Sem.run_pure]
    congr 1;rw[<- Array.toList_inj]
    simp[ByteArray.data_extract]
 ·obtain⟨ad,cap2,e1,e2,e3,e4⟩:=aCi (sB h hv)
  rw[cg] at e1;refine⟨e3,by rw[e1];rfl,λc hc=>?_⟩
  rcases e4 with e4 | ⟨b2,off2,zs,e5,e6,e7⟩
  ·have hs0:s=[]:=List.map_eq_nil_iff.1 e4;subst hs0;have hc0:c=0:=by simpa using hc
   subst hc0;refine⟨[],by simp[RdL],by simp,?_⟩
   rw[e1]
   cases ad with
   | none=>simp[Builtin.firstCells]
   | some q=>
    have:=run_loadCells_list (P:=P) μ.w q [] (by simp)
    simpa[Builtin.firstCells] using this
  ·obtain⟨r1,_,r3⟩:=aQr _ zs c e3 e6;rw[cg] at r3;have hlen:(zs.take c).length=c:=by rw[bj,r3];omega
   refine⟨zs.take c,by rw[gr];exact r1,hlen,?_⟩
   rw[e1,e5]
   have:=run_loadCells_list (P:=P) μ.w ⟨b2,off2,none⟩ (zs.take c) (λj v hv=>by
    rw[List.getElem?_take] at hv;split at hv
    ·rw[pV];exact(e7 j v hv).1
    ·cases hv)
   rw[hlen] at this;simpa[Builtin.firstCells,Nat.min_def] using this
def cpE(T:TypeId->Option TI)(o:Oper)(need:Env)(H:List Box):Option (Nat×List Nat×Nat×Nat×Nat×Nat×List AV×List AV):=
 match o.op with
 | .call { callee := .builtin .copy,args,argTypes }=>match args.toList,argTypes.toList with
  | [d,s],[dT,_]=>match opd need none d,opd need none s,T dT with
   | some (.bsl id path off k lo len),some v,some ⟨_,_,_,.sl e⟩=>match srcC v,T e,H[id]? with
    | some (k',ss),some ei,some (.var c)=>match loc c 0 path with
     | some (.arr N k2 es,o1)=>match bp k 1&&(bp k' 1&&(bp ei.size 1&&(bp k2 1&&bp o1 off))) with
      | true=>some (id,path,off,lo,len,N,es,ss)
      | false=>none
     | _=>none
    | _,_,_=>none
   | _,_,_=>none
  | _,_=>none
 | _=>none
def cpH(H:List Box)(id:Nat)(path:List Nat)(N:Nat)(es:List AV):Option (List Box):=
 match H[id]? with
 | some (.var c)=>match aAP c path (.arr N 1 es) with
  | some c'=>some (H.set id (.var c'))
  | none=>none
 | _=>none
theorem aSP(hT:TOK P T){α:Type}(f:α->AV){l s:List α}{id off lo len N:Nat}{path:List Nat}(hN:l.length=N)(hb:lo+len<=l.length){o:Oper}{need:Env}{H H':List Box}(hd:dOK n.n o.dst=true)
  (h:cpE T o need H=some (id,path,off,lo,len,N,l.map f,s.map f)) (hs:cpH H id path N ((cpy l s lo len).map f)=some H'):Big P n o need H (.v (.int .i64 ((min s.length len:Nat):Int))) H':=by
 unfold cpE at h;split at h <;> try cases h
 rename_i args tys ho;split at h <;> try cases h
 rename_i d sx dT sT hargs htys;split at h <;> try cases h
 rename_i id' path' off' k lo' len' v sz b1 z e hdv hsv hdT;split at h <;> try cases h
 rename_i k' ss ei c hes he hc;split at h <;> try cases h
 rename_i N' k2 es o1 hl;split at h <;> cases h;rename_i hk;simp only[Bool.and_eq_true] at hk;obtain⟨c1,c2,c3,c4,c5⟩:=hk;have c1:=ak c1;have c2:=ak c2;have c3:=ak c3;have c4:=ak c4;have c5:=ak c5;subst c1 c2 c4 c5;subst hN;unfold cpH at hs;rw[hc] at hs;simp only at hs;split at hs <;> cases hs;rename_i c' hset;refine cY hd λa μ ok hH hE=>?_;obtain⟨H0,bs,w,F⟩:=μ;dsimp only at hH;subst hH;have hrd:=aR hE noG hdv;simp only[Rv,Rv0,AV.isAgg,Rc,Bool.false_eq_true,if_false] at hrd;obtain⟨b,c0,cap,h1,h2,h3,h4⟩:=hrd;rw[hc] at h2;cases h2;simp only[List.cons.injEq,and_true] at h4;obtain⟨b',ys,U,g1,g2,g3⟩:=ok.box _ _ _ h1 hc;cases g1;obtain⟨pre,mid,post,k1,k2,k3,k4⟩:=rR _ _ 0 _ _ ys.toList hl g3;simp only[Rc] at k3;obtain⟨m1,m2,m3⟩:=k3;obtain⟨e3,hlo,hsrc⟩:=aOh (P:=P) hes (aR hE noG hsv)
 dsimp only at hlo hsrc;obtain⟨dd,hdd,hf⟩:=(hT dT _ hdT).kind;simp only[TK.fits] at hf;subst hf
 -- the cells that come
 have hz:∃zs:List Value,RdL w (⟨H0,bs,w,F⟩:Mem).M ((s.take (min s.length len)).map f) zs/\zs.length=min s.length len /\
   (Builtin.firstCells 1 (Nat.min s.length len) (a.eval sx)).run P w = .ok zs.toArray w:=by
  exact hsrc _ (Nat.min_le_left _ _)
 obtain⟨zs,z1,z2,z3⟩:=hz;have hcnt:min s.length len<=len:=Nat.min_le_right _ _;have hl2:=Rc.length _ _ g3;have hsz:(o1+lo*1)+0+zs.length<=ys.size:=by
  have:=congrArg md k1;rw[ai,ai,m1] at this;simp at this;omega
 have hst:=nU (P:=P) (T:=U) (b:=b) zs (o1+lo*1) 0 w ys g2 hsz (λv hv=>by
  have:=Rc.oneCell (μ:=⟨H0,bs,w,F⟩) (.arr zs.length 1 ((s.take (min s.length len)).map f)) zs (by
   simp only[Rc]
   exact⟨trivial,λe he=>e3 e (by obtain⟨q,hq,rfl⟩:=dh.1 he;exact dh.2 ⟨q,ce hq,rfl⟩),z1⟩)
  exact this v hv)
 have hmid:Rc ⟨H0,bs,w,F⟩ (.arr l.length 1 ((cpy l s lo len).map f)) (mid.take lo++zs++mid.drop (lo+min s.length len)):=by
  obtain⟨p1,_,p3⟩:=aQr _ mid lo m2 m3;obtain⟨_,p2,_⟩:=aQr _ mid (lo+min s.length len) m2 m3;simp only[Rc]
  refine⟨?_,λe he=>?_,?_⟩
  ·rw[ai,ai,bj,List.length_drop,m1,z2]
   omega
  ·obtain⟨q,hq,rfl⟩:=dh.1 he;unfold cpy at hq;rcases d9.1 hq with hq | hq
   ·rcases d9.1 hq with hq | hq
    ·exact m2 _ (dh.2 ⟨q,ce hq,rfl⟩)
    ·exact e3 _ (dh.2 ⟨q,ce hq,rfl⟩)
   ·exact m2 _ (dh.2 ⟨q,List.mem_of_mem_drop hq,rfl⟩)
  ·unfold cpy;rw[j8,j8,gr,List.map_drop]
   exact aJN (aJN p1 z1) p2
 obtain⟨r3,r4⟩:=k4 _ _ _ hset rfl hmid;refine⟨⟨H0.set _ (.var c'),bs,aZ w b (.cells (jM ys ((o1+lo*1)+0) zs) U (0,0)),F⟩,⟨.int .i64 ((min s.length len:Nat):Int),?_,tQ rfl,Ext.store h1 hc g2 ok,OK.store h1 hc g2 ok ?_⟩,rfl⟩
 ·have hA:args=#[d,sx]:=by have:=congrArg nj hargs;simpa using this
  have hB:tys=#[dT,sT]:=by have:=congrArg nj htys;simpa using this
  subst hA hB;have hsize:=lU (P:=P) hT he w;rw[c3] at hsize;have hcp:(Builtin.copy_ #[dT,sT] o.type #[a.eval d,a.eval sx]).run P w = .ok (.int .i64 ((min s.length len:Nat):Int)) (aZ w b (.cells (jM ys ((o1+lo*1)+0) zs) U (0,0))):=by
   rw[h4]
   simp only[Builtin.copy_,List.getElem?_toArray,List.getElem?_cons_zero,List.getElem?_cons_succ,Sem.run_bind,run_underlying hdd,Result.andThen_ok,hlo,hsize,z3,hst,Sem.run_pure]
   rfl
  obtain⟨cs,hex⟩:=mZ ho a.eval;rw[hex]
  rw[show Array.map a.eval #[d,sx]=#[a.eval d,a.eval sx] by simp]
  dsimp only;simp only[builtin,Sem.run_bind,hcp,Result.andThen_ok,Sem.run_pure]
 ·rw[oN _ _ _ hsz,k1]
  have e1:mh (o1+lo*1+0) (pre++mid++post)=pre++mid.take lo:=by
   rw[an,mj,List.take_of_length_le (by omega),mj,show o1+lo*1+0 - pre.length=lo by omega,m1,show lo - l.length=0 by omega]
   simp
  have e2:n5 (o1+lo*1+0+zs.length) (pre++mid++post)=mid.drop (lo+min s.length len)++post:=by
   rw[an,mn,List.drop_of_length_le (by omega),mn,show o1+lo*1+0+zs.length - pre.length=lo+min s.length len by omega,m1,show lo+min s.length len - l.length=0 by omega]
   simp
  rw[e1,e2]
  have e3:pre++mh lo mid++zs++(n5 (lo+min s.length len) mid++post)=pre++(mh lo mid++zs++n5 (lo+min s.length len) mid)++post:=by simp[an]
  rw[e3]
  exact r3
def cpV{α:Type}{m:Nat}(v:Vector α m)(s:List α)(lo len:Nat):Option (Vector α m):=
 if h:lo+len<=m then some ⟨(cpy v.toList s lo len).toArray,by unfold cpy;simp;omega⟩ else none
theorem cpV_t{α:Type}{m:Nat}{v r:Vector α m}{s:List α}{lo len:Nat}(h:cpV v s lo len=some r):lo+len<=m/\r.toList=cpy v.toList s lo len:=by
 unfold cpV at h;split at h <;> cases h;rename_i h0;exact⟨h0,rfl⟩
theorem aD2(hT:TOK P T){α:Type}(f:α->AV){m:Nat}{v r:Vector α m}{s:List α}{id off lo len:Nat}{path:List Nat}(hx:cpV v s lo len=some r){o:Oper}{need:Env}{H H':List Box}(hd:dOK n.n o.dst=true)
  (h:cpE T o need H=some (id,path,off,lo,len,m,v.toList.map f,s.map f)) (hs:cpH H id path m (r.toList.map f)=some H'):Big P n o need H (.v (.int .i64 ((min s.length len:Nat):Int))) H':=by
 obtain⟨h1,h2⟩:=cpV_t hx;rw[h2] at hs;exact aSP hT f (l:=v.toList) (N:=m) (by simp) (by simpa using h1) hd h hs
def aRy(m:Nat)(lo hi:Int):Option Unit:=cond (decide (0<=lo)&&(decide (lo<=hi)&&(decide (hi<=(m:Int))&&decide (lo < (m:Int))))) (some ()) none
theorem aRn(hT:TOK P T)(id:Nat)(path:List Nat)(of:Nat){m k:Nat}{lo hi:Int}{u:Unit}(hx:aRy m lo hi=some u){o:Oper}{need:Env}{H:List Box}(hd:dOK n.n o.dst=true)
  (h:slA T o need=some (.ref id path of,lo,hi,m,k)):Big P n o need H (.bsl id path of k lo.toNat (hi.toNat - lo.toNat)) H:=by
 unfold aRy at hx;cases hc:(decide (0<=lo)&&(decide (lo<=hi)&&(decide (hi<=(m:Int))&&decide (lo < (m:Int))))) with
 | false=>rw[hc] at hx;cases hx
 | true=>
  simp only[Bool.and_eq_true,decide_eq_true_eq] at hc;refine aGJ hT id path of (u:=()) ?_ hd h ?_
  ·unfold aE7;simp[hc.1,hc.2.1,hc.2.2.1]
  ·exact pR (by omega)
end
end Go.UK

open List renaming getElem?_eq_getElem→af,getElem?_set_ne→iy,getElem?_set_self→kc,length_map→cg
open Nat renaming beq→bp,le_of_ble_eq_true→cn
open Option renaming map_eq_some_iff→dm
namespace Go.UK
open Go
set_option linter.all false
variable [bL]
def sw(i j k:Nat):Nat:=match bp k i with | true=>j | false=>match bp k j with | true=>i | false=>k
theorem aNX{i j:Nat}(k:Nat):sw i j (sw i j k)=k:=by
 unfold sw;by_cases h1:k=i
 ·subst h1;simp;by_cases h:j=k
  ·subst h;simp
  ·rw[pR h]
 ·rw[pR h1]
  by_cases h2:k=j
  ·subst h2;simp
  ·rw[pR h2]
   simp only[pR h1,pR h2]
def swl{α:Type}(i j:Nat)(l:List α):List α:=match l[i]?,l[j]? with | some x,some y=>(l.set i y).set j x | _,_=>l
theorem aN1{α:Type}(i j:Nat)(l:List α):(swl i j l).length=l.length:=by unfold swl;split <;> simp
theorem aNa{α:Type}{i j:Nat}{l:List α}(hi:i < l.length)(hj:j < l.length)(k:Nat):(swl i j l)[k]? = l[sw i j k]? := by
 unfold swl;rw[af hi,af hj]
 unfold sw;by_cases h2:k=j
 ·subst h2;simp only[kc (show k < (l.set i l[k]).length by simpa using hj)]
  by_cases h1:k=i
  ·subst h1;simp[hi]
  ·rw[pR h1]
   simp[hi]
 ·simp only[iy (λe=>h2 e.symm)]
  by_cases h1:k=i
  ·subst h1;rw[kc hi]
   simp[hj]
  ·rw[iy (λe=>h1 e.symm),pR h1,pR h2]
def swE(f:Nat->Nat):Env->Env
 | []=>[]
 | (i,none) :: r=>(i,none) :: swE f r
 | (i,some (g,x)) :: r=>(i,some (g,ren f x)) :: swE f r
theorem aJu{f:Nat->Nat}:∀{env:Env} {i:Nat} {e:EV},bY (swE f env) i=some e->∃x,bY env i=some (e.1,x)/\e.2=ren f x
 | [],_,_,h=>by simp[swE,bY] at h
 | (j,none) :: r,i,e,h=>by
  simp only[swE,bY] at h ⊢;cases hb:bp j i with
  | true=>rw[hb] at h;cases h
  | false=>rw[hb] at h;exact aJu h
 | (j,some (g,x)) :: r,i,e,h=>by
  simp only[swE,bY] at h ⊢;cases hb:bp j i with
  | true=>rw[hb] at h;cases h;exact⟨x,rfl,rfl⟩
  | false=>rw[hb] at h;exact aJu h
def swS(i j:Nat)(st:ASt):ASt:=⟨swE (sw i j) st.env,(swl i j st.H).map (jS (sw i j))⟩
def swOK(n:Fr)(i j:Nat)(st:ASt):Bool:=Nat.ble n.lo i&&(Nat.ble n.lo j&&(Nat.blt i st.H.length&&(Nat.blt j st.H.length&&(match n.outs with | []=>true | _=>false))))
section
variable {P:Program} {n:Fr}
theorem aPg{st:ASt}{i j:Nat}(hk:swOK n i j st=true){ctx:Mem}{a:Act}{w:World}(h:Sat n ctx st a w):Sat n ctx (swS i j st) a w:=by
 obtain⟨bs,hm⟩:=h;obtain⟨env,H⟩:=st;unfold swOK at hk;simp only[Bool.and_eq_true] at hk;obtain⟨c1,c2,c3,c4,c5⟩:=hk;have c1:=cn c1;have c2:=cn c2;have c3:i < H.length:=cn c3;have c4:j < H.length:=cn c4;have hl:bs.length=H.length:=hm.ok.len;have hctx:=hm.low;have gH:∀k:Nat,((swl i j H).map (jS (sw i j)))[k]? = (H[sw i j k]?).map (jS (sw i j)):=λk=>by rw[List.getElem?_map,aNa c3 c4]
 have gB:∀k:Nat,(swl i j bs)[k]? = bs[sw i j k]? := λk=>aNa (by omega) (by omega) k;have fixd:∀k:Nat,k < ctx.H.length->sw i j k=k:=λk hk=>by unfold sw;rw[pR (by omega),pR (by omega)]
 have ownsub:∀b o,(⟨(swl i j H).map (jS (sw i j)),swl i j bs,w,ctx.F⟩:Mem).own b o->(⟨H,bs,w,ctx.F⟩:Mem).own b o:=by
  rintro b o ⟨k,h1,h2⟩
  dsimp only at h1 h2;rw[gB] at h1;rw[gH] at h2;refine⟨sw i j k,h1,?_⟩
  rcases h2 with ⟨x,h2,h3⟩ | ⟨m,h2,h3⟩
  ·obtain⟨y,g1,g2⟩:=dm.1 h2;subst g2;rw[yM] at h3;exact .inl ⟨y,g1,h3⟩
  ·obtain⟨y,g1,g2⟩:=dm.1 h2;cases y <;> simp only[jS] at g2 <;> cases g2;exact .inr ⟨m,g1,h3⟩
 have msub:∀b o,(⟨(swl i j H).map (jS (sw i j)),swl i j bs,w,ctx.F⟩:Mem).M b o->(⟨H,bs,w,ctx.F⟩:Mem).M b o:=by
  rintro b o (h | h)
  ·exact .inl h
  ·exact .inr (ownsub b o h)
 have back:aFv (sw i j) ⟨H,bs,w,ctx.F⟩ ⟨(swl i j H).map (jS (sw i j)),swl i j bs,w,ctx.F⟩:={
  w:=rfl,M:=msub
  box:=λk x hx=>by dsimp only at hx ⊢;rw[gH,aNX,hx];rfl
  bs:=λk o ho=>by dsimp only at ho ⊢;rw[gB,aNX,ho] }
 have keeps:=back.keeps;have ok:(⟨(swl i j H).map (jS (sw i j)),swl i j bs,w,ctx.F⟩:Mem).OK:={
  foreign:=hm.ok.foreign
  glob:=λg hg=>⟨(hm.ok.glob g hg).1,λo hM=>(hm.ok.glob g hg).2 o (msub _ _ hM)⟩
  clear:=λb o ho=>hm.ok.clear b o (ownsub b o ho)
  len:=by simp only[cg,aN1];exact hl
  box:=λk o x ho hx=>by
   dsimp only at ho hx;rw[gB] at ho;rw[gH] at hx;obtain⟨y,g1,g2⟩:=dm.1 hx;subst g2;have hb:=hm.ok.box _ o y ho g1;cases y with
   | dead=>trivial
   | var c=>
    obtain⟨b,ys,TT,e1,e2,e3⟩:=hb;exact⟨b,ys,TT,e1,e2,Rc.back back _ _ e3⟩
   | tail m=>exact hb
   | mp c0=>
    cases c0 with
    | kv kvs=>
     obtain⟨b,es',clock,e1,e2,e3⟩:=hb;exact⟨b,es',clock,e1,e2,e3.mono keeps⟩
    | it _ _=>exact hb
    | mi m=>
     obtain⟨b,c,t,e1,e2,e3⟩:=hb;exact⟨b,c,t,e1,e2,Rc.back back (.mp m) _ e3⟩
    | bl t e0 id' s=>
     obtain⟨b,p,v,e1,e2,ep,e3⟩:=hb;exact⟨b,p,v,e1,e2,ep,Rc.back back (.gro id' 1 s.size .all) _ e3.1,back.typd hm.ok.len e3.2⟩
   | loop r=>exact hb
   | gro q es=>
    obtain⟨g0,g1 | ⟨b,ys,U,g1,g2,y1,y2,g3,g4⟩⟩:=hb
    ·exact⟨g0,.inl g1⟩
    ·exact⟨g0,.inr ⟨b,ys,U,g1,g2,y1,y2,g3,RdL.mono keeps _ _ g4⟩⟩
  apart:=λp q b x y h1 h2 h3 h4 h5 h6=>by
   dsimp only at h1 h2 h3 h4;rw[gB] at h1 h2;rw[gH] at h3 h4;obtain⟨x0,g1,g2⟩:=dm.1 h3;obtain⟨y0,g3,g4⟩:=dm.1 h4;have:=hm.ok.apart _ _ b x0 y0 h1 h2 g1 g3 (λe=>h5 (by rw[<- g2,e];rfl)) (λe=>h6 (by rw[<- g4,e];rfl))
   have:=congrArg (sw i j) this;rwa[aNX,aNX] at this }
 have ext:Ext ctx ⟨(swl i j H).map (jS (sw i j)),swl i j bs,w,ctx.F⟩:={
  size:=hm.ext.size
  len:=by simp only[cg,aN1];exact hm.ext.len
  cells:=hm.ext.cells
  blocks:=hm.ext.blocks
  mm:=λb o hb ho=>hm.ext.mm b o hb (ownsub b o ho)
  same:=rfl
  vars:=λk c hc=>by
   obtain⟨⟨c',g1⟩,g2⟩:=hm.ext.vars k c hc;have hk:=fixd k (aX hc)
   refine⟨⟨ren (sw i j) c',?_⟩,?_⟩
   ·dsimp only at g1 ⊢;rw[gH,hk,g1];rfl
   ·dsimp only at g2 ⊢;rw[gB,hk];exact g2
  maps:=λk c hc=>by
   obtain⟨⟨c',g1⟩,g2⟩:=hm.ext.maps k c hc;have hk:=fixd k (aX hc)
   refine⟨⟨renM (sw i j) c',?_⟩,?_⟩
   ·dsimp only at g1 ⊢;rw[gH,hk,g1];rfl
   ·dsimp only at g2 ⊢;rw[gB,hk];exact g2
  loops:=λk c hc=>by
   obtain⟨⟨c',g1⟩,g2⟩:=hm.ext.loops k c hc;have hk:=fixd k (aX hc)
   refine⟨⟨c',?_⟩,?_⟩
   ·dsimp only at g1 ⊢;rw[gH,hk,g1];rfl
   ·dsimp only at g2 ⊢;rw[gB,hk];exact g2
  toks:=λk m' hi hx=>by
   have hk:=fixd k hi;dsimp only at hx;rw[gH,hk] at hx;obtain⟨y,g1,g2⟩:=dm.1 hx;cases y <;> simp only[jS] at g2 <;> cases g2;obtain⟨m,q1,q2,q3⟩:=hm.ext.toks k m' hi g1;refine⟨m,q1,q2,λe=>?_⟩
   obtain⟨r1,r2⟩:=q3 e;refine⟨?_,r2⟩
   dsimp only at r1 ⊢;rw[gB,hk];exact r1
  gros:=λk q es' hi hx=>by
   have hk:=fixd k hi;dsimp only at hx;rw[gH,hk] at hx;obtain⟨y,g1,g2⟩:=dm.1 hx;cases y <;> simp only[jS] at g2 <;> cases g2;obtain⟨m,q1,q2,q3⟩:=hm.ext.gros k q es' hi g1;refine⟨m,q1,q2,λe=>?_⟩
   obtain⟨r1,r2⟩:=q3 e;refine⟨?_,r2⟩
   dsimp only at r1 ⊢;rw[gB,hk];exact r1
  os:=hm.ext.os
  tape:=hm.ext.tape
  output:=hm.ext.output }
 refine⟨swl i j bs,{ h:=rfl,ok:=ok,ext:=ext,env := ?_,size:=hm.size,low:=hm.low,defers:=hm.defers,nod:=hm.nod,outs:=λp hp=>?_ }⟩
 ·intro k e he;obtain⟨x,g1,g2⟩:=aJu he;obtain⟨y,g3,g4⟩:=hm.env k _ g1;refine⟨y,g3,?_⟩
  unfold yF at *;rw[g2]
  split
  ·rename_i hn;rw[hn] at g4;exact aJs back g4
  ·rename_i q want hn;rw[hn] at g4;exact λhj=>aJs back (g4 hj)
 ·split at c5
  ·rename_i ho;rw[ho] at hp;cases hp
  ·cases c5
theorem aKb{t s:ASt}(i j:Nat)(hk:swOK n i j s=true)(h:JR n t (swS i j s)):JR n t s:=λctx a w hs=>h ctx a w (aPg hk hs)
end
end Go.UK

