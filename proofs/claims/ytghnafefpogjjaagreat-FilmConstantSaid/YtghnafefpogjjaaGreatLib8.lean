/- The own layer: abstract values, their memory, and the steps of the model over them: for any program. -/
import Derived.Test.YtghnafefpogjjaaGreatLib7
import Derived.Laws.CopyRow
open Go.Sem renaming run_bind→ak,run_pure→br
namespace Go.UK
open Go
set_option linter.all false
variable [cT]
section
variable {P:Program} {T:TypeId→Option TI} {n:Fr}
theorem aMk(hT:TOK P T){t e:TypeId}{sz b1:Nat}{z:AV}(ht:T t=some ⟨sz,b1,z,.sl e⟩)(ad:Option Addr)(ln cap:Nat)(w:World)(d:Nat) :
  (Op.equalIn (d+1) t (.slice ad ln cap) (.slice none 0 0)).run P w = .ok ad.isNone w:=by
 obtain⟨d,hd,hk⟩:=(hT t _ ht).kind;simp only[TK.fits] at hk;subst hk;unfold Op.equalIn;rw[ak,run_underlying hd]
 cases ad <;> rfl
theorem aOa(hT:TOK P T){t e:TypeId}{sz b1:Nat}{z:AV}(ht:T t=some ⟨sz,b1,z,.sl e⟩){x y:Operand}(ad:Option Addr)(ln cap:Nat)(w:World) :
  (do eqGuard .eql t x y (.slice ad ln cap) (.slice none 0 0);binOp .eql t (.slice ad ln cap) (.slice none 0 0):Sem Value).run P w = .ok (.bool ad.isNone) w:=by
 have he:(Op.equal t (.slice ad ln cap) (.slice none 0 0)).run P w = .ok ad.isNone w:=aMk hT ht ad ln cap w 9999;have e1:(if (!true)=true then pure () else pure ():Sem Unit).run P w = .ok () w:=rfl;simp only[eqGuard,binOp,ak]
 rw[show(Sem.run P (if (!true)=true then pure () else pure ()) w)=Result.ok () w from rfl]
 simp only[Result.andThen_ok,he,br]
theorem aRq(hT:TOK P T){ops:Array Oper}{o:Oper}{l:List Oper}{st:ASt}{K:ASt->Prop}{d t e k sz b1:Nat}{z x:AV}{es:List AV}
  (g1:o.guard=none) (hd1:o.dst=some d) (hn:Nat.ble n.n d=false) (ht:T t=some ⟨sz,b1,z,.sl e⟩) (h:eqE o st.env .eql=some (t,x,.v (.slice none 0 0))) (he:vG x=some (k,es))
  (h1:awl P n ops l K ⟨st.env.set d (none,.v (.bool false)),st.H⟩) (h2:es=[]->awl P n ops l K ⟨st.env.set d (none,.v (.bool true)),st.H⟩):awl P n ops (o :: l) K st:=by
 intro ctx a w hs;obtain⟨bs,hm⟩:=hs;obtain⟨xo,yo,t',ho,hx,hy⟩:=aEo h;have v1:=xX he (aZ hm.env noG hx)
 have v2:=cU (aZ hm.env noG hy)
 obtain⟨ad,cap,e1,e2,e3,e4⟩:=aIC v1;have hrun:(execOp a.eval o).run P w = .ok (.value (.bool ad.isNone)) w:=by
  have:=aOa (P:=P) hT ht (x:=xo) (y:=yo) ad es.length cap w;rw[ak] at this;simp only[execOp,ho,e1,v2,ak,this,Result.andThen_ok,br]
 have key:awl P n ops l K ⟨st.env.set d (none,.v (.bool ad.isNone)),st.H⟩:=by
  cases ad with
  | none=>
   refine h2 ?_;rcases e4 with e | ⟨b,off,zs,e,_⟩
   ·exact e
   ·cases e
  | some q=>exact h1
 refine wpListIn_step λK' hK'=>?_;rw[if_pos (by simp[Region.wanted,g1])]
 refine aEJ rfl (aFQ hrun) ?_;unfold Oper.wp;rw[hrun]
 simp only[Oper.upon]
 refine hK' _ _ (key ctx _ _ ?_)
 rw[hd1]
 exact(hm.put (Ext.refl _) hm.ok (aCd hn) (aAk rfl)).sat
end
end Go.UK

open Go.Sem renaming run_bind→ak,run_pure→br
namespace Go.UK
open Go
set_option linter.all false
variable [cT]
section
variable {P:Program} {T:TypeId→Option TI} {n:Fr}
def ptrK : AV->Option Bool
 | .ref .. => some true
 | .im _=>some true
 | .v (.pointer none)=>some false
 | _=>none
theorem aTm{μ:Mem}{x:AV}{y:Value}{b:Bool}(h:ptrK x=some b)(hr:Rv μ x y):∃p:Option Addr,y = .pointer p/\p.isSome=b:=by
 unfold ptrK at h;split at h <;> cases h
 ·simp only[Rv,Rv0,AV.isAgg,Rc,Bool.false_eq_true,if_false] at hr;obtain⟨b,c,_,_,e⟩:=hr;cases e;exact⟨_,rfl,rfl⟩
 ·simp only[Rv,Rv0,AV.isAgg,Rc,Bool.false_eq_true,if_false] at hr;obtain⟨b,off,zs,e,_⟩:=hr;cases e;exact⟨_,rfl,rfl⟩
 ·exact⟨none,cU hr,rfl⟩
theorem aL4(hT:TOK P T){t e:TypeId}{sz b1:Nat}{z:AV}(ht:T t=some ⟨sz,b1,z,.ptr e⟩)(p:Option Addr)(w:World)(d:Nat) :
  (Op.equalIn (d+1) t (.pointer p) (.pointer none)).run P w = .ok p.isNone w:=by
 obtain⟨d,hd,hk⟩:=(hT t _ ht).kind;simp only[TK.fits] at hk;subst hk;unfold Op.equalIn;rw[ak,run_underlying hd]
 cases p <;> rfl
theorem aOI(hT:TOK P T){t e:TypeId}{sz b1:Nat}{z:AV}(ht:T t=some ⟨sz,b1,z,.ptr e⟩){x y:Operand}(p:Option Addr)(w:World) :
  (do eqGuard .eql t x y (.pointer p) (.pointer none);binOp .eql t (.pointer p) (.pointer none):Sem Value).run P w = .ok (.bool p.isNone) w /\
  (do eqGuard .neq t x y (.pointer p) (.pointer none);binOp .neq t (.pointer p) (.pointer none):Sem Value).run P w = .ok (.bool !p.isNone) w:=by
 have he:(Op.equal t (.pointer p) (.pointer none)).run P w = .ok p.isNone w:=aL4 hT ht p w 9999;constructor <;>
 ·simp only[eqGuard,binOp,ak]
  rw[show(Sem.run P (if (!true)=true then pure () else pure ()) w)=Result.ok () w from rfl]
  simp only[Result.andThen_ok,he,br]
theorem aB1(hT:TOK P T){o:Oper}{need:Env}{H:List Box}{t e sz b1:Nat}{z x:AV}{b:Bool}(hd:dOK n.n o.dst=true)(ht:T t=some ⟨sz,b1,z,.ptr e⟩)(hx:ptrK x=some b)(h:eqE o need .eql=some (t,x,.v (.pointer none))):Big P n o need H (eB !b) H:=by
 obtain⟨xo,yo,t',ho,h1,h2⟩:=aEo h;refine fX hd λa μ ok hH hE=>?_;have v2:=cU (aZ hE noG h2)
 obtain⟨p,v1,hp⟩:=aTm hx (aZ hE noG h1)
 have:=(aOI (P:=P) hT ht (x:=xo) (y:=yo) p μ.w).1;rw[ak] at this;refine⟨μ,fY.here (y := .bool !b) ok ?_ (aAk rfl),hH⟩
 simp only[execOp,ho,v1,v2,ak,this,Result.andThen_ok,br]
 subst hp;cases p <;> rfl
end
end Go.UK

namespace Go.UK
open Go
set_option linter.all false
variable [cT]
section
variable {P:Program} {T:TypeId→Option TI} {n:Fr}
end
end Go.UK

open List renaming append_assoc→av,drop→kw,drop_append→kx,length→li,length_append→am,length_map→bd,length_take→bn,map_append→dc,map_take→fp,mem_append→au,mem_map→d7,mem_of_mem_take→cf,take→lc,take_append→ku,toArray→kt
open Nat renaming beq→ar,eq_of_beq_eq_true→ag
namespace Go.UK
open Go
set_option linter.all false
variable [cT]
theorem rdl1{w:World}{M:Nat->Nat->Prop}:∀(es:List AV) (zs:List Value) (j:Nat),(∀e∈es,e.n=1)->RdL w M es zs->RdL w M (es.take j) (zs.take j)/\RdL w M (es.drop j) (zs.drop j)/\zs.length=es.length
 | [],zs,j,_,h=>by
  simp only[RdL] at h;subst h;simp[RdL]
 | p :: ps,zs,j,hn,h=>by
  simp only[RdL] at h;obtain⟨y1,y2,e,h1,h2⟩:=h;have hl:y1.length=1:=by
   have:=Rc.length (μ:=⟨[],[],w,M⟩) p y1 (Rd.rc _ _ (Rd.mono (λb o y h1 h2=>⟨h1,λh3=>h2 (by
    rcases h3 with h3 | ⟨id,h3,_⟩
    ·exact h3
    ·simp at h3)⟩) _ _ h1))
   rw[this,hn p (by simp)]
  match y1,hl with
  | [y],_=>
   subst e;obtain⟨g1,g2,g3⟩:=rdl1 ps y2 (j - 1) (λe he=>hn e (by simp[he])) h2;cases j with
   | zero=>
    refine⟨by simp[RdL],?_,by simp[g3]⟩
    simp only[List.drop_zero,RdL]
    exact⟨[y],y2,rfl,h1,h2⟩
   | succ j=>
    simp only[Nat.add_sub_cancel] at g1 g2;refine⟨?_,g2,by simp[g3]⟩
    simp only[List.take_succ_cons,List.singleton_append,RdL]
    exact⟨[y],y2.take j,rfl,h1,g1⟩
theorem aGZ{w:World}{M:Nat->Nat->Prop}:∀{es es':List AV} {zs zs':List Value},RdL w M es zs->RdL w M es' zs'->RdL w M (es++es') (zs++zs')
 | [],_,_,_,h,h'=>by simp only[RdL] at h;subst h;exact h'
 | p :: ps,_,_,_,h,h'=>by
  simp only[RdL] at h;obtain⟨y1,y2,e,h1,h2⟩:=h;subst e;simp only[List.cons_append,RdL]
  exact⟨y1,y2++_,by rw[av],h1,aGZ h2 h'⟩
def cpy{α:Type}(l s:List α)(lo len:Nat):List α:=l.take lo++s.take (min s.length len)++l.drop (lo+min s.length len)
def srcC : AV->Option (Nat×List AV)
 | .v (.string t)=>some (1,(aMb t).map k8)
 | v=>vG v
section
variable {P:Program} {T:TypeId→Option TI} {n:Fr}
theorem aO4{μ:Mem}{v:AV}{y:Value}{α:Type}{f:α->AV}{s:List α}(h:srcC v=some (1,s.map f))(hv:Rv μ v y) :
  (∀e∈s.map f,e.n=1)/\(Builtin.lenOf y).run P μ.w = .ok s.length μ.w/\∀c,c<=s.length->∃zs:List Value,RdL μ.w μ.M ((s.take c).map f) zs/\zs.length=c/\(Builtin.firstCells 1 c y).run P μ.w = .ok zs.toArray μ.w:=by
 unfold srcC at h;split at h
 ·rename_i t;simp only[Option.some.injEq,Prod.mk.injEq,true_and] at h;rw[aMb,List.map_map] at h;have e:=cU hv;subst e;have hl:s.length=t.size:=by
   have:=congrArg li h;simpa using this.symm
  refine⟨?_,?_,?_⟩
  ·rw[<- h]
   intro e he;obtain⟨b,_,rfl⟩:=d7.1 he;rfl
  ·rw[hl];rfl
  ·intro c hc;refine⟨(t.data.toList.take c).map λb=>Value.int .u8 (b.toNat:Int),?_,?_,?_⟩
   ·rw[fp,<- h,<- fp]
    exact aFJ _
   ·rw[bd,bn]
    have:t.data.toList.length=t.size:=by simp
    omega
   ·simp only[Builtin.firstCells,Sem.run_pure]
    congr 1;rw[<- Array.toList_inj]
    simp[ByteArray.data_extract]
 ·obtain⟨ad,cap2,e1,e2,e3,e4⟩:=aIC (xX h hv)
  rw[bd] at e1;refine⟨e3,by rw[e1];rfl,λc hc=>?_⟩
  rcases e4 with e4 | ⟨b2,off2,zs,e5,e6,e7⟩
  ·have hs0:s=[]:=List.map_eq_nil_iff.1 e4;subst hs0;have hc0:c=0:=by simpa using hc
   subst hc0;refine⟨[],by simp[RdL],by simp,?_⟩
   rw[e1]
   cases ad with
   | none=>simp[Builtin.firstCells]
   | some q=>
    have:=run_loadCells_list (P:=P) μ.w q [] (by simp)
    simpa[Builtin.firstCells] using this
  ·obtain⟨r1,_,r3⟩:=rdl1 _ zs c e3 e6;rw[bd] at r3;have hlen:(zs.take c).length=c:=by rw[bn,r3];omega
   refine⟨zs.take c,by rw[fp];exact r1,hlen,?_⟩
   rw[e1,e5]
   have:=run_loadCells_list (P:=P) μ.w ⟨b2,off2,none⟩ (zs.take c) (λj v hv=>by
    rw[List.getElem?_take] at hv;split at hv
    ·rw[nY];exact(e7 j v hv).1
    ·cases hv)
   rw[hlen] at this;simpa[Builtin.firstCells,Nat.min_def] using this
def cpE(T:TypeId->Option TI)(o:Oper)(need:Env)(H:List Box):Option (Nat×List Nat×Nat×Nat×Nat×Nat×List AV×List AV):=
 match o.op with
 | .call { callee := .builtin .copy,args,argTypes }=>match args.toList,argTypes.toList with
  | [d,s],[dT,_]=>match opd need none d,opd need none s,T dT with
   | some (.bsl id path off k lo len),some v,some ⟨_,_,_,.sl e⟩=>match srcC v,T e,H[id]? with
    | some (k',ss),some ei,some (.var c)=>match loc c 0 path with
     | some (.arr N k2 es,o1)=>match ar k 1&&(ar k' 1&&(ar ei.size 1&&(ar k2 1&&ar o1 off))) with
      | true=>some (id,path,off,lo,len,N,es,ss)
      | false=>none
     | _=>none
    | _,_,_=>none
   | _,_,_=>none
  | _,_=>none
 | _=>none
def cpH(H:List Box)(id:Nat)(path:List Nat)(N:Nat)(es:List AV):Option (List Box):=
 match H[id]? with
 | some (.var c)=>match aCO c path (.arr N 1 es) with
  | some c'=>some (H.set id (.var c'))
  | none=>none
 | _=>none
theorem aRP(hT:TOK P T){α:Type}(f:α->AV){l s:List α}{id off lo len N:Nat}{path:List Nat}(hN:l.length=N)(hb:lo+len<=l.length){o:Oper}{need:Env}{H H':List Box}(hd:dOK n.n o.dst=true)
  (h:cpE T o need H=some (id,path,off,lo,len,N,l.map f,s.map f)) (hs:cpH H id path N ((cpy l s lo len).map f)=some H'):Big P n o need H (.v (.int .i64 ((min s.length len:Nat):Int))) H':=by
 unfold cpE at h;split at h <;> try cases h
 rename_i args tys ho;split at h <;> try cases h
 rename_i d sx dT sT hargs htys;split at h <;> try cases h
 rename_i id' path' off' k lo' len' v sz b1 z e hdv hsv hdT;split at h <;> try cases h
 rename_i k' ss ei c hes he hc;split at h <;> try cases h
 rename_i N' k2 es o1 hl;split at h <;> cases h;rename_i hk;simp only[Bool.and_eq_true] at hk;obtain⟨c1,c2,c3,c4,c5⟩:=hk;have c1:=ag c1;have c2:=ag c2;have c3:=ag c3;have c4:=ag c4;have c5:=ag c5;subst c1 c2 c4 c5;subst hN;unfold cpH at hs;rw[hc] at hs;simp only at hs;split at hs <;> cases hs;rename_i c' hset;refine fX hd λa μ ok hH hE=>?_;obtain⟨H0,bs,w,F⟩:=μ;dsimp only at hH;subst hH;have hrd:=aZ hE noG hdv;simp only[Rv,Rv0,AV.isAgg,Rc,Bool.false_eq_true,if_false] at hrd;obtain⟨b,c0,cap,h1,h2,h3,h4⟩:=hrd;rw[hc] at h2;cases h2;simp only[List.cons.injEq,and_true] at h4;obtain⟨b',ys,U,g1,g2,g3⟩:=ok.box _ _ _ h1 hc;cases g1;obtain⟨pre,mid,post,k1,k2,k3,k4⟩:=tA _ _ 0 _ _ ys.toList hl g3;simp only[Rc] at k3;obtain⟨m1,m2,m3⟩:=k3;obtain⟨e3,hlo,hsrc⟩:=aO4 (P:=P) hes (aZ hE noG hsv)
 dsimp only at hlo hsrc;obtain⟨dd,hdd,hf⟩:=(hT dT _ hdT).kind;simp only[TK.fits] at hf;subst hf
 -- the cells that come
 have hz:∃zs:List Value,RdL w (⟨H0,bs,w,F⟩:Mem).M ((s.take (min s.length len)).map f) zs/\zs.length=min s.length len /\
   (Builtin.firstCells 1 (Nat.min s.length len) (a.eval sx)).run P w = .ok zs.toArray w:=by
  exact hsrc _ (Nat.min_le_left _ _)
 obtain⟨zs,z1,z2,z3⟩:=hz;have hcnt:min s.length len<=len:=Nat.min_le_right _ _;have hl2:=Rc.length _ _ g3;have hsz:(o1+lo*1)+0+zs.length<=ys.size:=by
  have:=congrArg li k1;rw[am,am,m1] at this;simp at this;omega
 have hst:=kW (P:=P) (T:=U) (b:=b) zs (o1+lo*1) 0 w ys g2 hsz (λv hv=>by
  have:=Rc.oneCell (μ:=⟨H0,bs,w,F⟩) (.arr zs.length 1 ((s.take (min s.length len)).map f)) zs (by
   simp only[Rc]
   exact⟨trivial,λe he=>e3 e (by obtain⟨q,hq,rfl⟩:=d7.1 he;exact d7.2 ⟨q,cf hq,rfl⟩),z1⟩)
  exact this v hv)
 have hmid:Rc ⟨H0,bs,w,F⟩ (.arr l.length 1 ((cpy l s lo len).map f)) (mid.take lo++zs++mid.drop (lo+min s.length len)):=by
  obtain⟨p1,_,p3⟩:=rdl1 _ mid lo m2 m3;obtain⟨_,p2,_⟩:=rdl1 _ mid (lo+min s.length len) m2 m3;simp only[Rc]
  refine⟨?_,λe he=>?_,?_⟩
  ·rw[am,am,bn,List.length_drop,m1,z2]
   omega
  ·obtain⟨q,hq,rfl⟩:=d7.1 he;unfold cpy at hq;rcases au.1 hq with hq | hq
   ·rcases au.1 hq with hq | hq
    ·exact m2 _ (d7.2 ⟨q,cf hq,rfl⟩)
    ·exact e3 _ (d7.2 ⟨q,cf hq,rfl⟩)
   ·exact m2 _ (d7.2 ⟨q,List.mem_of_mem_drop hq,rfl⟩)
  ·unfold cpy;rw[dc,dc,fp,List.map_drop]
   exact aGZ (aGZ p1 z1) p2
 obtain⟨r3,r4⟩:=k4 _ _ _ hset rfl hmid;refine⟨⟨H0.set _ (.var c'),bs,bO w b (.cells (iG ys ((o1+lo*1)+0) zs) U (0,0)),F⟩,⟨.int .i64 ((min s.length len:Nat):Int),?_,aAk rfl,Ext.store h1 hc g2 ok,OK.store h1 hc g2 ok ?_⟩,rfl⟩
 ·have hA:args=#[d,sx]:=by have:=congrArg kt hargs;simpa using this
  have hB:tys=#[dT,sT]:=by have:=congrArg kt htys;simpa using this
  subst hA hB;have hsize:=lH (P:=P) hT he w;rw[c3] at hsize;have hcp:(Builtin.copy_ #[dT,sT] o.type #[a.eval d,a.eval sx]).run P w = .ok (.int .i64 ((min s.length len:Nat):Int)) (bO w b (.cells (iG ys ((o1+lo*1)+0) zs) U (0,0))):=by
   rw[h4]
   simp only[Builtin.copy_,List.getElem?_toArray,List.getElem?_cons_zero,List.getElem?_cons_succ,Sem.run_bind,run_underlying hdd,Result.andThen_ok,hlo,hsize,z3,hst,Sem.run_pure]
   rfl
  obtain⟨cs,hex⟩:=kD ho a.eval;rw[hex]
  rw[show Array.map a.eval #[d,sx]=#[a.eval d,a.eval sx] by simp]
  dsimp only;simp only[builtin,Sem.run_bind,hcp,Result.andThen_ok,Sem.run_pure]
 ·rw[mG _ _ _ hsz,k1]
  have e1:lc (o1+lo*1+0) (pre++mid++post)=pre++mid.take lo:=by
   rw[av,ku,List.take_of_length_le (by omega),ku,show o1+lo*1+0 - pre.length=lo by omega,m1,show lo - l.length=0 by omega]
   simp
  have e2:kw (o1+lo*1+0+zs.length) (pre++mid++post)=mid.drop (lo+min s.length len)++post:=by
   rw[av,kx,List.drop_of_length_le (by omega),kx,show o1+lo*1+0+zs.length - pre.length=lo+min s.length len by omega,m1,show lo+min s.length len - l.length=0 by omega]
   simp
  rw[e1,e2]
  have e3:pre++lc lo mid++zs++(kw (lo+min s.length len) mid++post)=pre++(lc lo mid++zs++kw (lo+min s.length len) mid)++post:=by simp[av]
  rw[e3]
  exact r3
def cpV{α:Type}{m:Nat}(v:Vector α m)(s:List α)(lo len:Nat):Option (Vector α m):=
 if h:lo+len<=m then some ⟨(cpy v.toList s lo len).toArray,by unfold cpy;simp;omega⟩ else none
theorem cpV_t{α:Type}{m:Nat}{v r:Vector α m}{s:List α}{lo len:Nat}(h:cpV v s lo len=some r):lo+len<=m/\r.toList=cpy v.toList s lo len:=by
 unfold cpV at h;split at h <;> cases h;rename_i h0;exact⟨h0,rfl⟩
theorem aQo(hT:TOK P T){α:Type}(f:α->AV){m:Nat}{v r:Vector α m}{s:List α}{id off lo len:Nat}{path:List Nat}(hx:cpV v s lo len=some r){o:Oper}{need:Env}{H H':List Box}(hd:dOK n.n o.dst=true)
  (h:cpE T o need H=some (id,path,off,lo,len,m,v.toList.map f,s.map f)) (hs:cpH H id path m (r.toList.map f)=some H'):Big P n o need H (.v (.int .i64 ((min s.length len:Nat):Int))) H':=by
 obtain⟨h1,h2⟩:=cpV_t hx;rw[h2] at hs;exact aRP hT f (l:=v.toList) (N:=m) (by simp) (by simpa using h1) hd h hs
end
end Go.UK

namespace Go.UK
open Go
set_option linter.all false
variable [cT]
def sw(i j k:Nat):Nat:=match Nat.beq k i with | true=>j | false=>match Nat.beq k j with | true=>i | false=>k
def swE(f:Nat->Nat):Env->Env
 | []=>[]
 | (i,none) :: r=>(i,none) :: swE f r
 | (i,some (g,x)) :: r=>(i,some (g,ren f x)) :: swE f r
section
variable {P:Program} {n:Fr}
end
end Go.UK

