/- The own layer: abstract values, their memory, and the steps of the model over them: for any program. -/
import Derived.Test.YtfndgielkmppbaaDoorLib7
import Derived.Laws.CopyRow
open Go.Sem renaming run_bind→ar,run_pure→ba
namespace Go.UK
open Go
set_option linter.all false
variable [bA]
section
variable {P:Program} {T:TypeId→Option TI} {n:Fr}
theorem aAG(hT:TOK P T){t e:TypeId}{sz b1:Nat}{z:AV}(ht:T t=some ⟨sz,b1,z,.sl e⟩)(ad:Option Addr)(ln cap:Nat)(w:World)(d:Nat) :
  (Op.equalIn (d+1) t (.slice ad ln cap) (.slice none 0 0)).run P w = .ok ad.isNone w:=by
 obtain⟨d,hd,hk⟩:=(hT t _ ht).kind;simp only[TK.fits] at hk;subst hk;unfold Op.equalIn;rw[ar,run_underlying hd]
 cases ad <;> rfl
theorem aCH(hT:TOK P T){t e:TypeId}{sz b1:Nat}{z:AV}(ht:T t=some ⟨sz,b1,z,.sl e⟩){x y:Operand}(ad:Option Addr)(ln cap:Nat)(w:World) :
  (do eqGuard .eql t x y (.slice ad ln cap) (.slice none 0 0);binOp .eql t (.slice ad ln cap) (.slice none 0 0):Sem Value).run P w = .ok (.bool ad.isNone) w:=by
 have he:(Op.equal t (.slice ad ln cap) (.slice none 0 0)).run P w = .ok ad.isNone w:=aAG hT ht ad ln cap w 9999;have e1:(if (!true)=true then pure () else pure ():Sem Unit).run P w = .ok () w:=rfl;simp only[eqGuard,binOp,ar]
 rw[show(Sem.run P (if (!true)=true then pure () else pure ()) w)=Result.ok () w from rfl]
 simp only[Result.andThen_ok,he,ba]
theorem aE4(hT:TOK P T){ops:Array Oper}{o:Oper}{l:List Oper}{st:ASt}{K:ASt->Prop}{d t e k sz b1:Nat}{z x:AV}{es:List AV}
  (g1:o.guard=none) (hd1:o.dst=some d) (hn:Nat.ble n.n d=false) (ht:T t=some ⟨sz,b1,z,.sl e⟩) (h:eqE o st.env .eql=some (t,x,.v (.slice none 0 0))) (he:iY x=some (k,es))
  (h1:awl P n ops l K ⟨st.env.set d (none,.v (.bool false)),st.H⟩) (h2:es=[]->awl P n ops l K ⟨st.env.set d (none,.v (.bool true)),st.H⟩):awl P n ops (o :: l) K st:=by
 intro ctx a w hs;obtain⟨bs,hm⟩:=hs;obtain⟨xo,yo,t',ho,hx,hy⟩:=aDw h;have v1:=kJ he (aY hm.env noG hx)
 have v2:=bH (aY hm.env noG hy)
 obtain⟨ad,cap,e1,e2,e3,e4⟩:=sL v1;have hrun:(execOp a.eval o).run P w = .ok (.value (.bool ad.isNone)) w:=by
  have:=aCH (P:=P) hT ht (x:=xo) (y:=yo) ad es.length cap w;rw[ar] at this;simp only[execOp,ho,e1,v2,ar,this,Result.andThen_ok,ba]
 have key:awl P n ops l K ⟨st.env.set d (none,.v (.bool ad.isNone)),st.H⟩:=by
  cases ad with
  | none=>
   refine h2 ?_;rcases e4 with e | ⟨b,off,zs,e,_⟩
   ·exact e
   ·cases e
  | some q=>exact h1
 refine wpListIn_step λK' hK'=>?_;rw[if_pos (by simp[Region.wanted,g1])]
 refine oZ rfl (qA hrun) ?_;unfold Oper.wp;rw[hrun]
 simp only[Oper.upon]
 refine hK' _ _ (key ctx _ _ ?_)
 rw[hd1]
 exact(hm.put (Ext.refl _) hm.ok (mZ hn) (lN rfl)).sat
end
end Go.UK

namespace Go.UK
open Go
set_option linter.all false
variable [bA]
section
variable {P:Program} {T:TypeId→Option TI} {n:Fr}
end
end Go.UK

namespace Go.UK
open Go
set_option linter.all false
variable [bA]
section
variable {P:Program} {T:TypeId→Option TI} {n:Fr}
end
end Go.UK

namespace Go.UK
open Go
set_option linter.all false
variable [bA]
section
variable {P:Program} {T:TypeId→Option TI} {n:Fr}
end
end Go.UK

open List renaming getElem?_eq_getElem→af,getElem?_set_ne→dk,getElem?_set_self→dq,length_map→bx
open Nat renaming beq→az,le_of_ble_eq_true→bm
open Option renaming map_eq_some_iff→ay
namespace Go.UK
open Go
set_option linter.all false
variable [bA]
def sw(i j k:Nat):Nat:=match az k i with | true=>j | false=>match az k j with | true=>i | false=>k
theorem rB{i j:Nat}(k:Nat):sw i j (sw i j k)=k:=by
 unfold sw;by_cases h1:k=i
 ·subst h1;simp;by_cases h:j=k
  ·subst h;simp
  ·rw[hK h]
 ·rw[hK h1]
  by_cases h2:k=j
  ·subst h2;simp
  ·rw[hK h2]
   simp only[hK h1,hK h2]
def swl{α:Type}(i j:Nat)(l:List α):List α:=match l[i]?,l[j]? with | some x,some y=>(l.set i y).set j x | _,_=>l
theorem rY{α:Type}(i j:Nat)(l:List α):(swl i j l).length=l.length:=by unfold swl;split <;> simp
theorem rS{α:Type}{i j:Nat}{l:List α}(hi:i < l.length)(hj:j < l.length)(k:Nat):(swl i j l)[k]? = l[sw i j k]? := by
 unfold swl;rw[af hi,af hj]
 unfold sw;by_cases h2:k=j
 ·subst h2;simp only[dq (show k < (l.set i l[k]).length by simpa using hj)]
  by_cases h1:k=i
  ·subst h1;simp[hi]
  ·rw[hK h1]
   simp[hi]
 ·simp only[dk (λe=>h2 e.symm)]
  by_cases h1:k=i
  ·subst h1;rw[dq hi]
   simp[hj]
  ·rw[dk (λe=>h1 e.symm),hK h1,hK h2]
def swE(f:Nat->Nat):Env->Env
 | []=>[]
 | (i,none) :: r=>(i,none) :: swE f r
 | (i,some (g,x)) :: r=>(i,some (g,ren f x)) :: swE f r
theorem rU{f:Nat->Nat}:∀{env:Env} {i:Nat} {e:EV},bI (swE f env) i=some e->∃x,bI env i=some (e.1,x)/\e.2=ren f x
 | [],_,_,h=>by simp[swE,bI] at h
 | (j,none) :: r,i,e,h=>by
  simp only[swE,bI] at h ⊢;cases hb:az j i with
  | true=>rw[hb] at h;cases h
  | false=>rw[hb] at h;exact rU h
 | (j,some (g,x)) :: r,i,e,h=>by
  simp only[swE,bI] at h ⊢;cases hb:az j i with
  | true=>rw[hb] at h;cases h;exact⟨x,rfl,rfl⟩
  | false=>rw[hb] at h;exact rU h
def swS(i j:Nat)(st:ASt):ASt:=⟨swE (sw i j) st.env,(swl i j st.H).map (cY (sw i j))⟩
def aC6(n:Fr)(i j:Nat)(st:ASt):Bool:=Nat.ble n.lo i&&(Nat.ble n.lo j&&(Nat.blt i st.H.length&&(Nat.blt j st.H.length&&(match n.outs with | []=>true | _=>false))))
section
variable {P:Program} {n:Fr}
theorem aAs{st:ASt}{i j:Nat}(hk:aC6 n i j st=true){ctx:Mem}{a:Act}{w:World}(h:Sat n ctx st a w):Sat n ctx (swS i j st) a w:=by
 obtain⟨bs,hm⟩:=h;obtain⟨env,H⟩:=st;unfold aC6 at hk;simp only[Bool.and_eq_true] at hk;obtain⟨c1,c2,c3,c4,c5⟩:=hk;have c1:=bm c1;have c2:=bm c2;have c3:i < H.length:=bm c3;have c4:j < H.length:=bm c4;have hl:bs.length=H.length:=hm.ok.len;have hctx:=hm.low;have gH:∀k:Nat,((swl i j H).map (cY (sw i j)))[k]? = (H[sw i j k]?).map (cY (sw i j)):=λk=>by rw[List.getElem?_map,rS c3 c4]
 have gB:∀k:Nat,(swl i j bs)[k]? = bs[sw i j k]? := λk=>rS (by omega) (by omega) k;have fixd:∀k:Nat,k < ctx.H.length->sw i j k=k:=λk hk=>by unfold sw;rw[hK (by omega),hK (by omega)]
 have ownsub:∀b o,(⟨(swl i j H).map (cY (sw i j)),swl i j bs,w,ctx.F⟩:Mem).own b o->(⟨H,bs,w,ctx.F⟩:Mem).own b o:=by
  rintro b o ⟨k,h1,h2⟩
  dsimp only at h1 h2;rw[gB] at h1;rw[gH] at h2;refine⟨sw i j k,h1,?_⟩
  rcases h2 with ⟨x,h2,h3⟩ | ⟨m,h2,h3⟩
  ·obtain⟨y,g1,g2⟩:=ay.1 h2;subst g2;rw[jE] at h3;exact .inl ⟨y,g1,h3⟩
  ·obtain⟨y,g1,g2⟩:=ay.1 h2;cases y <;> simp only[cY] at g2 <;> cases g2;exact .inr ⟨m,g1,h3⟩
 have msub:∀b o,(⟨(swl i j H).map (cY (sw i j)),swl i j bs,w,ctx.F⟩:Mem).M b o->(⟨H,bs,w,ctx.F⟩:Mem).M b o:=by
  rintro b o (h | h)
  ·exact .inl h
  ·exact .inr (ownsub b o h)
 have back:uI (sw i j) ⟨H,bs,w,ctx.F⟩ ⟨(swl i j H).map (cY (sw i j)),swl i j bs,w,ctx.F⟩:={
  w:=rfl,M:=msub
  box:=λk x hx=>by dsimp only at hx ⊢;rw[gH,rB,hx];rfl
  bs:=λk o ho=>by dsimp only at ho ⊢;rw[gB,rB,ho] }
 have keeps:=back.keeps;have ok:(⟨(swl i j H).map (cY (sw i j)),swl i j bs,w,ctx.F⟩:Mem).OK:={
  foreign:=hm.ok.foreign
  glob:=λg hg=>⟨(hm.ok.glob g hg).1,λo hM=>(hm.ok.glob g hg).2 o (msub _ _ hM)⟩
  clear:=λb o ho=>hm.ok.clear b o (ownsub b o ho)
  len:=by simp only[bx,rY];exact hl
  box:=λk o x ho hx=>by
   dsimp only at ho hx;rw[gB] at ho;rw[gH] at hx;obtain⟨y,g1,g2⟩:=ay.1 hx;subst g2;have hb:=hm.ok.box _ o y ho g1;cases y with
   | dead=>trivial
   | var c=>
    obtain⟨b,ys,TT,e1,e2,e3⟩:=hb;exact⟨b,ys,TT,e1,e2,Rc.back back _ _ e3⟩
   | tail m=>exact hb
   | mp c0=>
    cases c0 with
    | kv kvs=>
     obtain⟨b,es',clock,e1,e2,e3⟩:=hb;exact⟨b,es',clock,e1,e2,e3.mono keeps⟩
    | it _ _=>exact hb
   | loop r=>exact hb
   | gro q es=>
    obtain⟨g0,g1 | ⟨b,ys,U,g1,g2,y1,y2,g3,g4⟩⟩:=hb
    ·exact⟨g0,.inl g1⟩
    ·exact⟨g0,.inr ⟨b,ys,U,g1,g2,y1,y2,g3,RdL.mono keeps _ _ g4⟩⟩
  apart:=λp q b x y h1 h2 h3 h4 h5 h6=>by
   dsimp only at h1 h2 h3 h4;rw[gB] at h1 h2;rw[gH] at h3 h4;obtain⟨x0,g1,g2⟩:=ay.1 h3;obtain⟨y0,g3,g4⟩:=ay.1 h4;have:=hm.ok.apart _ _ b x0 y0 h1 h2 g1 g3 (λe=>h5 (by rw[<- g2,e];rfl)) (λe=>h6 (by rw[<- g4,e];rfl))
   have:=congrArg (sw i j) this;rwa[rB,rB] at this }
 have ext:Ext ctx ⟨(swl i j H).map (cY (sw i j)),swl i j bs,w,ctx.F⟩:={
  size:=hm.ext.size
  len:=by simp only[bx,rY];exact hm.ext.len
  cells:=hm.ext.cells
  blocks:=hm.ext.blocks
  mm:=λb o hb ho=>hm.ext.mm b o hb (ownsub b o ho)
  same:=rfl
  vars:=λk c hc=>by
   obtain⟨⟨c',g1⟩,g2⟩:=hm.ext.vars k c hc;have hk:=fixd k (aO hc)
   refine⟨⟨ren (sw i j) c',?_⟩,?_⟩
   ·dsimp only at g1 ⊢;rw[gH,hk,g1];rfl
   ·dsimp only at g2 ⊢;rw[gB,hk];exact g2
  maps:=λk c hc=>by
   obtain⟨⟨c',g1⟩,g2⟩:=hm.ext.maps k c hc;have hk:=fixd k (aO hc)
   refine⟨⟨c',?_⟩,?_⟩
   ·dsimp only at g1 ⊢;rw[gH,hk,g1];rfl
   ·dsimp only at g2 ⊢;rw[gB,hk];exact g2
  loops:=λk c hc=>by
   obtain⟨⟨c',g1⟩,g2⟩:=hm.ext.loops k c hc;have hk:=fixd k (aO hc)
   refine⟨⟨c',?_⟩,?_⟩
   ·dsimp only at g1 ⊢;rw[gH,hk,g1];rfl
   ·dsimp only at g2 ⊢;rw[gB,hk];exact g2
  toks:=λk m' hi hx=>by
   have hk:=fixd k hi;dsimp only at hx;rw[gH,hk] at hx;obtain⟨y,g1,g2⟩:=ay.1 hx;cases y <;> simp only[cY] at g2 <;> cases g2;obtain⟨m,q1,q2,q3⟩:=hm.ext.toks k m' hi g1;refine⟨m,q1,q2,λe=>?_⟩
   obtain⟨r1,r2⟩:=q3 e;refine⟨?_,r2⟩
   dsimp only at r1 ⊢;rw[gB,hk];exact r1
  gros:=λk q es' hi hx=>by
   have hk:=fixd k hi;dsimp only at hx;rw[gH,hk] at hx;obtain⟨y,g1,g2⟩:=ay.1 hx;cases y <;> simp only[cY] at g2 <;> cases g2;obtain⟨m,q1,q2,q3⟩:=hm.ext.gros k q es' hi g1;refine⟨m,q1,q2,λe=>?_⟩
   obtain⟨r1,r2⟩:=q3 e;refine⟨?_,r2⟩
   dsimp only at r1 ⊢;rw[gB,hk];exact r1
  os:=hm.ext.os
  tape:=hm.ext.tape
  output:=hm.ext.output }
 refine⟨swl i j bs,{ h:=rfl,ok:=ok,ext:=ext,env := ?_,size:=hm.size,low:=hm.low,defers:=hm.defers,nod:=hm.nod,outs:=λp hp=>?_ }⟩
 ·intro k e he;obtain⟨x,g1,g2⟩:=rU he;obtain⟨y,g3,g4⟩:=hm.env k _ g1;refine⟨y,g3,?_⟩
  unfold lR at *;rw[g2]
  split
  ·rename_i hn;rw[hn] at g4;exact pR back g4
  ·rename_i q want hn;rw[hn] at g4;exact λhj=>pR back (g4 hj)
 ·split at c5
  ·rename_i ho;rw[ho] at hp;cases hp
  ·cases c5
theorem aD4{t s:ASt}(i j:Nat)(hk:aC6 n i j s=true)(h:JR n t (swS i j s)):JR n t s:=λctx a w hs=>h ctx a w (aAs hk hs)
end
end Go.UK

